/- Trees in a list: what stands below a node stands directly behind it. Plain law. No condition. -/
namespace Go.Am
inductive Anc (I P:Nat → Int):Nat → Int → Prop
 | self (j:Nat):Anc I P j (I j)
 | up {j v u:Nat}:Anc I P j (I v) → v ≤ j → u < v → P v = I u → Anc I P j (I u)
inductive Und (I P:Nat → Int) (p:Int):Nat → Prop
 | top {j:Nat}:P j = p → Und I P p j
 | sub {u j:Nat}:Und I P p u → u < j → P j = I u → Und I P p j
inductive Dep (I P:Nat → Int):Nat → Int → Prop
 | top {j:Nat}:P j = 0 → Dep I P j 1
 | sub {u j:Nat} {d:Int}:Dep I P u d → u < j → P j = I u → Dep I P j (d + 1)
structure Tree (I P:Nat → Int) (n:Nat):Prop where
 pos:∀ j,j < n → 1 ≤ I j
 inj:∀ i j,i < n → j < n → I i = I j → i = j
 par:∀ j,j < n → P j = 0 ∨ (0 < j ∧ Anc I P (j - 1) (P j))
variable {I P:Nat → Int} {n:Nat}
theorem anc_idx {j:Nat} {q:Int} (h:Anc I P j q):∃ u,u ≤ j ∧ q = I u:=by
 cases h with
 | self=>exact ⟨j,Nat.le_refl _,rfl⟩
 | up h1 h2 h3 h4=>exact ⟨_,by omega,rfl⟩
theorem tr_par (t:Tree I P n) {j:Nat} (hj:j < n) (h:P j ≠ 0):∃ u,u < j ∧ P j = I u:=by
 rcases t.par j hj with h0 | ⟨h0,h1⟩
 ·exact absurd h0 h
 ·obtain ⟨u,h2,h3⟩:=anc_idx h1
  exact ⟨u,by omega,h3⟩
theorem und_zero (t:Tree I P n):∀ j,j < n → Und I P 0 j:=by
 intro j
 induction j using Nat.strongRecOn with
 | _ j ih =>
  intro hj
  by_cases h:P j = 0
  ·exact .top h
  ·obtain ⟨u,h1,h2⟩:=tr_par t hj h
   exact .sub (ih u h1 (by omega)) h1 h2
theorem und_gt (t:Tree I P n) {i:Nat} (hi:i < n):∀ {j:Nat},Und I P (I i) j → j < n → i < j:=by
 intro j h
 induction h with
 | @top j h =>
  intro hj
  have hp:P j ≠ 0:=by have:=t.pos i hi; omega
  obtain ⟨u,h1,h2⟩:=tr_par t hj hp
  have:=t.inj i u hi (by omega) (by omega)
  omega
 | sub _ h1 _ ih=>intro hj; have:=ih (by omega); omega
theorem und_prev (t:Tree I P n) {i:Nat} (hi:i < n) {j:Nat} (h:Und I P (I i) j) (hj:j < n) (hij:i + 1 < j):Und I P (I i) (j - 1):=by
 let S:Int → Prop:=fun q=>q = I i ∨ ∃ u,u < n ∧ Und I P (I i) u ∧ I u = q
 have hS:S (P j):=by
  cases h with
  | top h=>exact .inl h
  | @sub u j h1 h2 h3=>exact .inr ⟨u,by omega,h1,h3.symm⟩
 have hp:P j ≠ 0:=by
  rcases hS with h0 | ⟨u,h0,_,h1⟩
  ·have:=t.pos i hi; omega
  ·have:=t.pos u h0; omega
 have hA:Anc I P (j - 1) (P j):=by
  rcases t.par j hj with h0 | h0
  ·exact absurd h0 hp
  ·exact h0.2
 have key:∀ q,Anc I P (j - 1) q → S q → S (I (j - 1)):=by
  intro q hq
  generalize hm:j - 1 = m at hq ⊢
  have hmn:m < n:=by omega
  induction hq with
  | self=>exact id
  | @up v u h1 h2 h3 h4 ih =>
   intro hs
   refine ih ?_
   rcases hs with h0 | ⟨w,h0,h5,h6⟩
   ·exact .inr ⟨v,by omega,.top (by rw [h4,h0]),rfl⟩
   ·have:=t.inj w u h0 (by omega) h6
    subst this
    exact .inr ⟨v,by omega,.sub h5 h3 h4,rfl⟩
 rcases key _ hA hS with h0 | ⟨u,h0,h5,h6⟩
 ·have:=t.inj (j - 1) i (by omega) hi h0
  omega
 ·have:=t.inj u (j - 1) h0 (by omega) h6
  subst this
  exact h5
theorem und_block (t:Tree I P n) {i:Nat} (hi:i < n):∃ c,i + 1 + c ≤ n ∧ ∀ j,j < n → (Und I P (I i) j ↔ i < j ∧ j < i + 1 + c):=by
 have key:∀ k,i + 1 + k ≤ n → ∃ c,c ≤ k ∧ ∀ j,j < i + 1 + k → (Und I P (I i) j ↔ i < j ∧ j < i + 1 + c):=by
  intro k
  induction k with
  | zero =>
   intro _
   exact ⟨0,Nat.le_refl _,fun j hj=>⟨fun h=>by have:=und_gt t hi h (by omega); omega,fun h=>by omega⟩⟩
  | succ k ih =>
   intro hk
   obtain ⟨c,hc,h⟩:=ih (by omega)
   by_cases hu:Und I P (I i) (i + 1 + k)
   ·have hck:c = k:=by
     by_cases h0:k = 0
     ·omega
     ·have:=(h (i + 1 + k - 1) (by omega)).1 (und_prev t hi hu (by omega) (by omega))
      omega
    subst hck
    refine ⟨c + 1,Nat.le_refl _,fun j hj=>?_⟩
    by_cases he:j = i + 1 + c
    ·subst he; exact ⟨fun _=>by omega,fun _=>hu⟩
    ·rw [h j (by omega)]; omega
   ·refine ⟨c,by omega,fun j hj=>?_⟩
    by_cases he:j = i + 1 + k
    ·subst he; exact ⟨fun q=>absurd q hu,fun q=>by omega⟩
    ·rw [h j (by omega)]
 obtain ⟨c,hc,h⟩:=key (n - (i + 1)) (by omega)
 exact ⟨c,by omega,fun j hj=>h j (by omega)⟩
open Classical in
noncomputable def undL (I P:Nat → Int) (n:Nat) (p:Int):List Nat:=(List.range n).filter fun j=>decide (Und I P p j)
open Classical in
theorem undL_succ (k:Nat) (p:Int):undL I P (k + 1) p = undL I P k p ++ (if Und I P p k then [k] else []):=by
 unfold undL
 rw [List.range_succ,List.filter_append]
 congr 1
 by_cases h:Und I P p k <;> simp [h]
theorem undL_zero (t:Tree I P n):undL I P n 0 = List.range n:=by
 unfold undL
 rw [List.filter_eq_self]
 intro j hj
 simpa using und_zero t j (List.mem_range.1 hj)
open Classical in
theorem undL_block (t:Tree I P n) {i:Nat} (hi:i < n):∃ c,i + 1 + c ≤ n ∧ undL I P n (I i) = List.range' (i + 1) c ∧ ∀ j,j < n → (Und I P (I i) j ↔ i < j ∧ j < i + 1 + c):=by
 obtain ⟨c,hc,h⟩:=und_block t hi
 refine ⟨c,hc,?_,h⟩
 have e:List.range n = List.range' 0 (i + 1) ++ (List.range' (i + 1) c ++ List.range' (i + 1 + c) (n - (i + 1 + c))):=by
  rw [List.range_eq_range',List.range'_append_1,show i + 1 + c = (i + 1) + c from rfl]
  have:=List.range'_append_1 (s:=0) (m:=i + 1) (n:=c + (n - (i + 1 + c)))
  rw [Nat.zero_add] at this
  rw [this]
  congr 1; omega
 unfold undL
 rw [e,List.filter_append,List.filter_append]
 have e1:(List.range' 0 (i + 1)).filter (fun j=>decide (Und I P (I i) j)) = []:=by
  rw [List.filter_eq_nil_iff]
  intro j hj hd
  have hj':=List.mem_range'_1.1 hj
  have:=(h j (by omega)).1 (of_decide_eq_true hd)
  omega
 have e2:(List.range' (i + 1) c).filter (fun j=>decide (Und I P (I i) j)) = List.range' (i + 1) c:=by
  rw [List.filter_eq_self]
  intro j hj
  have hj':=List.mem_range'_1.1 hj
  exact decide_eq_true ((h j (by omega)).2 (by omega))
 have e3:(List.range' (i + 1 + c) (n - (i + 1 + c))).filter (fun j=>decide (Und I P (I i) j)) = []:=by
  rw [List.filter_eq_nil_iff]
  intro j hj hd
  have hj':=List.mem_range'_1.1 hj
  have:=(h j (by omega)).1 (of_decide_eq_true hd)
  omega
 rw [e1,e2,e3,List.nil_append,List.append_nil]
end Go.Am
