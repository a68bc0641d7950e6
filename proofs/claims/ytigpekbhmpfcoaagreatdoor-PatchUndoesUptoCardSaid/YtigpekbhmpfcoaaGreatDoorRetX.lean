/- Plain laws of documents and patches: what is found equal is the same; copies are what was copied. Condition: the value a Go value can be. -/
import Derived.Test.YtigpekbhmpfcoaaGreatDoorRetQ
import Derived.Test.YtigpekbhmpfcoaaGreatDoorRetE
namespace Go.Proofs.YtigpekbhmpfcoaaGreatDoor.Am
open Go Go.Am
theorem eqC_true {n m:Int} {c:Int → Bool}:eqC n m c = true ↔ n = m ∧ ∀ i:Nat,(i:Int) < n → c i = false:=by
 simp only [eqC,Bool.and_eq_true,beq_iff_eq,Bool.not_eq_true']
 constructor
 ·intro h; exact ⟨h.1,fun i hi=>any_at h.2 hi⟩
 ·intro h
  refine ⟨h.1,?_⟩
  unfold xX
  rw [List.any_eq_false]
  intro i hi
  rw [h.2 i (by have:=List.mem_range.1 hi; omega)]
  decide
theorem list_eqC {α:Type} {a b:List α} {z:α} {t:α → α → Bool} (ht:∀ x ∈ a,∀ y ∈ b,t x y = true → x = y) (h:eqC (len a) (len b) (fun i=>!(t (nth a i z) (nth b i z))) = true):a = b:=by
 obtain ⟨h1,h2⟩:=eqC_true.1 h
 have hl:a.length = b.length:=by unfold len at h1; omega
 refine list_get (z:=z) hl fun i hi=>?_
 have hia:InB (i:Int) (len a):=⟨by omega,by unfold len; omega⟩
 have hib:InB (i:Int) (len b):=⟨by omega,by unfold len; omega⟩
 have h3:(!(t (nth a (i:Int) z) (nth b (i:Int) z))) = false:=h2 i hia.2
 have h5:t (nth a (i:Int) z) (nth b (i:Int) z) = true:=by
  cases hc:t (nth a (i:Int) z) (nth b (i:Int) z) with
  | true=>rfl
  | false=>rw [hc] at h3; cases h3
 exact ht (nth a (i:Int) z) (nth_mem hia) (nth b (i:Int) z) (nth_mem hib) h5
theorem list_eqC_self {α:Type} {a:List α} {z:α} {t:α → α → Bool} (ht:∀ x ∈ a,t x x = true):eqC (len a) (len a) (fun i=>!(t (nth a i z) (nth a i z))) = true :=
 eqC_true.2 ⟨rfl,fun i hi=>by rw [ht _ (nth_mem ⟨by omega,hi⟩)]; rfl⟩
def WfN (l:List D57):Prop:=l.length ≤ maxLen ∧ ∀ n ∈ l,Ty.wf T57 n
theorem nH8 (a b:List D57) (ha:len a < 9223372036854775808):tQ3 a b () = eqC (len a) (len b) (fun i=>!(f12 (nth a i Z57) (nth b i Z57))) :=
 eqScan (g:=wZ8 (b,(),a,len a,())) (next:=wK4 (b,(),a,len a,())) (c:=fun i=>!(f12 (nth a i Z57) (nth b i Z57))) (xT a) ha (fun _=>rfl) (fun _=>rfl)
theorem oX4 (a b:List D57) (ha:len a < 9223372036854775808) (hl:∀ n ∈ a,Lens n):vI6 a b () :=
 okScan (g:=wZ8 (b,(),a,len a,())) (next:=wK4 (b,(),a,len a,())) (c:=fun i=>!(f12 (nth a i Z57) (nth b i Z57))) (xT a) ha (fun _=>rfl) (fun _=>rfl) fun x _ _ hx h=>by
  have h:=hx (of_decide_eq_true h)
  exact ⟨h.1,h.2.1,oW1 (hl _ (nth_mem h.1)),fun _=>h.2.2⟩
theorem sI0 {a b:D57} (wa:Ty.wf T57 a) (wb:Ty.wf T57 b):f12 a b = true ↔ a = b:=by
 have la:=lens_of wa
 rw [same_eq la]
 exact ⟨fun h=>nH4 wa wb h,fun h=>by subst h; exact pP la⟩
theorem pP0 {a b:List D57} (wa:WfN a) (wb:WfN b):tQ3 a b () = true ↔ a = b:=by
 rw [nH8 a b (len_lt wa.1)]
 exact ⟨fun h=>list_eqC (t:=f12) (fun x hx y hy ht=>(sI0 (wa.2 x hx) (wb.2 y hy)).1 ht) h,fun h=>by subst h; exact list_eqC_self (t:=f12) fun x hx=>(sI0 (wa.2 x hx) (wa.2 x hx)).2 rfl⟩
theorem oX5 {a b:List Int} (ha:len a < 9223372036854775808):f30 a b = true ↔ a = b:=by
 rw [qU8 a b ha]
 exact ⟨eqC_ne0,fun h=>by subst h; exact eqC_self (ne0_self a)⟩
theorem tB9 {a b:D24} (ha:len a.2.2.1 < 9223372036854775808):f16 a b = true ↔ a = b:=by
 obtain ⟨a0,a1,a2,⟨⟩⟩:=a
 obtain ⟨b0,b1,b2,⟨⟩⟩:=b
 simp only [f16,f16t,Bool.cond_false_right,Bool.and_eq_true,beq_iff_eq,Prod.mk.injEq,and_true]
 rw [oX5 ha]
 exact ⟨fun h=>⟨h.1.1,h.1.2,h.2⟩,fun h=>⟨⟨h.1,h.2.1⟩,h.2.2⟩⟩
theorem rG6 {a b:D24} (ha:len a.2.2.1 < 9223372036854775808):uJ5 a b:=fun _=>rG3 _ _ ha
theorem nH9 (a b:List D66) (ha:len a < 9223372036854775808):f18 a b = eqC (len a) (len b) (neT T66 Z66 a b) :=
 eqScan (g:=uJ9 (a,b,len a,())) (next:=wZ5 (a,b,len a,())) (c:=neT T66 Z66 a b) (xT a) ha (fun _=>rfl) (fun _=>rfl)
theorem rG7 (a b:List D66) (ha:len a < 9223372036854775808):uK a b :=
 okScan (g:=uJ9 (a,b,len a,())) (next:=wZ5 (a,b,len a,())) (c:=neT T66 Z66 a b) (xT a) ha (fun _=>rfl) (fun _=>rfl) fun x _ _ hx h=>by
  have h:=hx (of_decide_eq_true h)
  exact ⟨h.1,h.2.1,fun _=>h.2.2⟩
theorem tC {a b:List D66} (wa:Ty.wf (.sl T66) a) (wb:Ty.wf (.sl T66) b):f18 a b = true ↔ a = b:=by
 rw [nH9 a b (len_lt wa.1)]
 exact ⟨eqC_neT (τ:=T66) rfl wa.2 wb.2,fun h=>by subst h; exact eqC_self (neT_self (τ:=T66) (by rfl) a)⟩
theorem pP1 {a b:List D50} (wa:Ty.wf (.sl T50) a) (wb:Ty.wf (.sl T50) b):f69 a b = true ↔ a = b:=by
 rw [pV4 a b (len_lt wa.1)]
 exact ⟨eqC_neT (τ:=T50) rfl wa.2 wb.2,fun h=>by subst h; exact eqC_self (neT_self (τ:=T50) (by rfl) a)⟩
theorem rT3 {a b:D74} (wa:Ty.wf T74 a) (wb:Ty.wf T74 b):f43 a b = true ↔ a = b:=by
 obtain ⟨_,_,_,_,⟨_,_,wa4,_⟩,_⟩:=wa
 obtain ⟨_,_,_,_,⟨_,_,wb4,_⟩,_⟩:=wb
 obtain ⟨a0,a1,a2,a3,⟨a40,a41,a42,⟨⟩⟩,⟨⟩⟩:=a
 obtain ⟨b0,b1,b2,b3,⟨b40,b41,b42,⟨⟩⟩,⟨⟩⟩:=b
 simp only [f43,f43t,f44,f44t,Bool.cond_false_right,Bool.and_eq_true,beq_iff_eq,Prod.mk.injEq,and_true]
 rw [pP1 (a:=a42) (b:=b42) wa4 wb4]
 constructor
 ·rintro ⟨⟨⟨⟨h0,h1⟩,h2⟩,h3⟩,⟨h40,h41⟩,h42⟩
  exact ⟨h0,h1,h2,h3,h40,h41,h42⟩
 ·rintro ⟨h0,h1,h2,h3,h40,h41,h42⟩
  exact ⟨⟨⟨⟨h0,h1⟩,h2⟩,h3⟩,⟨h40,h41⟩,h42⟩
theorem oX6 {a b:D74} (wa:Ty.wf T74 a):sU1 a b:=by
 obtain ⟨_,_,_,_,⟨_,_,wa4,_⟩,_⟩:=wa
 exact fun _=>fun _=>qV0 _ _ (len_lt wa4.1)
theorem nI (a b:List D74) (ha:len a < 9223372036854775808):rP7 a b () = eqC (len a) (len b) (fun i=>!(f43 (nth a i Z74) (nth b i Z74))) :=
 eqScan (g:=wZ6 (b,(),a,len a,())) (next:=wK3 (b,(),a,len a,())) (c:=fun i=>!(f43 (nth a i Z74) (nth b i Z74))) (xT a) ha (fun _=>rfl) (fun _=>rfl)
theorem tC0 {a b:List D74} (wa:Ty.wf (.sl T74) a) (wb:Ty.wf (.sl T74) b):f20 a b = true ↔ a = b:=by
 show rP7 a b () = true ↔ a = b
 rw [nI a b (len_lt wa.1)]
 exact ⟨fun h=>list_eqC (t:=f43) (fun x hx y hy ht=>(rT3 (wa.2 x hx) (wb.2 y hy)).1 ht) h,fun h=>by subst h; exact list_eqC_self (t:=f43) fun x hx=>(rT3 (wa.2 x hx) (wa.2 x hx)).2 rfl⟩
theorem rG8 (a b:List D74) (wa:Ty.wf (.sl T74) a):uK2 a b :=
 okScan (g:=wZ6 (b,(),a,len a,())) (next:=wK3 (b,(),a,len a,())) (c:=fun i=>!(f43 (nth a i Z74) (nth b i Z74))) (xT a) (len_lt wa.1) (fun _=>rfl) (fun _=>rfl) fun x _ _ hx h=>by
  have h:=hx (of_decide_eq_true h)
  exact ⟨h.1,h.2.1,oX6 (wa.2 _ (nth_mem h.1)),fun _=>h.2.2⟩
theorem with_self (n:D57):f40 n n = (n,0,()):=by
 simp only [f40,f40t]
 rw [show (n.2.1 != n.2.1) = false by simp]
 rfl
theorem set_self {α:Type} (l:List α) (i:Int) (z:α):List.set l i.toNat (nth l i z) = l:=by
 unfold nth
 by_cases h:i.toNat < l.length
 ·rw [List.getD_eq_getElem?_getD,List.getElem?_eq_getElem h,Option.getD_some]
  exact List.set_getElem_self h
 ·exact List.set_eq_of_length_le (by omega)
def madeI {α:Type} (l m:List α) (i:Int):Prop:=m.length = l.length ∧ ∀ (j:Nat) (z:α),(j:Int) < i → m.getD j z = l.getD j z
theorem made_next {α:Type} {l m:List α} {i:Int} (z:α) (h:madeI l m i) (h0:0 ≤ i) (h1:i < len l):madeI l (List.set m i.toNat (nth l i z)) (i + 1):=by
 refine ⟨by rw [List.length_set]; exact h.1,fun j z' hj=>?_⟩
 have hi:i.toNat < m.length:=by rw [h.1]; unfold len at h1; omega
 by_cases hji:j = i.toNat
 ·subst hji
  rw [List.getD_eq_getElem?_getD,List.getElem?_set_self hi,Option.getD_some]
  unfold nth
  have hl:i.toNat < l.length:=by rw [← h.1]; exact hi
  rw [List.getD_eq_getElem?_getD,List.getD_eq_getElem?_getD,List.getElem?_eq_getElem hl,Option.getD_some,Option.getD_some]
 ·rw [List.getD_eq_getElem?_getD,List.getElem?_set_ne (fun e=>hji e.symm),← List.getD_eq_getElem?_getD]
  exact h.2 j z' (by omega)
theorem made_all {α:Type} {l m:List α} {i:Int} (z:α) (h:madeI l m i) (h1:len l ≤ i):m = l :=
 list_get (z:=z) h.1 fun j hj=>h.2 j z (by rw [h.1] at hj; unfold len at h1; omega)
end Go.Proofs.YtigpekbhmpfcoaaGreatDoor.Am
