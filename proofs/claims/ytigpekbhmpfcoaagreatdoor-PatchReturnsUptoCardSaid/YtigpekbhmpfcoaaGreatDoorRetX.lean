/- Plain laws of documents and patches: what is found equal is the same; copies are what was copied. Condition: the value a Go value can be. -/
import Derived.Test.YtigpekbhmpfcoaaGreatDoorRetQ
import Derived.Test.YtigpekbhmpfcoaaGreatDoorRetE
namespace Go.Proofs.YtigpekbhmpfcoaaGreatDoor.Am
open Go Go.Am
theorem eqC_true {n m:Int} {c:Int → Bool}:eqC n m c = true ↔ n = m ∧ ∀ i:Nat,(i:Int) < n → c i = false:=by
 simp only [eqC,Bool.and_eq_true,beq_iff_eq,Bool.not_eq_true']
 constructor
 ·intro h; exact ⟨h.1,fun i hi=>any_at h.2 hi⟩
 ·intro h
  refine ⟨h.1,?_⟩
  unfold xX
  rw [List.any_eq_false]
  intro i hi
  rw [h.2 i (by have:=List.mem_range.1 hi; omega)]
  decide
theorem bool_iff {a b:Bool} (h:a = true ↔ b = true):a = b:=Bool.eq_iff_iff.2 h
theorem list_eqC {α:Type} {a b:List α} {z:α} {t:α → α → Bool} (ht:∀ x ∈ a,∀ y ∈ b,t x y = true → x = y) (h:eqC (len a) (len b) (fun i=>!(t (nth a i z) (nth b i z))) = true):a = b:=by
 obtain ⟨h1,h2⟩:=eqC_true.1 h
 have hl:a.length = b.length:=by unfold len at h1; omega
 refine list_get (z:=z) hl fun i hi=>?_
 have hia:InB (i:Int) (len a):=⟨by omega,by unfold len; omega⟩
 have hib:InB (i:Int) (len b):=⟨by omega,by unfold len; omega⟩
 have h3:(!(t (nth a (i:Int) z) (nth b (i:Int) z))) = false:=h2 i hia.2
 have h5:t (nth a (i:Int) z) (nth b (i:Int) z) = true:=by
  cases hc:t (nth a (i:Int) z) (nth b (i:Int) z) with
  | true=>rfl
  | false=>rw [hc] at h3; cases h3
 exact ht (nth a (i:Int) z) (nth_mem hia) (nth b (i:Int) z) (nth_mem hib) h5
theorem list_eqC_self {α:Type} {a:List α} {z:α} {t:α → α → Bool} (ht:∀ x ∈ a,t x x = true):eqC (len a) (len a) (fun i=>!(t (nth a i z) (nth a i z))) = true :=
 eqC_true.2 ⟨rfl,fun i hi=>by rw [ht _ (nth_mem ⟨by omega,hi⟩)]; rfl⟩
def WfN (l:List D57):Prop:=l.length ≤ maxLen ∧ ∀ n ∈ l,Ty.wf T57 n
theorem nJ0 (a b:List D57) (ha:len a < 9223372036854775808):uA a b () = eqC (len a) (len b) (fun i=>!(f12 (nth a i Z57) (nth b i Z57))) :=
 eqScan (g:=vA5 (b,(),a,len a,())) (next:=wK8 (b,(),a,len a,())) (c:=fun i=>!(f12 (nth a i Z57) (nth b i Z57))) (xT a) ha (fun _=>rfl) (fun _=>rfl)
theorem qX3 (a b:List D57) (ha:len a < 9223372036854775808) (hl:∀ n ∈ a,Lens n):vJ7 a b () :=
 okScan (g:=vA5 (b,(),a,len a,())) (next:=wK8 (b,(),a,len a,())) (c:=fun i=>!(f12 (nth a i Z57) (nth b i Z57))) (xT a) ha (fun _=>rfl) (fun _=>rfl) fun x _ _ hx h=>by
  have h:=hx (of_decide_eq_true h)
  exact ⟨h.1,h.2.1,tU4 (hl _ (nth_mem h.1)),fun _=>h.2.2⟩
theorem wW6 {a b:D57} (wa:Ty.wf T57 a) (wb:Ty.wf T57 b):f12 a b = true ↔ a = b:=by
 have la:=lens_of wa
 rw [same_eq la]
 exact ⟨fun h=>nI7 wa wb h,fun h=>by subst h; exact pQ2 la⟩
theorem rU4 {a b:List D57} (wa:WfN a) (wb:WfN b):uA a b () = true ↔ a = b:=by
 rw [nJ0 a b (len_lt wa.1)]
 exact ⟨fun h=>list_eqC (t:=f12) (fun x hx y hy ht=>(wW6 (wa.2 x hx) (wb.2 y hy)).1 ht) h,fun h=>by subst h; exact list_eqC_self (t:=f12) fun x hx=>(wW6 (wa.2 x hx) (wa.2 x hx)).2 rfl⟩
theorem oY5 {a b:List Int} (ha:len a < 9223372036854775808):f30 a b = true ↔ a = b:=by
 rw [qW a b ha]
 exact ⟨eqC_ne0,fun h=>by subst h; exact eqC_self (ne0_self a)⟩
theorem vN2 {a b:D24} (ha:len a.2.2.1 < 9223372036854775808):f16 a b = true ↔ a = b:=by
 obtain ⟨a0,a1,a2,⟨⟩⟩:=a
 obtain ⟨b0,b1,b2,⟨⟩⟩:=b
 simp only [f16,f16t,Bool.cond_false_right,Bool.and_eq_true,beq_iff_eq,Prod.mk.injEq,and_true]
 rw [oY5 ha]
 exact ⟨fun h=>⟨h.1.1,h.1.2,h.2⟩,fun h=>⟨⟨h.1,h.2.1⟩,h.2.2⟩⟩
theorem tU5 {a b:D24} (ha:len a.2.2.1 < 9223372036854775808):uL5 a b:=fun _=>rI _ _ ha
theorem nJ1 (a b:List D66) (ha:len a < 9223372036854775808):f18 a b = eqC (len a) (len b) (neT T66 Z66 a b) :=
 eqScan (g:=uL9 (a,b,len a,())) (next:=vA2 (a,b,len a,())) (c:=neT T66 Z66 a b) (xT a) ha (fun _=>rfl) (fun _=>rfl)
theorem tU6 (a b:List D66) (ha:len a < 9223372036854775808):uM a b :=
 okScan (g:=uL9 (a,b,len a,())) (next:=vA2 (a,b,len a,())) (c:=neT T66 Z66 a b) (xT a) ha (fun _=>rfl) (fun _=>rfl) fun x _ _ hx h=>by
  have h:=hx (of_decide_eq_true h)
  exact ⟨h.1,h.2.1,fun _=>h.2.2⟩
theorem vN3 {a b:List D66} (wa:Ty.wf (.sl T66) a) (wb:Ty.wf (.sl T66) b):f18 a b = true ↔ a = b:=by
 rw [nJ1 a b (len_lt wa.1)]
 exact ⟨eqC_neT (τ:=T66) rfl wa.2 wb.2,fun h=>by subst h; exact eqC_self (neT_self (τ:=T66) (by rfl) a)⟩
theorem pQ4 {a b:List D50} (wa:Ty.wf (.sl T50) a) (wb:Ty.wf (.sl T50) b):f69 a b = true ↔ a = b:=by
 rw [pW7 a b (len_lt wa.1)]
 exact ⟨eqC_neT (τ:=T50) rfl wa.2 wb.2,fun h=>by subst h; exact eqC_self (neT_self (τ:=T50) (by rfl) a)⟩
theorem rU5 {a b:D74} (wa:Ty.wf T74 a) (wb:Ty.wf T74 b):f43 a b = true ↔ a = b:=by
 obtain ⟨_,_,_,_,⟨_,_,wa4,_⟩,_⟩:=wa
 obtain ⟨_,_,_,_,⟨_,_,wb4,_⟩,_⟩:=wb
 obtain ⟨a0,a1,a2,a3,⟨a40,a41,a42,⟨⟩⟩,⟨⟩⟩:=a
 obtain ⟨b0,b1,b2,b3,⟨b40,b41,b42,⟨⟩⟩,⟨⟩⟩:=b
 simp only [f43,f43t,f44,f44t,Bool.cond_false_right,Bool.and_eq_true,beq_iff_eq,Prod.mk.injEq,and_true]
 rw [pQ4 (a:=a42) (b:=b42) wa4 wb4]
 constructor
 ·rintro ⟨⟨⟨⟨h0,h1⟩,h2⟩,h3⟩,⟨h40,h41⟩,h42⟩
  exact ⟨h0,h1,h2,h3,h40,h41,h42⟩
 ·rintro ⟨h0,h1,h2,h3,h40,h41,h42⟩
  exact ⟨⟨⟨⟨h0,h1⟩,h2⟩,h3⟩,⟨h40,h41⟩,h42⟩
theorem oY6 {a b:D74} (wa:Ty.wf T74 a):sV9 a b:=by
 obtain ⟨_,_,_,_,⟨_,_,wa4,_⟩,_⟩:=wa
 exact fun _=>fun _=>qW2 _ _ (len_lt wa4.1)
theorem nJ2 (a b:List D74) (ha:len a < 9223372036854775808):rQ9 a b () = eqC (len a) (len b) (fun i=>!(f43 (nth a i Z74) (nth b i Z74))) :=
 eqScan (g:=vA3 (b,(),a,len a,())) (next:=wK7 (b,(),a,len a,())) (c:=fun i=>!(f43 (nth a i Z74) (nth b i Z74))) (xT a) ha (fun _=>rfl) (fun _=>rfl)
theorem vN4 {a b:List D74} (wa:Ty.wf (.sl T74) a) (wb:Ty.wf (.sl T74) b):f20 a b = true ↔ a = b:=by
 show rQ9 a b () = true ↔ a = b
 rw [nJ2 a b (len_lt wa.1)]
 exact ⟨fun h=>list_eqC (t:=f43) (fun x hx y hy ht=>(rU5 (wa.2 x hx) (wb.2 y hy)).1 ht) h,fun h=>by subst h; exact list_eqC_self (t:=f43) fun x hx=>(rU5 (wa.2 x hx) (wa.2 x hx)).2 rfl⟩
theorem tU7 (a b:List D74) (wa:Ty.wf (.sl T74) a):uM2 a b :=
 okScan (g:=vA3 (b,(),a,len a,())) (next:=wK7 (b,(),a,len a,())) (c:=fun i=>!(f43 (nth a i Z74) (nth b i Z74))) (xT a) (len_lt wa.1) (fun _=>rfl) (fun _=>rfl) fun x _ _ hx h=>by
  have h:=hx (of_decide_eq_true h)
  exact ⟨h.1,h.2.1,oY6 (wa.2 _ (nth_mem h.1)),fun _=>h.2.2⟩
theorem with_self (n:D57):f40 n n = (n,0,()):=by
 simp only [f40,f40t]
 rw [show (n.2.1 != n.2.1) = false by simp]
 rfl
theorem set_self {α:Type} (l:List α) (i:Int) (z:α):List.set l i.toNat (nth l i z) = l:=by
 unfold nth
 by_cases h:i.toNat < l.length
 ·rw [List.getD_eq_getElem?_getD,List.getElem?_eq_getElem h,Option.getD_some]
  exact List.set_getElem_self h
 ·exact List.set_eq_of_length_le (by omega)
def madeI {α:Type} (l m:List α) (i:Int):Prop:=m.length = l.length ∧ ∀ (j:Nat) (z:α),(j:Int) < i → m.getD j z = l.getD j z
theorem made_next {α:Type} {l m:List α} {i:Int} (z:α) (h:madeI l m i) (h0:0 ≤ i) (h1:i < len l):madeI l (List.set m i.toNat (nth l i z)) (i + 1):=by
 refine ⟨by rw [List.length_set]; exact h.1,fun j z' hj=>?_⟩
 have hi:i.toNat < m.length:=by rw [h.1]; unfold len at h1; omega
 by_cases hji:j = i.toNat
 ·subst hji
  rw [List.getD_eq_getElem?_getD,List.getElem?_set_self hi,Option.getD_some]
  unfold nth
  have hl:i.toNat < l.length:=by rw [← h.1]; exact hi
  rw [List.getD_eq_getElem?_getD,List.getD_eq_getElem?_getD,List.getElem?_eq_getElem hl,Option.getD_some,Option.getD_some]
 ·rw [List.getD_eq_getElem?_getD,List.getElem?_set_ne (fun e=>hji e.symm),← List.getD_eq_getElem?_getD]
  exact h.2 j z' (by omega)
theorem made_all {α:Type} {l m:List α} {i:Int} (z:α) (h:madeI l m i) (h1:len l ≤ i):m = l :=
 list_get (z:=z) h.1 fun j hj=>h.2 j z (by rw [h.1] at hj; unfold len at h1; omega)
end Go.Proofs.YtigpekbhmpfcoaaGreatDoor.Am
