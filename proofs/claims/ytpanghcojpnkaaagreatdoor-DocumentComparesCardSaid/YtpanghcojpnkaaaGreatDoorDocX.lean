/- Plain laws of documents and patches: what is found equal is the same; copies are what was copied. Condition: the value a Go value can be. -/
import Derived.Test.YtpanghcojpnkaaaGreatDoorDocQ
import Derived.Test.YtpanghcojpnkaaaGreatDoorDocE
namespace Go.Proofs.YtpanghcojpnkaaaGreatDoor.Am
open Go Go.Am
theorem eqC_true {n m:Int} {c:Int → Bool}:eqC n m c = true ↔ n = m ∧ ∀ i:Nat,(i:Int) < n → c i = false:=by
 simp only [eqC,Bool.and_eq_true,beq_iff_eq,Bool.not_eq_true']
 constructor
 ·intro h; exact ⟨h.1,fun i hi=>any_at h.2 hi⟩
 ·intro h
  refine ⟨h.1,?_⟩
  unfold xX8
  rw [List.any_eq_false]
  intro i hi
  rw [h.2 i (by have:=List.mem_range.1 hi; omega)]
  decide
theorem bool_iff {a b:Bool} (h:a = true ↔ b = true):a = b:=Bool.eq_iff_iff.2 h
theorem list_eqC {α:Type} {a b:List α} {z:α} {t:α → α → Bool} (ht:∀ x ∈ a,∀ y ∈ b,t x y = true → x = y) (h:eqC (len a) (len b) (fun i=>!(t (nth a i z) (nth b i z))) = true):a = b:=by
 obtain ⟨h1,h2⟩:=eqC_true.1 h
 have hl:a.length = b.length:=by unfold len at h1; omega
 refine list_get (z:=z) hl fun i hi=>?_
 have hia:InB (i:Int) (len a):=⟨by omega,by unfold len; omega⟩
 have hib:InB (i:Int) (len b):=⟨by omega,by unfold len; omega⟩
 have h3:(!(t (nth a (i:Int) z) (nth b (i:Int) z))) = false:=h2 i hia.2
 have h5:t (nth a (i:Int) z) (nth b (i:Int) z) = true:=by
  cases hc:t (nth a (i:Int) z) (nth b (i:Int) z) with
  | true=>rfl
  | false=>rw [hc] at h3; cases h3
 exact ht (nth a (i:Int) z) (nth_mem hia) (nth b (i:Int) z) (nth_mem hib) h5
theorem list_eqC_self {α:Type} {a:List α} {z:α} {t:α → α → Bool} (ht:∀ x ∈ a,t x x = true):eqC (len a) (len a) (fun i=>!(t (nth a i z) (nth a i z))) = true :=
 eqC_true.2 ⟨rfl,fun i hi=>by rw [ht _ (nth_mem ⟨by omega,hi⟩)]; rfl⟩
def WfN (l:List D49):Prop:=l.length ≤ maxLen ∧ ∀ n ∈ l,Ty.wf T49 n
theorem oV3 (a b:List D49) (ha:len a < 9223372036854775808):rN9 a b () = eqC (len a) (len b) (fun i=>!(f43 (nth a i Z49) (nth b i Z49))) :=
 eqScan (g:=wR2 (b,(),a,len a,())) (next:=wF4 (b,(),a,len a,())) (c:=fun i=>!(f43 (nth a i Z49) (nth b i Z49))) (xT8 a) ha (fun _=>rfl) (fun _=>rfl)
theorem oM1 (a b:List D49) (ha:len a < 9223372036854775808) (hl:∀ n ∈ a,Lens n):vH0 a b () :=
 okScan (g:=wR2 (b,(),a,len a,())) (next:=wF4 (b,(),a,len a,())) (c:=fun i=>!(f43 (nth a i Z49) (nth b i Z49))) (xT8 a) ha (fun _=>rfl) (fun _=>rfl) fun x _ _ hx h=>by
  have h:=hx (of_decide_eq_true h)
  exact ⟨h.1,h.2.1,oM (hl _ (nth_mem h.1)),fun _=>h.2.2⟩
theorem sF3 {a b:D49} (wa:Ty.wf T49 a) (wb:Ty.wf T49 b):f43 a b = true ↔ a = b:=by
 have la:=lens_of wa
 rw [same_eq la]
 exact ⟨fun h=>oV2 wa wb h,fun h=>by subst h; exact pG1 la⟩
theorem pG3 {a b:List D49} (wa:WfN a) (wb:WfN b):rN9 a b () = true ↔ a = b:=by
 rw [oV3 a b (len_lt wa.1)]
 exact ⟨fun h=>list_eqC (t:=f43) (fun x hx y hy ht=>(sF3 (wa.2 x hx) (wb.2 y hy)).1 ht) h,fun h=>by subst h; exact list_eqC_self (t:=f43) fun x hx=>(sF3 (wa.2 x hx) (wa.2 x hx)).2 rfl⟩
theorem oM2 {a b:List Int} (ha:len a < 9223372036854775808):f44 a b = true ↔ a = b:=by
 rw [qP9 a b ha]
 exact ⟨eqC_ne0,fun h=>by subst h; exact eqC_self (ne0_self a)⟩
theorem oV4 (a b:List D87) (ha:len a < 9223372036854775808):f45 a b = eqC (len a) (len b) (neT T87 Z87 a b) :=
 eqScan (g:=uE1 (a,b,len a,())) (next:=wR1 (a,b,len a,())) (c:=neT T87 Z87 a b) (xT8 a) ha (fun _=>rfl) (fun _=>rfl)
theorem oM3 (a b:List D87) (ha:len a < 9223372036854775808):sR a b :=
 okScan (g:=uE1 (a,b,len a,())) (next:=wR1 (a,b,len a,())) (c:=neT T87 Z87 a b) (xT8 a) ha (fun _=>rfl) (fun _=>rfl) fun x _ _ hx h=>by
  have h:=hx (of_decide_eq_true h)
  exact ⟨h.1,h.2.1,fun _=>h.2.2⟩
theorem pG4 {a b:List D87} (wa:Ty.wf (.sl T87) a) (wb:Ty.wf (.sl T87) b):f45 a b = true ↔ a = b:=by
 rw [oV4 a b (len_lt wa.1)]
 exact ⟨eqC_neT (τ:=T87) rfl wa.2 wb.2,fun h=>by subst h; exact eqC_self (neT_self (τ:=T87) (by rfl) a)⟩
theorem pG5 {a b:List D42} (wa:Ty.wf (.sl T42) a) (wb:Ty.wf (.sl T42) b):f96 a b = true ↔ a = b:=by
 rw [pM1 a b (len_lt wa.1)]
 exact ⟨eqC_neT (τ:=T42) rfl wa.2 wb.2,fun h=>by subst h; exact eqC_self (neT_self (τ:=T42) (by rfl) a)⟩
theorem rP4 {a b:D90} (wa:Ty.wf T90 a) (wb:Ty.wf T90 b):f47 a b = true ↔ a = b:=by
 obtain ⟨_,_,_,_,⟨_,_,wa4,_⟩,_⟩:=wa
 obtain ⟨_,_,_,_,⟨_,_,wb4,_⟩,_⟩:=wb
 obtain ⟨a0,a1,a2,a3,⟨a40,a41,a42,⟨⟩⟩,⟨⟩⟩:=a
 obtain ⟨b0,b1,b2,b3,⟨b40,b41,b42,⟨⟩⟩,⟨⟩⟩:=b
 simp only [f47,f47t,f72,f72t,Bool.cond_false_right,Bool.cond_false_left,Bool.cond_true_left,Bool.and_eq_true,Bool.not_eq_true',Bool.or_eq_false_iff,bne_eq_false_iff_eq,Bool.not_eq_false',beq_iff_eq,Prod.mk.injEq,and_true]
 rw [pG5 (a:=a42) (b:=b42) wa4 wb4]
 constructor
 ·rintro ⟨⟨⟨⟨h0,h1⟩,h2⟩,h3⟩,⟨h40,h41⟩,h42⟩
  exact ⟨h0,h1,h2,h3,h40,h41,h42⟩
 ·rintro ⟨h0,h1,h2,h3,h40,h41,h42⟩
  exact ⟨⟨⟨⟨h0,h1⟩,h2⟩,h3⟩,⟨h40,h41⟩,h42⟩
theorem oM4 {a b:D90} (wa:Ty.wf T90 a):sR0 a b:=by
 obtain ⟨_,_,_,_,⟨_,_,wa4,_⟩,_⟩:=wa
 exact fun _=>fun _=>qQ0 _ _ (len_lt wa4.1)
theorem oV5 (a b:List D90) (ha:len a < 9223372036854775808):rO a b () = eqC (len a) (len b) (fun i=>!(f47 (nth a i Z90) (nth b i Z90))) :=
 eqScan (g:=wR3 (b,(),a,len a,())) (next:=wF5 (b,(),a,len a,())) (c:=fun i=>!(f47 (nth a i Z90) (nth b i Z90))) (xT8 a) ha (fun _=>rfl) (fun _=>rfl)
theorem pG6 {a b:List D90} (wa:Ty.wf (.sl T90) a) (wb:Ty.wf (.sl T90) b):rO a b () = true ↔ a = b:=by
 rw [oV5 a b (len_lt wa.1)]
 exact ⟨fun h=>list_eqC (t:=f47) (fun x hx y hy ht=>(rP4 (wa.2 x hx) (wb.2 y hy)).1 ht) h,fun h=>by subst h; exact list_eqC_self (t:=f47) fun x hx=>(rP4 (wa.2 x hx) (wa.2 x hx)).2 rfl⟩
theorem oM5 (a b:List D90) (wa:Ty.wf (.sl T90) a):vH1 a b () :=
 okScan (g:=wR3 (b,(),a,len a,())) (next:=wF5 (b,(),a,len a,())) (c:=fun i=>!(f47 (nth a i Z90) (nth b i Z90))) (xT8 a) (len_lt wa.1) (fun _=>rfl) (fun _=>rfl) fun x _ _ hx h=>by
  have h:=hx (of_decide_eq_true h)
  exact ⟨h.1,h.2.1,oM4 (wa.2 _ (nth_mem h.1)),fun _=>h.2.2⟩
end Go.Proofs.YtpanghcojpnkaaaGreatDoor.Am
