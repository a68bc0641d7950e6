/- Plain laws of documents and patches: what is found equal is the same; copies are what was copied. Condition: the value a Go value can be. -/
import Derived.Test.YtpanghcojpnkaaaGreatDoorDocQ
import Derived.Test.YtpanghcojpnkaaaGreatDoorDocE
namespace Go.Proofs.YtpanghcojpnkaaaGreatDoor.Am
open Go Go.Am
theorem eqC_true {n m:Int}{c:Int→Bool}:eqC n m c=true↔n=m∧∀ i:Nat,(i:Int)<n→c i=false:=by
 simp only[eqC,jB,beq_iff_eq,jK]
 constructor
 ·intro h;exact⟨h.1,fun i hi=>hN7 h.2 hi⟩
 ·intro h
  refine⟨h.1,?_⟩
  unfold hA2
  rw[List.any_eq_false]
  intro i hi
  rw[h.2 i (by have:=List.mem_range.1 hi;omega)]
  decide
theorem hJ1 {α:Type}{a b:List α}{z:α}{t:α→α→Bool}(ht:∀ x∈a,∀ y∈b,t x y=true→x=y)(h:eqC (len a) (len b) (fun i=>!(t (nth a i z) (nth b i z)))=true):a=b:=by
 obtain⟨h1,h2⟩:=eqC_true.1 h
 have hl:a.length=b.length:=by unfold len at h1;omega
 refine pB4 (z:=z) hl fun i hi=>?_
 have hia:InB (i:Int) (len a):=⟨by omega,by unfold len;omega⟩
 have hib:InB (i:Int) (len b):=⟨by omega,by unfold len;omega⟩
 have h3:(!(t (nth a (i:Int) z) (nth b (i:Int) z)))=false:=h2 i hia.2
 have h5:t (nth a (i:Int) z) (nth b (i:Int) z)=true:=by
  cases hc:t (nth a (i:Int) z) (nth b (i:Int) z) with
  |true=>rfl
  |false=>rw[hc] at h3;cases h3
 exact ht (nth a (i:Int) z) (wA3 hia) (nth b (i:Int) z) (wA3 hib) h5
theorem hC9 {α:Type}{a:List α}{z:α}{t:α→α→Bool}(ht:∀ x∈a,t x x=true):eqC (len a) (len a) (fun i=>!(t (nth a i z) (nth a i z)))=true:=
 eqC_true.2 ⟨rfl,fun i hi=>by rw[ht _ (wA3 ⟨by omega,hi⟩)];rfl⟩
def WfN (l:List D49):Prop:=l.length≤maxLen∧∀ n∈l,Ty.wf T49 n
theorem hU2 (a b:List D49)(ha:len a<9223372036854775808):hI7 a b ()=eqC (len a) (len b) (fun i=>!(f43 (nth a i Z49) (nth b i Z49))):=
 hB9 (g:=hB3 (b,(),a,len a,())) (next:=hA7 (b,(),a,len a,())) (c:=fun i=>!(f43 (nth a i Z49) (nth b i Z49))) (xT7 a) ha (fun _=>rfl) (fun _=>rfl)
theorem hR7 (a b:List D49)(ha:len a<9223372036854775808)(hl:∀ n∈a,Lens n):hC0 a b ():=
 hD5 (g:=hB3 (b,(),a,len a,())) (next:=hA7 (b,(),a,len a,())) (c:=fun i=>!(f43 (nth a i Z49) (nth b i Z49))) (xT7 a) ha (fun _=>rfl) (fun _=>rfl) fun x _ _ hx h=>by
  have h:=hx (jF h)
  exact⟨h.1,h.2.1,hR6 (hl _ (wA3 h.1)),fun _=>h.2.2⟩
theorem hJ3 {a b:D49}(wa:Ty.wf T49 a)(wb:Ty.wf T49 b):f43 a b=true↔a=b:=by
 have la:=hH7 wa
 rw[hR5 la]
 exact⟨fun h=>hU1 wa wb h,fun h=>by subst h;exact hO5 la⟩
theorem hO6 {a b:List D49}(wa:WfN a)(wb:WfN b):hI7 a b ()=true↔a=b:=by
 rw[hU2 a b (vI5 wa.1)]
 exact⟨fun h=>hJ1 (t:=f43) (fun x hx y hy ht=>(hJ3 (wa.2 x hx) (wb.2 y hy)).1 ht) h,fun h=>by subst h;exact hC9 (t:=f43) fun x hx=>(hJ3 (wa.2 x hx) (wa.2 x hx)).2 rfl⟩
theorem hR8 {a b:List Int}(ha:len a<9223372036854775808):f44 a b=true↔a=b:=by
 rw[hM9 a b ha]
 exact⟨hH8,fun h=>by subst h;exact hB8 (hJ0 a)⟩
theorem hU3 (a b:List D87)(ha:len a<9223372036854775808):f45 a b=eqC (len a) (len b) (neT T87 Z87 a b):=
 hB9 (g:=hC8 (a,b,len a,())) (next:=hB2 (a,b,len a,())) (c:=neT T87 Z87 a b) (xT7 a) ha (fun _=>rfl) (fun _=>rfl)
theorem hR9 (a b:List D87)(ha:len a<9223372036854775808):hF8 a b:=
 hD5 (g:=hC8 (a,b,len a,())) (next:=hB2 (a,b,len a,())) (c:=neT T87 Z87 a b) (xT7 a) ha (fun _=>rfl) (fun _=>rfl) fun x _ _ hx h=>by
  have h:=hx (jF h)
  exact⟨h.1,h.2.1,fun _=>h.2.2⟩
theorem hO7 {a b:List D87}(wa:Ty.wf (.sl T87) a)(wb:Ty.wf (.sl T87) b):f45 a b=true↔a=b:=by
 rw[hU3 a b (vI5 wa.1)]
 exact⟨hD1 (τ:=T87) rfl wa.2 wb.2,fun h=>by subst h;exact hB8 (hC2 (τ:=T87) (by rfl) a)⟩
theorem hO8 {a b:List D42}(wa:Ty.wf (.sl T42) a)(wb:Ty.wf (.sl T42) b):f96 a b=true↔a=b:=by
 rw[hQ2 a b (vI5 wa.1)]
 exact⟨hD1 (τ:=T42) rfl wa.2 wb.2,fun h=>by subst h;exact hB8 (hC2 (τ:=T42) (by rfl) a)⟩
theorem hJ4 {a b:D90}(wa:Ty.wf T90 a)(wb:Ty.wf T90 b):f47 a b=true↔a=b:=by
 obtain⟨_,_,_,_,⟨_,_,wa4,_⟩,_⟩:=wa
 obtain⟨_,_,_,_,⟨_,_,wb4,_⟩,_⟩:=wb
 obtain⟨a0,a1,a2,a3,⟨a40,a41,a42,⟨⟩⟩,⟨⟩⟩:=a
 obtain⟨b0,b1,b2,b3,⟨b40,b41,b42,⟨⟩⟩,⟨⟩⟩:=b
 simp only[f47,f47t,f72,f72t,Bool.cond_false_right,Bool.cond_false_left,Bool.cond_true_left,jB,jK,jJ,bne_eq_false_iff_eq,Bool.not_eq_false',beq_iff_eq,jG,and_true]
 rw[hO8 (a:=a42) (b:=b42) wa4 wb4]
 constructor
 ·rintro⟨⟨⟨⟨h0,h1⟩,h2⟩,h3⟩,⟨h40,h41⟩,h42⟩
  exact⟨h0,h1,h2,h3,h40,h41,h42⟩
 ·rintro⟨h0,h1,h2,h3,h40,h41,h42⟩
  exact⟨⟨⟨⟨h0,h1⟩,h2⟩,h3⟩,⟨h40,h41⟩,h42⟩
theorem hS0 {a b:D90}(wa:Ty.wf T90 a):hF9 a b:=by
 obtain⟨_,_,_,_,⟨_,_,wa4,_⟩,_⟩:=wa
 exact fun _=>fun _=>hN3 _ _ (vI5 wa4.1)
theorem hU4 (a b:List D90)(ha:len a<9223372036854775808):hI8 a b ()=eqC (len a) (len b) (fun i=>!(f47 (nth a i Z90) (nth b i Z90))):=
 hB9 (g:=hB4 (b,(),a,len a,())) (next:=hA8 (b,(),a,len a,())) (c:=fun i=>!(f47 (nth a i Z90) (nth b i Z90))) (xT7 a) ha (fun _=>rfl) (fun _=>rfl)
theorem hO9 {a b:List D90}(wa:Ty.wf (.sl T90) a)(wb:Ty.wf (.sl T90) b):hI8 a b ()=true↔a=b:=by
 rw[hU4 a b (vI5 wa.1)]
 exact⟨fun h=>hJ1 (t:=f47) (fun x hx y hy ht=>(hJ4 (wa.2 x hx) (wb.2 y hy)).1 ht) h,fun h=>by subst h;exact hC9 (t:=f47) fun x hx=>(hJ4 (wa.2 x hx) (wa.2 x hx)).2 rfl⟩
theorem hS1 (a b:List D90)(wa:Ty.wf (.sl T90) a):hC1 a b ():=
 hD5 (g:=hB4 (b,(),a,len a,())) (next:=hA8 (b,(),a,len a,())) (c:=fun i=>!(f47 (nth a i Z90) (nth b i Z90))) (xT7 a) (vI5 wa.1) (fun _=>rfl) (fun _=>rfl) fun x _ _ hx h=>by
  have h:=hx (jF h)
  exact⟨h.1,h.2.1,hS0 (wa.2 _ (wA3 h.1)),fun _=>h.2.2⟩
theorem qL3 (n:D49):f67 n n=(n,0,()):=by
 simp only[f67,f67t]
 rw[show (n.2.1 !=n.2.1)=false by simp]
 rfl
theorem pB5 {α:Type}(l:List α)(i:Int)(z:α):List.set l i.toNat (nth l i z)=l:=by
 unfold nth
 by_cases h:i.toNat<l.length
 ·rw[jM,jL h,Option.getD_some]
  exact List.set_getElem_self h
 ·exact List.set_eq_of_length_le (by omega)
def pB6 {α:Type}(l m:List α)(i:Int):Prop:=m.length=l.length∧∀ (j:Nat) (z:α),(j:Int)<i→m.getD j z=l.getD j z
theorem sP4 {α:Type}{l m:List α}{i:Int}(z:α)(h:pB6 l m i)(h0:0≤i)(h1:i<len l):pB6 l (List.set m i.toNat (nth l i z)) (i+1):=by
 refine⟨by rw[List.length_set];exact h.1,fun j z' hj=>?_⟩
 have hi:i.toNat<m.length:=by rw[h.1];unfold len at h1;omega
 by_cases hji:j=i.toNat
 ·subst hji
  rw[jM,List.getElem?_set_self hi,Option.getD_some]
  unfold nth
  have hl:i.toNat<l.length:=by rw[← h.1];exact hi
  rw[jM,jM,jL hl,Option.getD_some,Option.getD_some]
 ·rw[jM,List.getElem?_set_ne (fun e=>hji e.symm),← jM]
  exact h.2 j z' (by omega)
theorem pB7 {α:Type}{l m:List α}{i:Int}(z:α)(h:pB6 l m i)(h1:len l≤i):m=l:=
 pB4 (z:=z) h.1 fun j hj=>h.2 j z (by rw[h.1] at hj;unfold len at h1;omega)
end Go.Proofs.YtpanghcojpnkaaaGreatDoor.Am
