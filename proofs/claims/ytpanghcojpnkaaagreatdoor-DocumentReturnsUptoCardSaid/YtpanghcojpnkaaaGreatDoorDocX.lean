/- Plain laws of documents and patches: what is found equal is the same; copies are what was copied. Condition: the value a Go value can be. -/
import Derived.Test.YtpanghcojpnkaaaGreatDoorDocQ
import Derived.Test.YtpanghcojpnkaaaGreatDoorDocE
namespace Go.Proofs.YtpanghcojpnkaaaGreatDoor.Am
open Go Go.Am
theorem eqC_true {n m:Int}{c:Int→Bool}:eqC n m c=true↔n=m∧∀ i:Nat,(i:Int)<n→c i=false:=by
 simp only[eqC,Bool.and_eq_true,beq_iff_eq,Bool.not_eq_true']
 constructor
 ·intro h;exact⟨h.1,fun i hi=>qV0 h.2 hi⟩
 ·intro h
  refine⟨h.1,?_⟩
  unfold xX8
  rw[List.any_eq_false]
  intro i hi
  rw[h.2 i (by have:=List.mem_range.1 hi;omega)]
  decide
theorem rU3 {α:Type}{a b:List α}{z:α}{t:α→α→Bool}(ht:∀ x∈a,∀ y∈b,t x y=true→x=y)(h:eqC (len a) (len b) (fun i=>!(t (nth a i z) (nth b i z)))=true):a=b:=by
 obtain⟨h1,h2⟩:=eqC_true.1 h
 have hl:a.length=b.length:=by unfold len at h1;omega
 refine uM2 (z:=z) hl fun i hi=>?_
 have hia:InB (i:Int) (len a):=⟨by omega,by unfold len;omega⟩
 have hib:InB (i:Int) (len b):=⟨by omega,by unfold len;omega⟩
 have h3:(!(t (nth a (i:Int) z) (nth b (i:Int) z)))=false:=h2 i hia.2
 have h5:t (nth a (i:Int) z) (nth b (i:Int) z)=true:=by
  cases hc:t (nth a (i:Int) z) (nth b (i:Int) z) with
  |true=>rfl
  |false=>rw[hc] at h3;cases h3
 exact ht (nth a (i:Int) z) (xZ4 hia) (nth b (i:Int) z) (xZ4 hib) h5
theorem uM3 {α:Type}{a:List α}{z:α}{t:α→α→Bool}(ht:∀ x∈a,t x x=true):eqC (len a) (len a) (fun i=>!(t (nth a i z) (nth a i z)))=true:=
 eqC_true.2 ⟨rfl,fun i hi=>by rw[ht _ (xZ4 ⟨by omega,hi⟩)];rfl⟩
def WfN (l:List D49):Prop:=l.length≤maxLen∧∀ n∈l,Ty.wf T49 n
theorem nJ8 (a b:List D49)(ha:len a<9223372036854775808):rS0 a b ()=eqC (len a) (len b) (fun i=>!(f43 (nth a i Z49) (nth b i Z49))):=
 vI8 (g:=vA3 (b,(),a,len a,())) (next:=wL6 (b,(),a,len a,())) (c:=fun i=>!(f43 (nth a i Z49) (nth b i Z49))) (xT8 a) ha (fun _=>rfl) (fun _=>rfl)
theorem oZ5 (a b:List D49)(ha:len a<9223372036854775808)(hl:∀ n∈a,Lens n):vS2 a b ():=
 uY9 (g:=vA3 (b,(),a,len a,())) (next:=wL6 (b,(),a,len a,())) (c:=fun i=>!(f43 (nth a i Z49) (nth b i Z49))) (xT8 a) ha (fun _=>rfl) (fun _=>rfl) fun x _ _ hx h=>by
  have h:=hx (of_decide_eq_true h)
  exact⟨h.1,h.2.1,oY3 (hl _ (xZ4 h.1)),fun _=>h.2.2⟩
theorem rU4 {a b:D49}(wa:Ty.wf T49 a)(wb:Ty.wf T49 b):f43 a b=true↔a=b:=by
 have la:=rH5 wa
 rw[oY2 la]
 exact⟨fun h=>nJ3 wa wb h,fun h=>by subst h;exact pS3 la⟩
theorem pS4 {a b:List D49}(wa:WfN a)(wb:WfN b):rS0 a b ()=true↔a=b:=by
 rw[nJ8 a b (wE2 wa.1)]
 exact⟨fun h=>rU3 (t:=f43) (fun x hx y hy ht=>(rU4 (wa.2 x hx) (wb.2 y hy)).1 ht) h,fun h=>by subst h;exact uM3 (t:=f43) fun x hx=>(rU4 (wa.2 x hx) (wa.2 x hx)).2 rfl⟩
theorem oZ6 {a b:List Int}(ha:len a<9223372036854775808):f44 a b=true↔a=b:=by
 rw[qU5 a b ha]
 exact⟨rH6,fun h=>by subst h;exact vE (rU0 a)⟩
theorem nJ9 (a b:List D87)(ha:len a<9223372036854775808):f45 a b=eqC (len a) (len b) (neT T87 Z87 a b):=
 vI8 (g:=uL8 (a,b,len a,())) (next:=vA2 (a,b,len a,())) (c:=neT T87 Z87 a b) (xT8 a) ha (fun _=>rfl) (fun _=>rfl)
theorem oZ7 (a b:List D87)(ha:len a<9223372036854775808):sV8 a b:=
 uY9 (g:=uL8 (a,b,len a,())) (next:=vA2 (a,b,len a,())) (c:=neT T87 Z87 a b) (xT8 a) ha (fun _=>rfl) (fun _=>rfl) fun x _ _ hx h=>by
  have h:=hx (of_decide_eq_true h)
  exact⟨h.1,h.2.1,fun _=>h.2.2⟩
theorem pS5 {a b:List D87}(wa:Ty.wf (.sl T87) a)(wb:Ty.wf (.sl T87) b):f45 a b=true↔a=b:=by
 rw[nJ9 a b (wE2 wa.1)]
 exact⟨uQ5 (τ:=T87) rfl wa.2 wb.2,fun h=>by subst h;exact vE (vY0 (τ:=T87) (by rfl) a)⟩
theorem pS6 {a b:List D42}(wa:Ty.wf (.sl T42) a)(wb:Ty.wf (.sl T42) b):f96 a b=true↔a=b:=by
 rw[pZ0 a b (wE2 wa.1)]
 exact⟨uQ5 (τ:=T42) rfl wa.2 wb.2,fun h=>by subst h;exact vE (vY0 (τ:=T42) (by rfl) a)⟩
theorem rU5 {a b:D90}(wa:Ty.wf T90 a)(wb:Ty.wf T90 b):f47 a b=true↔a=b:=by
 obtain⟨_,_,_,_,⟨_,_,wa4,_⟩,_⟩:=wa
 obtain⟨_,_,_,_,⟨_,_,wb4,_⟩,_⟩:=wb
 obtain⟨a0,a1,a2,a3,⟨a40,a41,a42,⟨⟩⟩,⟨⟩⟩:=a
 obtain⟨b0,b1,b2,b3,⟨b40,b41,b42,⟨⟩⟩,⟨⟩⟩:=b
 simp only[f47,f47t,f72,f72t,Bool.cond_false_right,Bool.cond_false_left,Bool.cond_true_left,Bool.and_eq_true,Bool.not_eq_true',Bool.or_eq_false_iff,bne_eq_false_iff_eq,Bool.not_eq_false',beq_iff_eq,Prod.mk.injEq,and_true]
 rw[pS6 (a:=a42) (b:=b42) wa4 wb4]
 constructor
 ·rintro⟨⟨⟨⟨h0,h1⟩,h2⟩,h3⟩,⟨h40,h41⟩,h42⟩
  exact⟨h0,h1,h2,h3,h40,h41,h42⟩
 ·rintro⟨h0,h1,h2,h3,h40,h41,h42⟩
  exact⟨⟨⟨⟨h0,h1⟩,h2⟩,h3⟩,⟨h40,h41⟩,h42⟩
theorem oZ8 {a b:D90}(wa:Ty.wf T90 a):sV9 a b:=by
 obtain⟨_,_,_,_,⟨_,_,wa4,_⟩,_⟩:=wa
 exact fun _=>fun _=>qU7 _ _ (wE2 wa4.1)
theorem nK (a b:List D90)(ha:len a<9223372036854775808):rS1 a b ()=eqC (len a) (len b) (fun i=>!(f47 (nth a i Z90) (nth b i Z90))):=
 vI8 (g:=vA4 (b,(),a,len a,())) (next:=wL7 (b,(),a,len a,())) (c:=fun i=>!(f47 (nth a i Z90) (nth b i Z90))) (xT8 a) ha (fun _=>rfl) (fun _=>rfl)
theorem pS7 {a b:List D90}(wa:Ty.wf (.sl T90) a)(wb:Ty.wf (.sl T90) b):rS1 a b ()=true↔a=b:=by
 rw[nK a b (wE2 wa.1)]
 exact⟨fun h=>rU3 (t:=f47) (fun x hx y hy ht=>(rU5 (wa.2 x hx) (wb.2 y hy)).1 ht) h,fun h=>by subst h;exact uM3 (t:=f47) fun x hx=>(rU5 (wa.2 x hx) (wa.2 x hx)).2 rfl⟩
theorem oZ9 (a b:List D90)(wa:Ty.wf (.sl T90) a):vS3 a b ():=
 uY9 (g:=vA4 (b,(),a,len a,())) (next:=wL7 (b,(),a,len a,())) (c:=fun i=>!(f47 (nth a i Z90) (nth b i Z90))) (xT8 a) (wE2 wa.1) (fun _=>rfl) (fun _=>rfl) fun x _ _ hx h=>by
  have h:=hx (of_decide_eq_true h)
  exact⟨h.1,h.2.1,oZ8 (wa.2 _ (xZ4 h.1)),fun _=>h.2.2⟩
theorem qV7 (n:D49):f67 n n=(n,0,()):=by
 simp only[f67,f67t]
 rw[show (n.2.1 !=n.2.1)=false by simp]
 rfl
theorem rU6 {α:Type}(l:List α)(i:Int)(z:α):List.set l i.toNat (nth l i z)=l:=by
 unfold nth
 by_cases h:i.toNat<l.length
 ·rw[List.getD_eq_getElem?_getD,List.getElem?_eq_getElem h,Option.getD_some]
  exact List.set_getElem_self h
 ·exact List.set_eq_of_length_le (by omega)
def pS8 {α:Type}(l m:List α)(i:Int):Prop:=m.length=l.length∧∀ (j:Nat) (z:α),(j:Int)<i→m.getD j z=l.getD j z
theorem sW9 {α:Type}{l m:List α}{i:Int}(z:α)(h:pS8 l m i)(h0:0≤i)(h1:i<len l):pS8 l (List.set m i.toNat (nth l i z)) (i+1):=by
 refine⟨by rw[List.length_set];exact h.1,fun j z' hj=>?_⟩
 have hi:i.toNat<m.length:=by rw[h.1];unfold len at h1;omega
 by_cases hji:j=i.toNat
 ·subst hji
  rw[List.getD_eq_getElem?_getD,List.getElem?_set_self hi,Option.getD_some]
  unfold nth
  have hl:i.toNat<l.length:=by rw[← h.1];exact hi
  rw[List.getD_eq_getElem?_getD,List.getD_eq_getElem?_getD,List.getElem?_eq_getElem hl,Option.getD_some,Option.getD_some]
 ·rw[List.getD_eq_getElem?_getD,List.getElem?_set_ne (fun e=>hji e.symm),← List.getD_eq_getElem?_getD]
  exact h.2 j z' (by omega)
theorem pS9 {α:Type}{l m:List α}{i:Int}(z:α)(h:pS8 l m i)(h1:len l≤i):m=l:=
 uM2 (z:=z) h.1 fun j hj=>h.2 j z (by rw[h.1] at hj;unfold len at h1;omega)
end Go.Proofs.YtpanghcojpnkaaaGreatDoor.Am
