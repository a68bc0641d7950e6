/- node.Check answers for every node. Condition: lengths of Go slices. -/
import Derived.Test.YtpanghcojpnkaaaGreatDoorDocU
namespace Go.Proofs.YtpanghcojpnkaaaGreatDoor.Am
open Go Go.Am
theorem rL9 {l:List (List D125)}{k:Nat}{v:List D125}(h:k<l.length):(List.set l k v).getD k []=v:=by
 rw[jM,List.getElem?_set_self h];rfl
theorem tO5 {α:Type}{P:α→Prop}{l:List α}{k:Nat}{v:α}(h:∀ q∈l,P q)(hv:P v):∀ q∈List.set l k v,P q:=fun q hq=>by
 rcases List.mem_or_eq_of_mem_set hq with h1|h1
 ·exact h q h1
 ·rw[h1];exact hv
def shiI (n:Int)(k:Nat)(m:Int)(x:wB5):Prop:=
 (0≤x.2.1∧x.2.1≤m)∧len x.1.1=n∧x.1.2=k∧len (List.getD x.1.1 x.1.2 [])=m∧∀ q∈x.1.1,len q≤64
theorem oQ9 (y:wC9)(n:Int)(v:List D125)(A:List (List D125))(k:Nat)(hk:(k:Int)<n)(hy0:y.2.1=(k:Int))(hy1:y.2.2.2.2.2.1=v)(hy2:y.2.2.2.2.2.2.1=len v)(hv:len v≤64)(hA:len A=n)(hq:∀ q∈A,len q≤64) :
  Am.Ends (wC5 y) (xZ2 y) (wI0 y) ((List.set A k (List.replicate (Int.toNat (len v)) Z125),k),0,()) ∧
  shiI n k (len v) (zC3 (wC5 y) (xZ2 y) ((List.set A k (List.replicate (Int.toNat (len v)) Z125),k),0,())):=by
 have h0v:=xT7 v
 have hlr:len (List.replicate (Int.toNat (len v)) Z125)=len v:=by simp only[len,List.length_replicate];omega
 have hkA:k<A.length:=by simp only[len] at hA;omega
 obtain⟨y0,y1,y2,y3,y4,y5,y6,⟨⟩⟩:=y
 simp only at hy0 hy1 hy2
 subst hy0 hy1 hy2
 have w:=whole (g:=wC5 (y0,(k:Int),y2,y3,y4,y5,len y5,())) (next:=xZ2 (y0,(k:Int),y2,y3,y4,y5,len y5,())) (ok:=wI0 (y0,(k:Int),y2,y3,y4,y5,len y5,())) (shiI n k (len y5)) (fun x=>(len y5-x.2.1).toNat) (fun x hx=>fun h3=>?_) (fun x hx hg=>?_) (x:=((List.set A k (List.replicate (Int.toNat (len y5)) Z125),k),0,()))
  ⟨⟨Int.le_refl 0,h0v⟩,by rw[wC0];exact hA,rfl,by simp only[rL9 hkA];exact hlr,tO5 hq (by rw[hlr];exact hv)⟩ (by unfold zI1;simp only;omega)
 ·exact⟨w.1,w.2.1⟩
 ·have h4:x.2.1<len y5:=jF h3
  obtain⟨⟨h0,h1⟩,h2,h5,h6,h7⟩:=hx
  refine⟨⟨h0,h4⟩,uX3 _,fun _=>⟨rL _ _,uX3 _,fun _=>?_⟩,fun _=>xY3 (by omega) (by omega)⟩
  have hk0:(0:Int)≤(k:Int):=by omega
  rw[h2,h6,h5]
  exact⟨⟨hk0,hk⟩,⟨(show Int.toNat (k:Int)=k by omega),hk⟩,⟨h0,h4⟩,h4⟩
 ·have h4:x.2.1<len y5:=xZ1 hg
  obtain⟨⟨h0,h1⟩,h2,h5,h6,h7⟩:=hx
  have hkx:x.1.2<x.1.1.length:=by rw[h5];simp only[len] at h2;omega
  refine⟨⟨(show 0≤x.2.1+1∧x.2.1+1≤len y5 by omega),?_,h5,?_,?_⟩,(show (len y5-(x.2.1+1)).toNat<(len y5-x.2.1).toNat by omega)⟩
  ·show len (List.set x.1.1 _ _)=n
   rw[wC0];exact h2
  ·show len (List.getD (List.set x.1.1 x.1.2 (List.set (List.getD x.1.1 x.1.2 []) _ _)) x.1.2 [])=len y5
   rw[rL9 hkx,wC0];exact h6
  ·exact tO5 h7 (by rw[wC0,h6];exact hv)
def in84 (y:wB6)(x:wA0):wC9:=(y.1,x.2.1,y.2.1,y.2.2.1,x.2.1,nth y.2.1 x.2.1 ([]:List D125),len (nth y.2.1 x.2.1 ([]:List D125)),())
def at84 (y:wB6)(x:wA0):wB5:=((List.set x.1 (Int.toNat x.2.1) (List.replicate (Int.toNat (len (nth y.2.1 x.2.1 ([]:List D125)))) Z125),Int.toNat x.2.1),(0:Int),())
theorem oO8 (y:wB6)(x:wA0):wD2 y x=((zC3 (wC5 (in84 y x)) (xZ2 (in84 y x)) (at84 y x)).1.1,x.2.1+1,()):=rfl
theorem ok14 (y:wB6)(x:wA0):wM y x=(decide (x.2.1<y.2.2.1)=true→(InB x.2.1 (len y.2.1)∧((0≤len (nth y.2.1 x.2.1 ([]:List D125))∧len (nth y.2.1 x.2.1 ([]:List D125))≤len (nth y.2.1 x.2.1 ([]:List D125))∧len (nth y.2.1 x.2.1 ([]:List D125))≤4294967296)∧(InB x.2.1 (len x.1)∧(x.2.1<len x.1∧((Am.Ends (wC5 (in84 y x)) (xZ2 (in84 y x)) (wI0 (in84 y x)) (at84 y x))∧(uA (in84 y x) (zC3 (wC5 (in84 y x)) (xZ2 (in84 y x)) (at84 y x))=true→InR (x.2.1+1)))))))):=rfl
theorem oR (p:D37)(l:List (List D125))(hl:Few 4096 64 l) :
  Am.Ends (wQ3 (p,l,len l,())) (wD2 (p,l,len l,())) (wM (p,l,len l,())) (List.replicate (Int.toNat (len l)) ([]:List D125),0,()) ∧
  (len (zC3 (wQ3 (p,l,len l,())) (wD2 (p,l,len l,())) (List.replicate (Int.toNat (len l)) ([]:List D125),0,())).1=len l∧∀ q∈(zC3 (wQ3 (p,l,len l,())) (wD2 (p,l,len l,())) (List.replicate (Int.toNat (len l)) ([]:List D125),0,())).1,len q≤64):=by
 have h0l:=xT7 l
 have hl1:=hl.1
 have key:∀ x:wA0,((0≤x.2.1∧x.2.1≤len l)∧len x.1=len l∧∀ q∈x.1,len q≤64)→x.2.1<len l→len (nth l x.2.1 ([]:List D125))≤64 ∧
   (Am.Ends (wC5 (in84 (p,l,len l,()) x)) (xZ2 (in84 (p,l,len l,()) x)) (wI0 (in84 (p,l,len l,()) x)) (at84 (p,l,len l,()) x)∧shiI (len l) (Int.toNat x.2.1) (len (nth l x.2.1 ([]:List D125))) (zC3 (wC5 (in84 (p,l,len l,()) x)) (xZ2 (in84 (p,l,len l,()) x)) (at84 (p,l,len l,()) x))):=fun x hx h4=>by
  have hm:=hl.2 _ (wA3 (d:=([]:List D125)) (show InB x.2.1 (len l) from ⟨hx.1.1,h4⟩))
  have e:((Int.toNat x.2.1:Nat):Int)=x.2.1:=by have:=hx.1.1;omega
  exact⟨hm,oQ9 (in84 (p,l,len l,()) x) (len l) (nth l x.2.1 ([]:List D125)) x.1 (Int.toNat x.2.1) (by omega) e.symm rfl rfl hm hx.2.1 hx.2.2⟩
 have w:=whole (g:=wQ3 (p,l,len l,())) (next:=wD2 (p,l,len l,())) (ok:=wM (p,l,len l,())) (fun x=>(0≤x.2.1∧x.2.1≤len l)∧len x.1=len l∧∀ q∈x.1,len q≤64) (fun x=>(len l-x.2.1).toNat) (fun x hx=>?_) (fun x hx hg=>?_) (x:=(List.replicate (Int.toNat (len l)) ([]:List D125),0,())) ⟨⟨Int.le_refl 0,h0l⟩,by simp only[len,List.length_replicate];omega,fun q hq=>by rw[List.eq_of_mem_replicate hq];decide⟩ (by unfold zI1;simp only;omega)
 ·exact⟨w.1,w.2.1.2⟩
 ·rw[ok14];intro h3
  have h4:x.2.1<len l:=jF h3
  obtain⟨k1,k2,k3⟩:=key x hx h4
  have hn:=xT7 (nth l x.2.1 ([]:List D125))
  have h5:=hx.1.1
  exact⟨⟨h5,h4⟩,⟨hn,Int.le_refl _,(show len (nth l x.2.1 ([]:List D125))≤4294967296 by omega)⟩,by rw[hx.2.1];exact⟨h5,h4⟩,by rw[hx.2.1];exact h4,k2,fun _=>xY3 (by omega) (by omega)⟩
 ·have h4:x.2.1<len l:=xZ1 hg
  obtain⟨k1,k2,k3⟩:=key x hx h4
  have h5:=hx.1.1
  rw[oO8]
  exact⟨⟨(show 0≤x.2.1+1∧x.2.1+1≤len l by omega),k3.2.1,k3.2.2.2.2⟩,(show (len l-(x.2.1+1)).toNat<(len l-x.2.1).toNat by omega)⟩
theorem shi6 (p:D37)(l:List (List D125))(hl:Few 4096 64 l):Am.Ends (vQ7 (l,p,l,len l,())) (wT7 (l,p,l,len l,())) (wY6 (l,p,l,len l,())) (0,0,()):=by
 have h0l:=xT7 l
 have hl1:=hl.1
 have w:=whole (g:=vQ7 (l,p,l,len l,())) (next:=wT7 (l,p,l,len l,())) (ok:=wY6 (l,p,l,len l,())) (fun x=>(0≤x.2.1∧x.2.1≤len l)∧0≤x.1∧x.1≤64*x.2.1) (fun x=>(len l-x.2.1).toNat) (fun x hx=>fun h3=>?_) (fun x hx hg=>?_) (x:=(0,0,())) ⟨⟨Int.le_refl 0,h0l⟩,by decide,by decide⟩ (by unfold zI1;simp only;omega)
 ·exact w.1
 ·have h4:x.2.1<len l:=jF h3
  have hm:=hl.2 _ (wA3 (d:=([]:List D125)) (show InB x.2.1 (len l) from ⟨hx.1.1,h4⟩))
  have hn:=xT7 (nth l x.2.1 ([]:List D125))
  exact⟨⟨hx.1.1,h4⟩,xY3 (by show _≤x.1+len (nth l x.2.1 ([]:List D125));omega) (by show x.1+len (nth l x.2.1 ([]:List D125))≤_;omega),fun _=>xY3 (by omega) (by omega)⟩
 ·have h4:x.2.1<len l:=xZ1 hg
  have hm:=hl.2 _ (wA3 (d:=([]:List D125)) (show InB x.2.1 (len l) from ⟨hx.1.1,h4⟩))
  have hn:=xT7 (nth l x.2.1 ([]:List D125))
  exact⟨⟨(show 0≤x.2.1+1∧x.2.1+1≤len l by omega),(show 0≤x.1+len (nth l x.2.1 ([]:List D125))∧x.1+len (nth l x.2.1 ([]:List D125))≤64*(x.2.1+1) by omega)⟩,(show (len l-(x.2.1+1)).toNat<(len l-x.2.1).toNat by omega)⟩
theorem pB2 (l:List (List D125))(p:D37)(hl:Few 4096 64 l):tG7 l p∧Few 4096 64 (f132 l p).1:=by
 have h14:=oR p l hl
 have h0l:=xT7 l
 have hl1:=hl.1
 refine⟨⟨uM8 _,fun _=>⟨shi6 p l hl,fun _=>⟨⟨h0l,Int.le_refl _,(show len l≤4294967296 by omega)⟩,h14.1⟩⟩⟩,?_⟩
 simp only[f132,qT2,vQ8,vK8,vK9,vK7]
 generalize (f77 p !=0)=c1
 generalize uL6 _ _=c2
 generalize uA0 _ _=c3
 cases c1 with
 |true=>exact uN (by decide)
 |false =>
  cases c2 with
  |true=>exact uN (by decide)
  |false =>
   cases c3 with
   |true=>exact uN (by decide)
   |false=>exact⟨Int.le_trans (Int.le_of_eq h14.2.1) hl1,h14.2.2⟩
theorem pB3 (p:D49)(h:len p.2.2.2.2.2.2.2.2.2.2.2.2.2.2.2.2.2.2.2.2.2.2.2.1<9223372036854775808):uL7 p:=by
 simp only[uL7,qT3,qX2]
 have h82:=pB1 p.2.2.2.2.2.2.2.2.2.2.2.2.2.2.2.2.2.2.2.2.2.2.2.1 p.2.2.2.2.2.2.2.2.2.2.2.2.2.2.2.2.2.2.2.2.2.2.2.2.1 p.2.2.2.2.2.2.2.2.2.2.2.2.2.2.2.2.2.2.2.2.2.2.2.2.2.1 h
 have h84:=pB2 (f130 std p.2.2.2.2.2.2.2.2.2.2.2.2.2.2.2.2.2.2.2.2.2.2.2.1 p.2.2.2.2.2.2.2.2.2.2.2.2.2.2.2.2.2.2.2.2.2.2.2.2.1 p.2.2.2.2.2.2.2.2.2.2.2.2.2.2.2.2.2.2.2.2.2.2.2.2.2.1).1 p.2.2.2.2.2.2.2.2.2.2.1 h82.2
 exact⟨qX3,h82.1,fun _=>⟨h84.1,fun _=>⟨sC2 _ _ (by have:=h84.2.1;omega) (fun q hq=>by have:=h84.2.2 q hq;omega),fun _=>sC0 _⟩⟩⟩
def wJ8 (p:D49):Prop:=
 len p.2.2.2.1<9223372036854775808∧len p.2.2.2.2.2.2.2.2.2.1.2.2.1<9223372036854775808∧len p.2.2.2.2.2.2.2.2.2.2.2.2.1.2.2.1<9223372036854775808∧len p.2.2.2.2.2.2.2.2.2.2.2.2.2.2.2.1<9223372036854775808 ∧
 len p.2.2.2.2.2.2.2.2.2.2.2.2.2.2.2.2.2.1<9223372036854775808∧len p.2.2.2.2.2.2.2.2.2.2.2.2.2.2.2.2.2.2.1<9223372036854775808∧len p.2.2.2.2.2.2.2.2.2.2.2.2.2.2.2.2.2.2.2.2.2.2.2.1<9223372036854775808∧len p.2.2.2.2.2.2.2.2.2.2.2.2.2.2.2.2.2.2.2.2.2.2.2.2.2.2.2.1.2.2.2.1<9223372036854775808
theorem oE0 (p:D49)(h:wJ8 p):sL2 p:=by
 obtain⟨h1,h2,h3,h4,h5,h6,h7,h8⟩:=h
 exact⟨fun _=>qK0 _ h3,fun _=>⟨fun _=>sC0 _,fun _=>⟨fun _=>qY7 _ _ _ _ h4 h5,fun _=>⟨fun _=>pA3 p h6,fun _=>⟨fun _=>pB3 p h7,fun _=>⟨fun _=>qZ2 _ _ _ h4 h5,fun _=>⟨fun _=>qZ3 _ _ h4,fun _ _ _=>qZ4 _ h8⟩⟩⟩⟩⟩⟩⟩
theorem oE1 (p:D49):sL3 p:=trivial
theorem oE2 (p:D49):sL4 p:=⟨qJ8 _,qJ9 _⟩
theorem oE3 (p:D49)(w h:Int)(hf:wJ8 p):sL5 p w h:=
 ⟨oD5 p w h hf.1 hf.2.1,fun _=>⟨qJ8 _,fun _=>⟨uM8 _,fun _=>oD4 _⟩,fun _=>⟨qJ9 _,fun _=>oD1 _,fun _=>⟨oE0 p hf,fun _=>⟨oE2 _,oE1 _⟩⟩⟩⟩⟩
end Go.Proofs.YtpanghcojpnkaaaGreatDoor.Am
