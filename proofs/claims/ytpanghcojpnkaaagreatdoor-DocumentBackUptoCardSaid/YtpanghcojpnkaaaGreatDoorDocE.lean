/- document.Check answers for every document. Condition: lengths of Go slices. -/
import Derived.Test.YtpanghcojpnkaaaGreatDoorDocD
namespace Go.Proofs.YtpanghcojpnkaaaGreatDoor.Am
open Go Go.Am
def unb:List Bool→Nat
 |[]=>0
 |false::r=>unb r+1
 |true::r=>unb r
theorem tO6:∀ l:List Bool,unb l≤l.length
 |[]=>jI _
 |false::r=>by have:=tO6 r;simp only[unb,List.length_cons];omega
 |true::r=>by have:=tO6 r;simp only[unb,List.length_cons];omega
theorem sZ6:∀ {l:List Bool}{i:Nat},i<l.length→l.getD i false=false→unb (List.set l i true)+1=unb l
 |[],i,h,_=>by simp at h
 |b::r,0,_,h=>by
  have:b=false:=h
  subst this
  rfl
 |b::r,i+1,h,h2=>by
  have ih:=sZ6 (l:=r) (i:=i) (by simpa using h) h2
  cases b with
  |false=>show unb (List.set r i true)+1+1=unb r+1;omega
  |true=>exact ih
def srcI (p:D28)(x:wR3):Prop:=(0≤x.2.1∧x.2.1≤len p.2.2.2.1)∧len x.1≤x.2.1∧∀ q∈x.1,InB q (len p.2.2.2.1)
theorem src5 (p:D28)(i:Int)(hi:InB i (len p.2.2.2.1))(hn:len p.2.2.2.1≤64) :
  Am.Ends (wP (i,p,p.2.2.2.1,len p.2.2.2.1,())) (wC7 (i,p,p.2.2.2.1,len p.2.2.2.1,())) (vI1 (i,p,p.2.2.2.1,len p.2.2.2.1,())) (([]:List Int),(0:Int),()) ∧
  srcI p (zC3 (wP (i,p,p.2.2.2.1,len p.2.2.2.1,())) (wC7 (i,p,p.2.2.2.1,len p.2.2.2.1,())) (([]:List Int),(0:Int),())):=by
 have w:=whole (g:=wP (i,p,p.2.2.2.1,len p.2.2.2.1,())) (next:=wC7 (i,p,p.2.2.2.1,len p.2.2.2.1,())) (ok:=vI1 (i,p,p.2.2.2.1,len p.2.2.2.1,())) (srcI p) (fun x=>(len p.2.2.2.1-x.2.1).toNat) (fun x hx=>fun h3=>?_) (fun x hx hg=>?_) (x:=(([]:List Int),(0:Int),())) ⟨⟨Int.le_refl 0,xT7 _⟩,Int.le_refl 0,fun q hq=>by cases hq⟩ (by unfold zI1;simp only;omega)
 ·exact⟨w.1,w.2.1⟩
 ·have h4:x.2.1<len p.2.2.2.1:=jF h3
  obtain⟨⟨h0,h1⟩,h2,h5⟩:=hx
  have e:len x.1=(x.1.length:Int):=rfl
  exact⟨⟨h0,h4⟩,hi,fun _=>(show ((x.1.length+1:Nat):Int)≤4294967296 by omega),xY3 (by omega) (by omega)⟩
 ·have h4:x.2.1<len p.2.2.2.1:=jF hg
  obtain⟨⟨h0,h1⟩,h2,h5⟩:=hx
  refine⟨⟨⟨(show 0≤x.2.1+1 by omega),(show x.2.1+1≤len p.2.2.2.1 by omega)⟩,?_,?_⟩,(show (len p.2.2.2.1-(x.2.1+1)).toNat<(len p.2.2.2.1-x.2.1).toNat by omega)⟩
  ·show len (bif _ then (x.1++[x.2.1]) else x.1)≤x.2.1+1
   cases ((nth p.2.2.2.1 x.2.1 Z49).2.2.1==(nth p.2.2.2.1 i Z49).1) with
   |true=>rw[jE,wI7,wJ7];omega
   |false=>rw[jD];omega
  ·show ∀ q∈(bif _ then (x.1++[x.2.1]) else x.1),InB q (len p.2.2.2.1)
   cases ((nth p.2.2.2.1 x.2.1 Z49).2.2.1==(nth p.2.2.2.1 i Z49).1) with
   |true=>exact vB3 h5 ⟨h0,h4⟩
   |false=>exact h5
theorem qL0 (p:D28)(i:Int)(hi:InB i (len p.2.2.2.1))(hn:len p.2.2.2.1≤64):sN3 p i∧len (f60 p i)≤64∧∀ q∈f60 p i,InB q (len p.2.2.2.1):=by
 have h5:=src5 p i hi hn
 have hf:=vI6 p (nth p.2.2.2.1 i Z49).2.2.2.2.2.2.2.2.2.2.2.2.2.2.2.2.2.2.2.2.2.2.2.2.2.2.1 (by omega)
 refine⟨⟨hi,fun _=>h5.1,fun _ _=>⟨hi,hf.1,fun _=>(show (1:Int)≤4294967296 by decide)⟩⟩,?_⟩
 simp only[f60,f60t,uA4]
 cases ((nth p.2.2.2.1 i Z49).2.1==1) with
 |true=>exact⟨by have:=h5.2.1;have:=h5.2.2.1;exact Int.le_trans h5.2.2.1 (Int.le_trans h5.2.1.2 hn),h5.2.2.2⟩
 |false =>
  simp only[jD]
  cases ((nth p.2.2.2.1 i Z49).2.1==10) with
  |false=>exact⟨(show (0:Int)≤64 by decide),fun q hq=>by cases hq⟩
  |true =>
   simp only[jE]
   cases hd:decide (f8 p (nth p.2.2.2.1 i Z49).2.2.2.2.2.2.2.2.2.2.2.2.2.2.2.2.2.2.2.2.2.2.2.2.2.2.1≥0) with
   |false=>exact⟨(show (0:Int)≤64 by decide),fun q hq=>by cases hq⟩
   |true =>
    refine⟨(show (1:Int)≤64 by decide),fun q hq=>?_⟩
    rw[jH.1 hq]
    rcases hf.2 with h|h
    ·have:=jF hd;omega
    ·exact h
def visI (p:D28)(u:Nat)(o:List Bool×List Bool×D28×Unit):Prop:=len o.1=len p.2.2.2.1∧len o.2.1=len p.2.2.2.1∧o.2.2.1=p∧unb o.2.1≤u
def visL (p:D28)(u:Nat)(l:List Int)(x:xY5):Prop:=(0≤x.2.2.2.1∧x.2.2.2.1≤len l)∧visI p u (x.1,x.2.1,x.2.2.1,())
def oP0 (p:D28)(k:Nat)(r:xZ3):Prop:=∀ (i:Int) (d b:List Bool),len d=len p.2.2.2.1→len b=len p.2.2.2.1→InB i (len p.2.2.2.1)→unb b<k→(r i d b p ()).1∧visI p (unb b) (r i d b p ()).2.2
theorem vis5 {p:D28}{k u:Nat}{r:xZ3}(hr:oP0 p k r)(hu:u<k)(i:Int)(l:List Int)(hl:len l≤64)(hq:∀ q∈l,InB q (len p.2.2.2.1))(d b:List Bool)(h0:visI p u (d,b,p,())) :
  Am.Ends (xZ8 r (i,(),l,len l,())) (xY8 r (i,(),l,len l,())) (wI5 r (i,(),l,len l,())) (d,b,p,(0:Int),()) ∧
  visL p u l (zC3 (xZ8 r (i,(),l,len l,())) (xY8 r (i,(),l,len l,())) (d,b,p,(0:Int),())):=by
 have st:∀ x:xY5,visL p u l x→x.2.2.2.1<len l→(r (nth l x.2.2.2.1 (0:Int)) x.1 x.2.1 x.2.2.1 ()).1∧visI p u (r (nth l x.2.2.2.1 (0:Int)) x.1 x.2.1 x.2.2.1 ()).2.2:=fun x hx h4=>by
  obtain⟨⟨j0,j1⟩,v1,v2,v3,v4⟩:=hx
  simp only at v1 v2 v3 v4
  rw[v3]
  have:=hr (nth l x.2.2.2.1 (0:Int)) x.1 x.2.1 v1 v2 (hq _ (wA3 ⟨j0,h4⟩)) (by omega)
  exact⟨this.1,this.2.1,this.2.2.1,this.2.2.2.1,Nat.le_trans this.2.2.2.2 v4⟩
 have w:=whole (g:=xZ8 r (i,(),l,len l,())) (next:=xY8 r (i,(),l,len l,())) (ok:=wI5 r (i,(),l,len l,())) (visL p u l) (fun x=>(len l-x.2.2.2.1).toNat) (fun x hx=>fun h3=>?_) (fun x hx hg=>?_) (x:=(d,b,p,(0:Int),())) ⟨⟨Int.le_refl 0,xT7 l⟩,h0⟩ (by unfold zI1;simp only;omega)
 ·exact⟨w.1,w.2.1⟩
 ·have h4:x.2.2.2.1<len l:=jF h3
  have j0:=hx.1.1
  exact⟨⟨j0,h4⟩,(st x hx h4).1,fun _=>xY3 (by omega) (by omega)⟩
 ·have h4:x.2.2.2.1<len l:=xZ1 hg
  have j0:=hx.1.1
  exact⟨⟨⟨(show 0≤x.2.2.2.1+1 by omega),(show x.2.2.2.1+1≤len l by omega)⟩,(st x hx h4).2⟩,(show (len l-(x.2.2.2.1+1)).toNat<(len l-x.2.2.2.1).toNat by omega)⟩
theorem qL1 (p:D28)(hn:len p.2.2.2.1≤64):∀ k,oP0 p k (wD4 k)
 |0=>fun i d b _ _ _ h=>absurd h (Nat.not_lt_zero _)
 |k+1=>fun i d b hd hb hi hu=>by
  have hr:=qL1 p hn k
  have hid:InB i (len d):=by rw[hd];exact hi
  have hib:InB i (len b):=by rw[hb];exact hi
  show (wE6 (wD4 k) i d b p ()).1∧visI p (unb b) (wE6 (wD4 k) i d b p ()).2.2
  generalize wD4 k=r at hr
  have hs:=qL0 p i hi hn
  have key:(bif (nth d i false) then true else (nth b i false))=false →
    Am.Ends (xZ8 r (i,(),f60 p i,len (f60 p i),())) (xY8 r (i,(),f60 p i,len (f60 p i),())) (wI5 r (i,(),f60 p i,len (f60 p i),())) (d,(List.set b (Int.toNat i) true),p,(0:Int),()) ∧
    visL p (unb b) (f60 p i) (zC3 (xZ8 r (i,(),f60 p i,len (f60 p i),())) (xY8 r (i,(),f60 p i,len (f60 p i),())) (d,(List.set b (Int.toNat i) true),p,(0:Int),())) ∧
    ∀ x:xY5,x=zC3 (xZ8 r (i,(),f60 p i,len (f60 p i),())) (xY8 r (i,(),f60 p i,len (f60 p i),())) (d,(List.set b (Int.toNat i) true),p,(0:Int),())→x.2.2.2.1<len (f60 p i)→visI p (unb b) (r (nth (f60 p i) x.2.2.2.1 (0:Int)) x.1 x.2.1 x.2.2.1 ()).2.2:=fun hv=>by
   have hbi:nth b i false=false:=by
    cases hc:nth d i false with
    |true=>rw[hc] at hv;cases hv
    |false=>rw[hc] at hv;exact hv
   have hil:i.toNat<b.length:=by have:=hib.2;have:=hib.1;simp only[len] at *;omega
   have hset:=sZ6 hil hbi
   have h5:=vis5 (u:=unb (List.set b (Int.toNat i) true)) hr (by omega) i (f60 p i) hs.2.1 hs.2.2 d (List.set b (Int.toNat i) true) ⟨hd,by show len (List.set b _ true)=_;rw[wC0];exact hb,rfl,jI _⟩
   have up:∀ o,visI p (unb (List.set b (Int.toNat i) true)) o→visI p (unb b) o:=fun o ho=>⟨ho.1,ho.2.1,ho.2.2.1,by have:=ho.2.2.2;omega⟩
   refine⟨h5.1,⟨h5.2.1,up _ h5.2.2⟩,fun x hx h4=>?_⟩
   have hx5:=h5.2
   rw[← hx] at hx5
   obtain⟨⟨j0,j1⟩,v1,v2,v3,v4⟩:=hx5
   simp only at v1 v2 v3 v4
   rw[v3]
   have:=hr (nth (f60 p i) x.2.2.2.1 (0:Int)) x.1 x.2.1 v1 v2 (hs.2.2 _ (wA3 ⟨j0,h4⟩)) (by omega)
   exact up _ ⟨this.2.1,this.2.2.1,this.2.2.2.1,Nat.le_trans this.2.2.2.2 v4⟩
  simp only[wE6]
  cases hv:(bif (nth d i false) then true else (nth b i false)) with
  |true =>
   simp only[jE,Bool.not_true]
   exact⟨⟨hid,hid.2,fun _=>hib,fun _=>hib.2,fun _=>⟨hid,hid.2⟩,fun hf=>Bool.noConfusion hf⟩,hd,hb,rfl,jI _⟩
  |false =>
   obtain⟨k1,k2,k3⟩:=key hv
   simp only[jD,vE,vE0,vE1,vE2,vE3,vE4]
   generalize zC3 (xZ8 r (i,(),f60 p i,len (f60 p i),())) (xY8 r (i,(),f60 p i,len (f60 p i),())) (d,(List.set b (Int.toNat i) true),p,(0:Int),())=z at k2 k3
   obtain⟨_,v1,v2,v3,v4⟩:=k2
   simp only at v1 v2 v3 v4
   have hz:InB i (len z.1):=by rw[v1];exact hi
   refine⟨⟨hid,hid.2,fun _=>hib,fun _=>hib.2,fun hf=>Bool.noConfusion hf,fun _=>⟨hib,hib.2,hs.1,k1,fun _=>⟨hz,hz.2⟩⟩⟩,?_⟩
   cases he:wC2 r (i,(),f60 p i,len (f60 p i),()) z with
   |true=>exact k3 z rfl (xZ1 he)
   |false=>exact⟨by show len (List.set z.1 _ true)=_;rw[wC0];exact v1,v2,v3,v4⟩
def cycI (p:D28)(x:wJ5):Prop:=(0≤x.2.2.2.1∧x.2.2.2.1≤len p.2.2.2.1)∧visI p (len p.2.2.2.1).toNat (x.2.2.1,x.2.1,x.1,())
theorem oF3 (p:D28)(hn:len p.2.2.2.1≤64):sN6 p:=by
 have h0n:=xT7 p.2.2.2.1
 have hlr:len (List.replicate (Int.toNat (len p.2.2.2.1)) false)=len p.2.2.2.1:=by simp only[len,List.length_replicate];omega
 have hu:∀ b:List Bool,len b=len p.2.2.2.1→unb b≤(len p.2.2.2.1).toNat:=fun b hb=>by
  have:=tO6 b
  simp only[len] at hb ⊢;omega
 have st:∀ x:wJ5,cycI p x→x.2.2.2.1<len p.2.2.2.1→uI2 x.2.2.2.1 x.2.2.1 x.2.1 x.1 ()∧visI p (len p.2.2.2.1).toNat (uI3 x.2.2.2.1 x.2.2.1 x.2.1 x.1 ()):=fun x hx h4=>by
  obtain⟨⟨j0,j1⟩,v1,v2,v3,v4⟩:=hx
  simp only at v1 v2 v3 v4
  rw[v3]
  have hlt:unb x.2.1<x.2.2.1.length+1:=by have:=tO6 x.2.1;simp only[len] at v1 v2;omega
  have:=qL1 p hn (x.2.2.1.length+1) x.2.2.2.1 x.2.2.1 x.2.1 v1 v2 ⟨j0,h4⟩ hlt
  exact⟨this.1,this.2.1,this.2.2.1,this.2.2.2.1,hu _ this.2.2.1⟩
 refine⟨⟨h0n,Int.le_refl _,(show len p.2.2.2.1≤4294967296 by omega)⟩,⟨h0n,Int.le_refl _,(show len p.2.2.2.1≤4294967296 by omega)⟩,?_⟩
 have w:=whole (g:=vM ((),len p.2.2.2.1,())) (next:=wM2 ((),len p.2.2.2.1,())) (ok:=vR8 ((),len p.2.2.2.1,())) (cycI p) (fun x=>(len p.2.2.2.1-x.2.2.2.1).toNat) (fun x hx=>fun h3=>?_) (fun x hx hg=>?_) (x:=(p,(List.replicate (Int.toNat (len p.2.2.2.1)) false),(List.replicate (Int.toNat (len p.2.2.2.1)) false),(0:Int),())) ⟨⟨Int.le_refl 0,h0n⟩,hlr,hlr,rfl,hu _ hlr⟩ (by unfold zI1;simp only;omega)
 ·exact w.1
 ·have h4:x.2.2.2.1<len p.2.2.2.1:=jF h3
  have j0:=hx.1.1
  exact⟨(st x hx h4).1,fun _=>xY3 (by omega) (by omega)⟩
 ·have h4:x.2.2.2.1<len p.2.2.2.1:=xZ1 hg
  have j0:=hx.1.1
  exact⟨⟨⟨(show 0≤x.2.2.2.1+1 by omega),(show x.2.2.2.1+1≤len p.2.2.2.1 by omega)⟩,(st x hx h4).2⟩,(show (len p.2.2.2.1-(x.2.2.2.1+1)).toNat<(len p.2.2.2.1-x.2.2.2.1).toNat by omega)⟩
def qL2 (p:D28):Prop:=
 (len p.2.2.2.1<9223372036854775808∧∀ n∈p.2.2.2.1,wJ8 n)∧len p.2.2.2.2.2.1.2.2.1<9223372036854775808∧(∀ m∈p.2.2.2.2.2.2.1,len m.1<9223372036854775808∧len m.2.1<9223372036854775808)∧∀ m∈p.2.2.2.2.2.2.2.1,len m.2.2.2.2.1.2.2.1<9223372036854775808
theorem wV (p:D28)(h:qL2 p):vM0 p:=by
 obtain⟨⟨h1,h2⟩,h3,h4,h5⟩:=h
 have hb:(!(bif (decide ((len p.2.2.2.1)>64)) then true else (decide ((len p.2.2.2.2.2.2.2.1)>8))))=true→len p.2.2.2.1≤64∧len p.2.2.2.2.2.2.2.1≤8:=fun h0=>by
  simp only[jK,Bool.cond_true_left,jJ,decide_eq_false_iff_not] at h0
  omega
 refine⟨oE4 p,fun _ ha=>?_⟩
 obtain⟨hn,hl⟩:=hb ha
 exact fun _=>⟨oF2 p hn h2,fun _=>⟨oF1 p hn,fun _=>⟨oF0 p hl h5,fun _=>⟨oF p h1 (by omega),fun _=>⟨oF3 p hn,fun _=>⟨qK _ h3,fun _ _=>oE7 _ h4⟩⟩⟩⟩⟩⟩
end Go.Proofs.YtpanghcojpnkaaaGreatDoor.Am
