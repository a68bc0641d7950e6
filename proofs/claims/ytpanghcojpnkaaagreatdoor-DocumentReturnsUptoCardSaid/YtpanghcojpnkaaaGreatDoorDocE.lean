/- document.Check answers for every document. Condition: lengths of Go slices. -/
import Derived.Test.YtpanghcojpnkaaaGreatDoorDocD
namespace Go.Proofs.YtpanghcojpnkaaaGreatDoor.Am
open Go Go.Am
def unb:List Bool→Nat
 |[]=>0
 |false::r=>unb r+1
 |true::r=>unb r
theorem sI6:∀ l:List Bool,unb l≤l.length
 |[]=>Nat.le_refl _
 |false::r=>by have:=sI6 r;simp only[unb,List.length_cons];omega
 |true::r=>by have:=sI6 r;simp only[unb,List.length_cons];omega
theorem qV4:∀ {l:List Bool}{i:Nat},i<l.length→l.getD i false=false→unb (List.set l i true)+1=unb l
 |[],i,h,_=>by simp at h
 |b::r,0,_,h=>by
  have:b=false:=h
  subst this
  rfl
 |b::r,i+1,h,h2=>by
  have ih:=qV4 (l:=r) (i:=i) (by simpa using h) h2
  cases b with
  |false=>show unb (List.set r i true)+1+1=unb r+1;omega
  |true=>exact ih
def srcI (p:D28)(x:wV8):Prop:=(0≤x.2.1∧x.2.1≤len p.2.2.2.1)∧len x.1≤x.2.1∧∀ q∈x.1,InB q (len p.2.2.2.1)
theorem src5 (p:D28)(i:Int)(hi:InB i (len p.2.2.2.1))(hn:len p.2.2.2.1≤64) :
  Am.Ends (vW7 (i,p,p.2.2.2.1,len p.2.2.2.1,())) (wP9 (i,p,p.2.2.2.1,len p.2.2.2.1,())) (vI2 (i,p,p.2.2.2.1,len p.2.2.2.1,())) (([]:List Int),(0:Int),()) ∧
  srcI p (zC1 (vW7 (i,p,p.2.2.2.1,len p.2.2.2.1,())) (wP9 (i,p,p.2.2.2.1,len p.2.2.2.1,())) (([]:List Int),(0:Int),())):=by
 have w:=whole (g:=vW7 (i,p,p.2.2.2.1,len p.2.2.2.1,())) (next:=wP9 (i,p,p.2.2.2.1,len p.2.2.2.1,())) (ok:=vI2 (i,p,p.2.2.2.1,len p.2.2.2.1,())) (srcI p) (fun x=>(len p.2.2.2.1-x.2.1).toNat) (fun x hx=>fun h3=>?_) (fun x hx hg=>?_) (x:=(([]:List Int),(0:Int),())) ⟨⟨Int.le_refl 0,xT8 _⟩,Int.le_refl 0,fun q hq=>by cases hq⟩ (by unfold zI1;simp only;omega)
 ·exact⟨w.1,w.2.1⟩
 ·have h4:x.2.1<len p.2.2.2.1:=of_decide_eq_true h3
  obtain⟨⟨h0,h1⟩,h2,h5⟩:=hx
  have e:len x.1=(x.1.length:Int):=rfl
  exact⟨⟨h0,h4⟩,hi,fun _=>(show ((x.1.length+1:Nat):Int)≤4294967296 by omega),xY6 (by omega) (by omega)⟩
 ·have h4:x.2.1<len p.2.2.2.1:=of_decide_eq_true hg
  obtain⟨⟨h0,h1⟩,h2,h5⟩:=hx
  refine⟨⟨⟨(show 0≤x.2.1+1 by omega),(show x.2.1+1≤len p.2.2.2.1 by omega)⟩,?_,?_⟩,(show (len p.2.2.2.1-(x.2.1+1)).toNat<(len p.2.2.2.1-x.2.1).toNat by omega)⟩
  ·show len (bif _ then (x.1++[x.2.1]) else x.1)≤x.2.1+1
   cases ((nth p.2.2.2.1 x.2.1 Z49).2.2.1==(nth p.2.2.2.1 i Z49).1) with
   |true=>rw[cond_true,wI7,wJ7];omega
   |false=>rw[cond_false];omega
  ·show ∀ q∈(bif _ then (x.1++[x.2.1]) else x.1),InB q (len p.2.2.2.1)
   cases ((nth p.2.2.2.1 x.2.1 Z49).2.2.1==(nth p.2.2.2.1 i Z49).1) with
   |true=>exact vB0 h5 ⟨h0,h4⟩
   |false=>exact h5
theorem oZ3 (p:D28)(i:Int)(hi:InB i (len p.2.2.2.1))(hn:len p.2.2.2.1≤64):sT3 p i∧len (f60 p i)≤64∧∀ q∈f60 p i,InB q (len p.2.2.2.1):=by
 have h5:=src5 p i hi hn
 have hf:=vZ9 p (nth p.2.2.2.1 i Z49).2.2.2.2.2.2.2.2.2.2.2.2.2.2.2.2.2.2.2.2.2.2.2.2.2.2.1 (by omega)
 refine⟨⟨hi,fun _=>h5.1,fun _ _=>⟨hi,hf.1,fun _=>(show (1:Int)≤4294967296 by decide)⟩⟩,?_⟩
 simp only[f60,f60t,uC0]
 cases ((nth p.2.2.2.1 i Z49).2.1==1) with
 |true=>exact⟨by have:=h5.2.1;have:=h5.2.2.1;exact Int.le_trans h5.2.2.1 (Int.le_trans h5.2.1.2 hn),h5.2.2.2⟩
 |false =>
  simp only[cond_false]
  cases ((nth p.2.2.2.1 i Z49).2.1==10) with
  |false=>exact⟨(show (0:Int)≤64 by decide),fun q hq=>by cases hq⟩
  |true =>
   simp only[cond_true]
   cases hd:decide (f8 p (nth p.2.2.2.1 i Z49).2.2.2.2.2.2.2.2.2.2.2.2.2.2.2.2.2.2.2.2.2.2.2.2.2.2.1≥0) with
   |false=>exact⟨(show (0:Int)≤64 by decide),fun q hq=>by cases hq⟩
   |true =>
    refine⟨(show (1:Int)≤64 by decide),fun q hq=>?_⟩
    rw[List.mem_singleton.1 hq]
    rcases hf.2 with h|h
    ·have:=of_decide_eq_true hd;omega
    ·exact h
def visI (p:D28)(u:Nat)(o:List Bool×List Bool×D28×Unit):Prop:=len o.1=len p.2.2.2.1∧len o.2.1=len p.2.2.2.1∧o.2.2.1=p∧unb o.2.1≤u
def visL (p:D28)(u:Nat)(l:List Int)(x:xZ1):Prop:=(0≤x.2.2.2.1∧x.2.2.2.1≤len l)∧visI p u (x.1,x.2.1,x.2.2.1,())
def nJ7 (p:D28)(k:Nat)(r:xZ8):Prop:=∀ (i:Int) (d b:List Bool),len d=len p.2.2.2.1→len b=len p.2.2.2.1→InB i (len p.2.2.2.1)→unb b<k→(r i d b p ()).1∧visI p (unb b) (r i d b p ()).2.2
theorem vis5 {p:D28}{k u:Nat}{r:xZ8}(hr:nJ7 p k r)(hu:u<k)(i:Int)(l:List Int)(hl:len l≤64)(hq:∀ q∈l,InB q (len p.2.2.2.1))(d b:List Bool)(h0:visI p u (d,b,p,())) :
  Am.Ends (wD3 r (i,(),l,len l,())) (wA2 r (i,(),l,len l,())) (wI2 r (i,(),l,len l,())) (d,b,p,(0:Int),()) ∧
  visL p u l (zC1 (wD3 r (i,(),l,len l,())) (wA2 r (i,(),l,len l,())) (d,b,p,(0:Int),())):=by
 have st:∀ x:xZ1,visL p u l x→x.2.2.2.1<len l→(r (nth l x.2.2.2.1 (0:Int)) x.1 x.2.1 x.2.2.1 ()).1∧visI p u (r (nth l x.2.2.2.1 (0:Int)) x.1 x.2.1 x.2.2.1 ()).2.2:=fun x hx h4=>by
  obtain⟨⟨j0,j1⟩,v1,v2,v3,v4⟩:=hx
  simp only at v1 v2 v3 v4
  rw[v3]
  have:=hr (nth l x.2.2.2.1 (0:Int)) x.1 x.2.1 v1 v2 (hq _ (xZ4 ⟨j0,h4⟩)) (by omega)
  exact⟨this.1,this.2.1,this.2.2.1,this.2.2.2.1,Nat.le_trans this.2.2.2.2 v4⟩
 have w:=whole (g:=wD3 r (i,(),l,len l,())) (next:=wA2 r (i,(),l,len l,())) (ok:=wI2 r (i,(),l,len l,())) (visL p u l) (fun x=>(len l-x.2.2.2.1).toNat) (fun x hx=>fun h3=>?_) (fun x hx hg=>?_) (x:=(d,b,p,(0:Int),())) ⟨⟨Int.le_refl 0,xT8 l⟩,h0⟩ (by unfold zI1;simp only;omega)
 ·exact⟨w.1,w.2.1⟩
 ·have h4:x.2.2.2.1<len l:=of_decide_eq_true h3
  have j0:=hx.1.1
  exact⟨⟨j0,h4⟩,(st x hx h4).1,fun _=>xY6 (by omega) (by omega)⟩
 ·have h4:x.2.2.2.1<len l:=xZ7 hg
  have j0:=hx.1.1
  exact⟨⟨⟨(show 0≤x.2.2.2.1+1 by omega),(show x.2.2.2.1+1≤len l by omega)⟩,(st x hx h4).2⟩,(show (len l-(x.2.2.2.1+1)).toNat<(len l-x.2.2.2.1).toNat by omega)⟩
theorem qV5 (p:D28)(hn:len p.2.2.2.1≤64):∀ k,nJ7 p k (wJ5 k)
 |0=>fun i d b _ _ _ h=>absurd h (Nat.not_lt_zero _)
 |k+1=>fun i d b hd hb hi hu=>by
  have hr:=qV5 p hn k
  have hid:InB i (len d):=by rw[hd];exact hi
  have hib:InB i (len b):=by rw[hb];exact hi
  show (vR2 (wJ5 k) i d b p ()).1∧visI p (unb b) (vR2 (wJ5 k) i d b p ()).2.2
  generalize wJ5 k=r at hr
  have hs:=oZ3 p i hi hn
  have key:(bif (nth d i false) then true else (nth b i false))=false →
    Am.Ends (wD3 r (i,(),f60 p i,len (f60 p i),())) (wA2 r (i,(),f60 p i,len (f60 p i),())) (wI2 r (i,(),f60 p i,len (f60 p i),())) (d,(List.set b (Int.toNat i) true),p,(0:Int),()) ∧
    visL p (unb b) (f60 p i) (zC1 (wD3 r (i,(),f60 p i,len (f60 p i),())) (wA2 r (i,(),f60 p i,len (f60 p i),())) (d,(List.set b (Int.toNat i) true),p,(0:Int),())) ∧
    ∀ x:xZ1,x=zC1 (wD3 r (i,(),f60 p i,len (f60 p i),())) (wA2 r (i,(),f60 p i,len (f60 p i),())) (d,(List.set b (Int.toNat i) true),p,(0:Int),())→x.2.2.2.1<len (f60 p i)→visI p (unb b) (r (nth (f60 p i) x.2.2.2.1 (0:Int)) x.1 x.2.1 x.2.2.1 ()).2.2:=fun hv=>by
   have hbi:nth b i false=false:=by
    cases hc:nth d i false with
    |true=>rw[hc] at hv;cases hv
    |false=>rw[hc] at hv;exact hv
   have hil:i.toNat<b.length:=by have:=hib.2;have:=hib.1;simp only[len] at *;omega
   have hset:=qV4 hil hbi
   have h5:=vis5 (u:=unb (List.set b (Int.toNat i) true)) hr (by omega) i (f60 p i) hs.2.1 hs.2.2 d (List.set b (Int.toNat i) true) ⟨hd,by show len (List.set b _ true)=_;rw[wC2];exact hb,rfl,Nat.le_refl _⟩
   have up:∀ o,visI p (unb (List.set b (Int.toNat i) true)) o→visI p (unb b) o:=fun o ho=>⟨ho.1,ho.2.1,ho.2.2.1,by have:=ho.2.2.2;omega⟩
   refine⟨h5.1,⟨h5.2.1,up _ h5.2.2⟩,fun x hx h4=>?_⟩
   have hx5:=h5.2
   rw[← hx] at hx5
   obtain⟨⟨j0,j1⟩,v1,v2,v3,v4⟩:=hx5
   simp only at v1 v2 v3 v4
   rw[v3]
   have:=hr (nth (f60 p i) x.2.2.2.1 (0:Int)) x.1 x.2.1 v1 v2 (hs.2.2 _ (xZ4 ⟨j0,h4⟩)) (by omega)
   exact up _ ⟨this.2.1,this.2.2.1,this.2.2.2.1,Nat.le_trans this.2.2.2.2 v4⟩
  simp only[vR2]
  cases hv:(bif (nth d i false) then true else (nth b i false)) with
  |true =>
   simp only[cond_true,Bool.not_true]
   exact⟨⟨hid,hid.2,fun _=>hib,fun _=>hib.2,fun _=>⟨hid,hid.2⟩,fun hf=>Bool.noConfusion hf⟩,hd,hb,rfl,Nat.le_refl _⟩
  |false =>
   obtain⟨k1,k2,k3⟩:=key hv
   simp only[cond_false,vE2,vE3,vE4,vE5,vE6,vE7]
   generalize zC1 (wD3 r (i,(),f60 p i,len (f60 p i),())) (wA2 r (i,(),f60 p i,len (f60 p i),())) (d,(List.set b (Int.toNat i) true),p,(0:Int),())=z at k2 k3
   obtain⟨_,v1,v2,v3,v4⟩:=k2
   simp only at v1 v2 v3 v4
   have hz:InB i (len z.1):=by rw[v1];exact hi
   refine⟨⟨hid,hid.2,fun _=>hib,fun _=>hib.2,fun hf=>Bool.noConfusion hf,fun _=>⟨hib,hib.2,hs.1,k1,fun _=>⟨hz,hz.2⟩⟩⟩,?_⟩
   cases he:vR1 r (i,(),f60 p i,len (f60 p i),()) z with
   |true=>exact k3 z rfl (xZ7 he)
   |false=>exact⟨by show len (List.set z.1 _ true)=_;rw[wC2];exact v1,v2,v3,v4⟩
def cycI (p:D28)(x:wL9):Prop:=(0≤x.2.2.2.1∧x.2.2.2.1≤len p.2.2.2.1)∧visI p (len p.2.2.2.1).toNat (x.2.2.1,x.2.1,x.1,())
theorem oZ4 (p:D28)(hn:len p.2.2.2.1≤64):sT7 p:=by
 have h0n:=xT8 p.2.2.2.1
 have hlr:len (List.replicate (Int.toNat (len p.2.2.2.1)) false)=len p.2.2.2.1:=by simp only[len,List.length_replicate];omega
 have hu:∀ b:List Bool,len b=len p.2.2.2.1→unb b≤(len p.2.2.2.1).toNat:=fun b hb=>by
  have:=sI6 b
  simp only[len] at hb ⊢;omega
 have st:∀ x:wL9,cycI p x→x.2.2.2.1<len p.2.2.2.1→uK2 x.2.2.2.1 x.2.2.1 x.2.1 x.1 ()∧visI p (len p.2.2.2.1).toNat (sF8 x.2.2.2.1 x.2.2.1 x.2.1 x.1 ()):=fun x hx h4=>by
  obtain⟨⟨j0,j1⟩,v1,v2,v3,v4⟩:=hx
  simp only at v1 v2 v3 v4
  rw[v3]
  have hlt:unb x.2.1<x.2.2.1.length+1:=by have:=sI6 x.2.1;simp only[len] at v1 v2;omega
  have:=qV5 p hn (x.2.2.1.length+1) x.2.2.2.1 x.2.2.1 x.2.1 v1 v2 ⟨j0,h4⟩ hlt
  exact⟨this.1,this.2.1,this.2.2.1,this.2.2.2.1,hu _ this.2.2.1⟩
 refine⟨⟨h0n,Int.le_refl _,(show len p.2.2.2.1≤4294967296 by omega)⟩,⟨h0n,Int.le_refl _,(show len p.2.2.2.1≤4294967296 by omega)⟩,?_⟩
 have w:=whole (g:=tA9 ((),len p.2.2.2.1,())) (next:=vL9 ((),len p.2.2.2.1,())) (ok:=vR3 ((),len p.2.2.2.1,())) (cycI p) (fun x=>(len p.2.2.2.1-x.2.2.2.1).toNat) (fun x hx=>fun h3=>?_) (fun x hx hg=>?_) (x:=(p,(List.replicate (Int.toNat (len p.2.2.2.1)) false),(List.replicate (Int.toNat (len p.2.2.2.1)) false),(0:Int),())) ⟨⟨Int.le_refl 0,h0n⟩,hlr,hlr,rfl,hu _ hlr⟩ (by unfold zI1;simp only;omega)
 ·exact w.1
 ·have h4:x.2.2.2.1<len p.2.2.2.1:=of_decide_eq_true h3
  have j0:=hx.1.1
  exact⟨(st x hx h4).1,fun _=>xY6 (by omega) (by omega)⟩
 ·have h4:x.2.2.2.1<len p.2.2.2.1:=xZ7 hg
  have j0:=hx.1.1
  exact⟨⟨⟨(show 0≤x.2.2.2.1+1 by omega),(show x.2.2.2.1+1≤len p.2.2.2.1 by omega)⟩,(st x hx h4).2⟩,(show (len p.2.2.2.1-(x.2.2.2.1+1)).toNat<(len p.2.2.2.1-x.2.2.2.1).toNat by omega)⟩
def qV6 (p:D28):Prop:=
 (len p.2.2.2.1<9223372036854775808∧∀ n∈p.2.2.2.1,vM4 n)∧len p.2.2.2.2.2.1.2.2.1<9223372036854775808∧(∀ m∈p.2.2.2.2.2.2.1,len m.1<9223372036854775808∧len m.2.1<9223372036854775808)∧∀ m∈p.2.2.2.2.2.2.2.1,len m.2.2.2.2.1.2.2.1<9223372036854775808
theorem uZ (p:D28)(h:qV6 p):tP0 p:=by
 obtain⟨⟨h1,h2⟩,h3,h4,h5⟩:=h
 have hb:(!(bif (decide ((len p.2.2.2.1)>64)) then true else (decide ((len p.2.2.2.2.2.2.2.1)>8))))=true→len p.2.2.2.1≤64∧len p.2.2.2.2.2.2.2.1≤8:=fun h0=>by
  simp only[Bool.not_eq_true',Bool.cond_true_left,Bool.or_eq_false_iff,decide_eq_false_iff_not] at h0
  omega
 refine⟨oY4 p,fun _ ha=>?_⟩
 obtain⟨hn,hl⟩:=hb ha
 exact fun _=>⟨oZ2 p hn h2,fun _=>⟨oZ1 p hn,fun _=>⟨oZ0 p hl h5,fun _=>⟨oZ p h1 (by omega),fun _=>⟨oZ4 p hn,fun _=>⟨qT7 _ h3,fun _ _=>oY7 _ h4⟩⟩⟩⟩⟩⟩
end Go.Proofs.YtpanghcojpnkaaaGreatDoor.Am
