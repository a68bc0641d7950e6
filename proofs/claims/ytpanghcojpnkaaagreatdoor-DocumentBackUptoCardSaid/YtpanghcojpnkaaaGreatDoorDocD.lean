/- document.Check answers for every document: heads, names, links, references, metadata, the order of nodes. Condition: lengths of Go slices. -/
import Derived.Test.YtpanghcojpnkaaaGreatDoorDocV
namespace Go.Proofs.YtpanghcojpnkaaaGreatDoor.Am
open Go Go.Am
theorem qK8:sF4:=trivial
theorem oE4 (p:D28):uY8 p:=by first|exact fun _ _=>qK8|trivial | (simp only[uY8,f23t];simp[qK8])
theorem oE5 (s:List UInt8):sM2 s:=fun h0=>by
 have hs:len s≤32:=by
  simp only[jK,Bool.cond_true_left,jJ,decide_eq_false_iff_not] at h0
  omega
 exact xV4 (xT7 s) (by omega) (fun _ h=>xZ1 h) (fun _=>rfl) fun x h1 _=>fun h3=>by
  have h4:x.1<len s:=jF h3
  exact⟨⟨h1,h4⟩,fun _=>⟨h1,h4⟩,fun _=>xY3 (by omega) (by omega)⟩
theorem rM (s:List UInt8)(a b:Int)(hs:len s<9223372036854775808):uM2 s a b:=fun _ =>
 xV4 (xT7 s) hs (fun _ h=>xZ1 h) (fun _=>rfl) fun x h1 _=>fun h3=>by
  have h4:x.1<len s:=jF h3
  exact⟨⟨h1,h4⟩,fun _=>⟨h1,h4⟩,fun _=>xY3 (by omega) (by omega)⟩
theorem oE6 (l:List D87)(m:D87)(hl:len l≤4611686018427387904)(h1:len m.1<9223372036854775808)(h2:len m.2.1<9223372036854775808):sN7 l m:=by
 have h0:=xT7 l
 refine⟨rM _ _ _ h1,fun _=>⟨rM _ _ _ h2,fun _=>⟨fun hv=>?_,fun hv=>?_⟩⟩⟩
 ·exact xY3 (by omega) (by omega)
 ·have hv:len l>0:=jF hv
  exact⟨by omega,by omega⟩
theorem rM0 {α:Type}(l:List α)(i:Int)(n:Int)(h:len l≤n):len (List.take (Int.toNat i) l)≤n:=by
 simp only[len,jT] at h ⊢;omega
theorem oE7 (l:List D87)(hm:∀ m∈l,len m.1<9223372036854775808∧len m.2.1<9223372036854775808):sN9 l:=fun h0=>by
 have hl:len l≤16:=by
  simp only[jK,decide_eq_false_iff_not] at h0
  omega
 exact xV4 (xT7 l) (by omega) (fun _ h=>xZ1 h) (fun _=>rfl) fun x h1 h2=>fun h3=>by
  have h4:x.1<len l:=jF h3
  have hx:=hm _ (wA3 (d:=Z87) ⟨h1,h4⟩)
  exact⟨⟨h1,h4⟩,⟨h1,h2⟩,oE6 _ _ (rM0 l x.1 _ (by omega)) hx.1 hx.2,fun _=>xY3 (by omega) (by omega)⟩
theorem oO9 (l:List D49)(k:Int)(hl:len l<9223372036854775808) :
  Am.Ends (wA5 (l,(k,()),len l,())) (xY7 (l,(k,()),len l,())) (wN9 (l,(k,()),len l,())) (0,()) ∧
  (0≤(zC3 (wA5 (l,(k,()),len l,())) (xY7 (l,(k,()),len l,())) (0,())).1):=by
 have w:=whole (g:=wA5 (l,(k,()),len l,())) (next:=xY7 (l,(k,()),len l,())) (ok:=wN9 (l,(k,()),len l,())) (fun x=>0≤x.1) (fun x=>(len l-x.1).toNat) (fun x hx=>fun h3=>?_) (fun x hx hg=>?_) (x:=(0,())) (Int.le_refl 0) (by unfold zI1;simp only;omega)
 ·exact⟨w.1,w.2.1⟩
 ·have h4:x.1<len l:=jF h3
  exact⟨⟨hx,h4⟩,trivial,fun _=>xY3 (by omega) (by omega)⟩
 ·have h4:x.1<len l:=xZ1 hg
  exact⟨(show 0≤x.1+1 by omega),(show (len l-(x.1+1)).toNat<(len l-x.1).toNat by omega)⟩
theorem vI6 (p:D28)(k:Int)(hl:len p.2.2.2.1<9223372036854775808):vX5 p k∧(f8 p k<0∨InB (f8 p k) (len p.2.2.2.1)):=by
 have h:=oO9 p.2.2.2.1 k hl
 refine⟨h.1,?_⟩
 show (bif wO (p.2.2.2.1,(k,()),len p.2.2.2.1,()) (zC3 (wA5 (p.2.2.2.1,(k,()),len p.2.2.2.1,())) (xY7 (p.2.2.2.1,(k,()),len p.2.2.2.1,())) (0,())) then wL5 (p.2.2.2.1,(k,()),len p.2.2.2.1,()) (zC3 (wA5 (p.2.2.2.1,(k,()),len p.2.2.2.1,())) (xY7 (p.2.2.2.1,(k,()),len p.2.2.2.1,())) (0,())) else -1)<0∨InB (bif wO (p.2.2.2.1,(k,()),len p.2.2.2.1,()) (zC3 (wA5 (p.2.2.2.1,(k,()),len p.2.2.2.1,())) (xY7 (p.2.2.2.1,(k,()),len p.2.2.2.1,())) (0,())) then wL5 (p.2.2.2.1,(k,()),len p.2.2.2.1,()) (zC3 (wA5 (p.2.2.2.1,(k,()),len p.2.2.2.1,())) (xY7 (p.2.2.2.1,(k,()),len p.2.2.2.1,())) (0,())) else -1) (len p.2.2.2.1)
 generalize zC3 (wA5 (p.2.2.2.1,(k,()),len p.2.2.2.1,())) (xY7 (p.2.2.2.1,(k,()),len p.2.2.2.1,())) (0,())=z at h ⊢
 cases he:wO (p.2.2.2.1,(k,()),len p.2.2.2.1,()) z with
 |false=>exact .inl (show (-1:Int)<0 by decide)
 |true =>
  have h4:z.1<len p.2.2.2.1:=xZ1 he
  exact .inr ⟨h.2,h4⟩
theorem oE8 (l:List D90)(n:D49)(hl:len l<9223372036854775808):vR5 l (n,()):=
 xV4 (xT7 l) hl (fun _ h=>xZ1 h) (fun _=>rfl) fun x h1 _=>fun h3=>by
  have h4:x.1<len l:=jF h3
  exact⟨⟨h1,h4⟩,trivial,fun _=>xY3 (by omega) (by omega)⟩
theorem oE9 (l:List D90)(n:D49)(hl:len l<9223372036854775808):vR6 l (n,()):=oE8 l n hl
theorem oF (p:D28)(hl:len p.2.2.2.1<9223372036854775808)(hk:len p.2.2.2.2.2.2.2.1<9223372036854775808):sN1 p:=
 xV4 (xT7 p.2.2.2.1) hl (fun _ h=>xZ1 h) (fun _=>rfl) fun x h1 _=>fun h3=>by
  have h4:x.1<len p.2.2.2.1:=jF h3
  refine⟨⟨h1,h4⟩,fun _=>oE9 _ _ hk,fun _ _=>⟨(vI6 _ _ hl).1,fun hv=>⟨?_,sZ0 _⟩⟩,fun _=>xY3 (by omega) (by omega)⟩
  rcases (vI6 p (nth p.2.2.2.1 x.1 Z49).2.2.2.2.2.2.2.2.2.2.2.2.2.2.2.2.2.2.2.2.2.2.2.2.2.2.1 hl).2 with h|h
  ·exact absurd (decide_eq_true h) (by simpa using hv)
  ·exact h
theorem oF0 (p:D28)(hl:len p.2.2.2.2.2.2.2.1≤8)(hm:∀ m∈p.2.2.2.2.2.2.2.1,len m.2.2.2.2.1.2.2.1<9223372036854775808):sM4 p:=
 xV4 (xT7 p.2.2.2.2.2.2.2.1) (by omega) (fun _ h=>xZ1 h) (fun _=>rfl) fun x h1 h2=>fun h3=>by
  have h4:x.1<len p.2.2.2.2.2.2.2.1:=jF h3
  have hx:=hm _ (wA3 (d:=Z90) ⟨h1,h4⟩)
  have ht:=rM0 p.2.2.2.2.2.2.2.1 x.1 _ hl
  refine⟨⟨h1,h4⟩,oE5 _,fun _ _=>⟨⟨h1,h2⟩,?_,fun _=>qK0 _ hx⟩,fun _=>xY3 (by omega) (by omega)⟩
  exact xV4 (xT7 _) (Int.lt_of_le_of_lt ht (by decide)) (fun _ h=>xZ1 h) (fun _=>rfl) fun z h1 _=>fun h3=>by
   have h4:z.1<len (List.take (Int.toNat x.1) p.2.2.2.2.2.2.2.1):=jF h3
   exact⟨⟨h1,h4⟩,fun _=>xY3 (by omega) (by omega)⟩
theorem oR0 (y:vL3)(i:Int)(hi:i<len y.1.2.2.2.1)(h0:-1≤i)(hn:len y.1.2.2.2.1≤64) :
  Am.Ends (wD3 y) (xZ5 y) (vH9 y) (i,())∧(-1≤(zC3 (wD3 y) (xZ5 y) (i,())).1∧(zC3 (wD3 y) (xZ5 y) (i,())).1<len y.1.2.2.2.1):=by
 have w:=whole (g:=wD3 y) (next:=xZ5 y) (ok:=vH9 y) (fun x=>-1≤x.1∧x.1<len y.1.2.2.2.1) (fun x=>(x.1+1).toNat) (fun x hx=>?_) (fun x hx hg=>?_) (x:=(i,())) ⟨h0,hi⟩ (by unfold zI1;simp only;omega)
 ·exact⟨w.1,w.2.1⟩
 ·have hb:decide (x.1≥0)=true→InB x.1 (len y.1.2.2.2.1):=fun h=>⟨jF h,hx.2⟩
  exact⟨hb,fun h=>hb (by simp only[jB] at h;exact h.1),fun _=>xY3 (by omega) (by omega)⟩
 ·have h4:x.1≥0:=by
   simp only[wD3,tI4,Bool.cond_false_right,jB,decide_eq_true_eq] at hg
   exact hg.1
  exact⟨⟨(show -1≤x.1-1 by omega),(show x.1-1<len y.1.2.2.2.1 by omega)⟩,(show (x.1-1+1).toNat<(x.1+1).toNat by omega)⟩
theorem oF1 (p:D28)(hn:len p.2.2.2.1≤64):sM0 p:=by
 have w:=whole (g:=wO8 ()) (next:=wB7 ()) (ok:=vR3 ()) (fun x=>x.1=p∧x.2.1=p.2.2.2.1∧x.2.2.1=len p.2.2.2.1∧0≤x.2.2.2.1∧x.2.2.2.1≤len p.2.2.2.1) (fun x=>(len p.2.2.2.1-x.2.2.2.1).toNat) (fun x hx=>fun h3=>?_) (fun x hx hg=>?_) (x:=(p,p.2.2.2.1,(len p.2.2.2.1),(0:Int),())) ⟨rfl,rfl,rfl,Int.le_refl 0,xT7 _⟩ (by unfold zI1;simp only;omega)
 ·exact w.1
 ·obtain⟨a1,a7,a8,a9,⟨⟩⟩:=x
  obtain⟨e1,e2,e3,h0,h1⟩:=hx
  simp only at e1 e2 e3 h0 h1
  subst e1 e2 e3
  have h4:a9<len a1.2.2.2.1:=jF h3
  have hc:=oR0 (a1,nth a1.2.2.2.1 a9 Z49,a1.2.2.2.1,len a1.2.2.2.1,a9,()) (a9-1) (show a9-1<len a1.2.2.2.1 by omega) (by omega) hn
  refine⟨⟨h0,h4⟩,fun _=>⟨(show InR (a9-1) from xY3 (by omega) (by omega)),hc.1,fun hv=>⟨⟨?_,hc.2.2⟩,sZ0 _⟩⟩,fun _=>xY3 ?_ ?_⟩
  ·have hv:=hv
   simp only[jK,decide_eq_false_iff_not] at hv
   exact Int.not_lt.1 hv
  ·show _≤(bif _ then a9 else a9)+1
   cases (!(nth a1.2.2.2.1 a9 Z49).2.2.2.2.2.2.1)<;>simp only[jE,jD]<;>omega
  ·show (bif _ then a9 else a9)+1≤_
   cases (!(nth a1.2.2.2.1 a9 Z49).2.2.2.2.2.2.1)<;>simp only[jE,jD]<;>omega
 ·obtain⟨a1,a7,a8,a9,⟨⟩⟩:=x
  obtain⟨e1,e2,e3,h0,h1⟩:=hx
  simp only at e1 e2 e3 h0 h1
  subst e1 e2 e3
  have h4:a9<len a1.2.2.2.1:=xZ1 hg
  have en:wB7 () (a1,a1.2.2.2.1,len a1.2.2.2.1,a9,())=(a1,a1.2.2.2.1,len a1.2.2.2.1,a9+1,()):=by
   simp only[wB7,vL4]
   cases (!(nth a1.2.2.2.1 a9 Z49).2.2.2.2.2.2.1)<;>rfl
  rw[en]
  exact⟨⟨rfl,rfl,rfl,(show 0≤a9+1 by omega),(show a9+1≤len a1.2.2.2.1 by omega)⟩,(show (len a1.2.2.2.1-(a9+1)).toNat<(len a1.2.2.2.1-a9).toNat by omega)⟩
abbrev IMap:Type:=List (Int×Int×Unit)
abbrev mf (k:Int)(l:IMap):Option Int:=yI5 (.int .i64) (.int .i64) k l
abbrev ms (k v:Int)(l:IMap):IMap:=xL8 (.int .i64) (.int .i64) k v l
theorem sZ5 (k v j:Int):∀ l:IMap,mf j (ms k v l)=if j=k then some v else mf j l
 |[]=>by
  show (bif (j==k) then some v else none)=_
  by_cases h:j=k
  ·simp[h]
  ·have:(j==k)=false:=by simpa using h
   rw[this,if_neg h];rfl
 |e::r=>by
  have ih:=sZ5 k v j r
  show yI5 (.int .i64) (.int .i64) j (bif (k==e.1) then (k,v,())::r else e::ms k v r)=if j=k then some v else (bif (j==e.1) then some e.2.1 else mf j r)
  by_cases hk:k=e.1
  ·have h1:(k==e.1)=true:=by simpa using hk
   rw[h1,jE]
   show (bif (j==k) then some v else mf j r)=_
   by_cases h:j=k
   ·simp[h]
   ·have h2:(j==k)=false:=by simpa using h
    have h3:(j==e.1)=false:=by rw[← hk];exact h2
    rw[h2,if_neg h,h3];rfl
  ·have h1:(k==e.1)=false:=by simpa using hk
   rw[h1,jD]
   show (bif (j==e.1) then some e.2.1 else mf j (ms k v r))=_
   rw[ih]
   by_cases h:j=e.1
   ·have h2:(j==e.1)=true:=by simpa using h
    have h3:j≠k:=fun q=>hk (by rw[← q,h])
    simp only[h2,if_neg h3]
   ·have h2:(j==e.1)=false:=by simpa using h
    rw[h2];simp only[jD]
def qK9 (l:List D49)(i:Int)(m:IMap):Prop:=
 (∀ k v,mf k m=some v→0≤v∧v<i∧(nth l v Z49).1=k∧((nth l v Z49).2.2.1=0∨∃ u,mf (nth l v Z49).2.2.1 m=some u∧u<v)) ∧
 (∀ j,0≤j→j<i→∃ v,mf (nth l j Z49).1 m=some v)
theorem fol2 (p:D28)(m:IMap)(i:Int)(hi:1≤i∧i<len p.2.2.2.1)(hn:len p.2.2.2.1≤64)(hP:qK9 p.2.2.2.1 i m):vR2 p m i:=by
 obtain⟨hP1,hP2⟩:=hP
 obtain⟨v0,hv0⟩:=hP2 (i-1) (by omega) (by omega)
 refine⟨xY3 (by omega) (by omega),⟨(show 0≤i-1 by omega),(show i-1<len p.2.2.2.1 by omega)⟩,?_⟩
 have w:=whole (g:=wI2 (m,i,p,())) (next:=wB2 (m,i,p,())) (ok:=wU1 (m,i,p,())) (fun x=>x.1=0∨∃ v,mf x.1 m=some v) (fun x=>if x.1=0 then 0 else ((mf x.1 m).getD 0).toNat+1) (fun x hx=>fun h3=>?_) (fun x hx hg=>?_) (x:=((nth p.2.2.2.1 (i-1) Z49).1,())) (.inr ⟨v0,hv0⟩) ?_
 ·exact w.1
 ·refine⟨⟨(show 0≤i by omega),hi.2⟩,fun _=>?_⟩
  have h0:x.1≠0:=by simpa using h3
  rcases hx with hx|⟨v,hv⟩
  ·exact absurd hx h0
  ·have:=hP1 _ _ hv
   show InB ((mf x.1 m).getD 0) (len p.2.2.2.1)
   rw[hv]
   exact⟨this.1,by show v<_;omega⟩
 ·simp only[wI2,wQ4,jB] at hg
  have h0:x.1≠0:=by simpa using hg.1
  rcases hx with hx|⟨v,hv⟩
  ·exact absurd hx h0
  ·obtain⟨q0,q1,q2,q3⟩:=hP1 _ _ hv
   have en:wB2 (m,i,p,()) x=((nth p.2.2.2.1 v Z49).2.2.1,()):=by
    show ((nth p.2.2.2.1 ((mf x.1 m).getD 0) Z49).2.2.1,())=_
    rw[hv];rfl
   rw[en]
   rcases q3 with q3|⟨u,q3,q4⟩
   ·refine⟨.inl q3,?_⟩
    simp only[q3,if_true,if_neg h0];omega
   ·refine⟨.inr ⟨u,q3⟩,?_⟩
    obtain⟨r0,_⟩:=hP1 _ _ q3
    simp only[if_neg h0,hv,Option.getD_some]
    split
    ·omega
    ·rw[q3];simp only[Option.getD_some];omega
 ·have:=hP1 _ _ hv0
  unfold zI1
  simp only
  split
  ·omega
  ·rw[hv0];simp only[Option.getD_some];omega
theorem oP (p:D28)(m:IMap)(i:Int):(vC3 p m i).1=m:=by
 simp only[vC3,tI0]
 cases wU2 _ _<;>rfl
def ordI (p:D28)(x:wL9):Prop:=(0≤x.2.2.1∧x.2.2.1≤len p.2.2.2.1)∧len x.2.1=len p.2.2.2.1∧(∀ q∈x.2.1,0≤q∧q≤8)∧qK9 p.2.2.2.1 x.2.2.1 x.1
theorem vS5 {l:List Int}{i v:Int}(h:InB i (len l)):nth (List.set l (Int.toNat i) v) i 0=v:=by
 obtain⟨h1,h2⟩:=h
 have h3:i.toNat<l.length:=by simp only[len] at h2;omega
 show (List.set l i.toNat v).getD i.toNat 0=v
 rw[jM,List.getElem?_set_self h3];rfl
theorem wM6 (p:D28)(m:IMap)(d:List Int)(i:Int):xZ4 (p,p.2.2.2.1,len p.2.2.2.1,()) (m,d,i,())=(ms (nth p.2.2.2.1 i Z49).1 i (bif ((nth p.2.2.2.1 i Z49).2.2.1 !=0) then (vC3 p m i).1 else m),(bif ((nth p.2.2.2.1 i Z49).2.2.1 !=0) then (List.set (List.set d (Int.toNat i) (1:Int)) (Int.toNat i) (nth (List.set d (Int.toNat i) (1:Int)) (Option.getD (yI5 (.int .i64) (.int .i64) (nth p.2.2.2.1 i Z49).2.2.1 m) (0:Int)) (0:Int)+1)) else (List.set d (Int.toNat i) (1:Int))),i+1,()):=rfl
theorem qL {o:Option Int}(h:Option.isSome o=true):∃ v,o=some v:=by
 cases o with
 |none=>cases h
 |some v=>exact⟨v,rfl⟩
theorem ord4 (p:D28)(hn:len p.2.2.2.1≤64)(hf:∀ n∈p.2.2.2.1,wJ8 n) :
  Am.Ends (wJ4 (p,p.2.2.2.1,len p.2.2.2.1,())) (xZ4 (p,p.2.2.2.1,len p.2.2.2.1,())) (vH8 (p,p.2.2.2.1,len p.2.2.2.1,())) (([]:IMap),(List.replicate (Int.toNat (len p.2.2.2.1)) (0:Int)),(0:Int),()):=by
 have h0n:=xT7 p.2.2.2.1
 have w:=whole (g:=wJ4 (p,p.2.2.2.1,len p.2.2.2.1,())) (next:=xZ4 (p,p.2.2.2.1,len p.2.2.2.1,())) (ok:=vH8 (p,p.2.2.2.1,len p.2.2.2.1,())) (ordI p) (fun x=>(len p.2.2.2.1-x.2.2.1).toNat) (fun x hx=>fun h3=>?_) (fun x hx hg=>?_) (x:=(([]:IMap),(List.replicate (Int.toNat (len p.2.2.2.1)) (0:Int)),(0:Int),()))
  ⟨⟨Int.le_refl 0,h0n⟩,by simp only[len,List.length_replicate];omega,fun q hq=>by rw[List.eq_of_mem_replicate hq];decide,fun k v hv=>by exact absurd (show (none:Option Int)=some v from hv) (by simp),fun j h1 h2=>by exact absurd (show j<0 from h2) (by omega)⟩ (by unfold zI1;simp only;omega)
 ·exact w.1
 ·obtain⟨m,d,i,⟨⟩⟩:=x
  obtain⟨⟨h0,h1⟩,hd,hq,hP⟩:=hx
  simp only at h0 h1 hd hq hP
  have h4:i<len p.2.2.2.1:=jF h3
  have hl:len (List.set d (Int.toNat i) (1:Int))=len p.2.2.2.1:=by rw[wC0];exact hd
  have hib:InB i (len d):=by rw[hd];exact⟨h0,h4⟩
  have hil:InB i (len (List.set d (Int.toNat i) (1:Int))):=by rw[hl];exact⟨h0,h4⟩
  have ksome:(!(!(Option.isSome (mf (nth p.2.2.2.1 i Z49).2.2.1 m))))=true→∃ v,mf (nth p.2.2.2.1 i Z49).2.2.1 m=some v∧0≤v∧v<i:=fun hs=>by
   rw[Bool.not_not] at hs
   obtain⟨v,hv⟩:=qL hs
   have:=hP.1 _ _ hv
   exact⟨v,hv,this.1,this.2.1⟩
  have k66:(!(bif (!(Option.isSome (mf (nth p.2.2.2.1 i Z49).2.2.1 m))) then true else ((nth p.2.2.2.1 (Option.getD (mf (nth p.2.2.2.1 i Z49).2.2.1 m) (0:Int)) Z49).2.1 !=1)))=true→(!(!(Option.isSome (mf (nth p.2.2.2.1 i Z49).2.2.1 m))))=true:=fun hs=>by
   cases hc:(!(Option.isSome (mf (nth p.2.2.2.1 i Z49).2.2.1 m))) with
   |true=>rw[hc] at hs;simp at hs
   |false=>rfl
  refine⟨⟨h0,h4⟩,oE3 _ _ _ (hf _ (wA3 ⟨h0,h4⟩)),fun _ _ _=>⟨hib,hib.2,fun _=>⟨fun h66=>?_,fun h75=>?_⟩,fun _=>?_⟩,fun _=>(show InR (i+1) from xY3 (by omega) (by omega))⟩
  ·obtain⟨v,hv,hv0,hv1⟩:=ksome h66
   show InB (Option.getD (mf (nth p.2.2.2.1 i Z49).2.2.1 m) (0:Int)) (len p.2.2.2.1)
   rw[hv]
   exact⟨hv0,by show v<_;omega⟩
  ·obtain⟨v,hv,hv0,hv1⟩:=ksome (k66 h75)
   have eg:Option.getD (mf (nth p.2.2.2.1 i Z49).2.2.1 m) (0:Int)=v:=by rw[hv];rfl
   have hvl:InB v (len (List.set d (Int.toNat i) (1:Int))):=by rw[hl];exact⟨hv0,by omega⟩
   have hmem:=tO5 (k:=Int.toNat i) hq (show (0:Int)≤1∧(1:Int)≤8 by omega) _ (wA3 (d:=(0:Int)) hvl)
   refine⟨fol2 p m i ⟨by omega,h4⟩ hn hP,?_,rfl,rfl,rfl,rfl,fun _=>?_⟩
   ·cases m with
    |nil=>cases hv
    |cons e r=>simp
   ·show InB (Option.getD (mf (nth p.2.2.2.1 i Z49).2.2.1 m) (0:Int)) _∧Option.getD (mf (nth p.2.2.2.1 i Z49).2.2.1 m) (0:Int)<_∧InR (nth (List.set d (Int.toNat i) (1:Int)) (Option.getD (mf (nth p.2.2.2.1 i Z49).2.2.1 m) (0:Int)) 0+1)∧_
    rw[eg]
    exact⟨hvl,hvl.2,xY3 (by omega) (by omega),hil,hil.2⟩
  ·show InB i (len (bif ((nth p.2.2.2.1 i Z49).2.2.1 !=0) then _ else _))∧i<len (bif ((nth p.2.2.2.1 i Z49).2.2.1 !=0) then _ else _)
   cases ((nth p.2.2.2.1 i Z49).2.2.1 !=0) with
   |true=>simp only[jE,wC0];rw[hd];exact⟨⟨h0,h4⟩,h4⟩
   |false=>simp only[jD,wC0];rw[hd];exact⟨⟨h0,h4⟩,h4⟩
 ·obtain⟨m,d,i,⟨⟩⟩:=x
  obtain⟨⟨h0,h1⟩,hd,hq,hP⟩:=hx
  simp only at h0 h1 hd hq hP
  simp only[wJ4,vL1] at hg
  rw[wM6]
  have h4:i<len p.2.2.2.1:=xZ1 hg
  simp only[jB] at hg
  obtain⟨_,_,_,hg50,hg3,hg93⟩:=hg
  have hnone:mf (nth p.2.2.2.1 i Z49).1 m=none:=by
   have:(Option.isSome (mf (nth p.2.2.2.1 i Z49).1 m))=false:=by simpa using hg50
   cases hc:mf (nth p.2.2.2.1 i Z49).1 m with
   |none=>rfl
   |some v=>rw[hc] at this;cases this
  have hl:len (List.set d (Int.toNat i) (1:Int))=len p.2.2.2.1:=by rw[wC0];exact hd
  have hil:InB i (len (List.set d (Int.toNat i) (1:Int))):=by rw[hl];exact⟨h0,h4⟩
  have hq1:=tO5 (k:=Int.toNat i) hq (show (0:Int)≤1∧(1:Int)≤8 by omega)
  have hpar:((nth p.2.2.2.1 i Z49).2.2.1 !=0)=true→∃ v,mf (nth p.2.2.2.1 i Z49).2.2.1 m=some v∧0≤v∧v<i:=fun h57=>by
   rw[h57] at hg3
   simp only[jE,jB] at hg3
   cases hc:(Option.isSome (mf (nth p.2.2.2.1 i Z49).2.2.1 m)) with
   |false =>
    have h75:=hg3.1
    rw[show yI5 (.int .i64) (.int .i64) (nth p.2.2.2.1 i Z49).2.2.1 m=mf (nth p.2.2.2.1 i Z49).2.2.1 m from rfl,hc] at h75
    exact absurd h75 (by simp)
   |true =>
    obtain⟨v,hv⟩:=qL hc
    have:=hP.1 _ _ hv
    exact⟨v,hv,this.1,this.2.1⟩
  have hpn:∀ v,mf (nth p.2.2.2.1 i Z49).2.2.1 m=some v→(nth p.2.2.2.1 i Z49).2.2.1≠(nth p.2.2.2.1 i Z49).1:=fun v hv q=>by
   rw[q,hnone] at hv;cases hv
  refine⟨⟨⟨(show 0≤i+1 by omega),(show i+1≤len p.2.2.2.1 by omega)⟩,?_,?_,?_⟩,(show (len p.2.2.2.1-(i+1)).toNat<(len p.2.2.2.1-i).toNat by omega)⟩
  ·show len (bif ((nth p.2.2.2.1 i Z49).2.2.1 !=0) then _ else _)=_
   cases ((nth p.2.2.2.1 i Z49).2.2.1 !=0) with
   |true=>simp only[jE,wC0];exact hd
   |false=>simp only[jD,wC0];exact hd
  ·show ∀ q∈(bif ((nth p.2.2.2.1 i Z49).2.2.1 !=0) then _ else _),0≤q∧q≤8
   cases h57:((nth p.2.2.2.1 i Z49).2.2.1 !=0) with
   |false=>exact hq1
   |true =>
    obtain⟨v,hv,hv0,hv1⟩:=hpar h57
    have eg:Option.getD (yI5 (.int .i64) (.int .i64) (nth p.2.2.2.1 i Z49).2.2.1 m) (0:Int)=v:=by
     show Option.getD (mf (nth p.2.2.2.1 i Z49).2.2.1 m) (0:Int)=v
     rw[hv];rfl
    have hvl:InB v (len (List.set d (Int.toNat i) (1:Int))):=by rw[hl];exact⟨hv0,by omega⟩
    have hmem:=hq1 _ (wA3 (d:=(0:Int)) hvl)
    simp only[h57,jE,eg] at hg93
    rw[vS5 hil] at hg93
    have hg93:¬ nth (List.set d (Int.toNat i) (1:Int)) v 0+1>8:=by simpa using hg93
    simp only[jE,eg]
    exact tO5 hq1 ⟨by omega,by omega⟩
  ·show qK9 p.2.2.2.1 (i+1) (ms (nth p.2.2.2.1 i Z49).1 i (bif ((nth p.2.2.2.1 i Z49).2.2.1 !=0) then (vC3 p m i).1 else m))
   have em:(bif ((nth p.2.2.2.1 i Z49).2.2.1 !=0) then (vC3 p m i).1 else m)=m:=by
    rw[oP];cases ((nth p.2.2.2.1 i Z49).2.2.1 !=0)<;>rfl
   rw[em]
   refine⟨fun k v hv=>?_,fun j hj0 hj1=>?_⟩
   ·rw[sZ5] at hv
    by_cases hk:k=(nth p.2.2.2.1 i Z49).1
    ·rw[if_pos hk] at hv
     have hv:i=v:=by injection hv
     subst hv
     refine⟨h0,by omega,hk.symm,?_⟩
     cases h57:((nth p.2.2.2.1 i Z49).2.2.1 !=0) with
     |false=>exact .inl (by simpa using h57)
     |true =>
      obtain⟨u,hu,hu0,hu1⟩:=hpar h57
      exact .inr ⟨u,by rw[sZ5,if_neg (hpn u hu)];exact hu,hu1⟩
    ·rw[if_neg hk] at hv
     obtain⟨q0,q1,q2,q3⟩:=hP.1 _ _ hv
     refine⟨q0,by omega,q2,?_⟩
     rcases q3 with q3|⟨u,q3,q4⟩
     ·exact .inl q3
     ·have hne:(nth p.2.2.2.1 v Z49).2.2.1≠(nth p.2.2.2.1 i Z49).1:=fun q=>by rw[q,hnone] at q3;cases q3
      exact .inr ⟨u,by rw[sZ5,if_neg hne];exact q3,q4⟩
   ·rw[sZ5]
    by_cases hji:(nth p.2.2.2.1 j Z49).1=(nth p.2.2.2.1 i Z49).1
    ·exact⟨i,if_pos hji⟩
    ·rw[if_neg hji]
     by_cases hje:j=i
     ·rw[hje] at hji;exact absurd rfl hji
     ·exact hP.2 j hj0 (by omega)
theorem oF2 (p:D28)(hn:len p.2.2.2.1≤64)(hf:∀ n∈p.2.2.2.1,wJ8 n):sL9 p:=⟨⟨xT7 _,Int.le_refl _,(show len p.2.2.2.1≤4294967296 by omega)⟩,ord4 p hn hf⟩
end Go.Proofs.YtpanghcojpnkaaaGreatDoor.Am
