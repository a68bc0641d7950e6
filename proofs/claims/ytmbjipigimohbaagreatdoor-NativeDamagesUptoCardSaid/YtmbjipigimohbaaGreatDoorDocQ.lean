/- Equality of nodes: the program's and the document's, each just where two nodes are the same. Condition: the value a Go value can be. -/
import Derived.Test.YtmbjipigimohbaaGreatDoorDocA
import Derived.Test.YtmbjipigimohbaaGreatDoorMach5
namespace Go.Proofs.YtmbjipigimohbaaGreatDoor.Am
open Go Go.Am
theorem uB7 {α:Type}{l:List α}(h:l.length≤maxLen):len l<9223372036854775808:=by
 unfold len;have:maxLen=9223372036854775807:=rfl;omega
theorem pQ9 {n:D52}(h:Ty.wf T52 n):tP5 n:=by
 obtain⟨_,_,_,h0,_,_,_,_,_,⟨_,_,⟨h1,_⟩,_⟩,_,_,⟨_,_,⟨h2,_⟩,_⟩,_,_,⟨h3,_⟩,_,⟨h4,_⟩,⟨h5,_⟩,_,_,_,_,h7,_,_,_,⟨_,_,_,⟨h6,_⟩,_⟩,_⟩:=h;exact⟨uB7 h0,uB7 h1,uB7 h2,uB7 h3,uB7 h4,uB7 h5,uB7 h7,uB7 h6⟩
end Go.Proofs.YtmbjipigimohbaaGreatDoor.Am
namespace Go.Proofs.YtmbjipigimohbaaGreatDoor.Am
open Go Go.Am
theorem qD3:sK6:=trivial
theorem pJ6 (p:D28):sK7 p:=by first|exact fun _ _=>qD3|trivial | (simp only[sK7,f60t];simp[qD3])
theorem pJ7 (s:List UInt8):sY2 s:=fun h0=>by
 have hs:len s≤32:=by
  simp only[Bool.not_eq_true',Bool.cond_true_left,Bool.or_eq_false_iff,decide_eq_false_iff_not] at h0;omega
 exact wQ8 (wO4 s) (by omega) (fun _ h=>wX0 h) (fun _=>rfl) fun x h1 _=>fun h3=>by
  have h4:x.1<len s:=of_decide_eq_true h3;exact⟨⟨h1,h4⟩,fun _=>⟨h1,h4⟩,fun _=>wV2 (by omega) (by omega)⟩
theorem rK9 (s:List UInt8)(a b:Int)(hs:len s<9223372036854775808):tP s a b:=fun _ =>
 wQ8 (wO4 s) hs (fun _ h=>wX0 h) (fun _=>rfl) fun x h1 _=>fun h3=>by
  have h4:x.1<len s:=of_decide_eq_true h3;exact⟨⟨h1,h4⟩,fun _=>⟨h1,h4⟩,fun _=>wV2 (by omega) (by omega)⟩
theorem pJ8 (l:List D80)(m:D80)(hl:len l≤4611686018427387904)(h1:len m.1<9223372036854775808)(h2:len m.2.1<9223372036854775808):sZ3 l m:=by
 have h0:=wO4 l;refine⟨rK9 _ _ _ h1,fun _=>⟨rK9 _ _ _ h2,fun _=>⟨fun hv=>?_,fun hv=>?_⟩⟩⟩
 ·exact wV2 (by omega) (by omega)
 ·have hv:len l>0:=of_decide_eq_true hv;exact⟨by omega,by omega⟩
theorem rL {α:Type}(l:List α)(i:Int)(n:Int)(h:len l≤n):len (List.take (Int.toNat i) l)≤n:=by
 simp only[len,List.length_take] at h ⊢;omega
theorem pJ9 (l:List D80)(hm:∀ m∈l,len m.1<9223372036854775808∧len m.2.1<9223372036854775808):sZ5 l:=fun h0=>by
 have hl:len l≤16:=by
  simp only[Bool.not_eq_true',decide_eq_false_iff_not] at h0;omega
 exact wQ8 (wO4 l) (by omega) (fun _ h=>wX0 h) (fun _=>rfl) fun x h1 h2=>fun h3=>by
  have h4:x.1<len l:=of_decide_eq_true h3;have hx:=hm _ (wZ7 (d:=Z80) ⟨h1,h4⟩);exact⟨⟨h1,h4⟩,⟨h1,h2⟩,pJ8 _ _ (rL l x.1 _ (by omega)) hx.1 hx.2,fun _=>wV2 (by omega) (by omega)⟩
theorem pR (l:List D52)(k:Int)(hl:len l<9223372036854775808) :
  xQ5 (wY6 (l,(k,()),len l,())) (wW4 (l,(k,()),len l,())) (vI6 (l,(k,()),len l,())) (0,()) ∧
  (0≤(zC4 (wY6 (l,(k,()),len l,())) (wW4 (l,(k,()),len l,())) (0,())).1):=by
 have w:=whole (g:=wY6 (l,(k,()),len l,())) (next:=wW4 (l,(k,()),len l,())) (ok:=vI6 (l,(k,()),len l,())) (fun x=>0≤x.1) (fun x=>(len l-x.1).toNat) (fun x hx=>fun h3=>?_) (fun x hx hg=>?_) (x:=(0,())) (Int.le_refl 0) (by unfold zJ0;simp only;omega)
 ·exact⟨w.1,w.2.1⟩
 ·have h4:x.1<len l:=of_decide_eq_true h3;exact⟨⟨hx,h4⟩,trivial,fun _=>wV2 (by omega) (by omega)⟩
 ·have h4:x.1<len l:=wX0 hg;exact⟨(show 0≤x.1+1 by omega),(show (len l-(x.1+1)).toNat<(len l-x.1).toNat by omega)⟩
theorem rH1 (p:D28)(k:Int)(hl:len p.2.2.2.1<9223372036854775808):sN7 p k∧(f92 p k<0∨InB (f92 p k) (len p.2.2.2.1)):=by
 have h:=pR p.2.2.2.1 k hl;refine⟨h.1,?_⟩;show (bif vM7 (p.2.2.2.1,(k,()),len p.2.2.2.1,()) (zC4 (wY6 (p.2.2.2.1,(k,()),len p.2.2.2.1,())) (wW4 (p.2.2.2.1,(k,()),len p.2.2.2.1,())) (0,())) then vM8 (p.2.2.2.1,(k,()),len p.2.2.2.1,()) (zC4 (wY6 (p.2.2.2.1,(k,()),len p.2.2.2.1,())) (wW4 (p.2.2.2.1,(k,()),len p.2.2.2.1,())) (0,())) else -1)<0∨InB (bif vM7 (p.2.2.2.1,(k,()),len p.2.2.2.1,()) (zC4 (wY6 (p.2.2.2.1,(k,()),len p.2.2.2.1,())) (wW4 (p.2.2.2.1,(k,()),len p.2.2.2.1,())) (0,())) then vM8 (p.2.2.2.1,(k,()),len p.2.2.2.1,()) (zC4 (wY6 (p.2.2.2.1,(k,()),len p.2.2.2.1,())) (wW4 (p.2.2.2.1,(k,()),len p.2.2.2.1,())) (0,())) else -1) (len p.2.2.2.1);generalize zC4 (wY6 (p.2.2.2.1,(k,()),len p.2.2.2.1,())) (wW4 (p.2.2.2.1,(k,()),len p.2.2.2.1,())) (0,())=z at h ⊢;cases he:vM7 (p.2.2.2.1,(k,()),len p.2.2.2.1,()) z with
 |false=>exact .inl (show (-1:Int)<0 by decide)
 |true =>
  have h4:z.1<len p.2.2.2.1:=wX0 he;exact .inr ⟨h.2,h4⟩
theorem qO6 (l:List D82)(n:D52)(hl:len l<9223372036854775808):uH l (n,()):=
 wQ8 (wO4 l) hl (fun _ h=>wX0 h) (fun _=>rfl) fun x h1 _=>fun h3=>by
  have h4:x.1<len l:=of_decide_eq_true h3;exact⟨⟨h1,h4⟩,trivial,fun _=>wV2 (by omega) (by omega)⟩
theorem pK (l:List D82)(n:D52)(hl:len l<9223372036854775808):uS5 l (n,()):=qO6 l n hl
theorem pK0 (p:D28)(hl:len p.2.2.2.1<9223372036854775808)(hk:len p.2.2.2.2.2.2.2.1<9223372036854775808):sY8 p:=
 wQ8 (wO4 p.2.2.2.1) hl (fun _ h=>wX0 h) (fun _=>rfl) fun x h1 _=>fun h3=>by
  have h4:x.1<len p.2.2.2.1:=of_decide_eq_true h3;refine⟨⟨h1,h4⟩,fun _=>pK _ _ hk,fun _ _=>⟨(rH1 _ _ hl).1,fun hv=>⟨?_,rG7 _⟩⟩,fun _=>wV2 (by omega) (by omega)⟩;rcases (rH1 p (nth p.2.2.2.1 x.1 Z52).2.2.2.2.2.2.2.2.2.2.2.2.2.2.2.2.2.2.2.2.2.2.2.2.2.2.1 hl).2 with h|h
  ·exact absurd (decide_eq_true h) (by simpa using hv)
  ·exact h
theorem pK1 (p:D28)(hl:len p.2.2.2.2.2.2.2.1≤8)(hm:∀ m∈p.2.2.2.2.2.2.2.1,len m.2.2.2.2.1.2.2.1<9223372036854775808):sY6 p:=
 wQ8 (wO4 p.2.2.2.2.2.2.2.1) (by omega) (fun _ h=>wX0 h) (fun _=>rfl) fun x h1 h2=>fun h3=>by
  have h4:x.1<len p.2.2.2.2.2.2.2.1:=of_decide_eq_true h3;have hx:=hm _ (wZ7 (d:=Z82) ⟨h1,h4⟩);have ht:=rL p.2.2.2.2.2.2.2.1 x.1 _ hl;refine⟨⟨h1,h4⟩,pJ7 _,fun _ _=>⟨⟨h1,h2⟩,?_,fun _=>qC6 _ hx⟩,fun _=>wV2 (by omega) (by omega)⟩;exact wQ8 (wO4 _) (Int.lt_of_le_of_lt ht (by decide)) (fun _ h=>wX0 h) (fun _=>rfl) fun z h1 _=>fun h3=>by
   have h4:z.1<len (List.take (Int.toNat x.1) p.2.2.2.2.2.2.2.1):=of_decide_eq_true h3;exact⟨⟨h1,h4⟩,fun _=>wV2 (by omega) (by omega)⟩
theorem pT7 (y:uZ0)(i:Int)(hi:i<len y.1.2.2.2.1)(h0:-1≤i)(hn:len y.1.2.2.2.1≤64) :
  xQ5 (vT7 y) (vF1 y) (uG9 y) (i,())∧(-1≤(zC4 (vT7 y) (vF1 y) (i,())).1∧(zC4 (vT7 y) (vF1 y) (i,())).1<len y.1.2.2.2.1):=by
 have w:=whole (g:=vT7 y) (next:=vF1 y) (ok:=uG9 y) (fun x=>-1≤x.1∧x.1<len y.1.2.2.2.1) (fun x=>(x.1+1).toNat) (fun x hx=>?_) (fun x hx hg=>?_) (x:=(i,())) ⟨h0,hi⟩ (by unfold zJ0;simp only;omega)
 ·exact⟨w.1,w.2.1⟩
 ·have hb:decide (x.1≥0)=true→InB x.1 (len y.1.2.2.2.1):=fun h=>⟨of_decide_eq_true h,hx.2⟩;exact⟨hb,fun h=>hb (by simp only[Bool.and_eq_true] at h;exact h.1),fun _=>wV2 (by omega) (by omega)⟩
 ·have h4:x.1≥0:=by
   simp only[vT7,sG4,Bool.cond_false_right,Bool.and_eq_true,decide_eq_true_eq] at hg;exact hg.1
  exact⟨⟨(show -1≤x.1-1 by omega),(show x.1-1<len y.1.2.2.2.1 by omega)⟩,(show (x.1-1+1).toNat<(x.1+1).toNat by omega)⟩
theorem pK2 (p:D28)(hn:len p.2.2.2.1≤64):sY0 p:=by
 have w:=whole (g:=tV4 ()) (next:=vP3 ()) (ok:=uS2 ()) (fun x=>x.1=p∧x.2.1=p.2.2.2.1∧x.2.2.1=len p.2.2.2.1∧0≤x.2.2.2.1∧x.2.2.2.1≤len p.2.2.2.1) (fun x=>(len p.2.2.2.1-x.2.2.2.1).toNat) (fun x hx=>fun h3=>?_) (fun x hx hg=>?_) (x:=(p,p.2.2.2.1,(len p.2.2.2.1),(0:Int),())) ⟨rfl,rfl,rfl,Int.le_refl 0,wO4 _⟩ (by unfold zJ0;simp only;omega)
 ·exact w.1
 ·obtain⟨a1,a7,a8,a9,⟨⟩⟩:=x;obtain⟨e1,e2,e3,h0,h1⟩:=hx;simp only at e1 e2 e3 h0 h1;subst e1 e2 e3;have h4:a9<len a1.2.2.2.1:=of_decide_eq_true h3;have hc:=pT7 (a1,nth a1.2.2.2.1 a9 Z52,a1.2.2.2.1,len a1.2.2.2.1,a9,()) (a9-1) (show a9-1<len a1.2.2.2.1 by omega) (by omega) hn;refine⟨⟨h0,h4⟩,fun _=>⟨(show InR (a9-1) from wV2 (by omega) (by omega)),hc.1,fun hv=>⟨⟨?_,hc.2.2⟩,rG7 _⟩⟩,fun _=>wV2 ?_ ?_⟩
  ·have hv:=hv;simp only[Bool.not_eq_true',decide_eq_false_iff_not] at hv;exact Int.not_lt.1 hv
  ·show _≤(bif _ then a9 else a9)+1;cases (!(nth a1.2.2.2.1 a9 Z52).2.2.2.2.2.2.1)<;>simp only[cond_true,cond_false]<;>omega
  ·show (bif _ then a9 else a9)+1≤_;cases (!(nth a1.2.2.2.1 a9 Z52).2.2.2.2.2.2.1)<;>simp only[cond_true,cond_false]<;>omega
 ·obtain⟨a1,a7,a8,a9,⟨⟩⟩:=x;obtain⟨e1,e2,e3,h0,h1⟩:=hx;simp only at e1 e2 e3 h0 h1;subst e1 e2 e3;have h4:a9<len a1.2.2.2.1:=wX0 hg;have en:vP3 () (a1,a1.2.2.2.1,len a1.2.2.2.1,a9,())=(a1,a1.2.2.2.1,len a1.2.2.2.1,a9+1,()):=by
   simp only[vP3,tD2];cases (!(nth a1.2.2.2.1 a9 Z52).2.2.2.2.2.2.1)<;>rfl
  rw[en];exact⟨⟨rfl,rfl,rfl,(show 0≤a9+1 by omega),(show a9+1≤len a1.2.2.2.1 by omega)⟩,(show (len a1.2.2.2.1-(a9+1)).toNat<(len a1.2.2.2.1-a9).toNat by omega)⟩
abbrev IMap:Type:=List (Int×Int×Unit)
abbrev mf (k:Int)(l:IMap):Option Int:=yR8 (.int .i64) (.int .i64) k l
abbrev ms (k v:Int)(l:IMap):IMap:=wD8 (.int .i64) (.int .i64) k v l
theorem qD4 (k v j:Int):∀ l:IMap,mf j (ms k v l)=if j=k then some v else mf j l
 |[]=>by
  show (bif (j==k) then some v else none)=_;by_cases h:j=k
  ·simp[h]
  ·have:(j==k)=false:=by simpa using h
   rw[this,if_neg h];rfl
 |e::r=>by
  have ih:=qD4 k v j r;show yR8 (.int .i64) (.int .i64) j (bif (k==e.1) then (k,v,())::r else e::ms k v r)=if j=k then some v else (bif (j==e.1) then some e.2.1 else mf j r);by_cases hk:k=e.1
  ·have h1:(k==e.1)=true:=by simpa using hk
   rw[h1,cond_true];show (bif (j==k) then some v else mf j r)=_;by_cases h:j=k
   ·simp[h]
   ·have h2:(j==k)=false:=by simpa using h
    have h3:(j==e.1)=false:=by rw[← hk];exact h2
    rw[h2,if_neg h,h3];rfl
  ·have h1:(k==e.1)=false:=by simpa using hk
   rw[h1,cond_false];show (bif (j==e.1) then some e.2.1 else mf j (ms k v r))=_;rw[ih];by_cases h:j=e.1
   ·have h2:(j==e.1)=true:=by simpa using h
    have h3:j≠k:=fun q=>hk (by rw[← q,h]);simp only[h2,if_neg h3]
   ·have h2:(j==e.1)=false:=by simpa using h
    rw[h2];simp only[cond_false]
def qD5 (l:List D52)(i:Int)(m:IMap):Prop:=
 (∀ k v,mf k m=some v→0≤v∧v<i∧(nth l v Z52).1=k∧((nth l v Z52).2.2.1=0∨∃ u,mf (nth l v Z52).2.2.1 m=some u∧u<v)) ∧
 (∀ j,0≤j→j<i→∃ v,mf (nth l j Z52).1 m=some v)
theorem fol2 (p:D28)(m:IMap)(i:Int)(hi:1≤i∧i<len p.2.2.2.1)(hn:len p.2.2.2.1≤64)(hP:qD5 p.2.2.2.1 i m):uS1 p m i:=by
 obtain⟨hP1,hP2⟩:=hP;obtain⟨v0,hv0⟩:=hP2 (i-1) (by omega) (by omega);refine⟨wV2 (by omega) (by omega),⟨(show 0≤i-1 by omega),(show i-1<len p.2.2.2.1 by omega)⟩,?_⟩;have w:=whole (g:=vZ7 (m,i,p,())) (next:=vJ3 (m,i,p,())) (ok:=vR3 (m,i,p,())) (fun x=>x.1=0∨∃ v,mf x.1 m=some v) (fun x=>if x.1=0 then 0 else ((mf x.1 m).getD 0).toNat+1) (fun x hx=>fun h3=>?_) (fun x hx hg=>?_) (x:=((nth p.2.2.2.1 (i-1) Z52).1,())) (.inr ⟨v0,hv0⟩) ?_
 ·exact w.1
 ·refine⟨⟨(show 0≤i by omega),hi.2⟩,fun _=>?_⟩;have h0:x.1≠0:=by simpa using h3
  rcases hx with hx|⟨v,hv⟩
  ·exact absurd hx h0
  ·have:=hP1 _ _ hv;show InB ((mf x.1 m).getD 0) (len p.2.2.2.1);rw[hv];exact⟨this.1,by show v<_;omega⟩
 ·simp only[vZ7,vP1,Bool.and_eq_true] at hg;have h0:x.1≠0:=by simpa using hg.1
  rcases hx with hx|⟨v,hv⟩
  ·exact absurd hx h0
  ·obtain⟨q0,q1,q2,q3⟩:=hP1 _ _ hv;have en:vJ3 (m,i,p,()) x=((nth p.2.2.2.1 v Z52).2.2.1,()):=by
    show ((nth p.2.2.2.1 ((mf x.1 m).getD 0) Z52).2.2.1,())=_;rw[hv];rfl
   rw[en];rcases q3 with q3|⟨u,q3,q4⟩
   ·refine⟨.inl q3,?_⟩;simp only[q3,if_true,if_neg h0];omega
   ·refine⟨.inr ⟨u,q3⟩,?_⟩;obtain⟨r0,_⟩:=hP1 _ _ q3;simp only[if_neg h0,hv,Option.getD_some];split
    ·omega
    ·rw[q3];simp only[Option.getD_some];omega
 ·have:=hP1 _ _ hv0;unfold zJ0;simp only;split
  ·omega
  ·rw[hv0];simp only[Option.getD_some];omega
theorem pT8 (p:D28)(m:IMap)(i:Int):(uK8 p m i).1=m:=by
 simp only[uK8,sG2];cases uS0 _ _<;>rfl
def ordI (p:D28)(x:vQ2):Prop:=(0≤x.2.2.1∧x.2.2.1≤len p.2.2.2.1)∧len x.2.1=len p.2.2.2.1∧(∀ q∈x.2.1,0≤q∧q≤8)∧qD5 p.2.2.2.1 x.2.2.1 x.1
theorem rC2 {l:List Int}{i v:Int}(h:InB i (len l)):nth (List.set l (Int.toNat i) v) i 0=v:=by
 obtain⟨h1,h2⟩:=h;have h3:i.toNat<l.length:=by simp only[len] at h2;omega
 show (List.set l i.toNat v).getD i.toNat 0=v;rw[List.getD_eq_getElem?_getD,List.getElem?_set_self h3];rfl
theorem rH2 (p:D28)(m:IMap)(d:List Int)(i:Int):vP2 (p,p.2.2.2.1,len p.2.2.2.1,()) (m,d,i,())=(ms (nth p.2.2.2.1 i Z52).1 i (bif ((nth p.2.2.2.1 i Z52).2.2.1 !=0) then (uK8 p m i).1 else m),(bif ((nth p.2.2.2.1 i Z52).2.2.1 !=0) then (List.set (List.set d (Int.toNat i) (1:Int)) (Int.toNat i) (nth (List.set d (Int.toNat i) (1:Int)) (Option.getD (yR8 (.int .i64) (.int .i64) (nth p.2.2.2.1 i Z52).2.2.1 m) (0:Int)) (0:Int)+1)) else (List.set d (Int.toNat i) (1:Int))),i+1,()):=rfl
theorem qD6 {o:Option Int}(h:Option.isSome o=true):∃ v,o=some v:=by
 cases o with
 |none=>cases h
 |some v=>exact⟨v,rfl⟩
theorem ord4 (p:D28)(hn:len p.2.2.2.1≤64)(hf:∀ n∈p.2.2.2.1,tP5 n) :
  xQ5 (uZ (p,p.2.2.2.1,len p.2.2.2.1,())) (vP2 (p,p.2.2.2.1,len p.2.2.2.1,())) (uG8 (p,p.2.2.2.1,len p.2.2.2.1,())) (([]:IMap),(List.replicate (Int.toNat (len p.2.2.2.1)) (0:Int)),(0:Int),()):=by
 have h0n:=wO4 p.2.2.2.1;have w:=whole (g:=uZ (p,p.2.2.2.1,len p.2.2.2.1,())) (next:=vP2 (p,p.2.2.2.1,len p.2.2.2.1,())) (ok:=uG8 (p,p.2.2.2.1,len p.2.2.2.1,())) (ordI p) (fun x=>(len p.2.2.2.1-x.2.2.1).toNat) (fun x hx=>fun h3=>?_) (fun x hx hg=>?_) (x:=(([]:IMap),(List.replicate (Int.toNat (len p.2.2.2.1)) (0:Int)),(0:Int),()))
  ⟨⟨Int.le_refl 0,h0n⟩,by simp only[len,List.length_replicate];omega,fun q hq=>by rw[List.eq_of_mem_replicate hq];decide,fun k v hv=>by exact absurd (show (none:Option Int)=some v from hv) (by simp),fun j h1 h2=>by exact absurd (show j<0 from h2) (by omega)⟩ (by unfold zJ0;simp only;omega)
 ·exact w.1
 ·obtain⟨m,d,i,⟨⟩⟩:=x;obtain⟨⟨h0,h1⟩,hd,hq,hP⟩:=hx;simp only at h0 h1 hd hq hP;have h4:i<len p.2.2.2.1:=of_decide_eq_true h3;have hl:len (List.set d (Int.toNat i) (1:Int))=len p.2.2.2.1:=by rw[vH];exact hd
  have hib:InB i (len d):=by rw[hd];exact⟨h0,h4⟩
  have hil:InB i (len (List.set d (Int.toNat i) (1:Int))):=by rw[hl];exact⟨h0,h4⟩
  have ksome:(!(!(Option.isSome (mf (nth p.2.2.2.1 i Z52).2.2.1 m))))=true→∃ v,mf (nth p.2.2.2.1 i Z52).2.2.1 m=some v∧0≤v∧v<i:=fun hs=>by
   rw[Bool.not_not] at hs;obtain⟨v,hv⟩:=qD6 hs;have:=hP.1 _ _ hv;exact⟨v,hv,this.1,this.2.1⟩
  have k66:(!(bif (!(Option.isSome (mf (nth p.2.2.2.1 i Z52).2.2.1 m))) then true else ((nth p.2.2.2.1 (Option.getD (mf (nth p.2.2.2.1 i Z52).2.2.1 m) (0:Int)) Z52).2.1 !=1)))=true→(!(!(Option.isSome (mf (nth p.2.2.2.1 i Z52).2.2.1 m))))=true:=fun hs=>by
   cases hc:(!(Option.isSome (mf (nth p.2.2.2.1 i Z52).2.2.1 m))) with
   |true=>rw[hc] at hs;simp at hs
   |false=>rfl
  refine⟨⟨h0,h4⟩,pJ5 _ _ _ (hf _ (wZ7 ⟨h0,h4⟩)),fun _ _ _=>⟨hib,hib.2,fun _=>⟨fun h66=>?_,fun h75=>?_⟩,fun _=>?_⟩,fun _=>(show InR (i+1) from wV2 (by omega) (by omega))⟩
  ·obtain⟨v,hv,hv0,hv1⟩:=ksome h66;show InB (Option.getD (mf (nth p.2.2.2.1 i Z52).2.2.1 m) (0:Int)) (len p.2.2.2.1);rw[hv];exact⟨hv0,by show v<_;omega⟩
  ·obtain⟨v,hv,hv0,hv1⟩:=ksome (k66 h75);have eg:Option.getD (mf (nth p.2.2.2.1 i Z52).2.2.1 m) (0:Int)=v:=by rw[hv];rfl
   have hvl:InB v (len (List.set d (Int.toNat i) (1:Int))):=by rw[hl];exact⟨hv0,by omega⟩
   have hmem:=sJ4 (k:=Int.toNat i) hq (show (0:Int)≤1∧(1:Int)≤8 by omega) _ (wZ7 (d:=(0:Int)) hvl);refine⟨fol2 p m i ⟨by omega,h4⟩ hn hP,?_,rfl,rfl,rfl,rfl,fun _=>?_⟩
   ·cases m with
    |nil=>cases hv
    |cons e r=>simp
   ·show InB (Option.getD (mf (nth p.2.2.2.1 i Z52).2.2.1 m) (0:Int)) _∧Option.getD (mf (nth p.2.2.2.1 i Z52).2.2.1 m) (0:Int)<_∧InR (nth (List.set d (Int.toNat i) (1:Int)) (Option.getD (mf (nth p.2.2.2.1 i Z52).2.2.1 m) (0:Int)) 0+1)∧_;rw[eg];exact⟨hvl,hvl.2,wV2 (by omega) (by omega),hil,hil.2⟩
  ·show InB i (len (bif ((nth p.2.2.2.1 i Z52).2.2.1 !=0) then _ else _))∧i<len (bif ((nth p.2.2.2.1 i Z52).2.2.1 !=0) then _ else _);cases ((nth p.2.2.2.1 i Z52).2.2.1 !=0) with
   |true=>simp only[cond_true,vH];rw[hd];exact⟨⟨h0,h4⟩,h4⟩
   |false=>simp only[cond_false,vH];rw[hd];exact⟨⟨h0,h4⟩,h4⟩
 ·obtain⟨m,d,i,⟨⟩⟩:=x;obtain⟨⟨h0,h1⟩,hd,hq,hP⟩:=hx;simp only at h0 h1 hd hq hP;simp only[uZ,tD0] at hg;rw[rH2];have h4:i<len p.2.2.2.1:=wX0 hg;simp only[Bool.and_eq_true] at hg;obtain⟨_,_,_,hg50,hg3,hg93⟩:=hg;have hnone:mf (nth p.2.2.2.1 i Z52).1 m=none:=by
   have:(Option.isSome (mf (nth p.2.2.2.1 i Z52).1 m))=false:=by simpa using hg50
   cases hc:mf (nth p.2.2.2.1 i Z52).1 m with
   |none=>rfl
   |some v=>rw[hc] at this;cases this
  have hl:len (List.set d (Int.toNat i) (1:Int))=len p.2.2.2.1:=by rw[vH];exact hd
  have hil:InB i (len (List.set d (Int.toNat i) (1:Int))):=by rw[hl];exact⟨h0,h4⟩
  have hq1:=sJ4 (k:=Int.toNat i) hq (show (0:Int)≤1∧(1:Int)≤8 by omega);have hpar:((nth p.2.2.2.1 i Z52).2.2.1 !=0)=true→∃ v,mf (nth p.2.2.2.1 i Z52).2.2.1 m=some v∧0≤v∧v<i:=fun h57=>by
   rw[h57] at hg3;simp only[cond_true,Bool.and_eq_true] at hg3;cases hc:(Option.isSome (mf (nth p.2.2.2.1 i Z52).2.2.1 m)) with
   |false =>
    have h75:=hg3.1;rw[show yR8 (.int .i64) (.int .i64) (nth p.2.2.2.1 i Z52).2.2.1 m=mf (nth p.2.2.2.1 i Z52).2.2.1 m from rfl,hc] at h75;exact absurd h75 (by simp)
   |true =>
    obtain⟨v,hv⟩:=qD6 hc;have:=hP.1 _ _ hv;exact⟨v,hv,this.1,this.2.1⟩
  have hpn:∀ v,mf (nth p.2.2.2.1 i Z52).2.2.1 m=some v→(nth p.2.2.2.1 i Z52).2.2.1≠(nth p.2.2.2.1 i Z52).1:=fun v hv q=>by
   rw[q,hnone] at hv;cases hv
  refine⟨⟨⟨(show 0≤i+1 by omega),(show i+1≤len p.2.2.2.1 by omega)⟩,?_,?_,?_⟩,(show (len p.2.2.2.1-(i+1)).toNat<(len p.2.2.2.1-i).toNat by omega)⟩
  ·show len (bif ((nth p.2.2.2.1 i Z52).2.2.1 !=0) then _ else _)=_;cases ((nth p.2.2.2.1 i Z52).2.2.1 !=0) with
   |true=>simp only[cond_true,vH];exact hd
   |false=>simp only[cond_false,vH];exact hd
  ·show ∀ q∈(bif ((nth p.2.2.2.1 i Z52).2.2.1 !=0) then _ else _),0≤q∧q≤8;cases h57:((nth p.2.2.2.1 i Z52).2.2.1 !=0) with
   |false=>exact hq1
   |true =>
    obtain⟨v,hv,hv0,hv1⟩:=hpar h57;have eg:Option.getD (yR8 (.int .i64) (.int .i64) (nth p.2.2.2.1 i Z52).2.2.1 m) (0:Int)=v:=by
     show Option.getD (mf (nth p.2.2.2.1 i Z52).2.2.1 m) (0:Int)=v;rw[hv];rfl
    have hvl:InB v (len (List.set d (Int.toNat i) (1:Int))):=by rw[hl];exact⟨hv0,by omega⟩
    have hmem:=hq1 _ (wZ7 (d:=(0:Int)) hvl);simp only[h57,cond_true,eg] at hg93;rw[rC2 hil] at hg93;have hg93:¬ nth (List.set d (Int.toNat i) (1:Int)) v 0+1>8:=by simpa using hg93
    simp only[cond_true,eg];exact sJ4 hq1 ⟨by omega,by omega⟩
  ·show qD5 p.2.2.2.1 (i+1) (ms (nth p.2.2.2.1 i Z52).1 i (bif ((nth p.2.2.2.1 i Z52).2.2.1 !=0) then (uK8 p m i).1 else m));have em:(bif ((nth p.2.2.2.1 i Z52).2.2.1 !=0) then (uK8 p m i).1 else m)=m:=by
    rw[pT8];cases ((nth p.2.2.2.1 i Z52).2.2.1 !=0)<;>rfl
   rw[em];refine⟨fun k v hv=>?_,fun j hj0 hj1=>?_⟩
   ·rw[qD4] at hv;by_cases hk:k=(nth p.2.2.2.1 i Z52).1
    ·rw[if_pos hk] at hv;have hv:i=v:=by injection hv
     subst hv;refine⟨h0,by omega,hk.symm,?_⟩;cases h57:((nth p.2.2.2.1 i Z52).2.2.1 !=0) with
     |false=>exact .inl (by simpa using h57)
     |true =>
      obtain⟨u,hu,hu0,hu1⟩:=hpar h57;exact .inr ⟨u,by rw[qD4,if_neg (hpn u hu)];exact hu,hu1⟩
    ·rw[if_neg hk] at hv;obtain⟨q0,q1,q2,q3⟩:=hP.1 _ _ hv;refine⟨q0,by omega,q2,?_⟩;rcases q3 with q3|⟨u,q3,q4⟩
     ·exact .inl q3
     ·have hne:(nth p.2.2.2.1 v Z52).2.2.1≠(nth p.2.2.2.1 i Z52).1:=fun q=>by rw[q,hnone] at q3;cases q3
      exact .inr ⟨u,by rw[qD4,if_neg hne];exact q3,q4⟩
   ·rw[qD4];by_cases hji:(nth p.2.2.2.1 j Z52).1=(nth p.2.2.2.1 i Z52).1
    ·exact⟨i,if_pos hji⟩
    ·rw[if_neg hji];by_cases hje:j=i
     ·rw[hje] at hji;exact absurd rfl hji
     ·exact hP.2 j hj0 (by omega)
theorem pK3 (p:D28)(hn:len p.2.2.2.1≤64)(hf:∀ n∈p.2.2.2.1,tP5 n):sX8 p:=⟨⟨wO4 _,Int.le_refl _,(show len p.2.2.2.1≤4294967296 by omega)⟩,ord4 p hn hf⟩
end Go.Proofs.YtmbjipigimohbaaGreatDoor.Am
namespace Go.Proofs.YtmbjipigimohbaaGreatDoor.Am
open Go Go.Am
def unb:List Bool→Nat
 |[]=>0
 |false::r=>unb r+1
 |true::r=>unb r
theorem sV3:∀ l:List Bool,unb l≤l.length
 |[]=>Nat.le_refl _
 |false::r=>by have:=sV3 r;simp only[unb,List.length_cons];omega
 |true::r=>by have:=sV3 r;simp only[unb,List.length_cons];omega
theorem qD7:∀ {l:List Bool}{i:Nat},i<l.length→l.getD i false=false→unb (List.set l i true)+1=unb l
 |[],i,h,_=>by simp at h
 |b::r,0,_,h=>by
  have:b=false:=h;subst this;rfl
 |b::r,i+1,h,h2=>by
  have ih:=qD7 (l:=r) (i:=i) (by simpa using h) h2;cases b with
  |false=>show unb (List.set r i true)+1+1=unb r+1;omega
  |true=>exact ih
def srcI (p:D28)(x:uC4):Prop:=(0≤x.2.1∧x.2.1≤len p.2.2.2.1)∧len x.1≤x.2.1∧∀ q∈x.1,InB q (len p.2.2.2.1)
theorem src5 (p:D28)(i:Int)(hi:InB i (len p.2.2.2.1))(hn:len p.2.2.2.1≤64) :
  xQ5 (uZ3 (i,p,p.2.2.2.1,len p.2.2.2.1,())) (vP6 (i,p,p.2.2.2.1,len p.2.2.2.1,())) (uH0 (i,p,p.2.2.2.1,len p.2.2.2.1,())) (([]:List Int),(0:Int),()) ∧
  srcI p (zC4 (uZ3 (i,p,p.2.2.2.1,len p.2.2.2.1,())) (vP6 (i,p,p.2.2.2.1,len p.2.2.2.1,())) (([]:List Int),(0:Int),())):=by
 have w:=whole (g:=uZ3 (i,p,p.2.2.2.1,len p.2.2.2.1,())) (next:=vP6 (i,p,p.2.2.2.1,len p.2.2.2.1,())) (ok:=uH0 (i,p,p.2.2.2.1,len p.2.2.2.1,())) (srcI p) (fun x=>(len p.2.2.2.1-x.2.1).toNat) (fun x hx=>fun h3=>?_) (fun x hx hg=>?_) (x:=(([]:List Int),(0:Int),())) ⟨⟨Int.le_refl 0,wO4 _⟩,Int.le_refl 0,fun q hq=>by cases hq⟩ (by unfold zJ0;simp only;omega)
 ·exact⟨w.1,w.2.1⟩
 ·have h4:x.2.1<len p.2.2.2.1:=of_decide_eq_true h3;obtain⟨⟨h0,h1⟩,h2,h5⟩:=hx;have e:len x.1=(x.1.length:Int):=rfl;exact⟨⟨h0,h4⟩,hi,fun _=>(show ((x.1.length+1:Nat):Int)≤4294967296 by omega),wV2 (by omega) (by omega)⟩
 ·have h4:x.2.1<len p.2.2.2.1:=of_decide_eq_true hg;obtain⟨⟨h0,h1⟩,h2,h5⟩:=hx;refine⟨⟨⟨(show 0≤x.2.1+1 by omega),(show x.2.1+1≤len p.2.2.2.1 by omega)⟩,?_,?_⟩,(show (len p.2.2.2.1-(x.2.1+1)).toNat<(len p.2.2.2.1-x.2.1).toNat by omega)⟩
  ·show len (bif _ then (x.1++[x.2.1]) else x.1)≤x.2.1+1;cases ((nth p.2.2.2.1 x.2.1 Z52).2.2.1==(nth p.2.2.2.1 i Z52).1) with
   |true=>rw[cond_true,vJ,vK4];omega
   |false=>rw[cond_false];omega
  ·show ∀ q∈(bif _ then (x.1++[x.2.1]) else x.1),InB q (len p.2.2.2.1);cases ((nth p.2.2.2.1 x.2.1 Z52).2.2.1==(nth p.2.2.2.1 i Z52).1) with
   |true=>exact uB6 h5 ⟨h0,h4⟩
   |false=>exact h5
theorem pK4 (p:D28)(i:Int)(hi:InB i (len p.2.2.2.1))(hn:len p.2.2.2.1≤64):sN8 p i∧len (f94 p i)≤64∧∀ q∈f94 p i,InB q (len p.2.2.2.1):=by
 have h5:=src5 p i hi hn;have hf:=rH1 p (nth p.2.2.2.1 i Z52).2.2.2.2.2.2.2.2.2.2.2.2.2.2.2.2.2.2.2.2.2.2.2.2.2.2.1 (by omega);refine⟨⟨hi,fun _=>h5.1,fun _ _=>⟨hi,hf.1,fun _=>(show (1:Int)≤4294967296 by decide)⟩⟩,?_⟩;simp only[f94,f94t,tD6];cases ((nth p.2.2.2.1 i Z52).2.1==1) with
 |true=>exact⟨by have:=h5.2.1;have:=h5.2.2.1;exact Int.le_trans h5.2.2.1 (Int.le_trans h5.2.1.2 hn),h5.2.2.2⟩
 |false =>
  simp only[cond_false];cases ((nth p.2.2.2.1 i Z52).2.1==10) with
  |false=>exact⟨(show (0:Int)≤64 by decide),fun q hq=>by cases hq⟩
  |true =>
   simp only[cond_true];cases hd:decide (f92 p (nth p.2.2.2.1 i Z52).2.2.2.2.2.2.2.2.2.2.2.2.2.2.2.2.2.2.2.2.2.2.2.2.2.2.1≥0) with
   |false=>exact⟨(show (0:Int)≤64 by decide),fun q hq=>by cases hq⟩
   |true =>
    refine⟨(show (1:Int)≤64 by decide),fun q hq=>?_⟩;rw[List.mem_singleton.1 hq];rcases hf.2 with h|h
    ·have:=of_decide_eq_true hd;omega
    ·exact h
def visI (p:D28)(u:Nat)(o:List Bool×List Bool×D28×Unit):Prop:=len o.1=len p.2.2.2.1∧len o.2.1=len p.2.2.2.1∧o.2.2.1=p∧unb o.2.1≤u
def visL (p:D28)(u:Nat)(l:List Int)(x:wW0):Prop:=(0≤x.2.2.2.1∧x.2.2.2.1≤len l)∧visI p u (x.1,x.2.1,x.2.2.1,())
def pR0 (p:D28)(k:Nat)(r:wW9):Prop:=∀ (i:Int) (d b:List Bool),len d=len p.2.2.2.1→len b=len p.2.2.2.1→InB i (len p.2.2.2.1)→unb b<k→(r i d b p ()).1∧visI p (unb b) (r i d b p ()).2.2
theorem vis5 {p:D28}{k u:Nat}{r:wW9}(hr:pR0 p k r)(hu:u<k)(i:Int)(l:List Int)(hl:len l≤64)(hq:∀ q∈l,InB q (len p.2.2.2.1))(d b:List Bool)(h0:visI p u (d,b,p,())) :
  xQ5 (vA8 r (i,(),l,len l,())) (wX2 r (i,(),l,len l,())) (vF4 r (i,(),l,len l,())) (d,b,p,(0:Int),()) ∧
  visL p u l (zC4 (vA8 r (i,(),l,len l,())) (wX2 r (i,(),l,len l,())) (d,b,p,(0:Int),())):=by
 have st:∀ x:wW0,visL p u l x→x.2.2.2.1<len l→(r (nth l x.2.2.2.1 (0:Int)) x.1 x.2.1 x.2.2.1 ()).1∧visI p u (r (nth l x.2.2.2.1 (0:Int)) x.1 x.2.1 x.2.2.1 ()).2.2:=fun x hx h4=>by
  obtain⟨⟨j0,j1⟩,v1,v2,v3,v4⟩:=hx;simp only at v1 v2 v3 v4;rw[v3];have:=hr (nth l x.2.2.2.1 (0:Int)) x.1 x.2.1 v1 v2 (hq _ (wZ7 ⟨j0,h4⟩)) (by omega);exact⟨this.1,this.2.1,this.2.2.1,this.2.2.2.1,Nat.le_trans this.2.2.2.2 v4⟩
 have w:=whole (g:=vA8 r (i,(),l,len l,())) (next:=wX2 r (i,(),l,len l,())) (ok:=vF4 r (i,(),l,len l,())) (visL p u l) (fun x=>(len l-x.2.2.2.1).toNat) (fun x hx=>fun h3=>?_) (fun x hx hg=>?_) (x:=(d,b,p,(0:Int),())) ⟨⟨Int.le_refl 0,wO4 l⟩,h0⟩ (by unfold zJ0;simp only;omega)
 ·exact⟨w.1,w.2.1⟩
 ·have h4:x.2.2.2.1<len l:=of_decide_eq_true h3;have j0:=hx.1.1;exact⟨⟨j0,h4⟩,(st x hx h4).1,fun _=>wV2 (by omega) (by omega)⟩
 ·have h4:x.2.2.2.1<len l:=wX0 hg;have j0:=hx.1.1;exact⟨⟨⟨(show 0≤x.2.2.2.1+1 by omega),(show x.2.2.2.1+1≤len l by omega)⟩,(st x hx h4).2⟩,(show (len l-(x.2.2.2.1+1)).toNat<(len l-x.2.2.2.1).toNat by omega)⟩
theorem qD8 (p:D28)(hn:len p.2.2.2.1≤64):∀ k,pR0 p k (vI7 k)
 |0=>fun i d b _ _ _ h=>absurd h (Nat.not_lt_zero _)
 |k+1=>fun i d b hd hb hi hu=>by
  have hr:=qD8 p hn k;have hid:InB i (len d):=by rw[hd];exact hi
  have hib:InB i (len b):=by rw[hb];exact hi
  show (uS7 (vI7 k) i d b p ()).1∧visI p (unb b) (uS7 (vI7 k) i d b p ()).2.2;generalize vI7 k=r at hr;have hs:=pK4 p i hi hn;have key:(bif (nth d i false) then true else (nth b i false))=false →
    xQ5 (vA8 r (i,(),f94 p i,len (f94 p i),())) (wX2 r (i,(),f94 p i,len (f94 p i),())) (vF4 r (i,(),f94 p i,len (f94 p i),())) (d,(List.set b (Int.toNat i) true),p,(0:Int),()) ∧
    visL p (unb b) (f94 p i) (zC4 (vA8 r (i,(),f94 p i,len (f94 p i),())) (wX2 r (i,(),f94 p i,len (f94 p i),())) (d,(List.set b (Int.toNat i) true),p,(0:Int),())) ∧
    ∀ x:wW0,x=zC4 (vA8 r (i,(),f94 p i,len (f94 p i),())) (wX2 r (i,(),f94 p i,len (f94 p i),())) (d,(List.set b (Int.toNat i) true),p,(0:Int),())→x.2.2.2.1<len (f94 p i)→visI p (unb b) (r (nth (f94 p i) x.2.2.2.1 (0:Int)) x.1 x.2.1 x.2.2.1 ()).2.2:=fun hv=>by
   have hbi:nth b i false=false:=by
    cases hc:nth d i false with
    |true=>rw[hc] at hv;cases hv
    |false=>rw[hc] at hv;exact hv
   have hil:i.toNat<b.length:=by have:=hib.2;have:=hib.1;simp only[len] at *;omega
   have hset:=qD7 hil hbi;have h5:=vis5 (u:=unb (List.set b (Int.toNat i) true)) hr (by omega) i (f94 p i) hs.2.1 hs.2.2 d (List.set b (Int.toNat i) true) ⟨hd,by show len (List.set b _ true)=_;rw[vH];exact hb,rfl,Nat.le_refl _⟩;have up:∀ o,visI p (unb (List.set b (Int.toNat i) true)) o→visI p (unb b) o:=fun o ho=>⟨ho.1,ho.2.1,ho.2.2.1,by have:=ho.2.2.2;omega⟩;refine⟨h5.1,⟨h5.2.1,up _ h5.2.2⟩,fun x hx h4=>?_⟩;have hx5:=h5.2;rw[← hx] at hx5;obtain⟨⟨j0,j1⟩,v1,v2,v3,v4⟩:=hx5;simp only at v1 v2 v3 v4;rw[v3];have:=hr (nth (f94 p i) x.2.2.2.1 (0:Int)) x.1 x.2.1 v1 v2 (hs.2.2 _ (wZ7 ⟨j0,h4⟩)) (by omega);exact up _ ⟨this.2.1,this.2.2.1,this.2.2.2.1,Nat.le_trans this.2.2.2.2 v4⟩
  simp only[uS7];cases hv:(bif (nth d i false) then true else (nth b i false)) with
  |true =>
   simp only[cond_true,Bool.not_true];exact⟨⟨hid,hid.2,fun _=>hib,fun _=>hib.2,fun _=>⟨hid,hid.2⟩,fun hf=>Bool.noConfusion hf⟩,hd,hb,rfl,Nat.le_refl _⟩
  |false =>
   obtain⟨k1,k2,k3⟩:=key hv;simp only[cond_false,uD1,uD2,uD3,uD4,uD5,uD6];generalize zC4 (vA8 r (i,(),f94 p i,len (f94 p i),())) (wX2 r (i,(),f94 p i,len (f94 p i),())) (d,(List.set b (Int.toNat i) true),p,(0:Int),())=z at k2 k3;obtain⟨_,v1,v2,v3,v4⟩:=k2;simp only at v1 v2 v3 v4;have hz:InB i (len z.1):=by rw[v1];exact hi
   refine⟨⟨hid,hid.2,fun _=>hib,fun _=>hib.2,fun hf=>Bool.noConfusion hf,fun _=>⟨hib,hib.2,hs.1,k1,fun _=>⟨hz,hz.2⟩⟩⟩,?_⟩;cases he:uS6 r (i,(),f94 p i,len (f94 p i),()) z with
   |true=>exact k3 z rfl (wX0 he)
   |false=>exact⟨by show len (List.set z.1 _ true)=_;rw[vH];exact v1,v2,v3,v4⟩
def cycI (p:D28)(x:vM9):Prop:=(0≤x.2.2.2.1∧x.2.2.2.1≤len p.2.2.2.1)∧visI p (len p.2.2.2.1).toNat (x.2.2.1,x.2.1,x.1,())
theorem pK5 (p:D28)(hn:len p.2.2.2.1≤64):sZ2 p:=by
 have h0n:=wO4 p.2.2.2.1;have hlr:len (List.replicate (Int.toNat (len p.2.2.2.1)) false)=len p.2.2.2.1:=by simp only[len,List.length_replicate];omega
 have hu:∀ b:List Bool,len b=len p.2.2.2.1→unb b≤(len p.2.2.2.1).toNat:=fun b hb=>by
  have:=sV3 b;simp only[len] at hb ⊢;omega
 have st:∀ x:vM9,cycI p x→x.2.2.2.1<len p.2.2.2.1→tJ4 x.2.2.2.1 x.2.2.1 x.2.1 x.1 ()∧visI p (len p.2.2.2.1).toNat (sS1 x.2.2.2.1 x.2.2.1 x.2.1 x.1 ()):=fun x hx h4=>by
  obtain⟨⟨j0,j1⟩,v1,v2,v3,v4⟩:=hx;simp only at v1 v2 v3 v4;rw[v3];have hlt:unb x.2.1<x.2.2.1.length+1:=by have:=sV3 x.2.1;simp only[len] at v1 v2;omega
  have:=qD8 p hn (x.2.2.1.length+1) x.2.2.2.1 x.2.2.1 x.2.1 v1 v2 ⟨j0,h4⟩ hlt;exact⟨this.1,this.2.1,this.2.2.1,this.2.2.2.1,hu _ this.2.2.1⟩
 refine⟨⟨h0n,Int.le_refl _,(show len p.2.2.2.1≤4294967296 by omega)⟩,⟨h0n,Int.le_refl _,(show len p.2.2.2.1≤4294967296 by omega)⟩,?_⟩;have w:=whole (g:=tV7 ((),len p.2.2.2.1,())) (next:=uL7 ((),len p.2.2.2.1,())) (ok:=uS8 ((),len p.2.2.2.1,())) (cycI p) (fun x=>(len p.2.2.2.1-x.2.2.2.1).toNat) (fun x hx=>fun h3=>?_) (fun x hx hg=>?_) (x:=(p,(List.replicate (Int.toNat (len p.2.2.2.1)) false),(List.replicate (Int.toNat (len p.2.2.2.1)) false),(0:Int),())) ⟨⟨Int.le_refl 0,h0n⟩,hlr,hlr,rfl,hu _ hlr⟩ (by unfold zJ0;simp only;omega)
 ·exact w.1
 ·have h4:x.2.2.2.1<len p.2.2.2.1:=of_decide_eq_true h3;have j0:=hx.1.1;exact⟨(st x hx h4).1,fun _=>wV2 (by omega) (by omega)⟩
 ·have h4:x.2.2.2.1<len p.2.2.2.1:=wX0 hg;have j0:=hx.1.1;exact⟨⟨⟨(show 0≤x.2.2.2.1+1 by omega),(show x.2.2.2.1+1≤len p.2.2.2.1 by omega)⟩,(st x hx h4).2⟩,(show (len p.2.2.2.1-(x.2.2.2.1+1)).toNat<(len p.2.2.2.1-x.2.2.2.1).toNat by omega)⟩
def pR1 (p:D28):Prop:=
 (len p.2.2.2.1<9223372036854775808∧∀ n∈p.2.2.2.1,tP5 n)∧len p.2.2.2.2.2.1.2.2.1<9223372036854775808∧(∀ m∈p.2.2.2.2.2.2.1,len m.1<9223372036854775808∧len m.2.1<9223372036854775808)∧∀ m∈p.2.2.2.2.2.2.2.1,len m.2.2.2.2.1.2.2.1<9223372036854775808
theorem pK6 (p:D28)(h:pR1 p):tJ6 p:=by
 obtain⟨⟨h1,h2⟩,h3,h4,h5⟩:=h;have hb:(!(bif (decide ((len p.2.2.2.1)>64)) then true else (decide ((len p.2.2.2.2.2.2.2.1)>8))))=true→len p.2.2.2.1≤64∧len p.2.2.2.2.2.2.2.1≤8:=fun h0=>by
  simp only[Bool.not_eq_true',Bool.cond_true_left,Bool.or_eq_false_iff,decide_eq_false_iff_not] at h0;omega
 refine⟨pJ6 p,fun _ ha=>?_⟩;obtain⟨hn,hl⟩:=hb ha;exact fun _=>⟨pK3 p hn h2,fun _=>⟨pK2 p hn,fun _=>⟨pK1 p hl h5,fun _=>⟨pK0 p h1 (by omega),fun _=>⟨pK5 p hn,fun _=>⟨qC5 _ h3,fun _ _=>pJ9 _ h4⟩⟩⟩⟩⟩⟩
end Go.Proofs.YtmbjipigimohbaaGreatDoor.Am
