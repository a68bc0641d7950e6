/- Find, Below, ids and same in plain words. Condition: lengths of Go slices. -/
import Derived.Test.YtpanghcojpnkaaaGreatDoorDocNo
import Derived.Test.YtpanghcojpnkaaaGreatDoorDocX
import Derived.Test.YtpanghcojpnkaaaGreatDoorDocZ
namespace Go.Proofs.YtpanghcojpnkaaaGreatDoor.Am
open Go Go.Am
theorem wL8 (p:D28)(k:Int)(hl:len p.2.2.2.1<9223372036854775808) :
  (f8 p k=-1∧∀ j:Nat,j<p.2.2.2.1.length→idL p.2.2.2.1 j≠k)∨∃ j:Nat,j<p.2.2.2.1.length∧f8 p k=(j:Int)∧idL p.2.2.2.1 j=k∧∀ u:Nat,u<j→idL p.2.2.2.1 u≠k:=by
 obtain⟨z,h1,h2,h3,h4,h5⟩:=xY2 (g:=wA5 (p.2.2.2.1,(k,()),len p.2.2.2.1,())) (next:=xY7 (p.2.2.2.1,(k,()),len p.2.2.2.1,())) (n:=len p.2.2.2.1) (c:=fun i=>(nth p.2.2.2.1 i Z49).1==k) (xT7 _) hl (fun _=>rfl) (fun _=>rfl)
 have e:f8 p k=(bif (decide (z<len p.2.2.2.1)&&((nth p.2.2.2.1 z Z49).1==k)) then z else -1):=by
  show (bif wO (p.2.2.2.1,(k,()),len p.2.2.2.1,()) (zC3 (wA5 (p.2.2.2.1,(k,()),len p.2.2.2.1,())) (xY7 (p.2.2.2.1,(k,()),len p.2.2.2.1,())) (0,())) then wL5 (p.2.2.2.1,(k,()),len p.2.2.2.1,()) (zC3 (wA5 (p.2.2.2.1,(k,()),len p.2.2.2.1,())) (xY7 (p.2.2.2.1,(k,()),len p.2.2.2.1,())) (0,())) else -1)=_
  rw[h3];rfl
 have ln:(p.2.2.2.1.length:Int)=len p.2.2.2.1:=rfl
 by_cases hz:z<len p.2.2.2.1
 ·right
  have h6:=h5 hz
  refine⟨z.toNat,by omega,?_,?_,fun u hu=>?_⟩
  ·rw[e,h6,decide_eq_true hz];show z=_;omega
  ·have:((z.toNat:Nat):Int)=z:=by omega
   simpa[idL,this] using h6
  ·have:=h4 (u:Int) (by omega) (by omega)
   simpa[idL] using this
 ·left
  refine⟨by rw[e,decide_eq_false hz];rfl,fun j hj=>?_⟩
  have:=h4 (j:Int) (by omega) (by omega)
  simpa[idL] using this
abbrev bf (k:Int)(l:List (Int×Bool×Unit)):Option Bool:=yI5 (.int .i64) .bool k l
abbrev bs (k:Int)(v:Bool)(l:List (Int×Bool×Unit)):List (Int×Bool×Unit):=xL8 (.int .i64) .bool k v l
theorem oP2 (k:Int)(v:Bool)(j:Int):∀ l,bf j (bs k v l)=if j=k then some v else bf j l
 |[]=>by
  show (bif (j==k) then some v else none)=_
  by_cases h:j=k
  ·simp[h]
  ·have:(j==k)=false:=by simpa using h
   rw[this,if_neg h];rfl
 |e::r=>by
  have ih:=oP2 k v j r
  show yI5 (.int .i64) .bool j (bif (k==e.1) then (k,v,())::r else e::bs k v r)=if j=k then some v else (bif (j==e.1) then some e.2.1 else bf j r)
  by_cases hk:k=e.1
  ·have h1:(k==e.1)=true:=by simpa using hk
   rw[h1,jE]
   show (bif (j==k) then some v else bf j r)=_
   by_cases h:j=k
   ·simp[h]
   ·have h2:(j==k)=false:=by simpa using h
    have h3:(j==e.1)=false:=by rw[← hk];exact h2
    rw[h2,if_neg h,h3];rfl
  ·have h1:(k==e.1)=false:=by simpa using hk
   rw[h1,jD]
   show (bif (j==e.1) then some e.2.1 else bf j (bs k v r))=_
   rw[ih]
   by_cases h:j=e.1
   ·have h2:(j==e.1)=true:=by simpa using h
    have h3:j≠k:=fun q=>hk (by rw[← q,h])
    simp only[h2,if_neg h3]
   ·have h2:(j==e.1)=false:=by simpa using h
    rw[h2];simp only[jD]
def belI (l:List D49)(q:Int)(x:wW3):Prop:=∃ i:Nat,x.2.2.1=(i:Int)∧(i:Int)≤len l∧x.1=(undL (idL l) (paL l) i q).map (idL l)∧len x.1≤i ∧
 ∀ k,Option.getD (bf k x.2.1) false=true↔∃ u,u<i∧Und (idL l) (paL l) q u∧idL l u=k
theorem pC3 (l:List D49)(q:Int)(a:List Int)(m:List (Int×Bool×Unit))(i:Int):wM4 (q,l,len l,()) (a,m,i,()) =
  (bif (bif ((nth l i Z49).2.2.1==q) then true else (Option.getD (bf (nth l i Z49).2.2.1 m) false)) then a++[(nth l i Z49).1] else a,bif (bif ((nth l i Z49).2.2.1==q) then true else (Option.getD (bf (nth l i Z49).2.2.1 m) false)) then bs (nth l i Z49).1 true m else m,i+1,()):=rfl
theorem wO0 (p:D28)(q:Int)(hn:len p.2.2.2.1≤4294967296):uJ0 p q∧f11 p q=(undL (idL p.2.2.2.1) (paL p.2.2.2.1) p.2.2.2.1.length q).map (idL p.2.2.2.1):=by
 have h0n:=xT7 p.2.2.2.1
 have w:=whole (g:=vX0 (q,p.2.2.2.1,len p.2.2.2.1,())) (next:=wM4 (q,p.2.2.2.1,len p.2.2.2.1,())) (ok:=vS2 (q,p.2.2.2.1,len p.2.2.2.1,())) (belI p.2.2.2.1 q) (fun x=>(len p.2.2.2.1-x.2.2.1).toNat) (fun x hx=>fun h3=>?_) (fun x hx hg=>?_) (x:=(([]:List Int),([]:List (Int×Bool×Unit)),(0:Int),()))
  ⟨0,rfl,by omega,rfl,by simp[len],fun k=>⟨fun h=>by exact absurd (show false=true from h) (by simp),fun ⟨u,hu,_⟩=>by omega⟩⟩ (by unfold zI1;simp only;omega)
 ·refine⟨w.1,?_⟩
  obtain⟨⟨i,hi0,hi1,hl,_⟩,hg⟩:=w.2
  show (zC3 (vX0 (q,p.2.2.2.1,len p.2.2.2.1,())) (wM4 (q,p.2.2.2.1,len p.2.2.2.1,())) (([]:List Int),([]:List (Int×Bool×Unit)),(0:Int),())).1=_
  rw[hl]
  have hg':¬ (zC3 (vX0 (q,p.2.2.2.1,len p.2.2.2.1,())) (wM4 (q,p.2.2.2.1,len p.2.2.2.1,())) (([]:List Int),([]:List (Int×Bool×Unit)),(0:Int),())).2.2.1<len p.2.2.2.1:=of_decide_eq_false hg
  have ln:(p.2.2.2.1.length:Int)=len p.2.2.2.1:=rfl
  have:i=p.2.2.2.1.length:=by omega
  rw[this]
 ·have h4:x.2.2.1<len p.2.2.2.1:=jF h3
  obtain⟨i,hi0,hi1,hl,hle,_⟩:=hx
  refine⟨⟨by omega,h4⟩,fun _=>?_,xY3 (by omega) (by omega)⟩
  have e:len x.1=(x.1.length:Int):=rfl
  show ((x.1.length+1:Nat):Int)≤4294967296
  omega
 ·have h4:x.2.2.1<len p.2.2.2.1:=jF hg
  obtain⟨i,hi0,hi1,hl,hle,hm⟩:=hx
  obtain⟨a,m,i',⟨⟩⟩:=x
  simp only at hi0 hl hle hm h4
  subst hi0
  rw[pC3]
  have hc:(bif ((nth p.2.2.2.1 (i:Int) Z49).2.2.1==q) then true else (Option.getD (bf (nth p.2.2.2.1 (i:Int) Z49).2.2.1 m) false))=true↔Und (idL p.2.2.2.1) (paL p.2.2.2.1) q i:=by
   rw[Bool.cond_true_left,Bool.or_eq_true,hm,beq_iff_eq]
   constructor
   ·rintro (h|⟨u,hu,h1,h2⟩)
    ·exact .top h
    ·exact .sub h1 hu h2.symm
   ·intro h
    cases h with
    |top h=>exact .inl h
    |@sub u _ h1 h2 h3=>exact .inr ⟨u,h2,h1,h3.symm⟩
  refine⟨?_,(show (len p.2.2.2.1-((i:Int)+1)).toNat<(len p.2.2.2.1-(i:Int)).toNat by omega)⟩
  cases hb:(bif ((nth p.2.2.2.1 (i:Int) Z49).2.2.1==q) then true else (Option.getD (bf (nth p.2.2.2.1 (i:Int) Z49).2.2.1 m) false)) with
  |true =>
   have hu:=hc.1 hb
   refine⟨i+1,by simp,by omega,?_,?_,fun k=>?_⟩
   ·rw[sP7,if_pos hu,List.map_append,← hl];rfl
   ·show len (a++[_])≤_
    rw[wI7,wJ7];omega
   ·show Option.getD (bf k (bs (nth p.2.2.2.1 (i:Int) Z49).1 true m)) false=true↔_
    rw[oP2]
    by_cases hk:k=(nth p.2.2.2.1 (i:Int) Z49).1
    ·rw[if_pos hk]
     exact⟨fun _=>⟨i,by omega,hu,hk.symm⟩,fun _=>rfl⟩
    ·rw[if_neg hk,hm k]
     constructor
     ·rintro⟨u,h1,h2,h3⟩;exact⟨u,by omega,h2,h3⟩
     ·rintro⟨u,h1,h2,h3⟩
      have:u≠i:=fun e=>hk (by rw[← h3,e];rfl)
      exact⟨u,by omega,h2,h3⟩
  |false =>
   have hu:¬ Und (idL p.2.2.2.1) (paL p.2.2.2.1) q i:=fun h=>by rw[hc.2 h] at hb;cases hb
   refine⟨i+1,by simp,by omega,?_,?_,fun k=>?_⟩
   ·rw[sP7,if_neg hu,List.append_nil];exact hl
   ·show len a≤_
    omega
   ·rw[show (bif false then bs (nth p.2.2.2.1 (i:Int) Z49).1 true m else m)=m from rfl,hm k]
    constructor
    ·rintro⟨u,h1,h2,h3⟩;exact⟨u,by omega,h2,h3⟩
    ·rintro⟨u,h1,h2,h3⟩
     have:u≠i:=fun e=>hu (by rw[← e];exact h2)
     exact⟨u,by omega,h2,h3⟩
end Go.Proofs.YtpanghcojpnkaaaGreatDoor.Am
namespace Go.Proofs.YtpanghcojpnkaaaGreatDoor.Am
open Go Go.Am
structure Valid (p:D28):Prop where
 head:f23 p=0
 len1:len p.2.2.2.1≤64
 len2:len p.2.2.2.2.2.2.2.1≤8
 next1:1≤p.2.2.2.2.1
 next2:p.2.2.2.2.1≤1073741824
 nodes:f24 p=0
 clips:f25 p=0
 links:f26 p=0
 refs:f27 p=0
 cyc:f28 p=false
 sel:f29 p.2.2.2.2.2.1=0
 size:(bif (p.2.2.2.2.2.1.1 !=0) then (bif (p.2.2.2.2.2.1.1 !=p.1) then true else (p.2.2.2.2.2.1.2.1 !=p.2.1)) else false)=false
 mta:f30 p.2.2.2.2.2.2.1=0
theorem ne_zero {x:Int}:(x !=0)=true↔x≠0:=by simp
theorem wX1 {b:Bool}{x y:Int}(h:(bif b then x else y)=0)(hx:b=true→x≠0):b=false∧y=0:=by
 cases b with
 |true=>exact absurd h (hx rfl)
 |false=>exact⟨rfl,h⟩
theorem wA1 (p:D28):f9 p=0↔Valid p:=by
 constructor
 ·intro h
  have h':(bif (f23 p !=0) then f23 p else (bif (bif (decide ((len p.2.2.2.1)>64)) then true else (decide ((len p.2.2.2.2.2.2.2.1)>8))) then (3:Int) else (bif (bif (decide (p.2.2.2.2.1<1)) then true else (decide (p.2.2.2.2.1>1073741824))) then (2:Int) else
   (bif (f24 p !=0) then f24 p else (bif (f25 p !=0) then f25 p else (bif (f26 p !=0) then f26 p else (bif (f27 p !=0) then f27 p else (bif f28 p then (11:Int) else (bif (f29 p.2.2.2.2.2.1 !=0) then f29 p.2.2.2.2.2.1 else (bif (bif (p.2.2.2.2.2.1.1 !=0) then (bif (p.2.2.2.2.2.1.1 !=p.1) then true else (p.2.2.2.2.2.1.2.1 !=p.2.1)) else false) then (15:Int) else (f30 p.2.2.2.2.2.2.1)))))))))))=0:=h
  obtain⟨a1,h1⟩:=wX1 h' ne_zero.1
  obtain⟨a2,h2⟩:=wX1 h1 (fun _=>by decide)
  obtain⟨a3,h3⟩:=wX1 h2 (fun _=>by decide)
  obtain⟨a4,h4⟩:=wX1 h3 ne_zero.1
  obtain⟨a5,h5⟩:=wX1 h4 ne_zero.1
  obtain⟨a6,h6⟩:=wX1 h5 ne_zero.1
  obtain⟨a7,h7⟩:=wX1 h6 ne_zero.1
  obtain⟨a8,h8⟩:=wX1 h7 (fun _=>by decide)
  obtain⟨a9,h9⟩:=wX1 h8 ne_zero.1
  obtain⟨a10,h10⟩:=wX1 h9 (fun _=>by decide)
  simp only[Bool.cond_true_left,jJ,decide_eq_false_iff_not] at a2 a3
  exact⟨by simpa using a1,by omega,by omega,by omega,by omega,by simpa using a4,by simpa using a5,by simpa using a6,by simpa using a7,a8,by simpa using a9,a10,h10⟩
 ·intro v
  show (bif (f23 p !=0) then f23 p else (bif (bif (decide ((len p.2.2.2.1)>64)) then true else (decide ((len p.2.2.2.2.2.2.2.1)>8))) then (3:Int) else (bif (bif (decide (p.2.2.2.2.1<1)) then true else (decide (p.2.2.2.2.1>1073741824))) then (2:Int) else
   (bif (f24 p !=0) then f24 p else (bif (f25 p !=0) then f25 p else (bif (f26 p !=0) then f26 p else (bif (f27 p !=0) then f27 p else (bif f28 p then (11:Int) else (bif (f29 p.2.2.2.2.2.1 !=0) then f29 p.2.2.2.2.2.1 else (bif (bif (p.2.2.2.2.2.1.1 !=0) then (bif (p.2.2.2.2.2.1.1 !=p.1) then true else (p.2.2.2.2.2.1.2.1 !=p.2.1)) else false) then (15:Int) else (f30 p.2.2.2.2.2.2.1)))))))))))=0
  have e1:decide ((len p.2.2.2.1)>64)=false:=decide_eq_false (by have:=v.len1;omega)
  have e2:decide ((len p.2.2.2.2.2.2.2.1)>8)=false:=decide_eq_false (by have:=v.len2;omega)
  have e3:decide (p.2.2.2.2.1<1)=false:=decide_eq_false (by have:=v.next1;omega)
  have e4:decide (p.2.2.2.2.1>1073741824)=false:=decide_eq_false (by have:=v.next2;omega)
  rw[v.head,v.nodes,v.clips,v.links,v.refs,v.cyc,v.sel,v.size,v.mta,e1,e2,e3,e4]
  rfl
theorem wO1 {p:D28}(v:Valid p):Tree (idL p.2.2.2.1) (paL p.2.2.2.1) p.2.2.2.1.length:=oF9 ((uN0 p v.len1).1 v.nodes)
theorem sZ7 {p:D28}(v:Valid p){i:Nat}(hi:i<p.2.2.2.1.length):∃ c,i+1+c≤p.2.2.2.1.length∧f11 p (idL p.2.2.2.1 i)=(List.range' (i+1) c).map (idL p.2.2.2.1) ∧
  ∀ j,j<p.2.2.2.1.length→(Und (idL p.2.2.2.1) (paL p.2.2.2.1) (idL p.2.2.2.1 i) j↔i<j∧j<i+1+c):=by
 obtain⟨c,h1,h2,h3⟩:=rT (wO1 v) hi
 exact⟨c,h1,by rw[(wO0 p _ (by have:=v.len1;omega)).2,h2],h3⟩
theorem vX4 {p:D28}(v:Valid p){i:Nat}(hi:i<p.2.2.2.1.length):f8 p (idL p.2.2.2.1 i)=(i:Int):=by
 rcases wL8 p (idL p.2.2.2.1 i) (by have:=v.len1;omega) with ⟨_,h⟩ | ⟨j,hj,h1,h2,_⟩
 ·exact absurd rfl (h i hi)
 ·rw[h1,(wO1 v).inj j i hj hi h2]
end Go.Proofs.YtpanghcojpnkaaaGreatDoor.Am
