/- node.Check answers for every node: the simple parts. Condition: lengths of Go slices. -/
import Derived.Test.YtpanghcojpnkaaaGreatDoorDocP4
import Derived.Test.YtpanghcojpnkaaaGreatDoorMach4
namespace Go.Proofs.YtpanghcojpnkaaaGreatDoor.Am
open Go Go.Am
theorem xZ7 {a n:Int}{b:Bool}(h:(decide (a<n)&&b)=true):a<n:=by
 simp only[Bool.and_eq_true,decide_eq_true_eq] at h;exact h.1
theorem xY6 {x:Int}(h1:-4611686018427387904≤x)(h2:x≤9223372036854775807):InR x:=by unfold InR;omega
theorem wE1 {x:Int}(h:InR x):IntKind.wrap .i64 x=x:=by unfold InR at h;rw[IntKind.wrap_i64];omega
theorem whole {X:Type}{g:X→Bool}{next:X→X}{ok:X→Prop}(inv:X→Prop)(m:X→Nat)(hok:∀ x,inv x→ok x)(hstep:∀ x,inv x→g x=true→inv (next x)∧m (next x)<m x){x:X}(hx:inv x)(hm:m x<zI1) :
  Am.Ends g next ok x∧inv (zC1 g next x)∧g (zC1 g next x)=false:=
 ⟨xQ2 inv m hok hstep hx hm,xQ1 inv m hstep hx hm⟩
theorem xZ4 {α:Type}{l:List α}{i:Int}{d:α}(h:InB i (len l)):nth l i d∈l:=by
 obtain⟨h1,h2⟩:=h
 have h3:i.toNat<l.length:=by simp only[len] at h2;omega
 show l.getD i.toNat d∈l
 rw[List.getD_eq_getElem?_getD,List.getElem?_eq_getElem h3]
 exact List.getElem_mem h3
theorem wC2 {α:Type}(l:List α)(i:Nat)(x:α):len (List.set l i x)=len l:=by simp[len]
theorem wI7 {α:Type}(l m:List α):len (l++m)=len l+len m:=by simp[len]
theorem rG7 {a b:Int}(ha:0≤a∧a≤256)(hb:0≤b∧b≤256):InR (a*b):=by
 have h1:0≤a*b:=Int.mul_nonneg ha.1 hb.1
 have h2:a*b≤256*256:=Int.mul_le_mul ha.2 hb.2 hb.1 (by omega)
 unfold InR;omega
theorem pO8 (p:Int):tD6 p:=trivial
theorem qT5 (p:Int):tU8 p:=trivial
theorem qT6 (p:Int):tU9 p:=trivial
theorem oW7 (p:Int):sM3 p:=trivial
theorem rS8 (p:Int):uM8 p:=trivial
theorem pO9 (p:Int):tD9 p:=trivial
theorem pP (p:Int):tE p:=trivial
theorem oW8 (p:Int):sL4 p:=trivial
theorem rG8 (p:D49):tD5 p:=trivial
theorem oW9 (p q:Int):sM4 p q:=trivial
theorem pP0 (p q:Int):tE6 p q:=trivial
theorem rS9 (p:Int):uN0 p:=trivial
theorem tB7 (p:D125):vN6 p:=trivial
theorem pP1 (p q r:Int):tG7 p q r:=trivial
theorem wC9 (p q:D125):wD0 p q:=trivial
theorem wJ6 (p q:D125):wH2 p q:=trivial
theorem sH5 (p q:Int):uB p q:=trivial
theorem tB8 (p:Int):vO7 p:=trivial
theorem sH6 (p q r:Int):uA3 p q r:=trivial
theorem tB9 (p:Int):vN1 p:=sH6 _ _ _
theorem vY (p:Int):vE0 p:=sH6 _ _ _
theorem tC (p:Int):vN3 p:=sH6 _ _ _
theorem rT (p:D37):uM9 p:=⟨tB9 _,tB9 _,tB9 _,tB9 _,vY _,vY _⟩
theorem uQ2 (p:D37):vY6 p:=rT p
theorem pP2 (p:D42):tE3 p:=⟨tC _,tC _,tC _,tC _⟩
theorem sH7 (p:D42):uR6 p:=pP2 p
theorem sH8 (p:D42):uA5 p:=sH7 p
theorem sH9 (a b:Int):uA1 a b:=fun h _=>by
 have:b≠0:=by intro e;subst e;simp at h
 exact⟨this,this⟩
theorem wA1 (a b:Int):wA9 a b:=fun _ _=>sH9 a b
theorem tC0 (a b c d:Int):vN2 a b c d:=⟨sH9 _ _,sH9 _ _,wA1 _ _⟩
theorem oX (p:D37):sM2 p:=⟨uQ2 _,fun _ _=>⟨wA1 _ _,wA1 _ _,wA1 _ _,wA1 _ _,uQ2 _,fun _=>⟨tC0 _ _ _ _,tC0 _ _ _ _,uQ2 _⟩⟩⟩
theorem pP3 (p:D37)(q:D125):tF2 p q:=⟨rT _,vY _,vY _,tC0 _ _ _ _,vY _,tC0 _ _ _ _,vY _⟩
theorem rT0 (p:D37)(q:D125):uN2 p q:=⟨pP3 _ _,wA1 _ _,wA1 _ _⟩
theorem pP4 (s:List UInt8)(h:len s<9223372036854775808):tD8 s:=fun _ =>
 xV5 (xT8 s) h (fun _ h=>xZ7 h) (fun _=>rfl) fun x h1 _=>fun h3=>by
  have h4:x.1<len s:=of_decide_eq_true h3
  exact⟨⟨h1,h4⟩,fun _=>⟨h1,h4⟩,fun _=>xY6 (by omega) (by omega)⟩
theorem qT7 (p:D24)(h:len p.2.2.1<9223372036854775808):tU6 p:=fun h0=>by
 have hb:(0≤p.1∧p.1≤256)∧(0≤p.2.1∧p.2.1≤256):=by
  simp only[Bool.not_eq_true',Bool.cond_true_left,Bool.or_eq_false_iff,decide_eq_false_iff_not] at h0
  omega
 exact⟨fun _=>rG7 hb.1 hb.2,fun _=>xV5 (xT8 p.2.2.1) h (fun _ h=>xZ7 h) (fun _=>rfl) fun x h1 _=>fun h3=>by
  have h4:x.1<len p.2.2.1:=of_decide_eq_true h3
  exact⟨⟨h1,h4⟩,oW8 _,fun _=>xY6 (by omega) (by omega)⟩⟩
theorem qT8 (p:D40)(h:len p.2.2.1<9223372036854775808):tV p:=⟨oW9 _ _,fun h0=>by
  have hb:(0≤p.1∧p.1≤256)∧(0≤p.2.1∧p.2.1≤256):=by
   have h0:f84 p.1 p.2.1=true:=by simpa using h0
   simp only[f84,f84t,Bool.cond_false_right,Bool.and_eq_true,decide_eq_true_eq] at h0
   omega
  exact rG7 hb.1 hb.2,fun _=>xV5 (xT8 p.2.2.1) h (fun _ h=>xZ7 h) (fun _=>rfl) fun x h1 _=>fun h3=>by
  have h4:x.1<len p.2.2.1:=of_decide_eq_true h3
  exact⟨⟨h1,h4⟩,sH7 _,fun _=>xY6 (by omega) (by omega)⟩⟩
theorem oX0 (p:D49)(w h:Int)(hn:len p.2.2.2.1<9223372036854775808)(hm:len p.2.2.2.2.2.2.2.2.2.1.2.2.1<9223372036854775808):sM0 p w h:=
 fun _=>⟨pO8 _,fun _=>⟨pP4 _ hn,fun _=>⟨rS8 _,fun _=>rS8 _,fun _=>pO9 _,fun _=>⟨pP _,fun _=>rG8 _,fun _=>qT7 _ hm⟩⟩⟩⟩
theorem pP5 (a:Int)(l:List Int)(b n:Int)(h:len l<9223372036854775808):tE8 a l b n:=fun _=>by
 refine⟨pP0 _ _,fun hc _=>⟨xV5 (xT8 l) h (fun _ h=>xZ7 h) (fun _=>rfl) fun x h1 _=>fun h3=>?_,?_⟩⟩
 ·have h4:x.1<len l:=of_decide_eq_true h3
  exact⟨⟨h1,h4⟩,fun _=>xY6 (by omega) (by omega)⟩
 ·intro _ hk
  have:len l=4∨len l=3:=by
   simp only[Bool.not_eq_true',Bool.cond_true_left,Bool.or_eq_false_iff,Bool.not_eq_false'] at hc
   have h1:=hc.1
   simp only[f139,pC6] at h1
   cases hq:(a==1)<;>simp[hq] at h1<;>omega
  unfold InB;omega
theorem pP6 (l:List D122)(h:len l<9223372036854775808):tF l:=
 xV5 (xT8 l) h (fun _ h=>xZ7 h) (fun _=>rfl) fun x h1 _=>fun h3=>by
  have h4:x.1<len l:=of_decide_eq_true h3
  exact⟨⟨h1,h4⟩,fun _=>sH7 _,fun _=>⟨fun h5=>by have h5:=of_decide_eq_true h5;exact xY6 (by omega) (by omega),fun h5=>by have h5:=of_decide_eq_true h5;exact⟨(show 0≤x.1-1 by omega),(show x.1-1<len l by omega)⟩⟩,fun _=>xY6 (by omega) (by omega)⟩
theorem pP7 (a:Int)(l:List Int)(b:Int)(m:List D122)(h:len l<9223372036854775808)(h':len m<9223372036854775808):tF0 a l b m:=⟨pP5 _ _ _ _ h,fun _=>pP6 _ h'⟩
theorem pP8 (p q:Int):tL2 p q:=trivial
theorem pP9 (p q:Int):tL3 p q:=trivial
theorem pQ (p:Int):tM0 p:=trivial
theorem pQ0 (a:Int)(l:List Int)(m:List D122)(hl:len l<9223372036854775808)(hm:len m<9223372036854775808)(h9:a=9→len l=3):tL6 a l m:=
 ⟨xV5 (xT8 l) hl (fun _ h=>xZ7 h) (fun _=>rfl) fun x h1 _=>fun h3=>by
  have h4:x.1<len l:=of_decide_eq_true h3
  exact⟨⟨h1,h4⟩,pP9 _ _,fun _=>xY6 (by omega) (by omega)⟩,
  fun _=>by
  have key:∀ b:Bool,((a==9)=true→b=true→False)∨True:=fun _=>.inr trivial
  have e3:∀ c:Bool,(bif (a==9) then c else false)=true→len l=3:=fun c h=>by
   cases hq:(a==9) with
   |true=>exact h9 (by simpa using hq)
   |false=>simp[hq] at h
  refine⟨fun h=>?_,fun h=>?_,fun h=>?_,fun _=>xV5 (xT8 m) hm (fun _ h=>xZ7 h) (fun _=>rfl) fun x h1 _=>fun h3=>?_⟩
  ·have:=h9 (by simpa using h);unfold InB;omega
  ·have:=e3 _ h;unfold InB;omega
  ·cases hq:(a==9) with
   |true=>have:=h9 (by simpa using hq);unfold InB;omega
   |false=>simp[hq] at h
  ·have h4:x.1<len m:=of_decide_eq_true h3
   exact⟨⟨h1,h4⟩,fun _=>sH7 _,fun _=>xY6 (by omega) (by omega)⟩⟩
theorem pQ1 (a:Int)(l:List Int)(m:List D122)(hm:len m<9223372036854775808)(h2:a=2→len l=5)(h3:a=3→len l≤16):tL9 a l m:=by
 refine⟨fun h=>?_,fun h=>?_,fun _=>⟨fun h=>?_,fun _=>?_⟩⟩
 ·have:=h2 (by simpa using h);unfold InB;omega
 ·have:=h2 (by simpa using h);unfold InB;omega
 ·have hl:=h3 (by simpa using h)
  refine xQ2 (fun x=>2≤x.1∧x.1≤18) (fun x=>(20-x.1).toNat) (fun x hx=>fun hg=>?_) (fun x hx hg=>?_) ⟨by decide,by decide⟩ (by simp[zI1])
  ·have h4:x.1<len l:=of_decide_eq_true hg
   exact⟨⟨by omega,h4⟩,xY6 (by omega) (by omega),⟨(show 0≤x.1-2 by omega),(show x.1-2<len l by omega)⟩,fun _=>xY6 (by omega) (by omega)⟩
  ·have h4:x.1<len l:=xZ7 hg
   exact⟨(show 2≤x.1+2∧x.1+2≤18 by omega),(show (20-(x.1+2)).toNat<(20-x.1).toNat by omega)⟩
 ·have e:(bif (a==3) then m else m)=m:=by cases (a==3)<;>rfl
  show Am.Ends (vW1 ((bif (a==3) then m else m),())) (wV6 ((bif (a==3) then m else m),())) (wZ5 ((bif (a==3) then m else m),())) (1,())
  rw[e]
  refine xQ2 (fun x=>1≤x.1) (fun x=>(len m-x.1).toNat) (fun x hx=>fun hg=>?_) (fun x hx hg=>?_) (by decide) (by unfold zI1;omega)
  ·have h4:x.1<len m:=of_decide_eq_true hg
   exact⟨⟨by omega,h4⟩,xY6 (by omega) (by omega),⟨(show 0≤x.1-1 by omega),(show x.1-1<len m by omega)⟩,fun _=>xY6 (by omega) (by omega)⟩
  ·have h4:x.1<len m:=xZ7 hg
   exact⟨(show 1≤x.1+1 by omega),(show (len m-(x.1+1)).toNat<(len m-x.1).toNat by omega)⟩
theorem pQ2 (a:Int)(l:List Int)(m:List D122)(hl:len l<9223372036854775808)(hm:len m<9223372036854775808):tM a l m:=by
 intro _
 refine⟨pP8 _ _,fun hc _=>?_⟩
 have hc:f133 a (len l)=true:=by
  simp only[Bool.cond_true_left,Bool.or_eq_false_iff,Bool.not_eq_false'] at hc
  exact hc.1
 have k9:a=9→len l=3:=by rintro rfl;simpa[f133,rZ5] using hc
 have k2:a=2→len l=5:=by rintro rfl;simpa[f133,rZ5] using hc
 have k3:a=3→len l≤16:=by
  rintro rfl
  simp only[f133,rZ5] at hc
  by_cases h:len l≤16
  ·exact h
  ·simp[h] at hc
 exact⟨pQ0 a l m hl hm k9,fun _=>pQ1 a l m hm k2 k3⟩
theorem pQ3 (a:Int)(l:List Int)(hl:len l<9223372036854775808):tM2 a l:=by
 intro _
 refine⟨pQ _,fun he=>?_⟩
 have he:len l=len (f136 a):=by simpa using he
 exact xV5 (xT8 l) hl (fun _ h=>xZ7 h) (fun _=>rfl) fun x h1 _=>fun h3=>by
  have h4:x.1<len l:=of_decide_eq_true h3
  exact⟨⟨h1,h4⟩,⟨h1,(show x.1<len (f136 a) by omega)⟩,fun _=>⟨h1,(show x.1<len (f136 a) by omega)⟩,fun _=>xY6 (by omega) (by omega)⟩
theorem pQ4 (p:D47)(h:len p.2.2.2.1<9223372036854775808):tM4 p:=fun h0=>by
 have hb:(0≤p.1∧p.1≤256)∧(0≤p.2.1∧p.2.1≤256):=by
  simp only[Bool.not_eq_true',Bool.cond_true_left,Bool.or_eq_false_iff,decide_eq_false_iff_not] at h0
  omega
 exact⟨fun _=>rG7 hb.1 hb.2,fun _=>xV5 (xT8 p.2.2.2.1) h (fun _ h=>xZ7 h) (fun _=>rfl) fun x h1 _=>fun h3=>by
  have h4:x.1<len p.2.2.2.1:=of_decide_eq_true h3
  exact⟨⟨h1,h4⟩,fun _=>xY6 (by omega) (by omega)⟩⟩
theorem sI (l:List (List D125))(r:Int)(h:len l<9223372036854775808)(hq:∀ q∈l,len q≤4611686018427387904):uA9 l r:=fun _=>by
 refine⟨?_,fun _=>?_⟩
 ·refine xQ2 (fun x=>(0≤x.1∧x.1≤4096)∧0≤x.2.1) (fun x=>(len l-x.2.1).toNat) (fun x hx=>fun hg=>?_) (fun x hx hg=>?_) ⟨⟨by decide,by decide⟩,by decide⟩ (by unfold zI1;simp only;omega)
  ·have h4:x.2.1<len l:=of_decide_eq_true hg
   have h5:=hq _ (xZ4 (d:=([]:List D125)) (i:=x.2.1) ⟨hx.2,h4⟩)
   have h6:=xT8 (nth l x.2.1 ([]:List D125))
   exact⟨⟨hx.2,h4⟩,xY6 (show _≤x.1+len (nth l x.2.1 ([]:List D125)) by omega) (show x.1+len (nth l x.2.1 ([]:List D125))≤_ by omega),fun _=>xY6 (by omega) (by omega)⟩
  ·have h4:x.2.1<len l:=xZ7 hg
   have h6:=xT8 (nth l x.2.1 ([]:List D125))
   have h7:x.1+len (nth l x.2.1 ([]:List D125))≤4096:=by
    have hg:(decide (x.2.1<len l)&&!(decide (x.1+len (nth l x.2.1 ([]:List D125))>4096)))=true:=hg
    simp only[Bool.and_eq_true,Bool.not_eq_true',decide_eq_false_iff_not] at hg
    omega
   exact⟨⟨(show 0≤x.1+len (nth l x.2.1 ([]:List D125))∧_ from ⟨by omega,h7⟩),(show 0≤x.2.1+1 by omega)⟩,(show (len l-(x.2.1+1)).toNat<(len l-x.2.1).toNat by omega)⟩
 ·exact xV5 (xT8 l) h (fun _ h=>xZ7 h) (fun _=>rfl) fun x h1 _=>fun h3=>by
   have h4:x.1<len l:=of_decide_eq_true h3
   have h5:=hq _ (xZ4 (d:=([]:List D125)) (i:=x.1) ⟨h1,h4⟩)
   exact⟨⟨h1,h4⟩,xV5 (xT8 _) (show len (nth l x.1 ([]:List D125))<_ by omega) (fun _ h=>xZ7 h) (fun _=>rfl) fun z k1 _=>fun k3=>by
    have k4:z.1<len (nth l x.1 ([]:List D125)):=of_decide_eq_true k3
    exact⟨⟨k1,k4⟩,fun _=>xY6 (by omega) (by omega)⟩,fun _=>xY6 (by omega) (by omega)⟩
end Go.Proofs.YtpanghcojpnkaaaGreatDoor.Am
