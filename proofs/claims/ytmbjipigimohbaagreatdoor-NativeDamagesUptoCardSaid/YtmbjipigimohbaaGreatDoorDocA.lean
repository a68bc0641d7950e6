/- node.Check answers for every node: the simple parts. Condition: lengths of Go slices. -/
import Derived.Test.YtmbjipigimohbaaGreatDoorDckP4
import Derived.Test.YtmbjipigimohbaaGreatDoorMach5
import Derived.Test.YtmbjipigimohbaaGreatDoorDocC1
import Derived.Test.YtmbjipigimohbaaGreatDoorDocC2
import Derived.Test.YtmbjipigimohbaaGreatDoorDocC3
import Derived.Test.YtmbjipigimohbaaGreatDoorDocC4
import Derived.Test.YtmbjipigimohbaaGreatDoorDocC5
import Derived.Test.YtmbjipigimohbaaGreatDoorDocC6
namespace Go.Proofs.YtmbjipigimohbaaGreatDoor.Am
open Go Go.Am
theorem wX0 {a n:Int}{b:Bool}(h:(decide (a<n)&&b)=true):a<n:=by
 simp only[Bool.and_eq_true,decide_eq_true_eq] at h;exact h.1
theorem wV2 {x:Int}(h1:-4611686018427387904≤x)(h2:x≤9223372036854775807):InR x:=by unfold InR;omega
theorem vB6 {x:Int}(h:InR x):IntKind.wrap .i64 x=x:=by unfold InR at h;rw[IntKind.wrap_i64];omega
theorem whole {X:Type}{g:X→Bool}{next:X→X}{ok:X→Prop}(inv:X→Prop)(m:X→Nat)(hok:∀ x,inv x→ok x)(hstep:∀ x,inv x→g x=true→inv (next x)∧m (next x)<m x){x:X}(hx:inv x)(hm:m x<zJ0) :
  xQ5 g next ok x∧inv (zC4 g next x)∧g (zC4 g next x)=false:=
 ⟨wK0 inv m hok hstep hx hm,wK inv m hstep hx hm⟩
theorem wZ7 {α:Type}{l:List α}{i:Int}{d:α}(h:InB i (len l)):nth l i d∈l:=by
 obtain⟨h1,h2⟩:=h;have h3:i.toNat<l.length:=by simp only[len] at h2;omega
 show l.getD i.toNat d∈l;rw[List.getD_eq_getElem?_getD,List.getElem?_eq_getElem h3];exact List.getElem_mem h3
theorem vH {α:Type}(l:List α)(i:Nat)(x:α):len (List.set l i x)=len l:=by simp[len]
theorem vJ {α:Type}(l m:List α):len (l++m)=len l+len m:=by simp[len]
theorem rG6 {a b:Int}(ha:0≤a∧a≤256)(hb:0≤b∧b≤256):InR (a*b):=by
 have h1:0≤a*b:=Int.mul_nonneg ha.1 hb.1;have h2:a*b≤256*256:=Int.mul_le_mul ha.2 hb.2 hb.1 (by omega);unfold InR;omega
theorem qK6 (p:Int):tY0 p:=trivial
theorem rJ4 (p:Int):tM5 p:=trivial
theorem rJ5 (p:Int):tM7 p:=trivial
theorem qK7 (p:Int):tY7 p:=trivial
theorem rJ6 (p:Int):tM4 p:=trivial
theorem qK8 (p:Int):tY3 p:=trivial
theorem qK9 (p:Int):tY4 p:=trivial
theorem pI9 (p:Int):sX p:=trivial
theorem rG7 (p:D52):tY p:=trivial
theorem pJ (p q:Int):sX1 p q:=trivial
theorem qL (p q:Int):tZ p q:=trivial
theorem rJ7 (p:Int):tM9 p:=trivial
theorem tW6 (p:D99):uO2 p:=trivial
theorem qL0 (p q r:Int):sA7 p q r:=trivial
theorem vA5 (p q:D99):vA7 p q:=trivial
theorem vI9 (p q:D99):vE6 p q:=trivial
theorem sU3 (p q:Int):uP5 p q:=trivial
theorem tW7 (p:Int):uJ1 p:=trivial
theorem sU4 (p q r:Int):tC6 p q r:=trivial
theorem tW8 (p:Int):uN7 p:=sU4 _ _ _
theorem tA6 (p:Int):uD p:=sU4 _ _ _
theorem tW9 (p:Int):uN9 p:=sU4 _ _ _
theorem rJ8 (p:D40):tM6 p:=⟨tW8 _,tW8 _,tW8 _,tW8 _,tA6 _,tA6 _⟩
theorem tA7 (p:D40):uD0 p:=rJ8 p
theorem qL1 (p:D45):tY8 p:=⟨tW9 _,tW9 _,tW9 _,tW9 _⟩
theorem sU5 (p:D45):tF p:=qL1 p
theorem sU6 (p:D45):uO p:=sU5 p
theorem sU7 (a b:Int):tC5 a b:=fun h _=>by
 have:b≠0:=by intro e;subst e;simp at h
 exact⟨this,this⟩
theorem wX1 (a b:Int):wY0 a b:=fun _ _=>sU7 a b
theorem tX (a b c d:Int):uN8 a b c d:=⟨sU7 _ _,sU7 _ _,wX1 _ _⟩
theorem qL2 (p:D40):tY6 p:=⟨tA7 _,fun _ _=>⟨wX1 _ _,wX1 _ _,wX1 _ _,wX1 _ _,tA7 _,fun _=>⟨tX _ _ _ _,tX _ _ _ _,tA7 _⟩⟩⟩
theorem qL3 (p:D40)(q:D99):tZ5 p q:=⟨rJ8 _,tA6 _,tA6 _,tX _ _ _ _,tA6 _,tX _ _ _ _,tA6 _⟩
theorem rJ9 (p:D40)(q:D99):tN0 p q:=⟨qL3 _ _,wX1 _ _,wX1 _ _⟩
theorem qL4 (s:List UInt8)(h:len s<9223372036854775808):tY2 s:=fun _ =>
 wQ8 (wO4 s) h (fun _ h=>wX0 h) (fun _=>rfl) fun x h1 _=>fun h3=>by
  have h4:x.1<len s:=of_decide_eq_true h3;exact⟨⟨h1,h4⟩,fun _=>⟨h1,h4⟩,fun _=>wV2 (by omega) (by omega)⟩
theorem qC5 (p:D24)(h:len p.2.2.1<9223372036854775808):tQ0 p:=fun h0=>by
 have hb:(0≤p.1∧p.1≤256)∧(0≤p.2.1∧p.2.1≤256):=by
  simp only[Bool.not_eq_true',Bool.cond_true_left,Bool.or_eq_false_iff,decide_eq_false_iff_not] at h0;omega
 exact⟨fun _=>rG6 hb.1 hb.2,fun _=>wQ8 (wO4 p.2.2.1) h (fun _ h=>wX0 h) (fun _=>rfl) fun x h1 _=>fun h3=>by
  have h4:x.1<len p.2.2.1:=of_decide_eq_true h3;exact⟨⟨h1,h4⟩,pI9 _,fun _=>wV2 (by omega) (by omega)⟩⟩
theorem qC6 (p:D43)(h:len p.2.2.1<9223372036854775808):tQ2 p:=⟨pJ _ _,fun h0=>by
  have hb:(0≤p.1∧p.1≤256)∧(0≤p.2.1∧p.2.1≤256):=by
   have h0:f83 p.1 p.2.1=true:=by simpa using h0
   simp only[f83,f83t,Bool.cond_false_right,Bool.and_eq_true,decide_eq_true_eq] at h0;omega
  exact rG6 hb.1 hb.2,fun _=>wQ8 (wO4 p.2.2.1) h (fun _ h=>wX0 h) (fun _=>rfl) fun x h1 _=>fun h3=>by
  have h4:x.1<len p.2.2.1:=of_decide_eq_true h3;exact⟨⟨h1,h4⟩,sU5 _,fun _=>wV2 (by omega) (by omega)⟩⟩
theorem qL5 (p:D52)(w h:Int)(hn:len p.2.2.2.1<9223372036854775808)(hm:len p.2.2.2.2.2.2.2.2.2.1.2.2.1<9223372036854775808):tY5 p w h:=
 fun _=>⟨qK6 _,fun _=>⟨qL4 _ hn,fun _=>⟨rJ6 _,fun _=>rJ6 _,fun _=>qK8 _,fun _=>⟨qK9 _,fun _=>rG7 _,fun _=>qC5 _ hm⟩⟩⟩⟩
theorem qL6 (a:Int)(l:List Int)(b n:Int)(h:len l<9223372036854775808):tZ1 a l b n:=fun _=>by
 refine⟨qL _ _,fun hc _=>⟨wQ8 (wO4 l) h (fun _ h=>wX0 h) (fun _=>rfl) fun x h1 _=>fun h3=>?_,?_⟩⟩
 ·have h4:x.1<len l:=of_decide_eq_true h3;exact⟨⟨h1,h4⟩,fun _=>wV2 (by omega) (by omega)⟩
 ·intro _ hk;have:len l=4∨len l=3:=by
   simp only[Bool.not_eq_true',Bool.cond_true_left,Bool.or_eq_false_iff,Bool.not_eq_false'] at hc;have h1:=hc.1;simp only[f152,qH6] at h1;cases hq:(a==1)<;>simp[hq] at h1<;>omega
  unfold InB;omega
theorem qL7 (l:List D127)(h:len l<9223372036854775808):tZ3 l:=
 wQ8 (wO4 l) h (fun _ h=>wX0 h) (fun _=>rfl) fun x h1 _=>fun h3=>by
  have h4:x.1<len l:=of_decide_eq_true h3;exact⟨⟨h1,h4⟩,fun _=>sU5 _,fun _=>⟨fun h5=>by have h5:=of_decide_eq_true h5;exact wV2 (by omega) (by omega),fun h5=>by have h5:=of_decide_eq_true h5;exact⟨(show 0≤x.1-1 by omega),(show x.1-1<len l by omega)⟩⟩,fun _=>wV2 (by omega) (by omega)⟩
theorem qL8 (a:Int)(l:List Int)(b:Int)(m:List D127)(h:len l<9223372036854775808)(h':len m<9223372036854775808):tZ4 a l b m:=⟨qL6 _ _ _ _ h,fun _=>qL7 _ h'⟩
theorem qL9 (p q:Int):sE7 p q:=trivial
theorem qM (p q:Int):sE8 p q:=trivial
theorem qM0 (p:Int):sF5 p:=trivial
theorem qM1 (a:Int)(l:List Int)(m:List D127)(hl:len l<9223372036854775808)(hm:len m<9223372036854775808)(h9:a=9→len l=3):sF0 a l m:=
 ⟨wQ8 (wO4 l) hl (fun _ h=>wX0 h) (fun _=>rfl) fun x h1 _=>fun h3=>by
  have h4:x.1<len l:=of_decide_eq_true h3;exact⟨⟨h1,h4⟩,qM _ _,fun _=>wV2 (by omega) (by omega)⟩,
  fun _=>by
  have key:∀ b:Bool,((a==9)=true→b=true→False)∨True:=fun _=>.inr trivial;have e3:∀ c:Bool,(bif (a==9) then c else false)=true→len l=3:=fun c h=>by
   cases hq:(a==9) with
   |true=>exact h9 (by simpa using hq)
   |false=>simp[hq] at h
  refine⟨fun h=>?_,fun h=>?_,fun h=>?_,fun _=>wQ8 (wO4 m) hm (fun _ h=>wX0 h) (fun _=>rfl) fun x h1 _=>fun h3=>?_⟩
  ·have:=h9 (by simpa using h);unfold InB;omega
  ·have:=e3 _ h;unfold InB;omega
  ·cases hq:(a==9) with
   |true=>have:=h9 (by simpa using hq);unfold InB;omega
   |false=>simp[hq] at h
  ·have h4:x.1<len m:=of_decide_eq_true h3;exact⟨⟨h1,h4⟩,fun _=>sU5 _,fun _=>wV2 (by omega) (by omega)⟩⟩
theorem qM2 (a:Int)(l:List Int)(m:List D127)(hm:len m<9223372036854775808)(h2:a=2→len l=5)(h3:a=3→len l≤16):sF3 a l m:=by
 refine⟨fun h=>?_,fun h=>?_,fun _=>⟨fun h=>?_,fun _=>?_⟩⟩
 ·have:=h2 (by simpa using h);unfold InB;omega
 ·have:=h2 (by simpa using h);unfold InB;omega
 ·have hl:=h3 (by simpa using h);refine wK0 (fun x=>2≤x.1∧x.1≤18) (fun x=>(20-x.1).toNat) (fun x hx=>fun hg=>?_) (fun x hx hg=>?_) ⟨by decide,by decide⟩ (by simp[zJ0])
  ·have h4:x.1<len l:=of_decide_eq_true hg;exact⟨⟨by omega,h4⟩,wV2 (by omega) (by omega),⟨(show 0≤x.1-2 by omega),(show x.1-2<len l by omega)⟩,fun _=>wV2 (by omega) (by omega)⟩
  ·have h4:x.1<len l:=wX0 hg;exact⟨(show 2≤x.1+2∧x.1+2≤18 by omega),(show (20-(x.1+2)).toNat<(20-x.1).toNat by omega)⟩
 ·have e:(bif (a==3) then m else m)=m:=by cases (a==3)<;>rfl
  show xQ5 (uY5 ((bif (a==3) then m else m),())) (vT6 ((bif (a==3) then m else m),())) (vZ4 ((bif (a==3) then m else m),())) (1,());rw[e];refine wK0 (fun x=>1≤x.1) (fun x=>(len m-x.1).toNat) (fun x hx=>fun hg=>?_) (fun x hx hg=>?_) (by decide) (by unfold zJ0;omega)
  ·have h4:x.1<len m:=of_decide_eq_true hg;exact⟨⟨by omega,h4⟩,wV2 (by omega) (by omega),⟨(show 0≤x.1-1 by omega),(show x.1-1<len m by omega)⟩,fun _=>wV2 (by omega) (by omega)⟩
  ·have h4:x.1<len m:=wX0 hg;exact⟨(show 1≤x.1+1 by omega),(show (len m-(x.1+1)).toNat<(len m-x.1).toNat by omega)⟩
theorem qM3 (a:Int)(l:List Int)(m:List D127)(hl:len l<9223372036854775808)(hm:len m<9223372036854775808):sF4 a l m:=by
 intro _;refine⟨qL9 _ _,fun hc _=>?_⟩;have hc:f148 a (len l)=true:=by
  simp only[Bool.cond_true_left,Bool.or_eq_false_iff,Bool.not_eq_false'] at hc;exact hc.1
 have k9:a=9→len l=3:=by rintro rfl;simpa[f148,rQ3] using hc
 have k2:a=2→len l=5:=by rintro rfl;simpa[f148,rQ3] using hc
 have k3:a=3→len l≤16:=by
  rintro rfl;simp only[f148,rQ3] at hc;by_cases h:len l≤16
  ·exact h
  ·simp[h] at hc
 exact⟨qM1 a l m hl hm k9,fun _=>qM2 a l m hm k2 k3⟩
theorem qM4 (a:Int)(l:List Int)(hl:len l<9223372036854775808):sF7 a l:=by
 intro _;refine⟨qM0 _,fun he=>?_⟩;have he:len l=len (f151 a):=by simpa using he
 exact wQ8 (wO4 l) hl (fun _ h=>wX0 h) (fun _=>rfl) fun x h1 _=>fun h3=>by
  have h4:x.1<len l:=of_decide_eq_true h3;exact⟨⟨h1,h4⟩,⟨h1,(show x.1<len (f151 a) by omega)⟩,fun _=>⟨h1,(show x.1<len (f151 a) by omega)⟩,fun _=>wV2 (by omega) (by omega)⟩
theorem qM5 (p:D50)(h:len p.2.2.2.1<9223372036854775808):sF9 p:=fun h0=>by
 have hb:(0≤p.1∧p.1≤256)∧(0≤p.2.1∧p.2.1≤256):=by
  simp only[Bool.not_eq_true',Bool.cond_true_left,Bool.or_eq_false_iff,decide_eq_false_iff_not] at h0;omega
 exact⟨fun _=>rG6 hb.1 hb.2,fun _=>wQ8 (wO4 p.2.2.2.1) h (fun _ h=>wX0 h) (fun _=>rfl) fun x h1 _=>fun h3=>by
  have h4:x.1<len p.2.2.2.1:=of_decide_eq_true h3;exact⟨⟨h1,h4⟩,fun _=>wV2 (by omega) (by omega)⟩⟩
theorem sU8 (l:List (List D99))(r:Int)(h:len l<9223372036854775808)(hq:∀ q∈l,len q≤4611686018427387904):uP2 l r:=fun _=>by
 refine⟨?_,fun _=>?_⟩
 ·refine wK0 (fun x=>(0≤x.1∧x.1≤4096)∧0≤x.2.1) (fun x=>(len l-x.2.1).toNat) (fun x hx=>fun hg=>?_) (fun x hx hg=>?_) ⟨⟨by decide,by decide⟩,by decide⟩ (by unfold zJ0;simp only;omega)
  ·have h4:x.2.1<len l:=of_decide_eq_true hg;have h5:=hq _ (wZ7 (d:=([]:List D99)) (i:=x.2.1) ⟨hx.2,h4⟩);have h6:=wO4 (nth l x.2.1 ([]:List D99));exact⟨⟨hx.2,h4⟩,wV2 (show _≤x.1+len (nth l x.2.1 ([]:List D99)) by omega) (show x.1+len (nth l x.2.1 ([]:List D99))≤_ by omega),fun _=>wV2 (by omega) (by omega)⟩
  ·have h4:x.2.1<len l:=wX0 hg;have h6:=wO4 (nth l x.2.1 ([]:List D99));have h7:x.1+len (nth l x.2.1 ([]:List D99))≤4096:=by
    have hg:(decide (x.2.1<len l)&&!(decide (x.1+len (nth l x.2.1 ([]:List D99))>4096)))=true:=hg;simp only[Bool.and_eq_true,Bool.not_eq_true',decide_eq_false_iff_not] at hg;omega
   exact⟨⟨(show 0≤x.1+len (nth l x.2.1 ([]:List D99))∧_ from ⟨by omega,h7⟩),(show 0≤x.2.1+1 by omega)⟩,(show (len l-(x.2.1+1)).toNat<(len l-x.2.1).toNat by omega)⟩
 ·exact wQ8 (wO4 l) h (fun _ h=>wX0 h) (fun _=>rfl) fun x h1 _=>fun h3=>by
   have h4:x.1<len l:=of_decide_eq_true h3;have h5:=hq _ (wZ7 (d:=([]:List D99)) (i:=x.1) ⟨h1,h4⟩);exact⟨⟨h1,h4⟩,wQ8 (wO4 _) (show len (nth l x.1 ([]:List D99))<_ by omega) (fun _ h=>wX0 h) (fun _=>rfl) fun z k1 _=>fun k3=>by
    have k4:z.1<len (nth l x.1 ([]:List D99)):=of_decide_eq_true k3;exact⟨⟨k1,k4⟩,fun _=>wV2 (by omega) (by omega)⟩,fun _=>wV2 (by omega) (by omega)⟩
end Go.Proofs.YtmbjipigimohbaaGreatDoor.Am
namespace Go.Proofs.YtmbjipigimohbaaGreatDoor.Am
open Go Go.Am
theorem inb0:InB (0:Int) 3:=by unfold InB;omega
theorem inb1:InB (1:Int) 3:=by unfold InB;omega
theorem inb2:InB (2:Int) 3:=by unfold InB;omega
theorem vK4 {α:Type}(x:α):len [x]=1:=rfl
theorem qC7 (p:Int):0≤f154 p∧f154 p≤3:=by
 simp only[f154,qH7];cases (p==3)<;>cases (p==4)<;>cases (p==5)<;>simp
theorem seg9 (y:vQ6):xQ5 (vJ0 y) (vB8 y) (vV0 y) (0,())∧vJ0 y (zC4 (vJ0 y) (vB8 y) (0,()))=false:=by
 have h:=whole (g:=vJ0 y) (next:=vB8 y) (ok:=vV0 y) (fun x=>0≤x.1∧x.1≤3) (fun x=>(3-x.1).toNat) (fun x hx=>fun h3=>by
   have h4:x.1<3:=of_decide_eq_true h3;exact⟨⟨hx.1,h4⟩,tW6 _,fun _=>rJ7 _,fun _=>wV2 (by omega) (by omega)⟩) (fun x hx hg=>by
   have h4:x.1<3:=wX0 hg;exact⟨(show 0≤x.1+1∧x.1+1≤3 by omega),(show (3-(x.1+1)).toNat<(3-x.1).toNat by omega)⟩) (x:=(0,())) ⟨by decide,by decide⟩ (by simp[zJ0])
 exact⟨h.1,h.2.2⟩
theorem seg4 (l:List D130)(hl:len l<9223372036854775808) :
  xQ5 (vE0 (l,l,len l,())) (vB9 (l,l,len l,())) (uE4 (l,l,len l,())) (0,()) ∧
  (0≤(zC4 (vE0 (l,l,len l,())) (vB9 (l,l,len l,())) (0,())).1∧(0<(zC4 (vE0 (l,l,len l,())) (vB9 (l,l,len l,())) (0,())).1→(nth l 0 Z130).1=1)) ∧
  vE0 (l,l,len l,()) (zC4 (vE0 (l,l,len l,())) (vB9 (l,l,len l,())) (0,()))=false:=by
 refine whole (fun x:vJ1=>0≤x.1∧(0<x.1→(nth l 0 Z130).1=1)) (fun x=>(len l-x.1).toNat) (fun x hx=>fun h3=>?_) (fun x hx hg=>?_) ⟨by decide,fun h=>absurd h (by decide)⟩ (by unfold zJ0;simp only;omega)
 ·have h4:x.1<len l:=of_decide_eq_true h3;refine⟨⟨hx.1,h4⟩,fun _=>⟨(seg9 _).1,fun _=>⟨fun h5=>?_,fun h5=>?_⟩⟩,fun _=>wV2 (by omega) (by omega)⟩
  ·exact wV2 (by omega) (by omega)
  ·simp only[Bool.and_eq_true,Bool.not_eq_true',beq_eq_false_iff_ne,ne_eq] at h5;exact⟨(show 0≤x.1-1 by omega),(show x.1-1<len l by omega)⟩
 ·have h4:x.1<len l:=wX0 hg;refine⟨⟨(show 0≤x.1+1 by omega),fun _=>?_⟩,(show (len l-(x.1+1)).toNat<(len l-x.1).toNat by omega)⟩;by_cases h0:x.1=0
  ·simp only[vE0,vT3,h0] at hg;simp only[Bool.and_eq_true,Bool.not_eq_true'] at hg;have h5:=hg.2.2.2;cases hk:((nth l 0 Z130).1 !=1) with
   |true=>simp[hk] at h5
   |false=>simpa using hk
  ·exact hx.2 (by omega)
theorem sU9 (l:List D130)(hl:len l<9223372036854775808):uO5 l:=fun _=>(seg4 l hl).1
theorem uB4 {l:List D130}(hl:len l<9223372036854775808)(h:f153 l=0):len l≤128∧(0<len l→(nth l 0 Z130).1=1):=by
 obtain⟨_,⟨h1,h2⟩,h3⟩:=seg4 l hl;simp only[f153,qH8] at h;generalize zC4 (vE0 (l,l,len l,())) (vB9 (l,l,len l,())) (0,())=e at h h1 h2 h3;have hv:decide (len l>128)=false:=by
  cases hv:decide (len l>128) with
  |false=>rfl
  |true=>simp[hv] at h
 have hle:=of_decide_eq_false hv;refine⟨by omega,fun hp=>h2 ?_⟩;have he1:uE5 (l,l,len l,()) e=false:=by
  cases he:uE5 (l,l,len l,()) e with
  |false=>rfl
  |true =>
   simp only[hv,he,cond_false,cond_true,uO4] at h;revert h;cases (bif (decide ((nth l e.1 Z130).1<1)) then true else (decide ((nth l e.1 Z130).1>5)))<;>simp only[cond_true,cond_false]
   ·cases vV1 _ _<;>simp[uO3]
   ·simp
 by_cases hlt:e.1<len l
 ·exfalso;simp only[vE0,vT3] at h3;simp only[uE5,vT3] at he1;have h9:=(seg9 (l,e.1,nth l e.1 Z130,l,len l,e.1,(nth l e.1 Z130).2.1,())).2;generalize zC4 (vJ0 (l,e.1,nth l e.1 Z130,l,len l,e.1,(nth l e.1 Z130).2.1,())) (vB8 (l,e.1,nth l e.1 Z130,l,len l,e.1,(nth l e.1 Z130).2.1,())) (0,())=z at h3 he1 h9;generalize (bif (decide ((nth l e.1 Z130).1<1)) then true else (decide ((nth l e.1 Z130).1>5)))=v24 at h3 he1;generalize (bif (nth l e.1 Z130).1 !=1 then (bif e.1==0 then true else ((nth l (e.1-1) Z130).1==5)) else false)=v61 at h3 he1;have e4:tN (l,e.1,nth l e.1 Z130,l,len l,e.1,(nth l e.1 Z130).2.1,()) z=!(decide (z.1<3)):=rfl;have e1:vV1 (l,e.1,nth l e.1 Z130,l,len l,e.1,(nth l e.1 Z130).2.1,()) z=true∨decide (z.1<3)=false:=by
   cases hz:decide (z.1<3) with
   |false=>exact .inr rfl
   |true =>
    left;simp only[vJ0,uC,hz,Bool.true_and,Bool.not_eq_false'] at h9;simp only[vV1,uC,hz,Bool.true_and];exact h9
  simp only[hlt,decide_true,Bool.true_and] at h3 he1;rw[e4] at h3 he1;rcases e1 with e1|e1
  ·rw[e1] at he1;cases v24<;>simp_all
  ·rw[e1] at h3 he1;cases v24<;>cases v61<;>simp_all
 ·omega
theorem qC8 (y:vD4){n:Int}(hk:y.2.2.2.2.2.2.1≤3)(l:List D130)(hn:len l=n)(hi:InB y.2.1 n) :
  xQ5 (vH3 y) (wY8 y) (vN5 y) (l,0,())∧len (zC4 (vH3 y) (wY8 y) (l,0,())).1=n:=by
 have h:=whole (g:=vH3 y) (next:=wY8 y) (ok:=vN5 y) (fun x=>len x.1=n∧0≤x.2.1∧x.2.1≤3) (fun x=>(3-x.2.1).toNat) (fun x hx=>fun h3=>by
   have h4:x.2.1<y.2.2.2.2.2.2.1:=of_decide_eq_true h3;obtain⟨k1,k2⟩:=hi;refine⟨⟨hx.2.1,by omega⟩,rJ9 _ _,tW6 _,fun _=>⟨⟨k1,?_⟩,⟨hx.2.1,by omega⟩,?_⟩,fun _=>wV2 (by omega) (by omega)⟩
   ·show y.2.1<len x.1;rw[hx.1];exact k2
   ·show y.2.1<len x.1;rw[hx.1];exact k2) (fun x hx hg=>by
   have h4:x.2.1<y.2.2.2.2.2.2.1:=wX0 hg;exact⟨⟨(show len (List.set x.1 _ _)=n by rw[vH];exact hx.1),(show 0≤x.2.1+1∧x.2.1+1≤3 by omega)⟩,(show (3-(x.2.1+1)).toNat<(3-x.2.1).toNat by omega)⟩) (x:=(l,0,())) ⟨hn,Int.le_refl 0,(by decide:(0:Int)≤3)⟩ (by simp[zJ0])
 exact⟨h.1,h.2.1.1⟩
theorem rG8 (a:D40)(l:List D130)(x:vD1):vE1 (a,l,len l,()) x=((zC4 (vH3 (a,x.2.1,nth l x.2.1 Z130,l,len l,x.2.1,f154 (nth l x.2.1 Z130).1,())) (wY8 (a,x.2.1,nth l x.2.1 Z130,l,len l,x.2.1,f154 (nth l x.2.1 Z130).1,())) (List.set x.1 (Int.toNat x.2.1) ((nth l x.2.1 Z130).1,(nth x.1 x.2.1 Z130).2.1,()),0,())).1,x.2.1+1,()):=rfl
theorem qS3 (l:List D130)(a:D40)(z:List D130)(hz:len z=len l)(hl:len l≤128) :
  xQ5 (uE7 (a,l,len l,())) (vE1 (a,l,len l,())) (vV2 (a,l,len l,())) (z,0,())∧len (zC4 (uE7 (a,l,len l,())) (vE1 (a,l,len l,())) (z,0,())).1=len l:=by
 have h:=whole (g:=uE7 (a,l,len l,())) (next:=vE1 (a,l,len l,())) (ok:=vV2 (a,l,len l,())) (fun x=>len x.1=len l∧0≤x.2.1) (fun x=>(len l-x.2.1).toNat) (fun x hx=>fun h3=>?_) (fun x hx hg=>?_) (x:=(z,0,())) ⟨hz,Int.le_refl 0⟩ (by unfold zJ0;simp only;omega)
 ·exact⟨h.1,h.2.1.1⟩
 ·have h4:x.2.1<len l:=of_decide_eq_true h3;have hb:InB x.2.1 (len l):=⟨hx.2,h4⟩;refine⟨hb,?_,?_,rJ7 _,(qC8 _ (qC7 _).2 _ (by rw[vH];exact hx.1) hb).1,fun _=>wV2 (by omega) (by omega)⟩
  ·show InB x.2.1 (len x.1);rw[hx.1];exact hb
  ·show x.2.1<len x.1;rw[hx.1];exact h4
 ·have h4:x.2.1<len l:=wX0 hg;have hb:InB x.2.1 (len l):=⟨hx.2,h4⟩;have h13:=(qC8 (a,x.2.1,nth l x.2.1 Z130,l,len l,x.2.1,f154 (nth l x.2.1 Z130).1,()) (qC7 _).2 (List.set x.1 (Int.toNat x.2.1) ((nth l x.2.1 Z130).1,(nth x.1 x.2.1 Z130).2.1,())) (by rw[vH];exact hx.1) hb).2;rw[rG8];exact⟨⟨h13,(show 0≤x.2.1+1 by omega)⟩,(show (len l-(x.2.1+1)).toNat<(len l-x.2.1).toNat by omega)⟩
theorem qM6 (l:List D130)(a:D40)(hl:len l<9223372036854775808):sA l a∧len (f140 l a).1≤128:=by
 have hrep:len (List.replicate (Int.toNat (len l)) Z130)=len l:=by simp[len]
 refine⟨⟨sU9 l hl,fun h0=>⟨tA7 _,fun _=>?_⟩⟩,?_⟩
 ·have h0:f153 l=0:=by simpa using h0
  have hk:=(uB4 hl h0).1;have:=wO4 l;exact⟨⟨by omega,by omega,by omega⟩,(qS3 l a _ hrep hk).1⟩
 ·simp only[f140,qH9];cases h0:(f153 l !=0) with
  |true=>simp[len]
  |false =>
   have h0:f153 l=0:=by simpa using h0
   have hk:=(uB4 hl h0).1;have h9:=(qS3 l a _ hrep hk).2;simp only[cond_false];cases (f103 a !=0) with
   |true=>simp[len]
   |false =>
    simp only[cond_false];cases tN1 _ _ with
    |true=>simp[uO6,uI8,len]
    |false=>simp only[cond_false,uO7];rw[h9];exact hk
theorem tL4 {p:D99}{l:List D99}(h1:1≤len l)(h2:len l≤2147483648):vN6 p l∧len l≤len (vE2 p l).1∧len (vE2 p l).1≤len l+1:=by
 have hw:IntKind.wrap .i64 (len l-1)=len l-1:=vB6 (wV2 (by omega) (by omega));refine⟨⟨?_,fun _=>?_⟩,?_⟩
 ·rw[hw];exact⟨by omega,by omega⟩
 ·simp only[len] at h2;simp only[List.length_cons,List.length_nil];omega
 ·simp only[vE2,tF3];cases (!(Ty.eqb T99 p (nth l (IntKind.wrap .i64 (len l-1)) Z99))) with
  |true=>simp only[cond_true,vJ,vK4];omega
  |false=>simp only[cond_false];omega
theorem ext8 (y:vK6)(l:List D99)(h1:1≤len l)(h2:len l≤1073741824) :
  xQ5 (vE4 y) (wY5 y) (vH4 y) (l,1,())∧len l≤len (zC4 (vE4 y) (wY5 y) (l,1,())).1∧len (zC4 (vE4 y) (wY5 y) (l,1,())).1≤len l+16:=by
 have h:=whole (g:=vE4 y) (next:=wY5 y) (ok:=vH4 y) (fun x=>(1≤x.2.1∧x.2.1≤9)∧len l≤len x.1∧len x.1≤len l+(x.2.1-1)) (fun x=>(9-x.2.1).toNat) (fun x hx=>fun _=>by
   exact⟨inb0,inb1,wX1 _ _,inb0,inb1,wX1 _ _,(tL4 (by omega) (by omega)).1⟩) (fun x hx hg=>by
   have h4:x.2.1≤8:=of_decide_eq_true hg;have hw:IntKind.wrap .i64 (x.2.1+1)=x.2.1+1:=vB6 (wV2 (by omega) (by omega));have ha:∀ q:D99,len x.1≤len (vE2 q x.1).1∧len (vE2 q x.1).1≤len x.1+1:=fun q=>(tL4 (p:=q) (by omega) (by omega)).2;simp only[wY5,vX4];rw[hw];exact⟨⟨⟨by omega,by omega⟩,Int.le_trans hx.2.1 (ha _).1,Int.le_trans (ha _).2 (by omega)⟩,by omega⟩) (x:=(l,1,())) ⟨⟨Int.le_refl 1,(by decide:(1:Int)≤9)⟩,Int.le_refl _,(show len l≤len l+(1-1) by omega)⟩ (by simp[zJ0])
 exact⟨h.1,h.2.1.2.1,by have:=h.2.1.2.2;have:=h.2.1.1.2;omega⟩
theorem pQ0 (y:vH5)(l:List D99)(h1:1≤len l)(h2:len l≤1073741824) :
  xQ5 (vC6 y) (wX9 y) (vD5 y) (l,1,())∧len l≤len (zC4 (vC6 y) (wX9 y) (l,1,())).1∧len (zC4 (vC6 y) (wX9 y) (l,1,())).1≤len l+16:=by
 have h:=whole (g:=vC6 y) (next:=wX9 y) (ok:=vD5 y) (fun x=>(1≤x.2.1∧x.2.1≤17)∧len l≤len x.1∧len x.1≤len l+(x.2.1-1)) (fun x=>(17-x.2.1).toNat) (fun x hx=>fun _=>by
   exact⟨inb0,inb1,inb2,wX1 _ _,inb0,inb1,inb2,wX1 _ _,(tL4 (by omega) (by omega)).1⟩) (fun x hx hg=>by
   have h4:x.2.1≤16:=of_decide_eq_true hg;have hw:IntKind.wrap .i64 (x.2.1+1)=x.2.1+1:=vB6 (wV2 (by omega) (by omega));have ha:∀ q:D99,len x.1≤len (vE2 q x.1).1∧len (vE2 q x.1).1≤len x.1+1:=fun q=>(tL4 (p:=q) (by omega) (by omega)).2;simp only[wX9,vQ7];rw[hw];exact⟨⟨⟨by omega,by omega⟩,Int.le_trans hx.2.1 (ha _).1,Int.le_trans (ha _).2 (by omega)⟩,by omega⟩) (x:=(l,1,())) ⟨⟨Int.le_refl 1,(by decide:(1:Int)≤17)⟩,Int.le_refl _,(show len l≤len l+(1-1) by omega)⟩ (by simp[zJ0])
 exact⟨h.1,h.2.1.2.1,by have:=h.2.1.2.2;have:=h.2.1.1.2;omega⟩
theorem rK {l:List D99}{s:D130}(h1:1≤len l)(h2:len l≤1073741824):uE8 l s∧len l≤len (tC7 l s)∧len (tC7 l s)≤len l+16:=by
 have hw:IntKind.wrap .i64 (len l-1)=len l-1:=vB6 (wV2 (by omega) (by omega));have ha:=tL4 (p:=nth s.2.1 (0:Int) Z99) h1 (show len l≤2147483648 by omega);refine⟨⟨?_,fun _=>⟨inb0,ha.1⟩,fun _=>⟨fun _=>(ext8 _ l h1 h2).1,fun _ _=>(pQ0 _ l h1 h2).1⟩⟩,?_⟩
 ·rw[hw];exact⟨by omega,by omega⟩
 ·simp only[tC7,tU7,vX5,vS6];have h8:=(ext8 (s,nth l (IntKind.wrap .i64 (len l-1)) Z99,((),()),()) l h1 h2).2;have h15:=(pQ0 (s,nth l (IntKind.wrap .i64 (len l-1)) Z99,((),()),()) l h1 h2).2;cases (s.1==2) with
  |true=>simp only[cond_true];omega
  |false =>
   cases (s.1==3) with
   |true=>simp only[cond_true,cond_false];exact h8
   |false =>
    cases (s.1==4) with
    |true=>simp only[cond_true,cond_false];exact h15
    |false=>simp only[cond_false];omega
def Few (n m:Int)(l:List (List D99)):Prop:=len l≤n∧∀ q∈l,len q≤m
theorem pQ1 (l:List D130)(hl:len l≤128)(h0:0<len l→(nth l 0 Z130).1=1) :
  xQ5 (uE9 (l,l,len l,())) (vC (l,l,len l,())) (vV3 (l,l,len l,())) ([],[],0,())∧Few 128 4096 (zC4 (uE9 (l,l,len l,())) (vC (l,l,len l,())) ([],[],0,())).1:=by
 have step:∀ x:vQ8,(0≤x.2.2.1∧(0<x.2.2.1→1≤len x.2.1)∧len x.2.1≤1+16*x.2.2.1)→x.2.2.1<len l →
   (((nth l x.2.2.1 Z130).1==1)=false→1≤len x.2.1) ∧
   1≤len (bif ((nth l x.2.2.1 Z130).1==1) then ([(nth (nth l x.2.2.1 Z130).2.1 (0:Int) Z99)]:List D99) else (tC7 x.2.1 (nth l x.2.2.1 Z130))) ∧
   len (bif ((nth l x.2.2.1 Z130).1==1) then ([(nth (nth l x.2.2.1 Z130).2.1 (0:Int) Z99)]:List D99) else (tC7 x.2.1 (nth l x.2.2.1 Z130)))≤1+16*(x.2.2.1+1):=by
  intro x hx hlt;have hne:((nth l x.2.2.1 Z130).1==1)=false→1≤len x.2.1:=fun hf=>by
   by_cases hz:x.2.2.1=0
   ·have:=h0 (by omega);rw[hz,this] at hf;simp at hf
   ·exact hx.2.1 (by omega)
  refine⟨hne,?_⟩;cases hk:((nth l x.2.2.1 Z130).1==1) with
  |true=>simp only[cond_true,vK4];omega
  |false =>
   simp only[cond_false];have ha:=(rK (s:=nth l x.2.2.1 Z130) (hne hk) (show len x.2.1≤1073741824 by omega)).2;have:=hne hk;omega
 have h:=whole (g:=uE9 (l,l,len l,())) (next:=vC (l,l,len l,())) (ok:=vV3 (l,l,len l,())) (fun x=>(0≤x.2.2.1∧(0<x.2.2.1→1≤len x.2.1)∧len x.2.1≤1+16*x.2.2.1)∧(x.2.2.1≤len l∧len x.1≤x.2.2.1)∧∀ q∈x.1,len q≤4096) (fun x=>(len l-x.2.2.1).toNat) (fun x hx=>fun h3=>by
   have h4:x.2.2.1<len l:=of_decide_eq_true h3;obtain⟨s1,s2,s3⟩:=step x hx.1 h4;refine⟨⟨hx.1.1,h4⟩,fun _=>inb0,fun hf=>(rK (s1 hf) (by have:=hx.1.2.2;omega)).1,wV2 (show _≤len l-1 by omega) (show len l-1≤_ by omega),fun _=>wV2 (by omega) (by omega),fun hf=>?_,fun _=>?_,wV2 (by omega) (by omega)⟩
   ·simp only[Bool.not_eq_true',beq_eq_false_iff_ne,ne_eq] at hf;have hf:¬ x.2.2.1=len l-1:=hf;exact⟨(show 0≤x.2.2.1+1 by omega),(show x.2.2.1+1<len l by omega)⟩
   ·have:=hx.2.1.2;simp only[len] at this hl h4;simp only[List.length_cons,List.length_nil];omega) (fun x hx hg=>by
   have h4:x.2.2.1<len l:=of_decide_eq_true hg;obtain⟨s1,s2,s3⟩:=step x hx.1 h4;have hle:=hx.2.1.2;refine⟨⟨⟨(show 0≤x.2.2.1+1 by omega),fun _=>s2,s3⟩,⟨(show x.2.2.1+1≤len l by omega),?_⟩,?_⟩,(show (len l-(x.2.2.1+1)).toNat<(len l-x.2.2.1).toNat by omega)⟩
   ·simp only[vC,uW2];cases (bif (x.2.2.1==(len l-1)) then true else ((nth l (x.2.2.1+1) Z130).1==1)) with
    |true=>simp only[cond_true,vJ,vK4];omega
    |false=>simp only[cond_false];omega
   ·simp only[vC,uW2];cases (bif (x.2.2.1==(len l-1)) then true else ((nth l (x.2.2.1+1) Z130).1==1)) with
    |true =>
     simp only[cond_true];intro q hq;rcases List.mem_append.1 hq with hq|hq
     ·exact hx.2.2 q hq
     ·rw[List.mem_singleton.1 hq];omega
    |false=>simp only[cond_false];exact hx.2.2) (x:=([],[],0,())) ⟨⟨by decide,fun h=>absurd h (by decide),by simp[len]⟩,⟨wO4 l,by simp[len]⟩,fun q hq=>by cases hq⟩ (by unfold zJ0;simp only;omega)
 exact⟨h.1,by have h1:=h.2.1.2.1.1;have h2:=h.2.1.2.1.2;omega,h.2.1.2.2⟩
theorem rK0 (l:List D130)(hl:len l<9223372036854775808):uP l∧Few 128 4096 (f141 l).1:=by
 refine⟨⟨sU9 l hl,fun h0=>?_⟩,?_⟩
 ·have h0:f153 l=0:=by simpa using h0
  exact (pQ1 l (uB4 hl h0).1 (uB4 hl h0).2).1
 ·simp only[f141,qI,uO9];cases h0:(f153 l !=0) with
  |true=>exact⟨by simp[len],fun q hq=>by cases hq⟩
  |false =>
   have h0:f153 l=0:=by simpa using h0
   exact (pQ1 l (uB4 hl h0).1 (uB4 hl h0).2).2
theorem qM7 (l:List D130)(hl:len l<9223372036854775808):sA1 l:=⟨sU9 l hl,fun h0=>by
 have h0:f153 l=0:=by simpa using h0
 have hk:=(uB4 hl h0).1;refine wK0 (fun x=>0≤x.2.1∧x.2.1≤len l∧len x.1≤x.2.1) (fun x=>(len l-x.2.1).toNat) (fun x hx=>fun h3=>?_) (fun x hx hg=>?_) ⟨by decide,wO4 l,by simp[len]⟩ (by unfold zJ0;simp only;omega)
 ·have h4:x.2.1<len l:=of_decide_eq_true h3;refine⟨⟨hx.1,h4⟩,wV2 (show _≤len l-1 by omega) (show len l-1≤_ by omega),fun _=>wV2 (by omega) (by omega),fun hf=>?_,fun _=>?_,wV2 (by omega) (by omega)⟩
  ·simp only[Bool.not_eq_true',beq_eq_false_iff_ne,ne_eq] at hf;have hf:¬ x.2.1=len l-1:=hf;exact⟨(show 0≤x.2.1+1 by omega),(show x.2.1+1<len l by omega)⟩
  ·have:=hx.2.2;simp only[len] at this hk h4;simp only[List.length_cons,List.length_nil];omega
 ·have h4:x.2.1<len l:=of_decide_eq_true hg;refine⟨⟨(show 0≤x.2.1+1 by omega),(show x.2.1+1≤len l by omega),?_⟩,(show (len l-(x.2.1+1)).toNat<(len l-x.2.1).toNat by omega)⟩;have:=hx.2.2;simp only[uC0,tF5];cases (bif (x.2.1==(len l-1)) then true else ((nth l (x.2.1+1) Z130).1==1)) with
  |true=>simp only[cond_true,vJ,vK4];omega
  |false=>simp only[cond_false];omega⟩
end Go.Proofs.YtmbjipigimohbaaGreatDoor.Am
namespace Go.Proofs.YtmbjipigimohbaaGreatDoor.Am
open Go Go.Am
theorem red3 (l:List D99)(o:Bool)(hl:len l≤4096) :
  xQ5 (vX9 (o,l,len l,())) (vC0 (o,l,len l,())) (vV4 (o,l,len l,())) ([],0,())∧len (zC4 (vX9 (o,l,len l,())) (vC0 (o,l,len l,())) ([],0,())).1≤len l:=by
 have h:=whole (g:=vX9 (o,l,len l,())) (next:=vC0 (o,l,len l,())) (ok:=vV4 (o,l,len l,())) (fun x=>(0≤x.2.1∧x.2.1≤len l)∧len x.1≤x.2.1) (fun x=>(len l-x.2.1).toNat) (fun x hx=>fun h3=>?_) (fun x hx hg=>?_) (x:=([],0,())) ⟨⟨Int.le_refl 0,wO4 l⟩,Int.le_refl 0⟩ (by unfold zJ0;simp only;omega)
 ·exact⟨h.1,Int.le_trans h.2.1.2 h.2.1.1.2⟩
 ·have h4:x.2.1<len l:=of_decide_eq_true h3;have h5:=wO4 x.1;have h6:=hx.2;refine⟨⟨hx.1.1,h4⟩,fun _=>wV2 (by omega) (by omega),fun hf=>?_,fun _=>?_,wV2 (by omega) (by omega)⟩
  ·simp only[Bool.not_eq_true',beq_eq_false_iff_ne,ne_eq] at hf;exact⟨(show 0≤len x.1-1 by omega),(show len x.1-1<len x.1 by omega)⟩
  ·have:=hx.2;simp only[len] at this hl h4;simp only[List.length_cons,List.length_nil];omega
 ·have h4:x.2.1<len l:=of_decide_eq_true hg;have h6:=hx.2;refine⟨⟨(show 0≤x.2.1+1∧x.2.1+1≤len l by omega),?_⟩,(show (len l-(x.2.1+1)).toNat<(len l-x.2.1).toNat by omega)⟩;simp only[vC0,tF8];cases (bif ((len x.1)==0) then true else (!(Ty.eqb T99 (nth l x.2.1 Z99) (nth x.1 (len x.1-1) Z99)))) with
  |true=>simp only[cond_true,vJ,vK4];omega
  |false=>simp only[cond_false];omega
theorem red8 (l:List D99)(o:Bool)(hl:len l≤4096) :
  xQ5 (uF1 (o,())) (vE5 (o,())) (vV5 (o,())) (l,())∧len (zC4 (uF1 (o,())) (vE5 (o,())) (l,())).1≤len l:=by
 have gt:∀ x:vL7,(bif (bif (!o) then (decide ((len x.1)>1)) else false) then (Ty.eqb T99 (nth x.1 (len x.1-1) Z99) (nth x.1 (0:Int) Z99)) else false)=true→len x.1>1:=fun x h=>by
  cases hq:(bif (!o) then (decide ((len x.1)>1)) else false) with
  |false=>rw[hq] at h;cases h
  |true =>
   cases ho:(!o) with
   |false=>rw[ho] at hq;cases hq
   |true=>rw[ho] at hq;exact of_decide_eq_true hq
 have gt':∀ x:vL7,(bif (!o) then (decide ((len x.1)>1)) else false)=true→len x.1>1:=fun x h=>by
  cases ho:(!o) with
  |false=>rw[ho] at h;cases h
  |true=>rw[ho] at h;exact of_decide_eq_true h
 have h:=whole (g:=uF1 (o,())) (next:=vE5 (o,())) (ok:=vV5 (o,())) (fun x=>len x.1≤len l) (fun x=>x.1.length) (fun x hx=>?_) (fun x hx hg=>?_) (x:=(l,())) (Int.le_refl _) (by simp only[len] at hl;unfold zJ0;simp only;omega)
 ·exact⟨h.1,h.2.1⟩
 ·have h5:=wO4 x.1;exact⟨fun hf=>by have:=gt' x hf;exact wV2 (show _≤len x.1-1 by omega) (show len x.1-1≤_ by omega),fun hf=>by have:=gt' x hf;exact⟨(show 0≤len x.1-1 by omega),(show len x.1-1<len x.1 by omega)⟩,fun hf=>by have:=gt' x hf;exact⟨Int.le_refl 0,(show 0<len x.1 by omega)⟩,fun hf=>by have:=gt x hf;exact⟨wV2 (show _≤len x.1-1 by omega) (show len x.1-1≤_ by omega),⟨(show 0≤len x.1-1 by omega),(show len x.1-1≤len x.1 by omega)⟩⟩⟩
 ·have h5:=gt x hg;have e:(vE5 (o,()) x).1=List.take (Int.toNat (len x.1-1)) x.1:=rfl;rw[e];simp only[len] at h5 hx ⊢;rw[List.length_take];omega
theorem qM8 (l:List D99)(o:Bool)(hl:len l≤4096):sA8 l o∧len (f170 l o)≤len l:=by
 have h3:=red3 l o hl;have h8:=red8 (zC4 (vX9 (o,l,len l,())) (vC0 (o,l,len l,())) ([],0,())).1 o (by omega);exact⟨⟨h3.1,h8.1⟩,Int.le_trans h8.2 h3.2⟩
theorem hyp7 (y:uF2):xQ5 (tF9 y) (vQ9 y) (uF3 y) (0,9223372036854775808,()):=by
 refine wK0 (fun x=>0≤x.2.1) (fun x=>x.2.1.toNat) (fun x _=>fun _=>sU3 _ _) (fun x hx hg=>?_) (by decide) (by unfold zJ0;decide);have h4:x.2.1≠0:=by
  have hg:(x.2.1 !=0)=true:=hg;simpa using hg
 have e:(vQ9 y x).2.1=wV1 x.2.1 (1:Int) 64:=rfl;rw[e];have e2:wV1 x.2.1 (1:Int) 64=x.2.1.fdiv 2:=rfl;rw[e2];have h5:x.2.1.fdiv 2=x.2.1 / 2:=Int.fdiv_eq_ediv_of_nonneg _ (by omega);rw[h5];omega
theorem rK1 (a b:Int):tN3 a b:=by
 refine⟨tW7 _,tW7 _,sU3 _ _,tW7 _,tW7 _,sU3 _ _,⟨Int.le_refl 0,by decide⟩,⟨Int.natCast_nonneg _,?_⟩,hyp7 _⟩;have hb:∀ z:Int,Int.toNat (IntKind.wrap .u64 z)<18446744073709551616:=fun z=>by
  rw[IntKind.wrap_u64];have:=Int.emod_nonneg z (b:=18446744073709551616) (by omega);have:=Int.emod_lt_of_pos z (b:=18446744073709551616) (by omega);omega
 have h1:=hb (f201 a*f201 a);have h2:=hb (f201 b*f201 b);have e1:(f200 (f201 a) (f201 a)).2.1=IntKind.wrap .u64 (f201 a*f201 a):=rfl;have e2:(f200 (f201 b) (f201 b)).2.1=IntKind.wrap .u64 (f201 b*f201 b):=rfl;rw[e1,e2];have h3:(Int.toNat (IntKind.wrap .u64 (f201 a*f201 a))+Int.toNat (IntKind.wrap .u64 (f201 b*f201 b))+Int.toNat (0:Int)) / 18446744073709551616≤1:=by
  rw[show Int.toNat (0:Int)=0 from rfl];omega
 exact_mod_cast h3
theorem rK2 (p q:D99)(w:Int):tN4 p q w:=⟨vI9 _ _,rK1 _ _,wX1 _ _,wX1 _ _,wX1 _ _,wX1 _ _⟩
theorem edg3 (l:List D99)(o:Bool)(w:Int)(hl:len l≤4096) :
  xQ5 (uF4 (l,o,w,())) (vE7 (l,o,w,())) (vV6 (l,o,w,())) ([],1,())∧len (zC4 (uF4 (l,o,w,())) (vE7 (l,o,w,())) ([],1,())).1≤len l:=by
 have h:=whole (g:=uF4 (l,o,w,())) (next:=vE7 (l,o,w,())) (ok:=vV6 (l,o,w,())) (fun x=>(1≤x.2.1∧(x.2.1≤len l∨x.2.1=1))∧len x.1≤x.2.1-1) (fun x=>(len l-x.2.1).toNat) (fun x hx=>fun h3=>?_) (fun x hx hg=>?_) (x:=([],1,())) ⟨⟨Int.le_refl 1,.inr rfl⟩,Int.le_refl 0⟩ (by unfold zJ0;simp only;omega)
 ·have h5:=wO4 l;exact⟨h.1,by have:=h.2.1.1;have:=h.2.1.2;omega⟩
 ·have h4:x.2.1<len l:=of_decide_eq_true h3;have h6:=hx.2;have h7:=hx.1.1;refine⟨wV2 (by omega) (by omega),⟨(show 0≤x.2.1-1 by omega),(show x.2.1-1<len l by omega)⟩,⟨(show 0≤x.2.1 by omega),h4⟩,rK2 _ _ _,?_,wV2 (by omega) (by omega)⟩;simp only[len] at h6 hl h4;simp only[List.length_cons,List.length_nil];omega
 ·have h4:x.2.1<len l:=of_decide_eq_true hg;have h6:=hx.2;have h7:=hx.1.1;refine⟨⟨⟨(show 1≤x.2.1+1 by omega),.inl (show x.2.1+1≤len l by omega)⟩,?_⟩,(show (len l-(x.2.1+1)).toNat<(len l-x.2.1).toNat by omega)⟩;simp only[vE7,tG,vJ,vK4];omega
theorem qM9 (l:List D99)(o:Bool)(w:Int)(hl:len l≤4096):sA9 l o w∧len (f171 l o w)≤len l+1:=by
 have h3:=edg3 l o w hl;have hn:=wO4 l;refine⟨⟨h3.1,fun hf=>?_⟩,?_⟩
 ·have h5:len l>1:=by
   cases ho:(!o) with
   |false=>rw[ho] at hf;cases hf
   |true=>rw[ho] at hf;exact of_decide_eq_true hf
  refine⟨wV2 (by omega) (by omega),⟨(show 0≤len l-1 by omega),(show len l-1<len l by omega)⟩,⟨Int.le_refl 0,(show 0<len l by omega)⟩,rK2 _ _ _,?_⟩;have h6:=h3.2;simp only[uC1];simp only[len] at h6 hl;simp only[List.length_cons,List.length_nil];omega
 ·simp only[f171,qI0,uC1];cases (bif (!o) then (decide ((len l)>1)) else false) with
  |true=>simp only[cond_true,vJ,vK4];omega
  |false=>simp only[cond_false];omega
theorem qN (l:List D99)(hl:len l≤4096):sB0 l:=by
 refine wK0 (fun x=>0≤x.2.1∧x.2.1≤len l) (fun x=>(len l-x.2.1).toNat) (fun x hx=>fun h3=>?_) (fun x hx hg=>?_) ⟨Int.le_refl 0,wO4 l⟩ (by unfold zJ0;simp only;omega)
 ·have h4:x.2.1<len l:=of_decide_eq_true h3;have hw:IntKind.wrap .i64 (x.2.1+1)=x.2.1+1:=vB6 (wV2 (by omega) (by omega));refine⟨⟨hx.1,h4⟩,(show len l≠0 by omega),?_⟩;show InB (Int.tmod (IntKind.wrap .i64 (x.2.1+1)) (len l)) (len l);rw[hw,Int.tmod_eq_emod_of_nonneg (by omega)];exact⟨Int.emod_nonneg _ (by omega),Int.emod_lt_of_pos _ (by omega)⟩
 ·have h4:x.2.1<len l:=of_decide_eq_true hg;have hw:IntKind.wrap .i64 (x.2.1+1)=x.2.1+1:=vB6 (wV2 (by omega) (by omega));simp only[uC2,tG0];rw[hw];omega
theorem qN0:f190 []=0:=by kernel_rfl
theorem tX0 {a:Int}(h:0≤a∧a≤16384):uP8 a:=by
 have e:Int.tdiv a 256=a / 256:=Int.tdiv_eq_ediv_of_nonneg h.1;have hw:IntKind.wrap .i64 (Int.tdiv a 256)=a / 256:=by rw[e];exact vB6 (wV2 (by omega) (by omega))
 refine⟨fun _=>⟨by decide,by decide⟩,fun hf=>?_⟩;rw[hw] at hf ⊢;have hf:¬ (a / 256≥64):=by simpa using hf
 have hw2:IntKind.wrap .i64 (a / 256+1)=a / 256+1:=vB6 (wV2 (by omega) (by omega));rw[hw2];exact⟨⟨by omega,by omega⟩,⟨by omega,by omega⟩,⟨by omega,by omega⟩,wX1 _ _⟩
theorem rK3 {a:Int}(h:0≤a∧a<65536):uP9 a:=by
 have e:Int.tdiv a 16384=a / 16384:=Int.tdiv_eq_ediv_of_nonneg h.1;have hw:IntKind.wrap .i64 (Int.tdiv a 16384)=a / 16384:=by rw[e];exact vB6 (wV2 (by omega) (by omega))
 have hw2:IntKind.wrap .i64 (16384*(a / 16384))=16384*(a / 16384):=vB6 (wV2 (by omega) (by omega));have hw3:IntKind.wrap .i64 (a-16384*(a / 16384))=a-16384*(a / 16384):=vB6 (wV2 (by omega) (by omega));have hw4:IntKind.wrap .i64 (16384-(a-16384*(a / 16384)))=16384-(a-16384*(a / 16384)):=vB6 (wV2 (by omega) (by omega));simp only[uP9,qI1,hw,hw2,hw3,hw4];exact⟨fun _=>tX0 (by omega),⟨fun _=>⟨fun _=>tX0 (by omega),fun _ _=>tX0 (by omega)⟩,fun _=>tX0 (by omega)⟩⟩
theorem qN1 (a:Int):sB2 a:=by
 have h1:0≤wU8 .i64 a (65535:Int)∧wU8 .i64 a (65535:Int)<65536:=by
  have e:wU8 .i64 a (65535:Int)=IntKind.wrap .i64 (((BitVec.ofInt 64 a &&& BitVec.ofInt 64 65535).toNat:Nat):Int):=rfl;have h2:(BitVec.ofInt 64 a &&& BitVec.ofInt 64 65535).toNat≤65535:=by
   rw[BitVec.toNat_and];exact Nat.and_le_right
  rw[e,vB6 (wV2 (by omega) (by omega))];omega
 have hw:IntKind.wrap .i64 (wU8 .i64 a (65535:Int)+16384)=wU8 .i64 a (65535:Int)+16384:=vB6 (wV2 (by omega) (by omega));refine⟨rK3 h1,?_⟩;show uP9 (Int.tmod (IntKind.wrap .i64 (wU8 .i64 a (65535:Int)+16384)) (65536:Int));rw[hw,Int.tmod_eq_emod_of_nonneg (by omega)];exact rK3 ⟨Int.emod_nonneg _ (by omega),Int.emod_lt_of_pos _ (by omega)⟩
theorem cir3 (c:D99)(w:Int)(l:List D99)(n:Int)(hn:n=16)(hl:len l=16) :
  xQ5 (uF5 (w,c,n,())) (vE8 (w,c,n,())) (vV7 (w,c,n,())) (l,0,())∧len (zC4 (uF5 (w,c,n,())) (vE8 (w,c,n,())) (l,0,())).1=16:=by
 have h:=whole (g:=uF5 (w,c,n,())) (next:=vE8 (w,c,n,())) (ok:=vV7 (w,c,n,())) (fun x=>(0≤x.2.1∧x.2.1≤16)∧len x.1=16) (fun x=>(16-x.2.1).toNat) (fun x hx=>fun h3=>?_) (fun x hx hg=>?_) (x:=(l,0,())) ⟨⟨Int.le_refl 0,(by decide:(0:Int)≤16)⟩,hl⟩ (by simp[zJ0])
 ·exact⟨h.1,h.2.1.2⟩
 ·have h4:x.2.1<n:=of_decide_eq_true h3;rw[hn] at h4;refine⟨qN1 _,wX1 _ _,wX1 _ _,vA5 _ _,⟨hx.1.1,?_⟩,?_⟩
  ·show x.2.1<len x.1;rw[hx.2];exact h4
  ·show x.2.1<len x.1;rw[hx.2];exact h4
 ·have h4:x.2.1<n:=of_decide_eq_true hg;rw[hn] at h4;have hw:IntKind.wrap .i64 (x.2.1+1)=x.2.1+1:=vB6 (wV2 (by omega) (by omega));simp only[vE8,tG1,vH];rw[hw];exact⟨⟨by omega,hx.2⟩,by omega⟩
theorem tX1 (c:D99)(w:Int):uQ1 c w∧len (f189 c w)=16:=by
 have hn:len (List.replicate (Int.toNat (16:Int)) Z99)=16:=by simp[len]
 have h:=cir3 c w (List.replicate (Int.toNat (16:Int)) Z99) (len (List.replicate (Int.toNat (16:Int)) Z99)) hn hn;refine⟨⟨⟨by omega,by omega,by omega⟩,h.1⟩,?_⟩;simp only[f189,qI2,uQ0];exact h.2
end Go.Proofs.YtmbjipigimohbaaGreatDoor.Am
namespace Go.Proofs.YtmbjipigimohbaaGreatDoor.Am
open Go Go.Am
abbrev OT:Type:=Int×Int×Int×List (List D99)×Int×Unit
theorem wY1 {n m k:Int}{l:List (List D99)}(h:Few n k l)(hm:n≤m):Few m k l:=⟨Int.le_trans h.1 hm,h.2⟩
theorem uB5 {n:Int}{o:OT}{p:List D99}(h:Few n 16 o.2.2.2.1)(hn:n≤4000000000)(hp:len p≤16):wW3 o p∧Few (n+1) 16 (wV8 o p).1.2.2.2.1:=by
 refine⟨⟨qN p (by omega),fun h0=>⟨fun h1=>⟨trivial,?_,rfl,rfl,rfl⟩,?_⟩⟩,?_⟩
 ·have h1:f190 p<0:=of_decide_eq_true h1;cases p with
  |nil=>rw[qN0] at h1;omega
  |cons q r=>simp
 ·have h2:=h.1;simp only[len] at h2;simp only[List.length_cons,List.length_nil];omega
 ·have hm:len (bif (decide (f190 p<0)) then (rI7 p).1 else p)≤16:=by
   cases (decide (f190 p<0)) with
   |true=>simp only[cond_true,rI7,len,List.length_reverse];exact hp
   |false=>exact hp
  simp only[wV8,tG2];cases (f190 p==0) with
  |true=>simp only[cond_true];exact wY1 h (by omega)
  |false =>
   simp only[cond_false];refine⟨by rw[vJ,vK4];have:=h.1;omega,fun q hq=>?_⟩;rcases List.mem_append.1 hq with hq|hq
   ·exact h.2 q hq
   ·rw[List.mem_singleton.1 hq];exact hm
theorem pJ0 {n:Int}{o:OT}{c:D99}(h:Few n 16 o.2.2.2.1)(hn:n≤4000000000):uF6 o c∧Few (n+1) 16 (tG4 o c).1.2.2.2.1:=by
 have hc:=tX1 c o.1;have a1:=uB5 (p:=f189 c o.1) h hn (by rw[hc.2];omega);have a2:∀ x y z w:D99,wW3 o [x,y,z,w]∧Few (n+1) 16 (wV8 o [x,y,z,w]).1.2.2.2.1:=fun x y z w=>uB5 h hn (show (4:Int)≤16 by omega);refine⟨⟨fun _=>⟨hc.1,a1.1⟩,fun _ _=>⟨wX1 _ _,vA5 _ _,vA5 _ _,vA5 _ _,vA5 _ _,(a2 _ _ _ _).1⟩⟩,?_⟩;simp only[tG4,tG3];cases (o.2.2.1==1) with
 |true=>exact a1.2
 |false =>
  cases (o.2.2.1==2) with
  |true=>exact (a2 _ _ _ _).2
  |false=>exact wY1 h (by omega)
theorem sP0 {n:Int}{o:OT}{p q:D231}(h:Few n 16 o.2.2.2.1)(hn:n≤3900000000):vK7 o p q∧Few (n+3) 16 (vL8 o p q).1.2.2.2.1:=by
 have hc:=tX1 q.1 o.1;have a0:=uB5 (p:=f189 q.1 o.1) h (by omega) (by rw[hc.2];omega);have a1:=uB5 (p:=[q.1,f174 q.1 p.2.2.2.1,f174 q.1 q.2.2.2.1]) h (by omega) (show (3:Int)≤16 by omega);generalize ho1:(wV8 o [q.1,f174 q.1 p.2.2.2.1,f174 q.1 q.2.2.2.1]).1=o1 at a1;have a2:=uB5 (o:=o1) (p:=[q.1,f175 q.1 p.2.2.2.1,f175 q.1 q.2.2.2.1]) a1.2 (by omega) (show (3:Int)≤16 by omega);generalize ho2:(wV8 o1 [q.1,f175 q.1 p.2.2.2.1,f175 q.1 q.2.2.2.1]).1=o2 at a2;have a3:∀ x y z w:D99,wW3 o2 [x,y,z,w]∧Few (n+1+1+1) 16 (wV8 o2 [x,y,z,w]).1.2.2.2.1:=fun x y z w=>uB5 a2.2 (by omega) (show (4:Int)≤16 by omega);have e1:(wV8 (o.1,o.2.1,o.2.2.1,o.2.2.2.1,o.2.2.2.2.1,()) [q.1,f174 q.1 p.2.2.2.1,f174 q.1 q.2.2.2.1]).1=o1:=ho1;simp only[vK7,vL8,tG5,e1];have e2:(wV8 (o1.1,o1.2.1,o1.2.2.1,o1.2.2.2.1,o1.2.2.2.2.1,()) [q.1,f175 q.1 p.2.2.2.1,f175 q.1 q.2.2.2.1]).1=o2:=ho2;simp only[e2];refine⟨⟨fun _=>⟨hc.1,a0.1⟩,fun _=>⟨vA5 _ _,vA5 _ _,a1.1,vI9 _ _,vI9 _ _,a2.1,fun _=>⟨wX1 _ _,wX1 _ _,rK1 _ _,fun _=>⟨fun _=>⟨vI9 _ _,vI9 _ _,vI9 _ _,(a3 _ _ _ _).1⟩,fun _=>⟨vA5 _ _,vA5 _ _,vA5 _ _,(a3 _ _ _ _).1⟩⟩⟩⟩⟩,?_⟩;have b0:=wY1 a0.2 (show n+1≤n+3 by omega);have b2:=wY1 a2.2 (show n+1+1≤n+3 by omega);have b3:∀ x y z w:D99,Few (n+3) 16 (wV8 o2 [x,y,z,w]).1.2.2.2.1:=fun x y z w=>wY1 (a3 x y z w).2 (by omega);generalize (_||_)=c5;cases c5 with
 |true =>
  simp only[cond_true];cases (o.2.1==1) with
  |true=>exact b0
  |false=>exact b2
 |false =>
  simp only[cond_false];generalize (decide (_>(0:Int)))=c;cases c with
  |true=>exact b3 _ _ _ _
  |false=>exact b3 _ _ _ _
theorem qN2 {n:Int}{o:OT}{p q:D231}(h:Few n 16 o.2.2.2.1)(hn:n≤3900000000):vV8 o p q∧Few (n+2) 16 (tG7 o p q).1.2.2.2.1:=by
 have hc:=tX1 p.1 o.1;have a0:=uB5 (p:=f189 p.1 o.1) h (by omega) (by rw[hc.2];omega);generalize ho1:(wV8 o (f189 p.1 o.1)).1=o1 at a0;have hc2:=tX1 q.2.1 o1.1;have a1:=uB5 (o:=o1) (p:=f189 q.2.1 o1.1) a0.2 (by omega) (by rw[hc2.2];omega);have b0:=uB5 (o:=o) (p:=[f174 (f175 p.1 p.2.2.2.2.1) p.2.2.2.1,f174 p.1 p.2.2.2.1,f175 p.1 p.2.2.2.1,f175 (f175 p.1 p.2.2.2.2.1) p.2.2.2.1]) h (by omega) (show (4:Int)≤16 by omega);generalize ho2:(wV8 o [f174 (f175 p.1 p.2.2.2.2.1) p.2.2.2.1,f174 p.1 p.2.2.2.1,f175 p.1 p.2.2.2.1,f175 (f175 p.1 p.2.2.2.2.1) p.2.2.2.1]).1=o2 at b0;have b1:∀ x y z w:D99,wW3 o2 [x,y,z,w]∧Few (n+1+1) 16 (wV8 o2 [x,y,z,w]).1.2.2.2.1:=fun x y z w=>uB5 b0.2 (by omega) (show (4:Int)≤16 by omega);have e1:(wV8 (o.1,o.2.1,o.2.2.1,o.2.2.2.1,o.2.2.2.2.1,()) (f189 p.1 o.1)).1=o1:=ho1;have e2:(wV8 (o.1,o.2.1,o.2.2.1,o.2.2.2.1,o.2.2.2.2.1,()) [f174 (f175 p.1 p.2.2.2.2.1) p.2.2.2.1,f174 p.1 p.2.2.2.1,f175 p.1 p.2.2.2.1,f175 (f175 p.1 p.2.2.2.2.1) p.2.2.2.1]).1=o2:=ho2;simp only[vV8,tG7,tG6,e1,e2];refine⟨⟨fun _=>⟨hc.1,a0.1,hc2.1,a1.1⟩,fun _ _=>⟨vI9 _ _,vA5 _ _,vA5 _ _,vI9 _ _,vI9 _ _,b0.1,vA5 _ _,vA5 _ _,vA5 _ _,vI9 _ _,vI9 _ _,(b1 _ _ _ _).1⟩⟩,?_⟩;have c0:=wY1 a1.2 (show n+1+1≤n+2 by omega);cases (o.2.2.1==1) with
 |true=>exact c0
 |false =>
  cases (o.2.2.1==2) with
  |true=>exact wY1 (b1 _ _ _ _).2 (by omega)
  |false=>exact wY1 h (by omega)
theorem pol6 {n:Int}{o:OT}(b:Bool)(l:List D231)(h:Few n 16 o.2.2.2.1)(hn:n≤3000000000)(hl:len l≤4097) :
  xQ5 (vE9 (b,l,l,len l,())) (wZ3 (b,l,l,len l,())) (vH8 (b,l,l,len l,())) (o,0,())∧Few (n+4097) 16 (zC4 (vE9 (b,l,l,len l,())) (wZ3 (b,l,l,len l,())) (o,0,())).1.2.2.2.1:=by
 have st:∀ x:vC1,((0≤x.2.1∧x.2.1≤len l)∧Few (n+x.2.1) 16 x.1.2.2.2.1)→∀ p q r s:D99,wW3 x.1 [p,q,r,s]∧Few (n+x.2.1+1) 16 (wV8 x.1 [p,q,r,s]).1.2.2.2.1:=fun x hx p q r s=>uB5 hx.2 (by omega) (show (4:Int)≤16 by omega);have w:=whole (g:=vE9 (b,l,l,len l,())) (next:=wZ3 (b,l,l,len l,())) (ok:=vH8 (b,l,l,len l,())) (fun x=>(0≤x.2.1∧x.2.1≤len l)∧Few (n+x.2.1) 16 x.1.2.2.2.1) (fun x=>(len l-x.2.1).toNat) (fun x hx=>fun h3=>?_) (fun x hx hg=>?_) (x:=(o,0,())) ⟨⟨Int.le_refl 0,wO4 l⟩,by rw[Int.add_zero];exact h⟩ (by unfold zJ0;simp only;omega)
 ·exact⟨w.1,wY1 w.2.1.2 (by have:=w.2.1.1;omega)⟩
 ·have h4:x.2.1<len l:=of_decide_eq_true h3;exact⟨⟨hx.1.1,h4⟩,vA5 _ _,vA5 _ _,vI9 _ _,vI9 _ _,(st x hx _ _ _ _).1,wV2 (by omega) (by omega)⟩
 ·have h4:x.2.1<len l:=of_decide_eq_true hg;refine⟨⟨(show 0≤x.2.1+1∧x.2.1+1≤len l by omega),?_⟩,(show (len l-(x.2.1+1)).toNat<(len l-x.2.1).toNat by omega)⟩;show Few (n+(x.2.1+1)) 16 (wV8 x.1 _).1.2.2.2.1;rw[← Int.add_assoc];exact (st x hx _ _ _ _).2
theorem pQ2 {n:Int}{o:OT}(b:Bool)(l:List D231)(h:Few n 16 o.2.2.2.1)(hn:n≤3000000000)(hl:len l≤4097) :
  xQ5 (vA0 (b,l,())) (wY (b,l,())) (vD6 (b,l,())) (o,1,())∧Few (n+12300) 16 (zC4 (vA0 (b,l,())) (wY (b,l,())) (o,1,())).1.2.2.2.1:=by
 have st:∀ x:vA,((1≤x.2.1∧x.2.1≤4098)∧Few (n+3*x.2.1) 16 x.1.2.2.2.1)→∀ p q:D231,vK7 x.1 p q∧Few (n+3*x.2.1+3) 16 (vL8 x.1 p q).1.2.2.2.1:=fun x hx p q=>sP0 hx.2 (by omega);have w:=whole (g:=vA0 (b,l,())) (next:=wY (b,l,())) (ok:=vD6 (b,l,())) (fun x=>(1≤x.2.1∧x.2.1≤4098)∧Few (n+3*x.2.1) 16 x.1.2.2.2.1) (fun x=>(len l-x.2.1).toNat) (fun x hx=>fun h3=>?_) (fun x hx hg=>?_) (x:=(o,1,())) ⟨⟨Int.le_refl 1,(by omega:(1:Int)≤4098)⟩,wY1 h (show n≤n+3*1 by omega)⟩ (by unfold zJ0;simp only;omega)
 ·exact⟨w.1,wY1 w.2.1.2 (by have:=w.2.1.1;omega)⟩
 ·have h4:x.2.1<len l:=of_decide_eq_true h3;have h5:=hx.1.1;exact⟨wV2 (by omega) (by omega),⟨(show 0≤x.2.1-1 by omega),(show x.2.1-1<len l by omega)⟩,⟨(show 0≤x.2.1 by omega),h4⟩,(st x hx _ _).1,wV2 (by omega) (by omega)⟩
 ·have h4:x.2.1<len l:=of_decide_eq_true hg;have h5:=hx.1.1;refine⟨⟨(show 1≤x.2.1+1∧x.2.1+1≤4098 by omega),?_⟩,(show (len l-(x.2.1+1)).toNat<(len l-x.2.1).toNat by omega)⟩;show Few (n+3*(x.2.1+1)) 16 (vL8 x.1 _ _).1.2.2.2.1;exact wY1 (st x hx _ _).2 (by omega)
set_option maxHeartbeats 1000000 in
theorem rG9 {n:Int}{o:OT}{l:List D99}{b:Bool}(h:Few n 16 o.2.2.2.1)(hn:n≤2000000000)(hl:len l≤4096):vN9 o l b∧Few (n+20000) 16 (uF7 o l b).1.2.2.2.1:=by
 have r:=qM8 l b hl;have e:=qM9 (f170 l b) b o.1 (by omega);have hE:len (f171 (f170 l b) b o.1)≤4097:=by omega
 have hd:=pJ0 (c:=nth (f170 l b) (0:Int) Z99) h (by omega);have p6:=pol6 b (f171 (f170 l b) b o.1) h (by omega) hE;have k6:=fun p q=>sP0 (p:=p) (q:=q) p6.2 (by omega);have hne:(!(len (f171 (f170 l b) b o.1)==0))=true→0<len (f171 (f170 l b) b o.1):=fun hf=>by
  have:=wO4 (f171 (f170 l b) b o.1);simp only[Bool.not_eq_true',beq_eq_false_iff_ne,ne_eq] at hf;omega
 have hm:(len (f170 l b)==1)=true→InB (0:Int) (len (f170 l b)):=fun hf=>by
  have hf:len (f170 l b)=1:=by simpa using hf
  rw[hf];exact⟨by omega,by omega⟩
 have last:(!(len (f171 (f170 l b) b o.1)==0))=true→InR (len (f171 (f170 l b) b o.1)-1)∧InB (len (f171 (f170 l b) b o.1)-1) (len (f171 (f170 l b) b o.1)):=fun hf=>by
  have:=hne hf;exact⟨wV2 (by omega) (by omega),⟨by omega,by omega⟩⟩
 generalize hmm:f170 l b=m at r e hd p6 k6 hm hne last hE ⊢;generalize hEE:f171 m b o.1=E at e p6 k6 hne last hE ⊢;obtain⟨o1,o2,o3,o4,o5,⟨⟩⟩:=o;simp only[vN9,uF7,tG9,vY3,vS7];simp only at hEE;simp only[hmm,hEE];generalize zC4 (vE9 (b,E,E,len E,())) (wZ3 (b,E,E,len E,())) ((o1,o2,o3,o4,o5,()),0,())=z at p6 k6 ⊢;obtain⟨⟨a1,a2,a3,a4,a5,⟨⟩⟩,i,⟨⟩⟩:=z;simp only at p6 k6 ⊢;cases b with
 |true =>
  have p13:=pQ2 (n:=n+4097) (o:=(a1,a2,a3,a4,a5,())) true E p6.2 (by omega) hE;simp only[Bool.not_true,cond_false];generalize zC4 (vA0 (true,E,())) (wY (true,E,())) ((a1,a2,a3,a4,a5,()),1,())=z at p13 ⊢;obtain⟨⟨b1,b2,b3,b4,b5,⟨⟩⟩,i2,⟨⟩⟩:=z;simp only at p13 ⊢;have c:=fun p q=>qN2 (o:=(b1,b2,b3,b4,b5,())) (p:=p) (q:=q) p13.2 (by omega);refine⟨⟨r.1,e.1,fun _ h1=>⟨hm h1,hd.1⟩,fun h0=>⟨p6.1,fun hf=>absurd hf (by decide),p13.1,fun _=>⟨⟨Int.le_refl 0,hne h0⟩,(last h0).1,(last h0).2,(c _ _).1⟩⟩⟩,?_⟩;cases (len E==0) with
  |true =>
   cases (len m==1) with
   |true=>exact wY1 hd.2 (by omega)
   |false=>exact wY1 h (by omega)
  |false=>exact wY1 (c _ _).2 (by omega)
 |false =>
  simp only[Bool.not_false,cond_true,cond_false];have k6:=k6 (nth E (len E-1) Z231) (nth E (0:Int) Z231);have p13:=pQ2 (n:=n+4097+3) (o:=(vL8 (a1,a2,a3,a4,a5,()) (nth E (len E-1) Z231) (nth E (0:Int) Z231)).1) false E k6.2 (by omega) hE;generalize (vL8 (a1,a2,a3,a4,a5,()) (nth E (len E-1) Z231) (nth E (0:Int) Z231)).1=w at k6 p13 ⊢;obtain⟨w1,w2,w3,w4,w5,⟨⟩⟩:=w;simp only at k6 p13 ⊢;generalize zC4 (vA0 (false,E,())) (wY (false,E,())) ((w1,w2,w3,w4,w5,()),1,())=z at p13 ⊢;obtain⟨⟨b1,b2,b3,b4,b5,⟨⟩⟩,i2,⟨⟩⟩:=z;simp only at p13 ⊢;refine⟨⟨r.1,e.1,fun _ h1=>⟨hm h1,hd.1⟩,fun h0=>⟨p6.1,fun _=>⟨(last h0).1,(last h0).2,⟨Int.le_refl 0,hne h0⟩,k6.1⟩,p13.1,fun hf=>absurd hf (by decide)⟩⟩,?_⟩;cases (len E==0) with
  |true =>
   cases (len m==1) with
   |true=>exact wY1 hd.2 (by omega)
   |false=>exact wY1 h (by omega)
  |false=>exact wY1 p13.2 (by omega)
theorem sV {l:List (List D99)}{bs:List Bool}{w j k:Int}(hl:Few 128 4096 l):sB5 l bs w j k∧Few 4294967296 16 (f143 l bs w j k).1:=by
 have h81:=sU8 l 0 (by have:=hl.1;omega) (fun q hq=>by have:=hl.2 q hq;omega);have key:len bs=len l →
   xQ5 (vV9 (bs,(),l,len l,())) (vI0 (bs,(),l,len l,())) (vO (bs,(),l,len l,())) ((w,j,k,([]:List (List D99)),(0:Int),()),(0:Int),()) ∧
   Few 4294967296 16 (zC4 (vV9 (bs,(),l,len l,())) (vI0 (bs,(),l,len l,())) ((w,j,k,([]:List (List D99)),(0:Int),()),(0:Int),())).1.2.2.2.1:=fun hb=>by
  have hl1:=hl.1;have st:∀ x:wZ8,((0≤x.2.1∧x.2.1≤len l)∧Few (20000*x.2.1) 16 x.1.2.2.2.1)→x.2.1<len l→vN9 x.1 (nth l x.2.1 ([]:List D99)) (nth bs x.2.1 false)∧Few (20000*x.2.1+20000) 16 (uF7 x.1 (nth l x.2.1 ([]:List D99)) (nth bs x.2.1 false)).1.2.2.2.1:=fun x hx h4=>rG9 hx.2 (by omega) (hl.2 _ (wZ7 ⟨hx.1.1,h4⟩));have w:=whole (g:=vV9 (bs,(),l,len l,())) (next:=vI0 (bs,(),l,len l,())) (ok:=vO (bs,(),l,len l,())) (fun x=>(0≤x.2.1∧x.2.1≤len l)∧Few (20000*x.2.1) 16 x.1.2.2.2.1) (fun x=>(len l-x.2.1).toNat) (fun x hx=>fun h3=>?_) (fun x hx hg=>?_) (x:=((w,j,k,([]:List (List D99)),(0:Int),()),(0:Int),())) ⟨⟨Int.le_refl 0,wO4 l⟩,⟨Int.le_refl 0,fun q hq=>by cases hq⟩⟩ (by unfold zJ0;simp only;omega)
  ·exact⟨w.1,wY1 w.2.1.2 (by have:=w.2.1.1;omega)⟩
  ·have h4:x.2.1<len l:=of_decide_eq_true h3;exact⟨⟨hx.1.1,h4⟩,⟨hx.1.1,(show x.2.1<len bs by omega)⟩,(st x hx h4).1,fun _=>wV2 (by omega) (by omega)⟩
  ·have h4:x.2.1<len l:=wX0 hg;refine⟨⟨(show 0≤x.2.1+1∧x.2.1+1≤len l by omega),?_⟩,(show (len l-(x.2.1+1)).toNat<(len l-x.2.1).toNat by omega)⟩;show Few (20000*(x.2.1+1)) 16 (uF7 x.1 _ _).1.2.2.2.1;exact wY1 (st x hx h4).2 (by omega)
 refine⟨⟨qL0 _ _ _,fun _=>⟨h81,fun _ hf=>(key (by simpa using hf)).1⟩⟩,?_⟩;have nil:Few 4294967296 16 ([]:List (List D99)):=⟨(show (0:Int)≤4294967296 by omega),fun q hq=>by cases hq⟩;simp only[f143,qI3,uJ3,uJ4];cases (f158 w j k !=0) with
 |true=>exact nil
 |false =>
  cases (f144 l 0 !=0) with
  |true=>exact nil
  |false =>
   cases hf:(len bs !=len l) with
   |true=>exact nil
   |false =>
    simp only[cond_false];cases tC8 _ _ with
    |true=>exact nil
    |false=>exact (key (by simpa using hf)).2
theorem qN3 (p:D52)(hl:len p.2.2.2.2.2.2.2.2.2.2.2.2.2.2.2.2.2.2.1<9223372036854775808):sB6 p:=by
 have h77:=qM6 p.2.2.2.2.2.2.2.2.2.2.2.2.2.2.2.2.2.2.1 p.2.2.2.2.2.2.2.2.2.2.1 hl;have h78:=rK0 (f140 p.2.2.2.2.2.2.2.2.2.2.2.2.2.2.2.2.2.2.1 p.2.2.2.2.2.2.2.2.2.2.1).1 (by omega);have h79:=qM7 (f140 p.2.2.2.2.2.2.2.2.2.2.2.2.2.2.2.2.2.2.1 p.2.2.2.2.2.2.2.2.2.2.1).1 (by omega);refine⟨h77.1,fun _ _ _=>⟨h78.1,fun _=>⟨fun _=>⟨h79,fun _=>(sV h78.2).1⟩,fun _=>⟨?_,fun _=>sU6 _⟩⟩⟩⟩;refine sU8 _ _ ?_ ?_
 ·cases (p.2.2.2.2.2.2.2.2.2.2.2.2.2.2.2.2.2.2.2.2.1 !=0) with
  |true=>have:=(sV (bs:=(f142 (f140 p.2.2.2.2.2.2.2.2.2.2.2.2.2.2.2.2.2.2.1 p.2.2.2.2.2.2.2.2.2.2.1).1).1) (w:=p.2.2.2.2.2.2.2.2.2.2.2.2.2.2.2.2.2.2.2.2.1) (j:=p.2.2.2.2.2.2.2.2.2.2.2.2.2.2.2.2.2.2.2.2.2.1) (k:=p.2.2.2.2.2.2.2.2.2.2.2.2.2.2.2.2.2.2.2.2.2.2.1) h78.2).2.1;simp only[cond_true];omega
  |false=>have:=h78.2.1;simp only[cond_false];omega
 ·cases (p.2.2.2.2.2.2.2.2.2.2.2.2.2.2.2.2.2.2.2.2.1 !=0) with
  |true=>intro q hq;have:=(sV h78.2).2.2 q hq;omega
  |false=>intro q hq;have:=h78.2.2 q hq;omega
end Go.Proofs.YtmbjipigimohbaaGreatDoor.Am
namespace Go.Proofs.YtmbjipigimohbaaGreatDoor.Am
open Go Go.Am
theorem tE0 {x:Int}(h1:-9223372036854775808≤x)(h2:x≤9223372036854775807):InR x:=⟨h1,h2⟩
def prep (w:List UInt8):List (List UInt8)→List (List UInt8)
 |[]=>[w]
 |x::r=>(w++x)::r
theorem rH (c b:UInt8)(l:List UInt8):wW2 c (b::l)=if b==c then []::wW2 c l else prep [b] (wW2 c l):=by
 rw[wW2];split
 ·rfl
 ·cases wW2 c l<;>rfl
def tot:List (List UInt8)→Nat
 |[]=>0
 |x::r=>x.length+1+tot r
theorem qN4 (w:List UInt8){X:List (List UInt8)}(h:X≠[]):tot (prep w X)=w.length+tot X:=by
 cases X with
 |nil=>exact absurd rfl h
 |cons x r=>simp[prep,tot];omega
theorem sJ2 (c:UInt8):∀ l:List UInt8,tot (wW2 c l)=l.length+1
 |[]=>rfl
 |b::l=>by
  rw[rH];have ih:=sJ2 c l;split
  ·simp only[tot,List.length_nil,List.length_cons,ih];omega
  ·rw[qN4 _ (sW4 c l),ih];simp;omega
theorem sP1:∀ X:List (List UInt8),X.length≤tot X
 |[]=>Nat.le_refl _
 |x::r=>by
  have:=sP1 r;simp only[List.length_cons,tot];omega
theorem rS5 {c:UInt8}{l:List UInt8}(h:Lib.countByte l c=0):wW2 c l=[l]:=by
 refine uI2 c l ?_;unfold Lib.countByte at h
 induction l with
 |nil=>rfl
 |cons b l ih =>
  rw[List.count_cons] at h;have h1:(b==c)=false:=by
   cases hb:b==c with
   |false=>rfl
   |true=>rw[hb] at h;simp at h
  rw[h1] at h;have:=ih (by simpa using h);unfold Lib.indexByte;rw[h1,this];simp
theorem rK4 {c:UInt8}:∀ {l:List UInt8}{i:Nat},Lib.indexByte l c=i→Lib.countByte l c=1+Lib.countByte (l.drop (i+1)) c
 |[],i,h=>by simp only[Lib.indexByte] at h;omega
 |b::l,i,h=>by
  unfold Lib.indexByte at h;unfold Lib.countByte;rw[List.count_cons];by_cases hb:b==c
  ·simp only[hb,if_true] at h ⊢;have:i=0:=by omega
   subst this;simp;omega
  ·simp only[hb,if_false,Bool.false_eq_true] at h ⊢;by_cases hn:Lib.indexByte l c==-1
   ·simp only[hn,if_true] at h;omega
   ·simp only[hn,if_false,Bool.false_eq_true] at h;have hge:=Lib.indexByte_ge l c;have hn':Lib.indexByte l c≠-1:=by simpa using hn
    obtain⟨k,hk⟩:∃ k:Nat,Lib.indexByte l c=k:=⟨(Lib.indexByte l c).toNat,by omega⟩;have ih:=rK4 hk;have:i=k+1:=by omega
    subst this;unfold Lib.countByte at ih;rw[ih];simp
theorem sV0 (c:UInt8)(l:List UInt8):Lib.countByte l c≤l.length:=List.count_le_length
def libI (c:UInt8)(s:List UInt8)(x:List UInt8×List (List UInt8)×Int×Unit):Prop:=
 0≤x.2.2.1∧x.2.2.1≤Lib.countByte s c∧x.2.1.length=Lib.countByte s c+1∧(Lib.countByte x.1 c:Int)=Lib.countByte s c-x.2.2.1∧x.1.length≤s.length∧x.2.1.take x.2.2.1.toNat++wW2 c x.1=wW2 c s
theorem rK5 {X:List (List UInt8)}{k:Nat}{w:List UInt8}(h:k<X.length):(X.set k w).take (k+1)=X.take k++[w]:=by
 rw[List.take_succ_eq_append_getElem (by simpa using h)];simp[List.take_set_of_le]
theorem sJ3 {c:UInt8}{s:List UInt8}{k:Int}(hk:k=Lib.countByte s c){x:List UInt8×List (List UInt8)×Int×Unit}(hi:libI c s x)(hg:vB3 ([c],0,k,()) x=true) :
  libI c s (wX3 ([c],0,k,()) x)∧(k-(wX3 ([c],0,k,()) x).2.2.1).toNat<(k-x.2.2.1).toNat:=by
 obtain⟨a0,a9,a10,_⟩:=x;obtain⟨h1,h2,h3,h4,h5,h6⟩:=hi;simp only at h1 h2 h3 h4 h5 h6;simp only[vB3,vW5,Bool.and_eq_true,decide_eq_true_eq,Bool.not_eq_true',decide_eq_false_iff_not] at hg;obtain⟨hg1,hg2⟩:=hg;have hg2:¬ Lib.indexByte a0 c<0:=hg2;obtain⟨i,hii⟩:∃ i:Nat,Lib.indexByte a0 c=i:=⟨(Lib.indexByte a0 c).toNat,by omega⟩;have hs:=tE4 c a0 i hii;have hc:=rK4 hii;have e82:f205 a0 [c]=i:=hii;simp only[wX3,vW5,e82];have e0:((i:Int)+0).toNat=i:=by omega
 have e1:((i:Int)+len [c]).toNat=i+1:=by show ((i:Int)+1).toNat=_;omega
 have ek:(a10+1).toNat=a10.toNat+1:=by omega
 rw[e0,e1];refine⟨⟨(show 0≤a10+1 by omega),(show a10+1≤_ by omega),?_,?_,?_,?_⟩,(show (k-(a10+1)).toNat<(k-a10).toNat by omega)⟩
 ·simpa using h3
 ·show (Lib.countByte (a0.drop (i+1)) c:Int)=Lib.countByte s c-(a10+1);omega
 ·show (a0.drop (i+1)).length≤s.length;rw[List.length_drop];omega
 ·show (a9.set a10.toNat (a0.take i)).take (a10+1).toNat++wW2 c (a0.drop (i+1))=wW2 c s;rw[ek,rK5 (by omega),List.append_assoc,← h6,hs.1];rfl
theorem tP3 (c:UInt8)(s:List UInt8):libI c s (s,List.replicate (Lib.countByte s c+1) [],0,()):=by
 refine⟨Int.le_refl _,(show (0:Int)≤_ by omega),by simp,(show (Lib.countByte s c:Int)=Lib.countByte s c-0 by omega),Nat.le_refl _,?_⟩;show (List.replicate (Lib.countByte s c+1) []).take (0:Int).toNat++wW2 c s=wW2 c s;rfl
theorem pQ3 (c:UInt8)(s:List UInt8):wS2 ((Lib.countByte s c:Int)+1) (len s+1)=(Lib.countByte s c:Int)+1:=by
 have:=sV0 c s;unfold wS2 len;split<;>omega
theorem pJ1 (c:UInt8)(s:List UInt8)(hs:len s<9223372036854775808):f181 s [c]=wW2 c s:=by
 have hcl:=sV0 c s;have hll:len s=(s.length:Int):=rfl;have h:=wK (g:=vB3 ([c],0,(Lib.countByte s c:Int),())) (next:=wX3 ([c],0,(Lib.countByte s c:Int),())) (libI c s) (fun x=>((Lib.countByte s c:Int)-x.2.2.1).toNat) (fun x hi hg=>sJ3 rfl hi hg) (tP3 c s) (by simp only[zJ0];omega)
 have e84:f207 s [c]=(Lib.countByte s c:Int):=rfl;have eb:([c]==([]:List UInt8))=false:=rfl;have en:Int.toNat ((Lib.countByte s c:Int)+1)=Lib.countByte s c+1:=by omega
 have em:(Lib.countByte s c:Int)+1-1=(Lib.countByte s c:Int):=by omega
 have e1:((-1:Int)==0)=false:=rfl;have e2:decide ((-1:Int)<0)=true:=rfl;simp only[f181,rT7,f196,rT6,vS8,vS9,vT,e84,eb,e1,e2,cond_false,cond_true,pQ3,en,em];generalize zC4 (vB3 ([c],0,(Lib.countByte s c:Int),())) (wX3 ([c],0,(Lib.countByte s c:Int),())) (s,List.replicate (Lib.countByte s c+1) [],0,())=e at h;obtain⟨a0,a9,a10,_⟩:=e;obtain⟨⟨h1,h2,h3,h4,h5,h6⟩,h7⟩:=h;simp only at h1 h2 h3 h4 h5 h6;have hone:wW2 c a0=[a0]:=by
  simp only[vB3,vW5,Bool.and_eq_false_iff,decide_eq_false_iff_not,Bool.not_eq_false',decide_eq_true_eq] at h7;rcases h7 with h7|h7
  ·exact rS5 (by omega)
  ·have h7:Lib.indexByte a0 c<0:=h7;have:=Lib.indexByte_ge a0 c;exact uI2 c a0 (by omega)
 show (a9.set a10.toNat a0).take (a10+1).toNat=wW2 c s;have ek:(a10+1).toNat=a10.toNat+1:=by omega
 rw[ek,rK5 (by omega),← hone,h6]
theorem qN5 (c:UInt8)(s:List UInt8)(hs:len s≤4096):uN2 s [c]:=by
 have hcl:=sV0 c s;have hll:len s=(s.length:Int):=rfl;have e84:f207 s [c]=(Lib.countByte s c:Int):=rfl;have eb:([c]==([]:List UInt8))=false:=rfl;have en:Int.toNat ((Lib.countByte s c:Int)+1)=Lib.countByte s c+1:=by omega
 have em:(Lib.countByte s c:Int)+1-1=(Lib.countByte s c:Int):=by omega
 have e1:((-1:Int)==0)=false:=rfl;have e2:decide ((-1:Int)<0)=true:=rfl;have h:=wK (g:=vB3 ([c],0,(Lib.countByte s c:Int),())) (next:=wX3 ([c],0,(Lib.countByte s c:Int),())) (libI c s) (fun x=>((Lib.countByte s c:Int)-x.2.2.1).toNat) (fun x hi hg=>sJ3 rfl hi hg) (tP3 c s) (by simp only[zJ0];omega)
 have hE:xQ5 (vB3 ([c],0,(Lib.countByte s c:Int),())) (wX3 ([c],0,(Lib.countByte s c:Int),())) (vW6 ([c],0,(Lib.countByte s c:Int),())) (s,List.replicate (Lib.countByte s c+1) [],0,()):=by
  refine wK0 (libI c s) (fun x=>((Lib.countByte s c:Int)-x.2.2.1).toNat) (fun x hi=>?_) (fun x hi hg=>sJ3 rfl hi hg) (tP3 c s) (by simp only[zJ0];omega);obtain⟨a0,a9,a10,_⟩:=x;obtain⟨h1,h2,h3,h4,h5,h6⟩:=hi;simp only at h1 h2 h3 h4 h5 h6;intro hv;have hv:a10<(Lib.countByte s c:Int):=of_decide_eq_true hv;refine⟨rfl,fun g=>?_⟩;have g:(!decide (Lib.indexByte a0 c<0))=true:=g;have g:¬ Lib.indexByte a0 c<0:=by simpa using g
  obtain⟨i,hii⟩:∃ i:Nat,Lib.indexByte a0 c=i:=⟨(Lib.indexByte a0 c).toNat,by omega⟩;have hs:=tE4 c a0 i hii;have e82:f205 a0 [c]=i:=hii;have hla:len a0=(a0.length:Int):=rfl;have hl9:len a9=(a9.length:Int):=rfl;have hone:len [c]=1:=rfl;simp only[e82,hone];exact⟨tE0 (by omega) (by omega),⟨by omega,by omega⟩,⟨by omega,by omega⟩,by omega,tE0 (by omega) (by omega),⟨by omega,by omega⟩,tE0 (by omega) (by omega)⟩
 simp only[uN2,rT7,tX6,rT6,vS8,vS9,vT,e84,eb,e1,e2,cond_true,pQ3,en,em];generalize zC4 (vB3 ([c],0,(Lib.countByte s c:Int),())) (wX3 ([c],0,(Lib.countByte s c:Int),())) (s,List.replicate (Lib.countByte s c+1) [],0,())=e at h;obtain⟨a0,a9,a10,_⟩:=e;obtain⟨⟨h1,h2,h3,h4,h5,h6⟩,h7⟩:=h;simp only at h1 h2 h3 h4 h5 h6;have hl9:len a9=(a9.length:Int):=rfl;have hset:len (a9.set a10.toNat a0)=(a9.length:Int):=by unfold len;rw[List.length_set]
 refine fun _=>⟨fun g=>absurd g (by simp),fun _=>⟨fun _=>⟨rfl,tE0 (by omega) (by omega)⟩,tE0 (by omega) (by omega),⟨by omega,by omega,by omega⟩,tE0 (by omega) (by omega),hE,?_⟩⟩;show InB a10 (len a9)∧a10<len a9∧InR (a10+1)∧0≤a10+1∧a10+1≤len (a9.set a10.toNat a0);rw[hset];exact⟨⟨by omega,by omega⟩,by omega,tE0 (by omega) (by omega),by omega,by omega⟩
end Go.Proofs.YtmbjipigimohbaaGreatDoor.Am
namespace Go.Proofs.YtmbjipigimohbaaGreatDoor.Am
open Go Go.Am
theorem rK6 (a b c:Int):vO0 a b c:=trivial
theorem qN6 (s:List UInt8)(w h:Int)(hs:len s<9223372036854775808):sC4 std s w h:=
 ⟨qK2,fun _=>⟨wQ8 (wO4 s) hs (fun _ h=>wX0 h) (fun _=>rfl) fun x h1 _=>fun h3=>by
  have h4:x.1<len s:=of_decide_eq_true h3;exact⟨⟨h1,h4⟩,fun _=>⟨h1,h4⟩,fun _=>⟨h1,h4⟩,fun _=>wV2 (by omega) (by omega)⟩,fun _ _=>⟨rK6 _ _ _,fun _=>rK6 _ _ _⟩⟩⟩
theorem qC9 {s:List UInt8}{w h:Int}(h0:f160 std s w h=0):len s≤128:=by
 simp only[f160,qI4,uQ5] at h0;cases hc:(f178 std !=0) with
 |true =>
  simp only[hc,cond_true] at h0;simp[h0] at hc
 |false =>
  simp only[hc,cond_false] at h0;cases he:tN6 _ _ with
  |true=>rw[he] at h0;simp at h0
  |false =>
   rw[he] at h0;simp only[cond_false] at h0;cases hk:decide (len s>128) with
   |true=>rw[hk] at h0;simp at h0
   |false=>have:=of_decide_eq_false hk;omega
def sV1 (p:D239):Prop:=p.1=std∧len p.2.1=256∧∀ v,InB v 256→-1≤nth p.2.1 v (0:Int)∧nth p.2.1 v (0:Int)<95
theorem sV2:len std.2.2.2.1=95:=by simp only[len,rS4];rfl
theorem qN7:len std.2.2.2.2.1=4:=rfl
theorem qD:sV1 (f161 std):=by
 refine⟨qC3,by simp only[len,rJ3];rfl,fun v hv=>?_⟩;have hm:nth (f161 std).2.1 v (0:Int)∈(f161 std).2.1:=wZ7 (by simp only[len,rJ3];exact hv);have h:=List.all_eq_true.1 qK4 _ hm;simp only[Bool.and_eq_true,decide_eq_true_eq] at h;exact h
theorem qN8 {p:D239}{a b:Int}(hp:p.1=std)(ha:InB a 95)(hb:InB b 95):tX7 p a b:=by
 have hk:len p.1.2.2.2.2.1=4:=by rw[hp];exact qN7
 have hg:len p.1.2.2.2.1=95:=by rw[hp];exact sV2
 refine⟨by rw[hg];exact ha,by rw[hg];exact hb,?_⟩;have w:=whole (g:=tE5 ((nth p.1.2.2.2.1 a Z218).1,(nth p.1.2.2.2.1 b Z218).1,p.1.2.2.2.2.1,(len p.1.2.2.2.2.1),())) (next:=uB9 ((nth p.1.2.2.2.1 a Z218).1,(nth p.1.2.2.2.1 b Z218).1,p.1.2.2.2.2.1,(len p.1.2.2.2.2.1),())) (ok:=uE ((nth p.1.2.2.2.1 a Z218).1,(nth p.1.2.2.2.1 b Z218).1,p.1.2.2.2.2.1,(len p.1.2.2.2.2.1),())) (fun x=>0≤x.1∧x.1≤4) (fun x=>(4-x.1).toNat) (fun x hx=>fun h3=>by
   have h4:x.1<len p.1.2.2.2.2.1:=of_decide_eq_true h3;exact⟨hx.1,h4⟩) (fun x hx hg=>by
   have h4:x.1<len p.1.2.2.2.2.1:=wX0 hg;have e:IntKind.wrap .i64 (x.1+1)=x.1+1:=vB6 (wV2 (by omega) (by omega));show (0≤IntKind.wrap .i64 (x.1+1)∧IntKind.wrap .i64 (x.1+1)≤4)∧(4-IntKind.wrap .i64 (x.1+1)).toNat<(4-x.1).toNat;rw[e];omega) (x:=(0,())) ⟨by decide,by decide⟩ (by simp[zJ0])
 exact w.1
theorem qD0 (s:List UInt8)(i:Int):InB (wT5 s i) 256:=by
 have:=(s.getD i.toNat 0).toNat_lt;unfold InB wT5;omega
theorem uB6 {α:Type}{P:α→Prop}{l:List α}{x:α}(h:∀ q∈l,P q)(hx:P x):∀ q∈l++[x],P q:=fun q hq=>by
 rcases List.mem_append.1 hq with h1|h1
 ·exact h q h1
 ·rw[List.mem_singleton.1 h1];exact hx
def pQ4 (s:List UInt8)(x:vL0):Prop:=(0≤x.2.2.1∧x.2.2.1≤len s)∧len x.1≤x.2.2.1∧∀ q∈x.1,InB q.1 95
theorem pT1 {p:D239}(hp:sV1 p)(s:List UInt8)(hs:len s≤1000000) :
  xQ5 (uE1 (p,s,len s,())) (vK5 (p,s,len s,())) (vU9 (p,s,len s,())) ([],0,0,()) ∧
  pQ4 s (zC4 (uE1 (p,s,len s,())) (vK5 (p,s,len s,())) ([],0,0,())):=by
 have w:=whole (g:=uE1 (p,s,len s,())) (next:=vK5 (p,s,len s,())) (ok:=vU9 (p,s,len s,())) (pQ4 s) (fun x=>(len s-x.2.2.1).toNat) (fun x hx=>fun h3=>?_) (fun x hx hg=>?_) (x:=([],0,0,())) ⟨⟨Int.le_refl 0,wO4 s⟩,Int.le_refl 0,fun q hq=>by cases hq⟩ (by unfold zJ0;simp only;omega)
 ·exact⟨w.1,w.2.1⟩
 ·have h4:x.2.2.1<len s:=of_decide_eq_true h3;obtain⟨⟨h0,h1⟩,h2,h5⟩:=hx;have hb:=qD0 s x.2.2.1;have hv:=hp.2.2 _ hb;have hl:len x.1=(x.1.length:Int):=rfl;refine⟨⟨h0,h4⟩,hb,fun hn=>?_⟩;have hn:¬ nth p.2.1 (wT5 s x.2.2.1) (0:Int)<0:=by simpa using hn
  have hv':InB (nth p.2.1 (wT5 s x.2.2.1) (0:Int)) 95:=⟨by omega,hv.2⟩;refine⟨fun hg=>?_,?_,?_⟩
  ·have hg:len x.1>0:=of_decide_eq_true hg;have e:IntKind.wrap .i64 (len x.1-1)=len x.1-1:=vB6 (wV2 (by omega) (by omega));have hi:InB (IntKind.wrap .i64 (len x.1-1)) (len x.1):=by rw[e];exact⟨by omega,by omega⟩
   exact⟨hi,qN8 hp.1 (h5 _ (wZ7 hi)) hv'⟩
  ·show ((x.1.length+1:Nat):Int)≤4294967296;omega
  ·show InB _ (len p.1.2.2.2.1);rw[hp.1,sV2];exact hv'
 ·have h4:x.2.2.1<len s:=wX0 hg;obtain⟨⟨h0,h1⟩,h2,h5⟩:=hx;have e:IntKind.wrap .i64 (x.2.2.1+1)=x.2.2.1+1:=vB6 (wV2 (by omega) (by omega));have hv:=hp.2.2 _ (qD0 s x.2.2.1);refine⟨⟨?_,?_,?_⟩,?_⟩
  ·show 0≤IntKind.wrap .i64 (x.2.2.1+1)∧IntKind.wrap .i64 (x.2.2.1+1)≤len s;rw[e];omega
  ·show len (bif decide (nth p.2.1 (wT5 s x.2.2.1) (0:Int)<0) then x.1 else (x.1++_))≤IntKind.wrap .i64 (x.2.2.1+1);rw[e];cases decide (nth p.2.1 (wT5 s x.2.2.1) (0:Int)<0) with
   |true=>simp only[cond_true];omega
   |false=>simp only[cond_false,vJ,vK4];omega
  ·show ∀ q∈(bif decide (nth p.2.1 (wT5 s x.2.2.1) (0:Int)<0) then x.1 else (x.1++[(nth p.2.1 (wT5 s x.2.2.1) (0:Int),_,())])),InB q.1 95;cases hd:decide (nth p.2.1 (wT5 s x.2.2.1) (0:Int)<0) with
   |true=>exact h5
   |false =>
    have hd:=of_decide_eq_false hd;exact uB6 h5 ⟨(show 0≤nth p.2.1 (wT5 s x.2.2.1) (0:Int) by omega),hv.2⟩
  ·show (len s-IntKind.wrap .i64 (x.2.2.1+1)).toNat<(len s-x.2.2.1).toNat;rw[e];omega
theorem rK7 {p:D239}(hp:sV1 p)(s:List UInt8)(hs:len s≤1000000):uN3 p s∧len (f163 p s).1≤len s∧∀ q∈(f163 p s).1,InB q.1 95:=by
 have h:=pT1 hp s hs;exact⟨h.1,Int.le_trans h.2.2.1 h.2.1.2,h.2.2.2⟩
theorem qN9 {p:D239}(hp:sV1 p)(s:List UInt8)(w:Int)(hs:len s≤1000000):tM1 p s w:=⟨(rK7 hp s hs).1,wX1 _ _⟩
theorem qD1:∀ {X:List (List UInt8)}{w:List UInt8},w∈X→w.length+1≤tot X
 |x::r,w,h=>by
  simp only[tot];rcases List.mem_cons.1 h with h|h
  ·rw[h];omega
  ·have:=qD1 h;omega
theorem rC1 (c:UInt8){s:List UInt8}{n:Int}(h:len s≤n):len (wW2 c s)≤n+1∧∀ w∈wW2 c s,len w≤n:=by
 have h1:=sP1 (wW2 c s);rw[sJ2] at h1;have hl:len s=(s.length:Int):=rfl;have hl2:len (wW2 c s)=((wW2 c s).length:Int):=rfl;refine⟨by omega,fun w hw=>?_⟩;have h2:=qD1 hw;rw[sJ2] at h2;have hl3:len w=(w.length:Int):=rfl;omega
def Lns (n:Int)(l:List (List UInt8)):Prop:=len l≤n∧∀ q∈l,len q≤100000
def pQ5 (l:List (List UInt8))(n:Int)(x:vH1):Prop:=(0≤x.2.2.1∧x.2.2.1≤len l)∧Lns (n+x.2.2.1) x.1∧len x.2.1≤200*(x.2.2.1+1)
theorem lin7 {p:D239}(hp:sV1 p)(a b n:Int)(l A:List (List UInt8))(w:List UInt8)(hl:len l≤129)(hq:∀ q∈l,len q≤128)(hn:n≤1000000000)(hA:Lns n A)(hw:len w≤128) :
  xQ5 (vN4 (p,a,b,l,len l,())) (vC4 (p,a,b,l,len l,())) (vN3 (p,a,b,l,len l,())) (A,w,0,()) ∧
  pQ5 l n (zC4 (vN4 (p,a,b,l,len l,())) (vC4 (p,a,b,l,len l,())) (A,w,0,())):=by
 have wh:=whole (g:=vN4 (p,a,b,l,len l,())) (next:=vC4 (p,a,b,l,len l,())) (ok:=vN3 (p,a,b,l,len l,())) (pQ5 l n) (fun x=>(len l-x.2.2.1).toNat) (fun x hx=>fun h3=>?_) (fun x hx hg=>?_) (x:=(A,w,0,())) ⟨⟨Int.le_refl 0,wO4 l⟩,by simpa[Lns] using hA,(show len w≤200*(0+1) by omega)⟩ (by unfold zJ0;simp only;omega)
 ·exact⟨wh.1,wh.2.1⟩
 ·have h4:x.2.2.1<len l:=of_decide_eq_true h3;obtain⟨⟨h0,h1⟩,h2,h5⟩:=hx;have hm:=hq _ (wZ7 (d:=([]:List UInt8)) ⟨h0,h4⟩);have e1:len x.2.1=(x.2.1.length:Int):=rfl;have e2:len x.1=(x.1.length:Int):=rfl;have e3:len (nth l x.2.2.1 ([]:List UInt8))=((nth l x.2.2.1 ([]:List UInt8)).length:Int):=rfl;have h21:=h2.1;refine⟨⟨h0,h4⟩,(show ((x.2.1.length+1:Nat):Int)≤9223372036854775807 by omega),?_,fun _=>qN9 hp _ _ ?_,fun _=>(show ((x.1.length+1:Nat):Int)≤4294967296 by omega),wV2 (by omega) (by omega)⟩
  ·show (((x.2.1++[32]).length+(nth l x.2.2.1 ([]:List UInt8)).length:Nat):Int)≤9223372036854775807;rw[List.length_append];simp only[List.length_cons,List.length_nil];omega
  ·show len ((x.2.1++[32])++nth l x.2.2.1 ([]:List UInt8))≤1000000;rw[vJ,vJ,vK4];omega
 ·have h4:x.2.2.1<len l:=of_decide_eq_true hg;obtain⟨⟨h0,h1⟩,h2,h5⟩:=hx;have hm:=hq _ (wZ7 (d:=([]:List UInt8)) ⟨h0,h4⟩);refine⟨⟨(show 0≤x.2.2.1+1∧x.2.2.1+1≤len l by omega),?_,?_⟩,(show (len l-(x.2.2.1+1)).toNat<(len l-x.2.2.1).toNat by omega)⟩
  ·show Lns (n+(x.2.2.1+1)) (bif _ then x.1 else (x.1++[x.2.1]));generalize (bif (b==0) then true else _)=c;cases c with
   |true=>exact⟨(show len x.1≤_ by have:=h2.1;omega),h2.2⟩
   |false=>exact⟨by rw[cond_false,vJ,vK4];have:=h2.1;omega,uB6 h2.2 (by omega)⟩
  ·show len (bif _ then ((x.2.1++[32])++nth l x.2.2.1 ([]:List UInt8)) else nth l x.2.2.1 ([]:List UInt8))≤200*(x.2.2.1+1+1);generalize (bif (b==0) then true else _)=c;cases c with
   |true=>rw[cond_true,vJ,vJ,vK4];omega
   |false=>rw[cond_false];omega
theorem qD2 {p:D239}(hp:sV1 p)(a b n:Int)(A:List (List UInt8))(x:List UInt8)(hx:len x≤128)(hn:n≤1000000000)(hA:Lns n A) :
  vT0 p a b A x∧Lns (n+130) (vE p a b A x):=by
 have e:f181 x [32]=wW2 32 x:=pJ1 32 x (by omega);have ho:uN2 x [32]:=qN5 32 x (by omega);obtain⟨hs1,hs2⟩:=rC1 32 hx;have hne:=sW4 32 x;have h1:(1:Int)≤len (wW2 32 x):=by
  cases hc:wW2 32 x with
  |nil=>exact absurd hc hne
  |cons y r=>simp only[len,List.length_cons];omega
 have hd:len (List.drop (Int.toNat (1:Int)) (wW2 32 x))≤129:=by
  simp only[len,List.length_drop] at hs1 ⊢;omega
 have h7:=lin7 hp a b n (List.drop (Int.toNat (1:Int)) (wW2 32 x)) A (nth (wW2 32 x) 0 ([]:List UInt8)) hd (fun q hq=>hs2 q (List.mem_of_mem_drop hq)) hn hA (hs2 _ (wZ7 ⟨Int.le_refl 0,by omega⟩));simp only[vT0,vE,tM2,rI1,e,uI3,uI4];generalize zC4 (vN4 (p,a,b,List.drop (Int.toNat (1:Int)) (wW2 32 x),len (List.drop (Int.toNat (1:Int)) (wW2 32 x)),())) (vC4 (p,a,b,List.drop (Int.toNat (1:Int)) (wW2 32 x),len (List.drop (Int.toNat (1:Int)) (wW2 32 x)),())) (A,nth (wW2 32 x) 0 ([]:List UInt8),0,())=z at h7 ⊢;obtain⟨hE,⟨h0,h2⟩,h3,h4⟩:=h7;have e2:len z.1=(z.1.length:Int):=rfl;have h31:=h3.1;refine⟨⟨ho,⟨by omega,by omega⟩,⟨by omega,h1⟩,hE,(show ((z.1.length+1:Nat):Int)≤4294967296 by omega)⟩,⟨?_,uB6 h3.2 (by omega)⟩⟩;rw[vJ,vK4];omega
theorem sP2 {p:D239}(hp:sV1 p)(a b:Int):∀ (xs:List (List UInt8)) (n:Int) (A:List (List UInt8)),(∀ x∈xs,len x≤128)→n+130*len xs≤1000000000→Lns n A →
  wD5 (vT0 p a b) (vE p a b) xs A∧Lns (n+130*len xs) (xs.foldl (vE p a b) A)
 |[],n,A,_,_,hA=>⟨trivial,by simpa[len] using hA⟩
 |x::r,n,A,hx,hn,hA=>by
  have e:len (x::r)=len r+1:=by simp[len]
  have hr:=wO4 r;have h1:=qD2 hp a b n A x (hx x (List.mem_cons_self ..)) (by omega) hA;have h2:=sP2 hp a b r (n+130) (vE p a b A x) (fun y hy=>hx y (List.mem_cons_of_mem _ hy)) (by omega) h1.2;refine⟨⟨h1.1,h2.1⟩,?_⟩;rw[show n+130*len (x::r)=n+130+130*len r by omega];exact h2.2
theorem qO {p:D239}(hp:sV1 p)(s:List UInt8)(a b:Int)(hs:len s≤128):uI5 p s a b∧Lns 20000 (f162 p s a b):=by
 obtain⟨h1,h2⟩:=rC1 10 hs;have h:=sP2 hp a b (wW2 10 s) 0 [] h2 (by omega) ⟨Int.le_refl 0,fun q hq=>by cases hq⟩;have hl:len s=(s.length:Int):=rfl;exact⟨⟨by omega,h.1⟩,⟨by have:=h.2.1;show len (f162 p s a b)≤20000;unfold f162;omega,h.2.2⟩⟩
end Go.Proofs.YtmbjipigimohbaaGreatDoor.Am
namespace Go.Proofs.YtmbjipigimohbaaGreatDoor.Am
open Go Go.Am
theorem tP4 {n m:Int}(h:0≤n):Few n m []:=⟨h,fun q hq=>by cases hq⟩
theorem pJ2 {n m:Int}{l:List (List D99)}{q:List D99}(h:Few n m l)(hq:len q≤m):Few (n+1) m (l++[q]):=
 ⟨by rw[vJ,vK4];have:=h.1;omega,uB6 h.2 hq⟩
theorem tL5 {x n:Int}(h0:0≤x)(h:x<n)(hn:n≤4611686018427387904):IntKind.wrap .i64 (x+1)=x+1:=vB6 (wV2 (by omega) (by omega))
theorem rH0 {i:Int}(h:InB i 95):len (nth std.2.2.2.1 i Z218).2.2.1<9223372036854775808∧Few 64 64 (f141 (nth std.2.2.2.1 i Z218).2.2.1).1∧∀ q∈(f141 (nth std.2.2.2.1 i Z218).2.2.1).1,1≤len q:=by
 have hm:nth std.2.2.2.1 i Z218∈std.2.2.2.1:=wZ7 (by rw[sV2];exact h);have hp:=List.all_eq_true.1 qC4 _ hm;have hs:=List.all_eq_true.1 qK5 _ hm;simp only[qS2,Bool.and_eq_true,decide_eq_true_eq,List.all_eq_true] at hp hs;refine⟨by unfold len;omega,⟨by unfold len;omega,fun q hq=>?_⟩,fun q hq=>?_⟩
 ·have:=hp.2 q hq;unfold len;omega
 ·have:=hp.2 q hq;unfold len;omega
theorem pQ6 (y:vW)(a:List D99)(hy1:y.2.2.2.2.2.2.2.2.2.2.2.2.2.2.2.2.1=a)(hy2:y.2.2.2.2.2.2.2.2.2.2.2.2.2.2.2.2.2.1=len a)(ha:len a≤64) :
  xQ5 (vW0 y) (vI3 y) (vO6 y) (List.replicate (Int.toNat (len a)) Z99,0,()) ∧
  len (zC4 (vW0 y) (vI3 y) (List.replicate (Int.toNat (len a)) Z99,0,())).1=len a:=by
 have h0a:=wO4 a;have w:=whole (g:=vW0 y) (next:=vI3 y) (ok:=vO6 y) (fun x=>(0≤x.2.1∧x.2.1≤len a)∧len x.1=len a) (fun x=>(len a-x.2.1).toNat) (fun x hx=>fun h3=>?_) (fun x hx hg=>?_) (x:=(List.replicate (Int.toNat (len a)) Z99,0,())) ⟨⟨Int.le_refl 0,h0a⟩,by simp only[len,List.length_replicate];omega⟩ (by unfold zJ0;simp only;omega)
 ·exact⟨w.1,w.2.1.2⟩
 ·have h4:x.2.1<y.2.2.2.2.2.2.2.2.2.2.2.2.2.2.2.2.2.1:=of_decide_eq_true h3;rw[hy2] at h4;obtain⟨⟨h0,h1⟩,h2⟩:=hx;exact⟨(by rw[hy1];exact⟨h0,h4⟩),wX1 _ _,wX1 _ _,(by rw[h2];exact⟨h0,h4⟩),(by rw[h2];exact h4)⟩
 ·have h4:x.2.1<y.2.2.2.2.2.2.2.2.2.2.2.2.2.2.2.2.2.1:=of_decide_eq_true hg;rw[hy2] at h4;obtain⟨⟨h0,h1⟩,h2⟩:=hx;have e:=tL5 h0 h4 (by omega);refine⟨⟨?_,?_⟩,?_⟩
  ·show 0≤IntKind.wrap .i64 (x.2.1+1)∧IntKind.wrap .i64 (x.2.1+1)≤len a;rw[e];omega
  ·show len (List.set x.1 _ _)=len a;rw[vH];exact h2
  ·show (len a-IntKind.wrap .i64 (x.2.1+1)).toNat<(len a-x.2.1).toNat;rw[e];omega
def Pts (l:List (List D99))(n:Int):Prop:=(0≤n∧n≤4096)∧Few n 64 l
theorem pT2 (y:wZ)(a A:List (List D99))(n:Int)(hy1:y.2.2.2.2.2.2.2.2.2.2.2.1=a)(hy2:y.2.2.2.2.2.2.2.2.2.2.2.2.1=len a)(ha:Few 64 64 a)(h1:∀ q∈a,1≤len q)(hA:Pts A n) :
  xQ5 (wX5 y) (wW y) (vF y) (A,n,0,()) ∧
  Pts (zC4 (wX5 y) (wW y) (A,n,0,())).1 (zC4 (wX5 y) (wW y) (A,n,0,())).2.1:=by
 have h0a:=wO4 a;have ha1:=ha.1;obtain⟨y0,y1,y2,y3,y4,y5,y6,y7,y8,y9,y10,y11,y12,⟨⟩⟩:=y;simp only at hy1 hy2;subst hy1 hy2;have w:=whole (g:=wX5 (y0,y1,y2,y3,y4,y5,y6,y7,y8,y9,y10,y11,len y11,())) (next:=wW (y0,y1,y2,y3,y4,y5,y6,y7,y8,y9,y10,y11,len y11,())) (ok:=vF (y0,y1,y2,y3,y4,y5,y6,y7,y8,y9,y10,y11,len y11,())) (fun x=>(0≤x.2.2.1∧x.2.2.1≤len y11)∧Pts x.1 x.2.1) (fun x=>(len y11-x.2.2.1).toNat) (fun x hx=>fun h3=>?_) (fun x hx hg=>?_) (x:=(A,n,0,())) ⟨⟨Int.le_refl 0,h0a⟩,hA⟩ (by unfold zJ0;simp only;omega)
 ·exact⟨w.1,w.2.1.2⟩
 ·have h4:x.2.2.1<len y11:=of_decide_eq_true h3;obtain⟨⟨h0,h5⟩,hp,hf⟩:=hx;have hm:=wZ7 (d:=([]:List D99)) (show InB x.2.2.1 (len y11) from ⟨h0,h4⟩);have hq:=ha.2 _ hm;have hq0:=wO4 (nth y11 x.2.2.1 ([]:List D99));have e2:len x.1=(x.1.length:Int):=rfl;have hf1:=hf.1;exact⟨⟨h0,h4⟩,fun _=>⟨⟨hq0,Int.le_refl _,(show len (nth y11 x.2.2.1 ([]:List D99))≤4294967296 by omega)⟩,(pQ6 _ _ rfl rfl hq).1,(show ((x.1.length+1:Nat):Int)≤4294967296 by omega)⟩⟩
 ·simp only[wX5,vY8,Bool.and_eq_true,decide_eq_true_eq,Bool.not_eq_true',decide_eq_false_iff_not] at hg;obtain⟨h4,hk⟩:=hg;obtain⟨⟨h0,h5⟩,hp,hf⟩:=hx;have hm:=wZ7 (d:=([]:List D99)) (show InB x.2.2.1 (len y11) from ⟨h0,h4⟩);have hq:=ha.2 _ hm;have hq1:=h1 _ hm;have e:=tL5 h0 h4 (by omega);have e2:IntKind.wrap .i64 (x.2.1+len (nth y11 x.2.2.1 ([]:List D99)))=x.2.1+len (nth y11 x.2.2.1 ([]:List D99)):=vB6 (wV2 (by omega) (by omega));rw[e2] at hk;refine⟨⟨?_,?_,?_⟩,?_⟩
  ·show 0≤IntKind.wrap .i64 (x.2.2.1+1)∧IntKind.wrap .i64 (x.2.2.1+1)≤len y11;rw[e];omega
  ·show 0≤IntKind.wrap .i64 (x.2.1+len (nth y11 x.2.2.1 ([]:List D99)))∧IntKind.wrap .i64 (x.2.1+len (nth y11 x.2.2.1 ([]:List D99)))≤4096;rw[e2];omega
  ·show Few (IntKind.wrap .i64 (x.2.1+len (nth y11 x.2.2.1 ([]:List D99)))) 64 (x.1++[_]);rw[e2];refine wY1 (pJ2 hf ?_) (by omega:x.2.1+1≤_);have:=(pQ6 (y0,y1,y2,x.1,(IntKind.wrap .i64 (x.2.1+len (nth y11 x.2.2.1 ([]:List D99)))),y3,y4,y5,y6,y7,y8,y9,y10,y11,len y11,x.2.2.1,nth y11 x.2.2.1 ([]:List D99),len (nth y11 x.2.2.1 ([]:List D99)),()) _ rfl rfl hq).2;exact Int.le_trans (Int.le_of_eq this) hq
  ·show (len y11-IntKind.wrap .i64 (x.2.2.1+1)).toNat<(len y11-x.2.2.1).toNat;rw[e];omega
def pJ3 (s:D190):Prop:=len s.2.2.2.1=95∧∀ i,InB i 95→len (nth s.2.2.2.1 i Z218).2.2.1<9223372036854775808∧Few 64 64 (f141 (nth s.2.2.2.1 i Z218).2.2.1).1∧∀ q∈(f141 (nth s.2.2.2.1 i Z218).2.2.1).1,1≤len q
theorem pJ4:pJ3 std:=⟨sV2,fun _ h=>rH0 h⟩
def in18 (y:wX6)(x:wX7):wZ:=(y.1,y.2.1,y.2.2.1,y.2.2.2.1,nth y.2.2.2.2.2.2.2.1 x.2.2.1 Z99,y.2.2.2.2.1,y.2.2.2.2.2.1,y.2.2.2.2.2.2.1,y.2.2.2.2.2.2.2.1,y.2.2.2.2.2.2.2.2.1,x.2.2.1,(f141 (nth y.2.1.2.2.2.1 (nth y.2.2.2.2.2.2.2.1 x.2.2.1 Z99).1 Z218).2.2.1).1,len (f141 (nth y.2.1.2.2.2.1 (nth y.2.2.2.2.2.2.2.1 x.2.2.1 Z99).1 Z218).2.2.1).1,())
theorem pQ7 (y:wX6)(x:wX7):wV9 y x=((zC4 (wX5 (in18 y x)) (wW (in18 y x)) (x.1,x.2.1,(0:Int),())).1,(zC4 (wX5 (in18 y x)) (wW (in18 y x)) (x.1,x.2.1,(0:Int),())).2.1,IntKind.wrap .i64 (x.2.2.1+1),()):=rfl
theorem ok12 (y:wX6)(x:wX7):vC7 y x=(decide (x.2.2.1<y.2.2.2.2.2.2.2.2.1)=true→(InB x.2.2.1 (len y.2.2.2.2.2.2.2.1)∧(InB (nth y.2.2.2.2.2.2.2.1 x.2.2.1 Z99).1 (len y.2.1.2.2.2.1)∧((uP (nth y.2.1.2.2.2.1 (nth y.2.2.2.2.2.2.2.1 x.2.2.1 Z99).1 Z218).2.2.1)∧((!((f141 (nth y.2.1.2.2.2.1 (nth y.2.2.2.2.2.2.2.1 x.2.2.1 Z99).1 Z218).2.2.1).2.1 !=0))=true→(xQ5 (wX5 (in18 y x)) (wW (in18 y x)) (vF (in18 y x)) (x.1,x.2.1,(0:Int),()))))))):=rfl
theorem pT3 (y:wX6)(a:List D99)(A:List (List D99))(n:Int){s:D190}(hG:pJ3 s)(hs:y.2.1=s)(hy1:y.2.2.2.2.2.2.2.1=a)(hy2:y.2.2.2.2.2.2.2.2.1=len a)(ha:len a≤1000000)(hi:∀ q∈a,InB q.1 95)(hA:Pts A n) :
  xQ5 (wY3 y) (wV9 y) (vC7 y) (A,n,0,()) ∧
  Pts (zC4 (wY3 y) (wV9 y) (A,n,0,())).1 (zC4 (wY3 y) (wV9 y) (A,n,0,())).2.1:=by
 have h0a:=wO4 a;obtain⟨y0,y1,y2,y3,y4,y5,y6,y7,y8,⟨⟩⟩:=y;simp only at hy1 hy2 hs;subst hy1 hy2;cases hs;have key:∀ (x:wX7),((0≤x.2.2.1∧x.2.2.1≤len y7)∧Pts x.1 x.2.1)→x.2.2.1<len y7→InB (nth y7 x.2.2.1 Z99).1 95∧uP (nth s.2.2.2.1 (nth y7 x.2.2.1 Z99).1 Z218).2.2.1∧(∀ u:List D99,True) ∧
   ∀ y:wZ,y.2.2.2.2.2.2.2.2.2.2.2.1=(f141 (nth s.2.2.2.1 (nth y7 x.2.2.1 Z99).1 Z218).2.2.1).1→y.2.2.2.2.2.2.2.2.2.2.2.2.1=len (f141 (nth s.2.2.2.1 (nth y7 x.2.2.1 Z99).1 Z218).2.2.1).1 →
    xQ5 (wX5 y) (wW y) (vF y) (x.1,x.2.1,0,())∧Pts (zC4 (wX5 y) (wW y) (x.1,x.2.1,0,())).1 (zC4 (wX5 y) (wW y) (x.1,x.2.1,0,())).2.1:=fun x hx h4=>by
  have hb:=hi _ (wZ7 (d:=Z99) (show InB x.2.2.1 (len y7) from ⟨hx.1.1,h4⟩));obtain⟨g1,g2,g3⟩:=hG.2 _ hb;exact⟨hb,(rK0 _ g1).1,fun _=>trivial,fun y e1 e2=>pT2 y _ x.1 x.2.1 e1 e2 g2 g3 hx.2⟩
 have w:=whole (g:=wY3 (y0,s,y2,y3,y4,y5,y6,y7,len y7,())) (next:=wV9 (y0,s,y2,y3,y4,y5,y6,y7,len y7,())) (ok:=vC7 (y0,s,y2,y3,y4,y5,y6,y7,len y7,())) (fun x=>(0≤x.2.2.1∧x.2.2.1≤len y7)∧Pts x.1 x.2.1) (fun x=>(len y7-x.2.2.1).toNat) (fun x hx=>?_) (fun x hx hg=>?_) (x:=(A,n,0,())) ⟨⟨Int.le_refl 0,h0a⟩,hA⟩ (by unfold zJ0;simp only;omega)
 ·exact⟨w.1,w.2.1.2⟩
 ·rw[ok12];intro h3;have h4:x.2.2.1<len y7:=of_decide_eq_true h3;obtain⟨k1,k2,_,k3⟩:=key x hx h4;exact⟨⟨hx.1.1,h4⟩,(show InB _ (len s.2.2.2.1) by rw[hG.1];exact k1),k2,fun _=>(k3 _ rfl rfl).1⟩
 ·have h4:x.2.2.1<len y7:=wX0 hg;obtain⟨k1,k2,_,k3⟩:=key x hx h4;have e:=tL5 hx.1.1 h4 (by omega);rw[pQ7,e];refine⟨⟨?_,?_⟩,?_⟩
  ·have:=hx.1;exact (show 0≤x.2.2.1+1∧x.2.2.1+1≤len y7 by omega)
  ·exact (k3 _ rfl rfl).2
  ·have:=hx.1;exact (show (len y7-(x.2.2.1+1)).toNat<(len y7-x.2.2.1).toNat by omega)
def in12 (y:vD2)(x:wZ4):wX6:=(y.1,y.2.1,y.2.2.1,x.2.2.1,y.2.2.2.1,y.2.2.2.2.1,x.2.2.1,(f163 y.2.2.1 (nth y.2.2.2.1 x.2.2.1 ([]:List UInt8))).1,len (f163 y.2.2.1 (nth y.2.2.2.1 x.2.2.1 ([]:List UInt8))).1,())
theorem pT4 (y:vD2)(x:wZ4):vC2 y x=((zC4 (wY3 (in12 y x)) (wV9 (in12 y x)) (x.1,x.2.1,(0:Int),())).1,(zC4 (wY3 (in12 y x)) (wV9 (in12 y x)) (x.1,x.2.1,(0:Int),())).2.1,IntKind.wrap .i64 (x.2.2.1+1),()):=rfl
theorem ok8 (y:vD2)(x:wZ4):vO7 y x=(decide (x.2.2.1<y.2.2.2.2.1)=true→(InB x.2.2.1 (len y.2.2.2.1)∧(uN3 y.2.2.1 (nth y.2.2.2.1 x.2.2.1 ([]:List UInt8))∧(xQ5 (wY3 (in12 y x)) (wV9 (in12 y x)) (vC7 (in12 y x)) (x.1,x.2.1,(0:Int),()))))):=rfl
theorem out8 {s:D190}(hG:pJ3 s){p:D239}(hp:sV1 p)(k:Int)(l:List (List UInt8))(hl:Lns 20000 l) :
  xQ5 (vY9 (k,s,p,l,len l,())) (vC2 (k,s,p,l,len l,())) (vO7 (k,s,p,l,len l,())) ([],0,0,()) ∧
  Pts (zC4 (vY9 (k,s,p,l,len l,())) (vC2 (k,s,p,l,len l,())) ([],0,0,())).1 (zC4 (vY9 (k,s,p,l,len l,())) (vC2 (k,s,p,l,len l,())) ([],0,0,())).2.1:=by
 have hl1:=hl.1;have key:∀ (x:wZ4),((0≤x.2.2.1∧x.2.2.1≤len l)∧Pts x.1 x.2.1)→x.2.2.1<len l→uN3 p (nth l x.2.2.1 ([]:List UInt8)) ∧
   ∀ y:wX6,y.2.1=s→y.2.2.2.2.2.2.2.1=(f163 p (nth l x.2.2.1 ([]:List UInt8))).1→y.2.2.2.2.2.2.2.2.1=len (f163 p (nth l x.2.2.1 ([]:List UInt8))).1 →
    xQ5 (wY3 y) (wV9 y) (vC7 y) (x.1,x.2.1,0,())∧Pts (zC4 (wY3 y) (wV9 y) (x.1,x.2.1,0,())).1 (zC4 (wY3 y) (wV9 y) (x.1,x.2.1,0,())).2.1:=fun x hx h4=>by
  have hm:=hl.2 _ (wZ7 (d:=([]:List UInt8)) (show InB x.2.2.1 (len l) from ⟨hx.1.1,h4⟩));obtain⟨g1,g2,g3⟩:=rK7 hp (nth l x.2.2.1 ([]:List UInt8)) (by omega);exact⟨g1,fun y e0 e1 e2=>pT3 y _ x.1 x.2.1 hG e0 e1 e2 (by omega) g3 hx.2⟩
 have w:=whole (g:=vY9 (k,s,p,l,len l,())) (next:=vC2 (k,s,p,l,len l,())) (ok:=vO7 (k,s,p,l,len l,())) (fun x=>(0≤x.2.2.1∧x.2.2.1≤len l)∧Pts x.1 x.2.1) (fun x=>(len l-x.2.2.1).toNat) (fun x hx=>?_) (fun x hx hg=>?_) (x:=([],0,0,())) ⟨⟨Int.le_refl 0,wO4 l⟩,⟨by decide,by decide⟩,tP4 (by decide)⟩ (by unfold zJ0;simp only;omega)
 ·exact⟨w.1,w.2.1.2⟩
 ·rw[ok8];intro h3;have h4:x.2.2.1<len l:=of_decide_eq_true h3;obtain⟨k1,k2⟩:=key x hx h4;exact⟨⟨hx.1.1,h4⟩,k1,(k2 _ rfl rfl rfl).1⟩
 ·have h4:x.2.2.1<len l:=wX0 hg;obtain⟨k1,k2⟩:=key x hx h4;have e:=tL5 hx.1.1 h4 (by omega);rw[pT4,e];refine⟨⟨?_,?_⟩,?_⟩
  ·have:=hx.1;exact (show 0≤x.2.2.1+1∧x.2.2.1+1≤len l by omega)
  ·exact (k2 _ rfl rfl rfl).2
  ·have:=hx.1;exact (show (len l-(x.2.2.1+1)).toNat<(len l-x.2.2.1).toNat by omega)
theorem qO0 (s:List UInt8)(a b:Int)(hs:len s<9223372036854775808):tO std s a b∧Few 4096 64 (f145 std s a b).1:=by
 have h1:=qN6 s a b hs;have h8:f160 std s a b=0→uI5 (f161 std) s a b∧_:=fun h0=>by
  have h3:=qO qD s a b (qC9 h0);exact And.intro h3.1 (out8 pJ4 qD a (f162 (f161 std) s a b) h3.2)
 have hz:(!(f160 std s a b !=0))=true→f160 std s a b=0:=fun h=>by simpa using h
 refine⟨⟨h1,fun h0=>⟨qK3,(h8 (hz h0)).1,(h8 (hz h0)).2.1⟩⟩,?_⟩;simp only[f145,qI5,uQ9];cases hc:(f160 std s a b !=0) with
 |true=>exact tP4 (by decide)
 |false =>
  have h9:=(h8 (hz (by rw[hc];rfl))).2.2;simp only[cond_false];cases tN9 _ _ with
  |false=>exact wY1 h9.2 h9.1.2
  |true =>
   simp only[cond_true,uQ8,uK2,uK1];generalize ((f141 _).2.1 !=0)=c;cases c<;>exact tP4 (by decide)
end Go.Proofs.YtmbjipigimohbaaGreatDoor.Am
namespace Go.Proofs.YtmbjipigimohbaaGreatDoor.Am
open Go Go.Am
theorem rK8 {l:List (List D99)}{k:Nat}{v:List D99}(h:k<l.length):(List.set l k v).getD k []=v:=by
 rw[List.getD_eq_getElem?_getD,List.getElem?_set_self h];rfl
theorem sJ4 {α:Type}{P:α→Prop}{l:List α}{k:Nat}{v:α}(h:∀ q∈l,P q)(hv:P v):∀ q∈List.set l k v,P q:=fun q hq=>by
 rcases List.mem_or_eq_of_mem_set hq with h1|h1
 ·exact h q h1
 ·rw[h1];exact hv
def shiI (n:Int)(k:Nat)(m:Int)(x:wZ0):Prop:=
 (0≤x.2.1∧x.2.1≤m)∧len x.1.1=n∧x.1.2=k∧len (List.getD x.1.1 x.1.2 [])=m∧∀ q∈x.1.1,len q≤64
theorem pT5 (y:vB5)(n:Int)(v:List D99)(A:List (List D99))(k:Nat)(hk:(k:Int)<n)(hy0:y.2.1=(k:Int))(hy1:y.2.2.2.2.2.1=v)(hy2:y.2.2.2.2.2.2.1=len v)(hv:len v≤64)(hA:len A=n)(hq:∀ q∈A,len q≤64) :
  xQ5 (wZ1 y) (wW6 y) (vF0 y) ((List.set A k (List.replicate (Int.toNat (len v)) Z99),k),0,()) ∧
  shiI n k (len v) (zC4 (wZ1 y) (wW6 y) ((List.set A k (List.replicate (Int.toNat (len v)) Z99),k),0,())):=by
 have h0v:=wO4 v;have hlr:len (List.replicate (Int.toNat (len v)) Z99)=len v:=by simp only[len,List.length_replicate];omega
 have hkA:k<A.length:=by simp only[len] at hA;omega
 obtain⟨y0,y1,y2,y3,y4,y5,y6,⟨⟩⟩:=y;simp only at hy0 hy1 hy2;subst hy0 hy1 hy2;have w:=whole (g:=wZ1 (y0,(k:Int),y2,y3,y4,y5,len y5,())) (next:=wW6 (y0,(k:Int),y2,y3,y4,y5,len y5,())) (ok:=vF0 (y0,(k:Int),y2,y3,y4,y5,len y5,())) (shiI n k (len y5)) (fun x=>(len y5-x.2.1).toNat) (fun x hx=>fun h3=>?_) (fun x hx hg=>?_) (x:=((List.set A k (List.replicate (Int.toNat (len y5)) Z99),k),0,()))
  ⟨⟨Int.le_refl 0,h0v⟩,by rw[vH];exact hA,rfl,by simp only[rK8 hkA];exact hlr,sJ4 hq (by rw[hlr];exact hv)⟩ (by unfold zJ0;simp only;omega)
 ·exact⟨w.1,w.2.1⟩
 ·have h4:x.2.1<len y5:=of_decide_eq_true h3;obtain⟨⟨h0,h1⟩,h2,h5,h6,h7⟩:=hx;refine⟨⟨h0,h4⟩,tW6 _,fun _=>⟨rJ9 _ _,tW6 _,fun _=>?_⟩,fun _=>wV2 (by omega) (by omega)⟩;have hk0:(0:Int)≤(k:Int):=by omega
  rw[h2,h6,h5];exact⟨⟨hk0,hk⟩,⟨(show Int.toNat (k:Int)=k by omega),hk⟩,⟨h0,h4⟩,h4⟩
 ·have h4:x.2.1<len y5:=wX0 hg;obtain⟨⟨h0,h1⟩,h2,h5,h6,h7⟩:=hx;have hkx:x.1.2<x.1.1.length:=by rw[h5];simp only[len] at h2;omega
  refine⟨⟨(show 0≤x.2.1+1∧x.2.1+1≤len y5 by omega),?_,h5,?_,?_⟩,(show (len y5-(x.2.1+1)).toNat<(len y5-x.2.1).toNat by omega)⟩
  ·show len (List.set x.1.1 _ _)=n;rw[vH];exact h2
  ·show len (List.getD (List.set x.1.1 x.1.2 (List.set (List.getD x.1.1 x.1.2 []) _ _)) x.1.2 [])=len y5;rw[rK8 hkx,vH];exact h6
  ·exact sJ4 h7 (by rw[vH,h6];exact hv)
def in84 (y:wZ2)(x:wX8):vB5:=(y.1,x.2.1,y.2.1,y.2.2.1,x.2.1,nth y.2.1 x.2.1 ([]:List D99),len (nth y.2.1 x.2.1 ([]:List D99)),())
def at84 (y:wZ2)(x:wX8):wZ0:=((List.set x.1 (Int.toNat x.2.1) (List.replicate (Int.toNat (len (nth y.2.1 x.2.1 ([]:List D99)))) Z99),Int.toNat x.2.1),(0:Int),())
theorem pQ8 (y:wZ2)(x:wX8):vA1 y x=((zC4 (wZ1 (in84 y x)) (wW6 (in84 y x)) (at84 y x)).1.1,x.2.1+1,()):=rfl
theorem ok14 (y:wZ2)(x:wX8):vJ6 y x=(decide (x.2.1<y.2.2.1)=true→(InB x.2.1 (len y.2.1)∧((0≤len (nth y.2.1 x.2.1 ([]:List D99))∧len (nth y.2.1 x.2.1 ([]:List D99))≤len (nth y.2.1 x.2.1 ([]:List D99))∧len (nth y.2.1 x.2.1 ([]:List D99))≤4294967296)∧(InB x.2.1 (len x.1)∧(x.2.1<len x.1∧((xQ5 (wZ1 (in84 y x)) (wW6 (in84 y x)) (vF0 (in84 y x)) (at84 y x))∧(tC9 (in84 y x) (zC4 (wZ1 (in84 y x)) (wW6 (in84 y x)) (at84 y x))=true→InR (x.2.1+1)))))))):=rfl
theorem pT6 (p:D40)(l:List (List D99))(hl:Few 4096 64 l) :
  xQ5 (vO8 (p,l,len l,())) (vA1 (p,l,len l,())) (vJ6 (p,l,len l,())) (List.replicate (Int.toNat (len l)) ([]:List D99),0,()) ∧
  (len (zC4 (vO8 (p,l,len l,())) (vA1 (p,l,len l,())) (List.replicate (Int.toNat (len l)) ([]:List D99),0,())).1=len l∧∀ q∈(zC4 (vO8 (p,l,len l,())) (vA1 (p,l,len l,())) (List.replicate (Int.toNat (len l)) ([]:List D99),0,())).1,len q≤64):=by
 have h0l:=wO4 l;have hl1:=hl.1;have key:∀ x:wX8,((0≤x.2.1∧x.2.1≤len l)∧len x.1=len l∧∀ q∈x.1,len q≤64)→x.2.1<len l→len (nth l x.2.1 ([]:List D99))≤64 ∧
   (xQ5 (wZ1 (in84 (p,l,len l,()) x)) (wW6 (in84 (p,l,len l,()) x)) (vF0 (in84 (p,l,len l,()) x)) (at84 (p,l,len l,()) x)∧shiI (len l) (Int.toNat x.2.1) (len (nth l x.2.1 ([]:List D99))) (zC4 (wZ1 (in84 (p,l,len l,()) x)) (wW6 (in84 (p,l,len l,()) x)) (at84 (p,l,len l,()) x))):=fun x hx h4=>by
  have hm:=hl.2 _ (wZ7 (d:=([]:List D99)) (show InB x.2.1 (len l) from ⟨hx.1.1,h4⟩));have e:((Int.toNat x.2.1:Nat):Int)=x.2.1:=by have:=hx.1.1;omega
  exact⟨hm,pT5 (in84 (p,l,len l,()) x) (len l) (nth l x.2.1 ([]:List D99)) x.1 (Int.toNat x.2.1) (by omega) e.symm rfl rfl hm hx.2.1 hx.2.2⟩
 have w:=whole (g:=vO8 (p,l,len l,())) (next:=vA1 (p,l,len l,())) (ok:=vJ6 (p,l,len l,())) (fun x=>(0≤x.2.1∧x.2.1≤len l)∧len x.1=len l∧∀ q∈x.1,len q≤64) (fun x=>(len l-x.2.1).toNat) (fun x hx=>?_) (fun x hx hg=>?_) (x:=(List.replicate (Int.toNat (len l)) ([]:List D99),0,())) ⟨⟨Int.le_refl 0,h0l⟩,by simp only[len,List.length_replicate];omega,fun q hq=>by rw[List.eq_of_mem_replicate hq];decide⟩ (by unfold zJ0;simp only;omega)
 ·exact⟨w.1,w.2.1.2⟩
 ·rw[ok14];intro h3;have h4:x.2.1<len l:=of_decide_eq_true h3;obtain⟨k1,k2,k3⟩:=key x hx h4;have hn:=wO4 (nth l x.2.1 ([]:List D99));have h5:=hx.1.1;exact⟨⟨h5,h4⟩,⟨hn,Int.le_refl _,(show len (nth l x.2.1 ([]:List D99))≤4294967296 by omega)⟩,by rw[hx.2.1];exact⟨h5,h4⟩,by rw[hx.2.1];exact h4,k2,fun _=>wV2 (by omega) (by omega)⟩
 ·have h4:x.2.1<len l:=wX0 hg;obtain⟨k1,k2,k3⟩:=key x hx h4;have h5:=hx.1.1;rw[pQ8];exact⟨⟨(show 0≤x.2.1+1∧x.2.1+1≤len l by omega),k3.2.1,k3.2.2.2.2⟩,(show (len l-(x.2.1+1)).toNat<(len l-x.2.1).toNat by omega)⟩
theorem shi6 (p:D40)(l:List (List D99))(hl:Few 4096 64 l):xQ5 (uR5 (l,p,l,len l,())) (vR2 (l,p,l,len l,())) (vW1 (l,p,l,len l,())) (0,0,()):=by
 have h0l:=wO4 l;have hl1:=hl.1;have w:=whole (g:=uR5 (l,p,l,len l,())) (next:=vR2 (l,p,l,len l,())) (ok:=vW1 (l,p,l,len l,())) (fun x=>(0≤x.2.1∧x.2.1≤len l)∧0≤x.1∧x.1≤64*x.2.1) (fun x=>(len l-x.2.1).toNat) (fun x hx=>fun h3=>?_) (fun x hx hg=>?_) (x:=(0,0,())) ⟨⟨Int.le_refl 0,h0l⟩,by decide,by decide⟩ (by unfold zJ0;simp only;omega)
 ·exact w.1
 ·have h4:x.2.1<len l:=of_decide_eq_true h3;have hm:=hl.2 _ (wZ7 (d:=([]:List D99)) (show InB x.2.1 (len l) from ⟨hx.1.1,h4⟩));have hn:=wO4 (nth l x.2.1 ([]:List D99));exact⟨⟨hx.1.1,h4⟩,wV2 (by show _≤x.1+len (nth l x.2.1 ([]:List D99));omega) (by show x.1+len (nth l x.2.1 ([]:List D99))≤_;omega),fun _=>wV2 (by omega) (by omega)⟩
 ·have h4:x.2.1<len l:=wX0 hg;have hm:=hl.2 _ (wZ7 (d:=([]:List D99)) (show InB x.2.1 (len l) from ⟨hx.1.1,h4⟩));have hn:=wO4 (nth l x.2.1 ([]:List D99));exact⟨⟨(show 0≤x.2.1+1∧x.2.1+1≤len l by omega),(show 0≤x.1+len (nth l x.2.1 ([]:List D99))∧x.1+len (nth l x.2.1 ([]:List D99))≤64*(x.2.1+1) by omega)⟩,(show (len l-(x.2.1+1)).toNat<(len l-x.2.1).toNat by omega)⟩
theorem qO1 (l:List (List D99))(p:D40)(hl:Few 4096 64 l):tO2 l p∧Few 4096 64 (f147 l p).1:=by
 have h14:=pT6 p l hl;have h0l:=wO4 l;have hl1:=hl.1;refine⟨⟨tA7 _,fun _=>⟨shi6 p l hl,fun _=>⟨⟨h0l,Int.le_refl _,(show len l≤4294967296 by omega)⟩,h14.1⟩⟩⟩,?_⟩;simp only[f147,qI6,uR6,uK4,uK5,uK3];generalize (f103 p !=0)=c1;generalize tO1 _ _=c2;generalize tD _ _=c3;cases c1 with
 |true=>exact tP4 (by decide)
 |false =>
  cases c2 with
  |true=>exact tP4 (by decide)
  |false =>
   cases c3 with
   |true=>exact tP4 (by decide)
   |false=>exact⟨Int.le_trans (Int.le_of_eq h14.2.1) hl1,h14.2.2⟩
theorem qO2 (p:D52)(h:len p.2.2.2.2.2.2.2.2.2.2.2.2.2.2.2.2.2.2.2.2.2.2.2.1<9223372036854775808):tO3 p:=by
 simp only[tO3,qI7,qK0];have h82:=qO0 p.2.2.2.2.2.2.2.2.2.2.2.2.2.2.2.2.2.2.2.2.2.2.2.1 p.2.2.2.2.2.2.2.2.2.2.2.2.2.2.2.2.2.2.2.2.2.2.2.2.1 p.2.2.2.2.2.2.2.2.2.2.2.2.2.2.2.2.2.2.2.2.2.2.2.2.2.1 h;have h84:=qO1 (f145 std p.2.2.2.2.2.2.2.2.2.2.2.2.2.2.2.2.2.2.2.2.2.2.2.1 p.2.2.2.2.2.2.2.2.2.2.2.2.2.2.2.2.2.2.2.2.2.2.2.2.1 p.2.2.2.2.2.2.2.2.2.2.2.2.2.2.2.2.2.2.2.2.2.2.2.2.2.1).1 p.2.2.2.2.2.2.2.2.2.2.1 h82.2;exact⟨qK1,h82.1,fun _=>⟨h84.1,fun _=>⟨sU8 _ _ (by have:=h84.2.1;omega) (fun q hq=>by have:=h84.2.2 q hq;omega),fun _=>sU6 _⟩⟩⟩
def tP5 (p:D52):Prop:=
 len p.2.2.2.1<9223372036854775808∧len p.2.2.2.2.2.2.2.2.2.1.2.2.1<9223372036854775808∧len p.2.2.2.2.2.2.2.2.2.2.2.2.1.2.2.1<9223372036854775808∧len p.2.2.2.2.2.2.2.2.2.2.2.2.2.2.2.1<9223372036854775808 ∧
 len p.2.2.2.2.2.2.2.2.2.2.2.2.2.2.2.2.2.1<9223372036854775808∧len p.2.2.2.2.2.2.2.2.2.2.2.2.2.2.2.2.2.2.1<9223372036854775808∧len p.2.2.2.2.2.2.2.2.2.2.2.2.2.2.2.2.2.2.2.2.2.2.2.1<9223372036854775808∧len p.2.2.2.2.2.2.2.2.2.2.2.2.2.2.2.2.2.2.2.2.2.2.2.2.2.2.2.1.2.2.2.1<9223372036854775808
theorem qO3 (p:D52)(h:tP5 p):sG p:=by
 obtain⟨h1,h2,h3,h4,h5,h6,h7,h8⟩:=h;exact⟨fun _=>qC6 _ h3,fun _=>⟨fun _=>sU6 _,fun _=>⟨fun _=>qL8 _ _ _ _ h4 h5,fun _=>⟨fun _=>qN3 p h6,fun _=>⟨fun _=>qO2 p h7,fun _=>⟨fun _=>qM3 _ _ _ h4 h5,fun _=>⟨fun _=>qM4 _ _ h4,fun _ _ _=>qM5 _ h8⟩⟩⟩⟩⟩⟩⟩
theorem qO4 (p:D52):sG0 p:=trivial
theorem qO5 (p:D52):sG1 p:=⟨rJ4 _,rJ5 _⟩
theorem pJ5 (p:D52)(w h:Int)(hf:tP5 p):sX4 p w h:=
 ⟨qL5 p w h hf.1 hf.2.1,fun _=>⟨rJ4 _,fun _=>⟨tA7 _,fun _=>qL2 _⟩,fun _=>⟨rJ5 _,fun _=>qK7 _,fun _=>⟨qO3 p hf,fun _=>⟨qO5 _,qO4 _⟩⟩⟩⟩⟩
end Go.Proofs.YtmbjipigimohbaaGreatDoor.Am
