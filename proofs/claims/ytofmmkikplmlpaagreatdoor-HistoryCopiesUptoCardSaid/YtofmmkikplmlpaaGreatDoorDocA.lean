/- node.Check answers for every node: the simple parts. Condition: lengths of Go slices. -/
import Derived.Test.YtofmmkikplmlpaaGreatDoorDckP6
import Derived.Test.YtofmmkikplmlpaaGreatDoorMach4
import Derived.Test.YtofmmkikplmlpaaGreatDoorDocC1
import Derived.Test.YtofmmkikplmlpaaGreatDoorDocC2
import Derived.Test.YtofmmkikplmlpaaGreatDoorDocC3
import Derived.Test.YtofmmkikplmlpaaGreatDoorDocC4
import Derived.Test.YtofmmkikplmlpaaGreatDoorDocC5
import Derived.Test.YtofmmkikplmlpaaGreatDoorDocC6
namespace Go.Proofs.YtofmmkikplmlpaaGreatDoor.Am
open Go Go.Am
theorem wL6 {a n:Int}{b:Bool}(h:(decide (a<n)&&b)=true):a<n:=by
 simp only[Bool.and_eq_true,decide_eq_true_eq] at h;exact h.1
theorem wL {x:Int}(h1:-4611686018427387904≤x)(h2:x≤9223372036854775807):InR x:=by unfold InR;omega
theorem wP9 {x:Int}(h:InR x):IntKind.wrap .i64 x=x:=by unfold InR at h;rw[IntKind.wrap_i64];omega
theorem whole {X:Type}{g:X→Bool}{next:X→X}{ok:X→Prop}(inv:X→Prop)(m:X→Nat)(hok:∀ x,inv x→ok x)(hstep:∀ x,inv x→g x=true→inv (next x)∧m (next x)<m x){x:X}(hx:inv x)(hm:m x<zH7) :
  xB7 g next ok x∧inv (zB9 g next x)∧g (zB9 g next x)=false:=
 ⟨xF5 inv m hok hstep hx hm,xF4 inv m hstep hx hm⟩
theorem uO4 {n:Nat}(h:n≤9223372036854775807):n<zH7:=by unfold zH7;omega
theorem wM {α:Type}{l:List α}{i:Int}{d:α}(h:InB i (len l)):nth l i d∈l:=by
 obtain⟨h1,h2⟩:=h;have h3:i.toNat<l.length:=by simp only[len] at h2;omega
 show l.getD i.toNat d∈l;rw[List.getD_eq_getElem?_getD,List.getElem?_eq_getElem h3];exact List.getElem_mem h3
theorem wU9 {α:Type}(l:List α)(i:Nat)(x:α):len (List.set l i x)=len l:=by simp[len]
theorem wV {α:Type}(l m:List α):len (l++m)=len l+len m:=by simp[len]
theorem rF1 {a b:Int}(ha:0≤a∧a≤256)(hb:0≤b∧b≤256):InR (a*b):=by
 have h1:0≤a*b:=Int.mul_nonneg ha.1 hb.1;have h2:a*b≤256*256:=Int.mul_le_mul ha.2 hb.2 hb.1 (by omega);unfold InR;omega
theorem pI7 (p:Int):sP8 p:=trivial
theorem qA8 (p:Int):sD3 p:=trivial
theorem qA9 (p:Int):sD4 p:=trivial
theorem pI8 (p:Int):sQ2 p:=trivial
theorem qB (p:Int):sD2 p:=trivial
theorem qJ0 (p:Int):tP p:=trivial
theorem qJ1 (p:Int):tP0 p:=trivial
theorem pI9 (p:Int):sP6 p:=trivial
theorem rF2 (p:D91):tO8 p:=trivial
theorem pJ (p q:Int):sQ3 p q:=trivial
theorem qJ2 (p q:Int):tP3 p q:=trivial
theorem rI2 (p:Int):tC9 p:=trivial
theorem tN3 (p:D140):uD6 p:=trivial
theorem qJ3 (p q r:Int):tR0 p q r:=trivial
theorem wP1 (p q:D140):wP3 p q:=trivial
theorem wW8 (p q:D140):wT3 p q:=trivial
theorem sN2 (p q:Int):uE9 p q:=trivial
theorem tN4 (p:Int):vY5 p:=trivial
theorem sN3 (p q r:Int):uQ2 p q r:=trivial
theorem tN5 (p:Int):uD0 p:=sN3 _ _ _
theorem uO5 (p:Int):vT3 p:=sN3 _ _ _
theorem tN6 (p:Int):uD2 p:=sN3 _ _ _
theorem rI3 (p:D79):tC7 p:=⟨tN5 _,tN5 _,tN5 _,tN5 _,uO5 _,uO5 _⟩
theorem tG5 (p:D79):uO7 p:=rI3 p
theorem qJ4 (p:D84):tP1 p:=⟨tN6 _,tN6 _,tN6 _,tN6 _⟩
theorem sN4 (p:D84):tH5 p:=qJ4 p
theorem sN5 (p:D84):uD3 p:=sN4 p
theorem sN6 (a b:Int):uQ a b:=fun h _=>by
 have:b≠0:=by intro e;subst e;simp at h
 exact⟨this,this⟩
theorem wM1 (a b:Int):wN1 a b:=fun _ _=>sN6 a b
theorem tN7 (a b c d:Int):uD1 a b c d:=⟨sN6 _ _,sN6 _ _,wM1 _ _⟩
theorem pJ0 (p:D79):sQ1 p:=⟨tG5 _,fun _ _=>⟨wM1 _ _,wM1 _ _,wM1 _ _,wM1 _ _,tG5 _,fun _=>⟨tN7 _ _ _ _,tN7 _ _ _ _,tG5 _⟩⟩⟩
theorem qJ5 (p:D79)(q:D140):tP9 p q:=⟨rI3 _,uO5 _,uO5 _,tN7 _ _ _ _,uO5 _,tN7 _ _ _ _,uO5 _⟩
theorem rI4 (p:D79)(q:D140):tD0 p q:=⟨qJ5 _ _,wM1 _ _,wM1 _ _⟩
theorem pJ1 (s:List UInt8)(h:len s<9223372036854775808):sQ s:=fun _ =>
 wG8 (wF s) h (fun _ h=>wL6 h) (fun _=>rfl) fun x h1 _=>fun h3=>by
  have h4:x.1<len s:=of_decide_eq_true h3;exact⟨⟨h1,h4⟩,fun _=>⟨h1,h4⟩,fun _=>wL (by omega) (by omega)⟩
theorem qB0 (p:D24)(h:len p.2.2.1<9223372036854775808):sD1 p:=fun h0=>by
 have hb:(0≤p.1∧p.1≤256)∧(0≤p.2.1∧p.2.1≤256):=by
  simp only[Bool.not_eq_true',Bool.cond_true_left,Bool.or_eq_false_iff,decide_eq_false_iff_not] at h0;omega
 exact⟨fun _=>rF1 hb.1 hb.2,fun _=>wG8 (wF p.2.2.1) h (fun _ h=>wL6 h) (fun _=>rfl) fun x h1 _=>fun h3=>by
  have h4:x.1<len p.2.2.1:=of_decide_eq_true h3;exact⟨⟨h1,h4⟩,pI9 _,fun _=>wL (by omega) (by omega)⟩⟩
theorem qB1 (p:D82)(h:len p.2.2.1<9223372036854775808):sD5 p:=⟨pJ _ _,fun h0=>by
  have hb:(0≤p.1∧p.1≤256)∧(0≤p.2.1∧p.2.1≤256):=by
   have h0:f83 p.1 p.2.1=true:=by simpa using h0
   simp only[f83,f83t,Bool.cond_false_right,Bool.and_eq_true,decide_eq_true_eq] at h0;omega
  exact rF1 hb.1 hb.2,fun _=>wG8 (wF p.2.2.1) h (fun _ h=>wL6 h) (fun _=>rfl) fun x h1 _=>fun h3=>by
  have h4:x.1<len p.2.2.1:=of_decide_eq_true h3;exact⟨⟨h1,h4⟩,sN4 _,fun _=>wL (by omega) (by omega)⟩⟩
theorem pJ2 (p:D91)(w h:Int)(hn:len p.2.2.2.1<9223372036854775808)(hm:len p.2.2.2.2.2.2.2.2.2.1.2.2.1<9223372036854775808):sQ0 p w h:=
 fun _=>⟨pI7 _,fun _=>⟨pJ1 _ hn,fun _=>⟨qB _,fun _=>qB _,fun _=>qJ0 _,fun _=>⟨qJ1 _,fun _=>rF2 _,fun _=>qB0 _ hm⟩⟩⟩⟩
theorem qJ6 (a:Int)(l:List Int)(b n:Int)(h:len l<9223372036854775808):tP5 a l b n:=fun _=>by
 refine⟨qJ2 _ _,fun hc _=>⟨wG8 (wF l) h (fun _ h=>wL6 h) (fun _=>rfl) fun x h1 _=>fun h3=>?_,?_⟩⟩
 ·have h4:x.1<len l:=of_decide_eq_true h3;exact⟨⟨h1,h4⟩,fun _=>wL (by omega) (by omega)⟩
 ·intro _ hk;have:len l=4∨len l=3:=by
   simp only[Bool.not_eq_true',Bool.cond_true_left,Bool.or_eq_false_iff,Bool.not_eq_false'] at hc;have h1:=hc.1;simp only[f133,qF4] at h1;cases hq:(a==1)<;>simp[hq] at h1<;>omega
  unfold InB;omega
theorem qJ7 (l:List D137)(h:len l<9223372036854775808):tP7 l:=
 wG8 (wF l) h (fun _ h=>wL6 h) (fun _=>rfl) fun x h1 _=>fun h3=>by
  have h4:x.1<len l:=of_decide_eq_true h3;exact⟨⟨h1,h4⟩,fun _=>sN4 _,fun _=>⟨fun h5=>by have h5:=of_decide_eq_true h5;exact wL (by omega) (by omega),fun h5=>by have h5:=of_decide_eq_true h5;exact⟨(show 0≤x.1-1 by omega),(show x.1-1<len l by omega)⟩⟩,fun _=>wL (by omega) (by omega)⟩
theorem qJ8 (a:Int)(l:List Int)(b:Int)(m:List D137)(h:len l<9223372036854775808)(h':len m<9223372036854775808):tP8 a l b m:=⟨qJ6 _ _ _ _ h,fun _=>qJ7 _ h'⟩
theorem qJ9 (p q:Int):tV0 p q:=trivial
theorem qK (p q:Int):tV1 p q:=trivial
theorem qK0 (p:Int):tV9 p:=trivial
theorem qK1 (a:Int)(l:List Int)(m:List D137)(hl:len l<9223372036854775808)(hm:len m<9223372036854775808)(h9:a=9→len l=3):tV4 a l m:=
 ⟨wG8 (wF l) hl (fun _ h=>wL6 h) (fun _=>rfl) fun x h1 _=>fun h3=>by
  have h4:x.1<len l:=of_decide_eq_true h3;exact⟨⟨h1,h4⟩,qK _ _,fun _=>wL (by omega) (by omega)⟩,
  fun _=>by
  have key:∀ b:Bool,((a==9)=true→b=true→False)∨True:=fun _=>.inr trivial;have e3:∀ c:Bool,(bif (a==9) then c else false)=true→len l=3:=fun c h=>by
   cases hq:(a==9) with
   |true=>exact h9 (by simpa using hq)
   |false=>simp[hq] at h
  refine⟨fun h=>?_,fun h=>?_,fun h=>?_,fun _=>wG8 (wF m) hm (fun _ h=>wL6 h) (fun _=>rfl) fun x h1 _=>fun h3=>?_⟩
  ·have:=h9 (by simpa using h);unfold InB;omega
  ·have:=e3 _ h;unfold InB;omega
  ·cases hq:(a==9) with
   |true=>have:=h9 (by simpa using hq);unfold InB;omega
   |false=>simp[hq] at h
  ·have h4:x.1<len m:=of_decide_eq_true h3;exact⟨⟨h1,h4⟩,fun _=>sN4 _,fun _=>wL (by omega) (by omega)⟩⟩
theorem qK2 (a:Int)(l:List Int)(m:List D137)(hm:len m<9223372036854775808)(h2:a=2→len l=5)(h3:a=3→len l≤16):tV7 a l m:=by
 refine⟨fun h=>?_,fun h=>?_,fun _=>⟨fun h=>?_,fun _=>?_⟩⟩
 ·have:=h2 (by simpa using h);unfold InB;omega
 ·have:=h2 (by simpa using h);unfold InB;omega
 ·have hl:=h3 (by simpa using h);refine xF5 (fun x=>2≤x.1∧x.1≤18) (fun x=>(20-x.1).toNat) (fun x hx=>fun hg=>?_) (fun x hx hg=>?_) ⟨by decide,by decide⟩ (by simp[zH7])
  ·have h4:x.1<len l:=of_decide_eq_true hg;exact⟨⟨by omega,h4⟩,wL (by omega) (by omega),⟨(show 0≤x.1-2 by omega),(show x.1-2<len l by omega)⟩,fun _=>wL (by omega) (by omega)⟩
  ·have h4:x.1<len l:=wL6 hg;exact⟨(show 2≤x.1+2∧x.1+2≤18 by omega),(show (20-(x.1+2)).toNat<(20-x.1).toNat by omega)⟩
 ·have e:(bif (a==3) then m else m)=m:=by cases (a==3)<;>rfl
  show xB7 (uM9 ((bif (a==3) then m else m),())) (vI2 ((bif (a==3) then m else m),())) (vO5 ((bif (a==3) then m else m),())) (1,());rw[e];refine xF5 (fun x=>1≤x.1) (fun x=>(len m-x.1).toNat) (fun x hx=>fun hg=>?_) (fun x hx hg=>?_) (by decide) (by unfold zH7;omega)
  ·have h4:x.1<len m:=of_decide_eq_true hg;exact⟨⟨by omega,h4⟩,wL (by omega) (by omega),⟨(show 0≤x.1-1 by omega),(show x.1-1<len m by omega)⟩,fun _=>wL (by omega) (by omega)⟩
  ·have h4:x.1<len m:=wL6 hg;exact⟨(show 1≤x.1+1 by omega),(show (len m-(x.1+1)).toNat<(len m-x.1).toNat by omega)⟩
theorem qK3 (a:Int)(l:List Int)(m:List D137)(hl:len l<9223372036854775808)(hm:len m<9223372036854775808):tV8 a l m:=by
 intro _;refine⟨qJ9 _ _,fun hc _=>?_⟩;have hc:f127 a (len l)=true:=by
  simp only[Bool.cond_true_left,Bool.or_eq_false_iff,Bool.not_eq_false'] at hc;exact hc.1
 have k9:a=9→len l=3:=by rintro rfl;simpa[f127,rO3] using hc
 have k2:a=2→len l=5:=by rintro rfl;simpa[f127,rO3] using hc
 have k3:a=3→len l≤16:=by
  rintro rfl;simp only[f127,rO3] at hc;by_cases h:len l≤16
  ·exact h
  ·simp[h] at hc
 exact⟨qK1 a l m hl hm k9,fun _=>qK2 a l m hm k2 k3⟩
theorem qK4 (a:Int)(l:List Int)(hl:len l<9223372036854775808):tW0 a l:=by
 intro _;refine⟨qK0 _,fun he=>?_⟩;have he:len l=len (f130 a):=by simpa using he
 exact wG8 (wF l) hl (fun _ h=>wL6 h) (fun _=>rfl) fun x h1 _=>fun h3=>by
  have h4:x.1<len l:=of_decide_eq_true h3;exact⟨⟨h1,h4⟩,⟨h1,(show x.1<len (f130 a) by omega)⟩,fun _=>⟨h1,(show x.1<len (f130 a) by omega)⟩,fun _=>wL (by omega) (by omega)⟩
theorem qK5 (p:D89)(h:len p.2.2.2.1<9223372036854775808):tW2 p:=fun h0=>by
 have hb:(0≤p.1∧p.1≤256)∧(0≤p.2.1∧p.2.1≤256):=by
  simp only[Bool.not_eq_true',Bool.cond_true_left,Bool.or_eq_false_iff,decide_eq_false_iff_not] at h0;omega
 exact⟨fun _=>rF1 hb.1 hb.2,fun _=>wG8 (wF p.2.2.2.1) h (fun _ h=>wL6 h) (fun _=>rfl) fun x h1 _=>fun h3=>by
  have h4:x.1<len p.2.2.2.1:=of_decide_eq_true h3;exact⟨⟨h1,h4⟩,fun _=>wL (by omega) (by omega)⟩⟩
theorem sN7 (l:List (List D140))(r:Int)(h:len l<9223372036854775808)(hq:∀ q∈l,len q≤4611686018427387904):uE6 l r:=fun _=>by
 refine⟨?_,fun _=>?_⟩
 ·refine xF5 (fun x=>(0≤x.1∧x.1≤4096)∧0≤x.2.1) (fun x=>(len l-x.2.1).toNat) (fun x hx=>fun hg=>?_) (fun x hx hg=>?_) ⟨⟨by decide,by decide⟩,by decide⟩ (by unfold zH7;simp only;omega)
  ·have h4:x.2.1<len l:=of_decide_eq_true hg;have h5:=hq _ (wM (d:=([]:List D140)) (i:=x.2.1) ⟨hx.2,h4⟩);have h6:=wF (nth l x.2.1 ([]:List D140));exact⟨⟨hx.2,h4⟩,wL (show _≤x.1+len (nth l x.2.1 ([]:List D140)) by omega) (show x.1+len (nth l x.2.1 ([]:List D140))≤_ by omega),fun _=>wL (by omega) (by omega)⟩
  ·have h4:x.2.1<len l:=wL6 hg;have h6:=wF (nth l x.2.1 ([]:List D140));have h7:x.1+len (nth l x.2.1 ([]:List D140))≤4096:=by
    have hg:(decide (x.2.1<len l)&&!(decide (x.1+len (nth l x.2.1 ([]:List D140))>4096)))=true:=hg;simp only[Bool.and_eq_true,Bool.not_eq_true',decide_eq_false_iff_not] at hg;omega
   exact⟨⟨(show 0≤x.1+len (nth l x.2.1 ([]:List D140))∧_ from ⟨by omega,h7⟩),(show 0≤x.2.1+1 by omega)⟩,(show (len l-(x.2.1+1)).toNat<(len l-x.2.1).toNat by omega)⟩
 ·exact wG8 (wF l) h (fun _ h=>wL6 h) (fun _=>rfl) fun x h1 _=>fun h3=>by
   have h4:x.1<len l:=of_decide_eq_true h3;have h5:=hq _ (wM (d:=([]:List D140)) (i:=x.1) ⟨h1,h4⟩);exact⟨⟨h1,h4⟩,wG8 (wF _) (show len (nth l x.1 ([]:List D140))<_ by omega) (fun _ h=>wL6 h) (fun _=>rfl) fun z k1 _=>fun k3=>by
    have k4:z.1<len (nth l x.1 ([]:List D140)):=of_decide_eq_true k3;exact⟨⟨k1,k4⟩,fun _=>wL (by omega) (by omega)⟩,fun _=>wL (by omega) (by omega)⟩
end Go.Proofs.YtofmmkikplmlpaaGreatDoor.Am
namespace Go.Proofs.YtofmmkikplmlpaaGreatDoor.Am
open Go Go.Am
theorem inb0:InB (0:Int) 3:=by unfold InB;omega
theorem inb1:InB (1:Int) 3:=by unfold InB;omega
theorem inb2:InB (2:Int) 3:=by unfold InB;omega
theorem wY7 {α:Type}(x:α):len [x]=1:=rfl
theorem qB2 (p:Int):0≤f135 p∧f135 p≤3:=by
 simp only[f135,qF5];cases (p==3)<;>cases (p==4)<;>cases (p==5)<;>simp
theorem seg9 (y:vF3):xB7 (wW9 y) (wQ y) (vK1 y) (0,())∧wW9 y (zB9 (wW9 y) (wQ y) (0,()))=false:=by
 have h:=whole (g:=wW9 y) (next:=wQ y) (ok:=vK1 y) (fun x=>0≤x.1∧x.1≤3) (fun x=>(3-x.1).toNat) (fun x hx=>fun h3=>by
   have h4:x.1<3:=of_decide_eq_true h3;exact⟨⟨hx.1,h4⟩,tN3 _,fun _=>rI2 _,fun _=>wL (by omega) (by omega)⟩) (fun x hx hg=>by
   have h4:x.1<3:=wL6 hg;exact⟨(show 0≤x.1+1∧x.1+1≤3 by omega),(show (3-(x.1+1)).toNat<(3-x.1).toNat by omega)⟩) (x:=(0,())) ⟨by decide,by decide⟩ (by simp[zH7])
 exact⟨h.1,h.2.2⟩
theorem seg4 (l:List D143)(hl:len l<9223372036854775808) :
  xB7 (wS8 (l,l,len l,())) (wQ0 (l,l,len l,())) (vU7 (l,l,len l,())) (0,()) ∧
  (0≤(zB9 (wS8 (l,l,len l,())) (wQ0 (l,l,len l,())) (0,())).1∧(0<(zB9 (wS8 (l,l,len l,())) (wQ0 (l,l,len l,())) (0,())).1→(nth l 0 Z143).1=1)) ∧
  wS8 (l,l,len l,()) (zB9 (wS8 (l,l,len l,())) (wQ0 (l,l,len l,())) (0,()))=false:=by
 refine whole (fun x:wX=>0≤x.1∧(0<x.1→(nth l 0 Z143).1=1)) (fun x=>(len l-x.1).toNat) (fun x hx=>fun h3=>?_) (fun x hx hg=>?_) ⟨by decide,fun h=>absurd h (by decide)⟩ (by unfold zH7;simp only;omega)
 ·have h4:x.1<len l:=of_decide_eq_true h3;refine⟨⟨hx.1,h4⟩,fun _=>⟨(seg9 _).1,fun _=>⟨fun h5=>?_,fun h5=>?_⟩⟩,fun _=>wL (by omega) (by omega)⟩
  ·exact wL (by omega) (by omega)
  ·simp only[Bool.and_eq_true,Bool.not_eq_true',beq_eq_false_iff_ne,ne_eq] at h5;exact⟨(show 0≤x.1-1 by omega),(show x.1-1<len l by omega)⟩
 ·have h4:x.1<len l:=wL6 hg;refine⟨⟨(show 0≤x.1+1 by omega),fun _=>?_⟩,(show (len l-(x.1+1)).toNat<(len l-x.1).toNat by omega)⟩;by_cases h0:x.1=0
  ·simp only[wS8,vH9,h0] at hg;simp only[Bool.and_eq_true,Bool.not_eq_true'] at hg;have h5:=hg.2.2.2;cases hk:((nth l 0 Z143).1 !=1) with
   |true=>simp[hk] at h5
   |false=>simpa using hk
  ·exact hx.2 (by omega)
theorem sN8 (l:List D143)(hl:len l<9223372036854775808):uD9 l:=fun _=>(seg4 l hl).1
theorem vQ5 {l:List D143}(hl:len l<9223372036854775808)(h:f134 l=0):len l≤128∧(0<len l→(nth l 0 Z143).1=1):=by
 obtain⟨_,⟨h1,h2⟩,h3⟩:=seg4 l hl;simp only[f134,qF6] at h;generalize zB9 (wS8 (l,l,len l,())) (wQ0 (l,l,len l,())) (0,())=e at h h1 h2 h3;have hv:decide (len l>128)=false:=by
  cases hv:decide (len l>128) with
  |false=>rfl
  |true=>simp[hv] at h
 have hle:=of_decide_eq_false hv;refine⟨by omega,fun hp=>h2 ?_⟩;have he1:vU8 (l,l,len l,()) e=false:=by
  cases he:vU8 (l,l,len l,()) e with
  |false=>rfl
  |true =>
   simp only[hv,he,cond_false,cond_true,uD8] at h;revert h;cases (bif (decide ((nth l e.1 Z143).1<1)) then true else (decide ((nth l e.1 Z143).1>5)))<;>simp only[cond_true,cond_false]
   ·cases vK2 _ _<;>simp[uD7]
   ·simp
 by_cases hlt:e.1<len l
 ·exfalso;simp only[wS8,vH9] at h3;simp only[vU8,vH9] at he1;have h9:=(seg9 (l,e.1,nth l e.1 Z143,l,len l,e.1,(nth l e.1 Z143).2.1,())).2;generalize zB9 (wW9 (l,e.1,nth l e.1 Z143,l,len l,e.1,(nth l e.1 Z143).2.1,())) (wQ (l,e.1,nth l e.1 Z143,l,len l,e.1,(nth l e.1 Z143).2.1,())) (0,())=z at h3 he1 h9;generalize (bif (decide ((nth l e.1 Z143).1<1)) then true else (decide ((nth l e.1 Z143).1>5)))=v24 at h3 he1;generalize (bif (nth l e.1 Z143).1 !=1 then (bif e.1==0 then true else ((nth l (e.1-1) Z143).1==5)) else false)=v61 at h3 he1;have e4:tD (l,e.1,nth l e.1 Z143,l,len l,e.1,(nth l e.1 Z143).2.1,()) z=!(decide (z.1<3)):=rfl;have e1:vK2 (l,e.1,nth l e.1 Z143,l,len l,e.1,(nth l e.1 Z143).2.1,()) z=true∨decide (z.1<3)=false:=by
   cases hz:decide (z.1<3) with
   |false=>exact .inr rfl
   |true =>
    left;simp only[wW9,vQ9,hz,Bool.true_and,Bool.not_eq_false'] at h9;simp only[vK2,vQ9,hz,Bool.true_and];exact h9
  simp only[hlt,decide_true,Bool.true_and] at h3 he1;rw[e4] at h3 he1;rcases e1 with e1|e1
  ·rw[e1] at he1;cases v24<;>simp_all
  ·rw[e1] at h3 he1;cases v24<;>cases v61<;>simp_all
 ·omega
theorem qB3 (y:wS0){n:Int}(hk:y.2.2.2.2.2.2.1≤3)(l:List D143)(hn:len l=n)(hi:InB y.2.1 n) :
  xB7 (wV4 y) (wN7 y) (vC1 y) (l,0,())∧len (zB9 (wV4 y) (wN7 y) (l,0,())).1=n:=by
 have h:=whole (g:=wV4 y) (next:=wN7 y) (ok:=vC1 y) (fun x=>len x.1=n∧0≤x.2.1∧x.2.1≤3) (fun x=>(3-x.2.1).toNat) (fun x hx=>fun h3=>by
   have h4:x.2.1<y.2.2.2.2.2.2.1:=of_decide_eq_true h3;obtain⟨k1,k2⟩:=hi;refine⟨⟨hx.2.1,by omega⟩,rI4 _ _,tN3 _,fun _=>⟨⟨k1,?_⟩,⟨hx.2.1,by omega⟩,?_⟩,fun _=>wL (by omega) (by omega)⟩
   ·show y.2.1<len x.1;rw[hx.1];exact k2
   ·show y.2.1<len x.1;rw[hx.1];exact k2) (fun x hx hg=>by
   have h4:x.2.1<y.2.2.2.2.2.2.1:=wL6 hg;exact⟨⟨(show len (List.set x.1 _ _)=n by rw[wU9];exact hx.1),(show 0≤x.2.1+1∧x.2.1+1≤3 by omega)⟩,(show (3-(x.2.1+1)).toNat<(3-x.2.1).toNat by omega)⟩) (x:=(l,0,())) ⟨hn,Int.le_refl 0,(by decide:(0:Int)≤3)⟩ (by simp[zH7])
 exact⟨h.1,h.2.1.1⟩
theorem rF3 (a:D79)(l:List D143)(x:wR8):wS9 (a,l,len l,()) x=((zB9 (wV4 (a,x.2.1,nth l x.2.1 Z143,l,len l,x.2.1,f135 (nth l x.2.1 Z143).1,())) (wN7 (a,x.2.1,nth l x.2.1 Z143,l,len l,x.2.1,f135 (nth l x.2.1 Z143).1,())) (List.set x.1 (Int.toNat x.2.1) ((nth l x.2.1 Z143).1,(nth x.1 x.2.1 Z143).2.1,()),0,())).1,x.2.1+1,()):=rfl
theorem qR0 (l:List D143)(a:D79)(z:List D143)(hz:len z=len l)(hl:len l≤128) :
  xB7 (vV (a,l,len l,())) (wS9 (a,l,len l,())) (vK3 (a,l,len l,())) (z,0,())∧len (zB9 (vV (a,l,len l,())) (wS9 (a,l,len l,())) (z,0,())).1=len l:=by
 have h:=whole (g:=vV (a,l,len l,())) (next:=wS9 (a,l,len l,())) (ok:=vK3 (a,l,len l,())) (fun x=>len x.1=len l∧0≤x.2.1) (fun x=>(len l-x.2.1).toNat) (fun x hx=>fun h3=>?_) (fun x hx hg=>?_) (x:=(z,0,())) ⟨hz,Int.le_refl 0⟩ (by unfold zH7;simp only;omega)
 ·exact⟨h.1,h.2.1.1⟩
 ·have h4:x.2.1<len l:=of_decide_eq_true h3;have hb:InB x.2.1 (len l):=⟨hx.2,h4⟩;refine⟨hb,?_,?_,rI2 _,(qB3 _ (qB2 _).2 _ (by rw[wU9];exact hx.1) hb).1,fun _=>wL (by omega) (by omega)⟩
  ·show InB x.2.1 (len x.1);rw[hx.1];exact hb
  ·show x.2.1<len x.1;rw[hx.1];exact h4
 ·have h4:x.2.1<len l:=wL6 hg;have hb:InB x.2.1 (len l):=⟨hx.2,h4⟩;have h13:=(qB3 (a,x.2.1,nth l x.2.1 Z143,l,len l,x.2.1,f135 (nth l x.2.1 Z143).1,()) (qB2 _).2 (List.set x.1 (Int.toNat x.2.1) ((nth l x.2.1 Z143).1,(nth x.1 x.2.1 Z143).2.1,())) (by rw[wU9];exact hx.1) hb).2;rw[rF3];exact⟨⟨h13,(show 0≤x.2.1+1 by omega)⟩,(show (len l-(x.2.1+1)).toNat<(len l-x.2.1).toNat by omega)⟩
theorem qK6 (l:List D143)(a:D79)(hl:len l<9223372036854775808):tQ3 l a∧len (f119 l a).1≤128:=by
 have hrep:len (List.replicate (Int.toNat (len l)) Z143)=len l:=by simp[len]
 refine⟨⟨sN8 l hl,fun h0=>⟨tG5 _,fun _=>?_⟩⟩,?_⟩
 ·have h0:f134 l=0:=by simpa using h0
  have hk:=(vQ5 hl h0).1;have:=wF l;exact⟨⟨by omega,by omega,by omega⟩,(qR0 l a _ hrep hk).1⟩
 ·simp only[f119,qF7];cases h0:(f134 l !=0) with
  |true=>simp[len]
  |false =>
   have h0:f134 l=0:=by simpa using h0
   have hk:=(vQ5 hl h0).1;have h9:=(qR0 l a _ hrep hk).2;simp only[cond_false];cases (f76 a !=0) with
   |true=>simp[len]
   |false =>
    simp only[cond_false];cases tD1 _ _ with
    |true=>simp[uE,vY1,len]
    |false=>simp only[cond_false,uE0];rw[h9];exact hk
theorem tC0 {p:D140}{l:List D140}(h1:1≤len l)(h2:len l≤2147483648):vC2 p l∧len l≤len (wT p l).1∧len (wT p l).1≤len l+1:=by
 have hw:IntKind.wrap .i64 (len l-1)=len l-1:=wP9 (wL (by omega) (by omega));refine⟨⟨?_,fun _=>?_⟩,?_⟩
 ·rw[hw];exact⟨by omega,by omega⟩
 ·simp only[len] at h2;simp only[List.length_cons,List.length_nil];omega
 ·simp only[wT,uU3];cases (!(Ty.eqb T140 p (nth l (IntKind.wrap .i64 (len l-1)) Z140))) with
  |true=>simp only[cond_true,wV,wY7];omega
  |false=>simp only[cond_false];omega
theorem ext8 (y:wY9)(l:List D140)(h1:1≤len l)(h2:len l≤1073741824) :
  xB7 (wT1 y) (wN4 y) (wV5 y) (l,1,())∧len l≤len (zB9 (wT1 y) (wN4 y) (l,1,())).1∧len (zB9 (wT1 y) (wN4 y) (l,1,())).1≤len l+16:=by
 have h:=whole (g:=wT1 y) (next:=wN4 y) (ok:=wV5 y) (fun x=>(1≤x.2.1∧x.2.1≤9)∧len l≤len x.1∧len x.1≤len l+(x.2.1-1)) (fun x=>(9-x.2.1).toNat) (fun x hx=>fun _=>by
   exact⟨inb0,inb1,wM1 _ _,inb0,inb1,wM1 _ _,(tC0 (by omega) (by omega)).1⟩) (fun x hx hg=>by
   have h4:x.2.1≤8:=of_decide_eq_true hg;have hw:IntKind.wrap .i64 (x.2.1+1)=x.2.1+1:=wP9 (wL (by omega) (by omega));have ha:∀ q:D140,len x.1≤len (wT q x.1).1∧len (wT q x.1).1≤len x.1+1:=fun q=>(tC0 (p:=q) (by omega) (by omega)).2;simp only[wN4,vM5];rw[hw];exact⟨⟨⟨by omega,by omega⟩,Int.le_trans hx.2.1 (ha _).1,Int.le_trans (ha _).2 (by omega)⟩,by omega⟩) (x:=(l,1,())) ⟨⟨Int.le_refl 1,(by decide:(1:Int)≤9)⟩,Int.le_refl _,(show len l≤len l+(1-1) by omega)⟩ (by simp[zH7])
 exact⟨h.1,h.2.1.2.1,by have:=h.2.1.2.2;have:=h.2.1.1.2;omega⟩
theorem pT9 (y:wV6)(l:List D140)(h1:1≤len l)(h2:len l≤1073741824) :
  xB7 (wQ8 y) (wN y) (wS1 y) (l,1,())∧len l≤len (zB9 (wQ8 y) (wN y) (l,1,())).1∧len (zB9 (wQ8 y) (wN y) (l,1,())).1≤len l+16:=by
 have h:=whole (g:=wQ8 y) (next:=wN y) (ok:=wS1 y) (fun x=>(1≤x.2.1∧x.2.1≤17)∧len l≤len x.1∧len x.1≤len l+(x.2.1-1)) (fun x=>(17-x.2.1).toNat) (fun x hx=>fun _=>by
   exact⟨inb0,inb1,inb2,wM1 _ _,inb0,inb1,inb2,wM1 _ _,(tC0 (by omega) (by omega)).1⟩) (fun x hx hg=>by
   have h4:x.2.1≤16:=of_decide_eq_true hg;have hw:IntKind.wrap .i64 (x.2.1+1)=x.2.1+1:=wP9 (wL (by omega) (by omega));have ha:∀ q:D140,len x.1≤len (wT q x.1).1∧len (wT q x.1).1≤len x.1+1:=fun q=>(tC0 (p:=q) (by omega) (by omega)).2;simp only[wN,vF4];rw[hw];exact⟨⟨⟨by omega,by omega⟩,Int.le_trans hx.2.1 (ha _).1,Int.le_trans (ha _).2 (by omega)⟩,by omega⟩) (x:=(l,1,())) ⟨⟨Int.le_refl 1,(by decide:(1:Int)≤17)⟩,Int.le_refl _,(show len l≤len l+(1-1) by omega)⟩ (by simp[zH7])
 exact⟨h.1,h.2.1.2.1,by have:=h.2.1.2.2;have:=h.2.1.1.2;omega⟩
theorem rI5 {l:List D140}{s:D143}(h1:1≤len l)(h2:len l≤1073741824):vV0 l s∧len l≤len (uQ4 l s)∧len (uQ4 l s)≤len l+16:=by
 have hw:IntKind.wrap .i64 (len l-1)=len l-1:=wP9 (wL (by omega) (by omega));have ha:=tC0 (p:=nth s.2.1 (0:Int) Z140) h1 (show len l≤2147483648 by omega);refine⟨⟨?_,fun _=>⟨inb0,ha.1⟩,fun _=>⟨fun _=>(ext8 _ l h1 h2).1,fun _ _=>(pT9 _ l h1 h2).1⟩⟩,?_⟩
 ·rw[hw];exact⟨by omega,by omega⟩
 ·simp only[uQ4,tL9,vM6,vH];have h8:=(ext8 (s,nth l (IntKind.wrap .i64 (len l-1)) Z140,((),()),()) l h1 h2).2;have h15:=(pT9 (s,nth l (IntKind.wrap .i64 (len l-1)) Z140,((),()),()) l h1 h2).2;cases (s.1==2) with
  |true=>simp only[cond_true];omega
  |false =>
   cases (s.1==3) with
   |true=>simp only[cond_true,cond_false];exact h8
   |false =>
    cases (s.1==4) with
    |true=>simp only[cond_true,cond_false];exact h15
    |false=>simp only[cond_false];omega
def Few (n m:Int)(l:List (List D140)):Prop:=len l≤n∧∀ q∈l,len q≤m
theorem pU (l:List D143)(hl:len l≤128)(h0:0<len l→(nth l 0 Z143).1=1) :
  xB7 (vV1 (l,l,len l,())) (wQ1 (l,l,len l,())) (vK4 (l,l,len l,())) ([],[],0,())∧Few 128 4096 (zB9 (vV1 (l,l,len l,())) (wQ1 (l,l,len l,())) ([],[],0,())).1:=by
 have step:∀ x:vF5,(0≤x.2.2.1∧(0<x.2.2.1→1≤len x.2.1)∧len x.2.1≤1+16*x.2.2.1)→x.2.2.1<len l →
   (((nth l x.2.2.1 Z143).1==1)=false→1≤len x.2.1) ∧
   1≤len (bif ((nth l x.2.2.1 Z143).1==1) then ([(nth (nth l x.2.2.1 Z143).2.1 (0:Int) Z140)]:List D140) else (uQ4 x.2.1 (nth l x.2.2.1 Z143))) ∧
   len (bif ((nth l x.2.2.1 Z143).1==1) then ([(nth (nth l x.2.2.1 Z143).2.1 (0:Int) Z140)]:List D140) else (uQ4 x.2.1 (nth l x.2.2.1 Z143)))≤1+16*(x.2.2.1+1):=by
  intro x hx hlt;have hne:((nth l x.2.2.1 Z143).1==1)=false→1≤len x.2.1:=fun hf=>by
   by_cases hz:x.2.2.1=0
   ·have:=h0 (by omega);rw[hz,this] at hf;simp at hf
   ·exact hx.2.1 (by omega)
  refine⟨hne,?_⟩;cases hk:((nth l x.2.2.1 Z143).1==1) with
  |true=>simp only[cond_true,wY7];omega
  |false =>
   simp only[cond_false];have ha:=(rI5 (s:=nth l x.2.2.1 Z143) (hne hk) (show len x.2.1≤1073741824 by omega)).2;have:=hne hk;omega
 have h:=whole (g:=vV1 (l,l,len l,())) (next:=wQ1 (l,l,len l,())) (ok:=vK4 (l,l,len l,())) (fun x=>(0≤x.2.2.1∧(0<x.2.2.1→1≤len x.2.1)∧len x.2.1≤1+16*x.2.2.1)∧(x.2.2.1≤len l∧len x.1≤x.2.2.1)∧∀ q∈x.1,len q≤4096) (fun x=>(len l-x.2.2.1).toNat) (fun x hx=>fun h3=>by
   have h4:x.2.2.1<len l:=of_decide_eq_true h3;obtain⟨s1,s2,s3⟩:=step x hx.1 h4;refine⟨⟨hx.1.1,h4⟩,fun _=>inb0,fun hf=>(rI5 (s1 hf) (by have:=hx.1.2.2;omega)).1,wL (show _≤len l-1 by omega) (show len l-1≤_ by omega),fun _=>wL (by omega) (by omega),fun hf=>?_,fun _=>?_,wL (by omega) (by omega)⟩
   ·simp only[Bool.not_eq_true',beq_eq_false_iff_ne,ne_eq] at hf;have hf:¬ x.2.2.1=len l-1:=hf;exact⟨(show 0≤x.2.2.1+1 by omega),(show x.2.2.1+1<len l by omega)⟩
   ·have:=hx.2.1.2;simp only[len] at this hl h4;simp only[List.length_cons,List.length_nil];omega) (fun x hx hg=>by
   have h4:x.2.2.1<len l:=of_decide_eq_true hg;obtain⟨s1,s2,s3⟩:=step x hx.1 h4;have hle:=hx.2.1.2;refine⟨⟨⟨(show 0≤x.2.2.1+1 by omega),fun _=>s2,s3⟩,⟨(show x.2.2.1+1≤len l by omega),?_⟩,?_⟩,(show (len l-(x.2.2.1+1)).toNat<(len l-x.2.2.1).toNat by omega)⟩
   ·simp only[wQ1,uK6];cases (bif (x.2.2.1==(len l-1)) then true else ((nth l (x.2.2.1+1) Z143).1==1)) with
    |true=>simp only[cond_true,wV,wY7];omega
    |false=>simp only[cond_false];omega
   ·simp only[wQ1,uK6];cases (bif (x.2.2.1==(len l-1)) then true else ((nth l (x.2.2.1+1) Z143).1==1)) with
    |true =>
     simp only[cond_true];intro q hq;rcases List.mem_append.1 hq with hq|hq
     ·exact hx.2.2 q hq
     ·rw[List.mem_singleton.1 hq];omega
    |false=>simp only[cond_false];exact hx.2.2) (x:=([],[],0,())) ⟨⟨by decide,fun h=>absurd h (by decide),by simp[len]⟩,⟨wF l,by simp[len]⟩,fun q hq=>by cases hq⟩ (by unfold zH7;simp only;omega)
 exact⟨h.1,by have h1:=h.2.1.2.1.1;have h2:=h.2.1.2.1.2;omega,h.2.1.2.2⟩
theorem rI6 (l:List D143)(hl:len l<9223372036854775808):uE3 l∧Few 128 4096 (f120 l).1:=by
 refine⟨⟨sN8 l hl,fun h0=>?_⟩,?_⟩
 ·have h0:f134 l=0:=by simpa using h0
  exact (pU l (vQ5 hl h0).1 (vQ5 hl h0).2).1
 ·simp only[f120,qF8,uE2];cases h0:(f134 l !=0) with
  |true=>exact⟨by simp[len],fun q hq=>by cases hq⟩
  |false =>
   have h0:f134 l=0:=by simpa using h0
   exact (pU l (vQ5 hl h0).1 (vQ5 hl h0).2).2
theorem qK7 (l:List D143)(hl:len l<9223372036854775808):tQ5 l:=⟨sN8 l hl,fun h0=>by
 have h0:f134 l=0:=by simpa using h0
 have hk:=(vQ5 hl h0).1;refine xF5 (fun x=>0≤x.2.1∧x.2.1≤len l∧len x.1≤x.2.1) (fun x=>(len l-x.2.1).toNat) (fun x hx=>fun h3=>?_) (fun x hx hg=>?_) ⟨by decide,wF l,by simp[len]⟩ (by unfold zH7;simp only;omega)
 ·have h4:x.2.1<len l:=of_decide_eq_true h3;refine⟨⟨hx.1,h4⟩,wL (show _≤len l-1 by omega) (show len l-1≤_ by omega),fun _=>wL (by omega) (by omega),fun hf=>?_,fun _=>?_,wL (by omega) (by omega)⟩
  ·simp only[Bool.not_eq_true',beq_eq_false_iff_ne,ne_eq] at hf;have hf:¬ x.2.1=len l-1:=hf;exact⟨(show 0≤x.2.1+1 by omega),(show x.2.1+1<len l by omega)⟩
  ·have:=hx.2.2;simp only[len] at this hk h4;simp only[List.length_cons,List.length_nil];omega
 ·have h4:x.2.1<len l:=of_decide_eq_true hg;refine⟨⟨(show 0≤x.2.1+1 by omega),(show x.2.1+1≤len l by omega),?_⟩,(show (len l-(x.2.1+1)).toNat<(len l-x.2.1).toNat by omega)⟩;have:=hx.2.2;simp only[vR,uU5];cases (bif (x.2.1==(len l-1)) then true else ((nth l (x.2.1+1) Z143).1==1)) with
  |true=>simp only[cond_true,wV,wY7];omega
  |false=>simp only[cond_false];omega⟩
end Go.Proofs.YtofmmkikplmlpaaGreatDoor.Am
namespace Go.Proofs.YtofmmkikplmlpaaGreatDoor.Am
open Go Go.Am
theorem red3 (l:List D140)(o:Bool)(hl:len l≤4096) :
  xB7 (vN (o,l,len l,())) (wQ2 (o,l,len l,())) (vK5 (o,l,len l,())) ([],0,())∧len (zB9 (vN (o,l,len l,())) (wQ2 (o,l,len l,())) ([],0,())).1≤len l:=by
 have h:=whole (g:=vN (o,l,len l,())) (next:=wQ2 (o,l,len l,())) (ok:=vK5 (o,l,len l,())) (fun x=>(0≤x.2.1∧x.2.1≤len l)∧len x.1≤x.2.1) (fun x=>(len l-x.2.1).toNat) (fun x hx=>fun h3=>?_) (fun x hx hg=>?_) (x:=([],0,())) ⟨⟨Int.le_refl 0,wF l⟩,Int.le_refl 0⟩ (by unfold zH7;simp only;omega)
 ·exact⟨h.1,Int.le_trans h.2.1.2 h.2.1.1.2⟩
 ·have h4:x.2.1<len l:=of_decide_eq_true h3;have h5:=wF x.1;have h6:=hx.2;refine⟨⟨hx.1.1,h4⟩,fun _=>wL (by omega) (by omega),fun hf=>?_,fun _=>?_,wL (by omega) (by omega)⟩
  ·simp only[Bool.not_eq_true',beq_eq_false_iff_ne,ne_eq] at hf;exact⟨(show 0≤len x.1-1 by omega),(show len x.1-1<len x.1 by omega)⟩
  ·have:=hx.2;simp only[len] at this hl h4;simp only[List.length_cons,List.length_nil];omega
 ·have h4:x.2.1<len l:=of_decide_eq_true hg;have h6:=hx.2;refine⟨⟨(show 0≤x.2.1+1∧x.2.1+1≤len l by omega),?_⟩,(show (len l-(x.2.1+1)).toNat<(len l-x.2.1).toNat by omega)⟩;simp only[wQ2,uU8];cases (bif ((len x.1)==0) then true else (!(Ty.eqb T140 (nth l x.2.1 Z140) (nth x.1 (len x.1-1) Z140)))) with
  |true=>simp only[cond_true,wV,wY7];omega
  |false=>simp only[cond_false];omega
theorem red8 (l:List D140)(o:Bool)(hl:len l≤4096) :
  xB7 (vV4 (o,())) (wT2 (o,())) (vK6 (o,())) (l,())∧len (zB9 (vV4 (o,())) (wT2 (o,())) (l,())).1≤len l:=by
 have gt:∀ x:wZ9,(bif (bif (!o) then (decide ((len x.1)>1)) else false) then (Ty.eqb T140 (nth x.1 (len x.1-1) Z140) (nth x.1 (0:Int) Z140)) else false)=true→len x.1>1:=fun x h=>by
  cases hq:(bif (!o) then (decide ((len x.1)>1)) else false) with
  |false=>rw[hq] at h;cases h
  |true =>
   cases ho:(!o) with
   |false=>rw[ho] at hq;cases hq
   |true=>rw[ho] at hq;exact of_decide_eq_true hq
 have gt':∀ x:wZ9,(bif (!o) then (decide ((len x.1)>1)) else false)=true→len x.1>1:=fun x h=>by
  cases ho:(!o) with
  |false=>rw[ho] at h;cases h
  |true=>rw[ho] at h;exact of_decide_eq_true h
 have h:=whole (g:=vV4 (o,())) (next:=wT2 (o,())) (ok:=vK6 (o,())) (fun x=>len x.1≤len l) (fun x=>x.1.length) (fun x hx=>?_) (fun x hx hg=>?_) (x:=(l,())) (Int.le_refl _) (by simp only[len] at hl;unfold zH7;simp only;omega)
 ·exact⟨h.1,h.2.1⟩
 ·have h5:=wF x.1;exact⟨fun hf=>by have:=gt' x hf;exact wL (show _≤len x.1-1 by omega) (show len x.1-1≤_ by omega),fun hf=>by have:=gt' x hf;exact⟨(show 0≤len x.1-1 by omega),(show len x.1-1<len x.1 by omega)⟩,fun hf=>by have:=gt' x hf;exact⟨Int.le_refl 0,(show 0<len x.1 by omega)⟩,fun hf=>by have:=gt x hf;exact⟨wL (show _≤len x.1-1 by omega) (show len x.1-1≤_ by omega),⟨(show 0≤len x.1-1 by omega),(show len x.1-1≤len x.1 by omega)⟩⟩⟩
 ·have h5:=gt x hg;have e:(wT2 (o,()) x).1=List.take (Int.toNat (len x.1-1)) x.1:=rfl;rw[e];simp only[len] at h5 hx ⊢;rw[List.length_take];omega
theorem qK8 (l:List D140)(o:Bool)(hl:len l≤4096):tR1 l o∧len (f151 l o)≤len l:=by
 have h3:=red3 l o hl;have h8:=red8 (zB9 (vN (o,l,len l,())) (wQ2 (o,l,len l,())) ([],0,())).1 o (by omega);exact⟨⟨h3.1,h8.1⟩,Int.le_trans h8.2 h3.2⟩
theorem hyp7 (y:vV5):xB7 (uU9 y) (vF6 y) (vV6 y) (0,9223372036854775808,()):=by
 refine xF5 (fun x=>0≤x.2.1) (fun x=>x.2.1.toNat) (fun x _=>fun _=>sN2 _ _) (fun x hx hg=>?_) (by decide) (by unfold zH7;decide);have h4:x.2.1≠0:=by
  have hg:(x.2.1 !=0)=true:=hg;simpa using hg
 have e:(vF6 y x).2.1=wK9 x.2.1 (1:Int) 64:=rfl;rw[e];have e2:wK9 x.2.1 (1:Int) 64=x.2.1.fdiv 2:=rfl;rw[e2];have h5:x.2.1.fdiv 2=x.2.1 / 2:=Int.fdiv_eq_ediv_of_nonneg _ (by omega);rw[h5];omega
theorem rI7 (a b:Int):tD3 a b:=by
 refine⟨tN4 _,tN4 _,sN2 _ _,tN4 _,tN4 _,sN2 _ _,⟨Int.le_refl 0,by decide⟩,⟨Int.natCast_nonneg _,?_⟩,hyp7 _⟩;have hb:∀ z:Int,Int.toNat (IntKind.wrap .u64 z)<18446744073709551616:=fun z=>by
  rw[IntKind.wrap_u64];have:=Int.emod_nonneg z (b:=18446744073709551616) (by omega);have:=Int.emod_lt_of_pos z (b:=18446744073709551616) (by omega);omega
 have h1:=hb (f182 a*f182 a);have h2:=hb (f182 b*f182 b);have e1:(f181 (f182 a) (f182 a)).2.1=IntKind.wrap .u64 (f182 a*f182 a):=rfl;have e2:(f181 (f182 b) (f182 b)).2.1=IntKind.wrap .u64 (f182 b*f182 b):=rfl;rw[e1,e2];have h3:(Int.toNat (IntKind.wrap .u64 (f182 a*f182 a))+Int.toNat (IntKind.wrap .u64 (f182 b*f182 b))+Int.toNat (0:Int)) / 18446744073709551616≤1:=by
  rw[show Int.toNat (0:Int)=0 from rfl];omega
 exact_mod_cast h3
theorem rI8 (p q:D140)(w:Int):tD4 p q w:=⟨wW8 _ _,rI7 _ _,wM1 _ _,wM1 _ _,wM1 _ _,wM1 _ _⟩
theorem edg3 (l:List D140)(o:Bool)(w:Int)(hl:len l≤4096) :
  xB7 (vV7 (l,o,w,())) (wT4 (l,o,w,())) (vK7 (l,o,w,())) ([],1,())∧len (zB9 (vV7 (l,o,w,())) (wT4 (l,o,w,())) ([],1,())).1≤len l:=by
 have h:=whole (g:=vV7 (l,o,w,())) (next:=wT4 (l,o,w,())) (ok:=vK7 (l,o,w,())) (fun x=>(1≤x.2.1∧(x.2.1≤len l∨x.2.1=1))∧len x.1≤x.2.1-1) (fun x=>(len l-x.2.1).toNat) (fun x hx=>fun h3=>?_) (fun x hx hg=>?_) (x:=([],1,())) ⟨⟨Int.le_refl 1,.inr rfl⟩,Int.le_refl 0⟩ (by unfold zH7;simp only;omega)
 ·have h5:=wF l;exact⟨h.1,by have:=h.2.1.1;have:=h.2.1.2;omega⟩
 ·have h4:x.2.1<len l:=of_decide_eq_true h3;have h6:=hx.2;have h7:=hx.1.1;refine⟨wL (by omega) (by omega),⟨(show 0≤x.2.1-1 by omega),(show x.2.1-1<len l by omega)⟩,⟨(show 0≤x.2.1 by omega),h4⟩,rI8 _ _ _,?_,wL (by omega) (by omega)⟩;simp only[len] at h6 hl h4;simp only[List.length_cons,List.length_nil];omega
 ·have h4:x.2.1<len l:=of_decide_eq_true hg;have h6:=hx.2;have h7:=hx.1.1;refine⟨⟨⟨(show 1≤x.2.1+1 by omega),.inl (show x.2.1+1≤len l by omega)⟩,?_⟩,(show (len l-(x.2.1+1)).toNat<(len l-x.2.1).toNat by omega)⟩;simp only[wT4,uV,wV,wY7];omega
theorem qK9 (l:List D140)(o:Bool)(w:Int)(hl:len l≤4096):tR2 l o w∧len (f152 l o w)≤len l+1:=by
 have h3:=edg3 l o w hl;have hn:=wF l;refine⟨⟨h3.1,fun hf=>?_⟩,?_⟩
 ·have h5:len l>1:=by
   cases ho:(!o) with
   |false=>rw[ho] at hf;cases hf
   |true=>rw[ho] at hf;exact of_decide_eq_true hf
  refine⟨wL (by omega) (by omega),⟨(show 0≤len l-1 by omega),(show len l-1<len l by omega)⟩,⟨Int.le_refl 0,(show 0<len l by omega)⟩,rI8 _ _ _,?_⟩;have h6:=h3.2;simp only[vR0];simp only[len] at h6 hl;simp only[List.length_cons,List.length_nil];omega
 ·simp only[f152,qF9,vR0];cases (bif (!o) then (decide ((len l)>1)) else false) with
  |true=>simp only[cond_true,wV,wY7];omega
  |false=>simp only[cond_false];omega
theorem qL (l:List D140)(hl:len l≤4096):tR4 l:=by
 refine xF5 (fun x=>0≤x.2.1∧x.2.1≤len l) (fun x=>(len l-x.2.1).toNat) (fun x hx=>fun h3=>?_) (fun x hx hg=>?_) ⟨Int.le_refl 0,wF l⟩ (by unfold zH7;simp only;omega)
 ·have h4:x.2.1<len l:=of_decide_eq_true h3;have hw:IntKind.wrap .i64 (x.2.1+1)=x.2.1+1:=wP9 (wL (by omega) (by omega));refine⟨⟨hx.1,h4⟩,(show len l≠0 by omega),?_⟩;show InB (Int.tmod (IntKind.wrap .i64 (x.2.1+1)) (len l)) (len l);rw[hw,Int.tmod_eq_emod_of_nonneg (by omega)];exact⟨Int.emod_nonneg _ (by omega),Int.emod_lt_of_pos _ (by omega)⟩
 ·have h4:x.2.1<len l:=of_decide_eq_true hg;have hw:IntKind.wrap .i64 (x.2.1+1)=x.2.1+1:=wP9 (wL (by omega) (by omega));simp only[vR1,uV0];rw[hw];omega
theorem qL0:f171 []=0:=by kernel_rfl
theorem tN8 {a:Int}(h:0≤a∧a≤16384):uF1 a:=by
 have e:Int.tdiv a 256=a / 256:=Int.tdiv_eq_ediv_of_nonneg h.1;have hw:IntKind.wrap .i64 (Int.tdiv a 256)=a / 256:=by rw[e];exact wP9 (wL (by omega) (by omega))
 refine⟨fun _=>⟨by decide,by decide⟩,fun hf=>?_⟩;rw[hw] at hf ⊢;have hf:¬ (a / 256≥64):=by simpa using hf
 have hw2:IntKind.wrap .i64 (a / 256+1)=a / 256+1:=wP9 (wL (by omega) (by omega));rw[hw2];exact⟨⟨by omega,by omega⟩,⟨by omega,by omega⟩,⟨by omega,by omega⟩,wM1 _ _⟩
theorem rI9 {a:Int}(h:0≤a∧a<65536):uF2 a:=by
 have e:Int.tdiv a 16384=a / 16384:=Int.tdiv_eq_ediv_of_nonneg h.1;have hw:IntKind.wrap .i64 (Int.tdiv a 16384)=a / 16384:=by rw[e];exact wP9 (wL (by omega) (by omega))
 have hw2:IntKind.wrap .i64 (16384*(a / 16384))=16384*(a / 16384):=wP9 (wL (by omega) (by omega));have hw3:IntKind.wrap .i64 (a-16384*(a / 16384))=a-16384*(a / 16384):=wP9 (wL (by omega) (by omega));have hw4:IntKind.wrap .i64 (16384-(a-16384*(a / 16384)))=16384-(a-16384*(a / 16384)):=wP9 (wL (by omega) (by omega));simp only[uF2,qG,hw,hw2,hw3,hw4];exact⟨fun _=>tN8 (by omega),⟨fun _=>⟨fun _=>tN8 (by omega),fun _ _=>tN8 (by omega)⟩,fun _=>tN8 (by omega)⟩⟩
theorem qL1 (a:Int):tR6 a:=by
 have h1:0≤wK8 .i64 a (65535:Int)∧wK8 .i64 a (65535:Int)<65536:=by
  have e:wK8 .i64 a (65535:Int)=IntKind.wrap .i64 (((BitVec.ofInt 64 a &&& BitVec.ofInt 64 65535).toNat:Nat):Int):=rfl;have h2:(BitVec.ofInt 64 a &&& BitVec.ofInt 64 65535).toNat≤65535:=by
   rw[BitVec.toNat_and];exact Nat.and_le_right
  rw[e,wP9 (wL (by omega) (by omega))];omega
 have hw:IntKind.wrap .i64 (wK8 .i64 a (65535:Int)+16384)=wK8 .i64 a (65535:Int)+16384:=wP9 (wL (by omega) (by omega));refine⟨rI9 h1,?_⟩;show uF2 (Int.tmod (IntKind.wrap .i64 (wK8 .i64 a (65535:Int)+16384)) (65536:Int));rw[hw,Int.tmod_eq_emod_of_nonneg (by omega)];exact rI9 ⟨Int.emod_nonneg _ (by omega),Int.emod_lt_of_pos _ (by omega)⟩
theorem cir3 (c:D140)(w:Int)(l:List D140)(n:Int)(hn:n=16)(hl:len l=16) :
  xB7 (vV8 (w,c,n,())) (wT5 (w,c,n,())) (vK8 (w,c,n,())) (l,0,())∧len (zB9 (vV8 (w,c,n,())) (wT5 (w,c,n,())) (l,0,())).1=16:=by
 have h:=whole (g:=vV8 (w,c,n,())) (next:=wT5 (w,c,n,())) (ok:=vK8 (w,c,n,())) (fun x=>(0≤x.2.1∧x.2.1≤16)∧len x.1=16) (fun x=>(16-x.2.1).toNat) (fun x hx=>fun h3=>?_) (fun x hx hg=>?_) (x:=(l,0,())) ⟨⟨Int.le_refl 0,(by decide:(0:Int)≤16)⟩,hl⟩ (by simp[zH7])
 ·exact⟨h.1,h.2.1.2⟩
 ·have h4:x.2.1<n:=of_decide_eq_true h3;rw[hn] at h4;refine⟨qL1 _,wM1 _ _,wM1 _ _,wP1 _ _,⟨hx.1.1,?_⟩,?_⟩
  ·show x.2.1<len x.1;rw[hx.2];exact h4
  ·show x.2.1<len x.1;rw[hx.2];exact h4
 ·have h4:x.2.1<n:=of_decide_eq_true hg;rw[hn] at h4;have hw:IntKind.wrap .i64 (x.2.1+1)=x.2.1+1:=wP9 (wL (by omega) (by omega));simp only[wT5,uV1,wU9];rw[hw];exact⟨⟨by omega,hx.2⟩,by omega⟩
theorem tN9 (c:D140)(w:Int):uF5 c w∧len (f170 c w)=16:=by
 have hn:len (List.replicate (Int.toNat (16:Int)) Z140)=16:=by simp[len]
 have h:=cir3 c w (List.replicate (Int.toNat (16:Int)) Z140) (len (List.replicate (Int.toNat (16:Int)) Z140)) hn hn;refine⟨⟨⟨by omega,by omega,by omega⟩,h.1⟩,?_⟩;simp only[f170,qG0,uF4];exact h.2
end Go.Proofs.YtofmmkikplmlpaaGreatDoor.Am
namespace Go.Proofs.YtofmmkikplmlpaaGreatDoor.Am
open Go Go.Am
abbrev OT:Type:=Int×Int×Int×List (List D140)×Int×Unit
theorem wN2 {n m k:Int}{l:List (List D140)}(h:Few n k l)(hm:n≤m):Few m k l:=⟨Int.le_trans h.1 hm,h.2⟩
theorem vQ6 {n:Int}{o:OT}{p:List D140}(h:Few n 16 o.2.2.2.1)(hn:n≤4000000000)(hp:len p≤16):wL5 o p∧Few (n+1) 16 (wL0 o p).1.2.2.2.1:=by
 refine⟨⟨qL p (by omega),fun h0=>⟨fun h1=>⟨trivial,?_,rfl,rfl,rfl⟩,?_⟩⟩,?_⟩
 ·have h1:f171 p<0:=of_decide_eq_true h1;cases p with
  |nil=>rw[qL0] at h1;omega
  |cons q r=>simp
 ·have h2:=h.1;simp only[len] at h2;simp only[List.length_cons,List.length_nil];omega
 ·have hm:len (bif (decide (f171 p<0)) then (rH0 p).1 else p)≤16:=by
   cases (decide (f171 p<0)) with
   |true=>simp only[cond_true,rH0,len,List.length_reverse];exact hp
   |false=>exact hp
  simp only[wL0,uV2];cases (f171 p==0) with
  |true=>simp only[cond_true];exact wN2 h (by omega)
  |false =>
   simp only[cond_false];refine⟨by rw[wV,wY7];have:=h.1;omega,fun q hq=>?_⟩;rcases List.mem_append.1 hq with hq|hq
   ·exact h.2 q hq
   ·rw[List.mem_singleton.1 hq];exact hm
theorem pJ3 {n:Int}{o:OT}{c:D140}(h:Few n 16 o.2.2.2.1)(hn:n≤4000000000):vV9 o c∧Few (n+1) 16 (uV4 o c).1.2.2.2.1:=by
 have hc:=tN9 c o.1;have a1:=vQ6 (p:=f170 c o.1) h hn (by rw[hc.2];omega);have a2:∀ x y z w:D140,wL5 o [x,y,z,w]∧Few (n+1) 16 (wL0 o [x,y,z,w]).1.2.2.2.1:=fun x y z w=>vQ6 h hn (show (4:Int)≤16 by omega);refine⟨⟨fun _=>⟨hc.1,a1.1⟩,fun _ _=>⟨wM1 _ _,wP1 _ _,wP1 _ _,wP1 _ _,wP1 _ _,(a2 _ _ _ _).1⟩⟩,?_⟩;simp only[uV4,uV3];cases (o.2.2.1==1) with
 |true=>exact a1.2
 |false =>
  cases (o.2.2.1==2) with
  |true=>exact (a2 _ _ _ _).2
  |false=>exact wN2 h (by omega)
theorem sI8 {n:Int}{o:OT}{p q:D217}(h:Few n 16 o.2.2.2.1)(hn:n≤3900000000):wZ o p q∧Few (n+3) 16 (vA o p q).1.2.2.2.1:=by
 have hc:=tN9 q.1 o.1;have a0:=vQ6 (p:=f170 q.1 o.1) h (by omega) (by rw[hc.2];omega);have a1:=vQ6 (p:=[q.1,f155 q.1 p.2.2.2.1,f155 q.1 q.2.2.2.1]) h (by omega) (show (3:Int)≤16 by omega);generalize ho1:(wL0 o [q.1,f155 q.1 p.2.2.2.1,f155 q.1 q.2.2.2.1]).1=o1 at a1;have a2:=vQ6 (o:=o1) (p:=[q.1,f156 q.1 p.2.2.2.1,f156 q.1 q.2.2.2.1]) a1.2 (by omega) (show (3:Int)≤16 by omega);generalize ho2:(wL0 o1 [q.1,f156 q.1 p.2.2.2.1,f156 q.1 q.2.2.2.1]).1=o2 at a2;have a3:∀ x y z w:D140,wL5 o2 [x,y,z,w]∧Few (n+1+1+1) 16 (wL0 o2 [x,y,z,w]).1.2.2.2.1:=fun x y z w=>vQ6 a2.2 (by omega) (show (4:Int)≤16 by omega);have e1:(wL0 (o.1,o.2.1,o.2.2.1,o.2.2.2.1,o.2.2.2.2.1,()) [q.1,f155 q.1 p.2.2.2.1,f155 q.1 q.2.2.2.1]).1=o1:=ho1;simp only[wZ,vA,uV5,e1];have e2:(wL0 (o1.1,o1.2.1,o1.2.2.1,o1.2.2.2.1,o1.2.2.2.2.1,()) [q.1,f156 q.1 p.2.2.2.1,f156 q.1 q.2.2.2.1]).1=o2:=ho2;simp only[e2];refine⟨⟨fun _=>⟨hc.1,a0.1⟩,fun _=>⟨wP1 _ _,wP1 _ _,a1.1,wW8 _ _,wW8 _ _,a2.1,fun _=>⟨wM1 _ _,wM1 _ _,rI7 _ _,fun _=>⟨fun _=>⟨wW8 _ _,wW8 _ _,wW8 _ _,(a3 _ _ _ _).1⟩,fun _=>⟨wP1 _ _,wP1 _ _,wP1 _ _,(a3 _ _ _ _).1⟩⟩⟩⟩⟩,?_⟩;have b0:=wN2 a0.2 (show n+1≤n+3 by omega);have b2:=wN2 a2.2 (show n+1+1≤n+3 by omega);have b3:∀ x y z w:D140,Few (n+3) 16 (wL0 o2 [x,y,z,w]).1.2.2.2.1:=fun x y z w=>wN2 (a3 x y z w).2 (by omega);generalize (_||_)=c5;cases c5 with
 |true =>
  simp only[cond_true];cases (o.2.1==1) with
  |true=>exact b0
  |false=>exact b2
 |false =>
  simp only[cond_false];generalize (decide (_>(0:Int)))=c;cases c with
  |true=>exact b3 _ _ _ _
  |false=>exact b3 _ _ _ _
theorem qL2 {n:Int}{o:OT}{p q:D217}(h:Few n 16 o.2.2.2.1)(hn:n≤3900000000):vK9 o p q∧Few (n+2) 16 (uV7 o p q).1.2.2.2.1:=by
 have hc:=tN9 p.1 o.1;have a0:=vQ6 (p:=f170 p.1 o.1) h (by omega) (by rw[hc.2];omega);generalize ho1:(wL0 o (f170 p.1 o.1)).1=o1 at a0;have hc2:=tN9 q.2.1 o1.1;have a1:=vQ6 (o:=o1) (p:=f170 q.2.1 o1.1) a0.2 (by omega) (by rw[hc2.2];omega);have b0:=vQ6 (o:=o) (p:=[f155 (f156 p.1 p.2.2.2.2.1) p.2.2.2.1,f155 p.1 p.2.2.2.1,f156 p.1 p.2.2.2.1,f156 (f156 p.1 p.2.2.2.2.1) p.2.2.2.1]) h (by omega) (show (4:Int)≤16 by omega);generalize ho2:(wL0 o [f155 (f156 p.1 p.2.2.2.2.1) p.2.2.2.1,f155 p.1 p.2.2.2.1,f156 p.1 p.2.2.2.1,f156 (f156 p.1 p.2.2.2.2.1) p.2.2.2.1]).1=o2 at b0;have b1:∀ x y z w:D140,wL5 o2 [x,y,z,w]∧Few (n+1+1) 16 (wL0 o2 [x,y,z,w]).1.2.2.2.1:=fun x y z w=>vQ6 b0.2 (by omega) (show (4:Int)≤16 by omega);have e1:(wL0 (o.1,o.2.1,o.2.2.1,o.2.2.2.1,o.2.2.2.2.1,()) (f170 p.1 o.1)).1=o1:=ho1;have e2:(wL0 (o.1,o.2.1,o.2.2.1,o.2.2.2.1,o.2.2.2.2.1,()) [f155 (f156 p.1 p.2.2.2.2.1) p.2.2.2.1,f155 p.1 p.2.2.2.1,f156 p.1 p.2.2.2.1,f156 (f156 p.1 p.2.2.2.2.1) p.2.2.2.1]).1=o2:=ho2;simp only[vK9,uV7,uV6,e1,e2];refine⟨⟨fun _=>⟨hc.1,a0.1,hc2.1,a1.1⟩,fun _ _=>⟨wW8 _ _,wP1 _ _,wP1 _ _,wW8 _ _,wW8 _ _,b0.1,wP1 _ _,wP1 _ _,wP1 _ _,wW8 _ _,wW8 _ _,(b1 _ _ _ _).1⟩⟩,?_⟩;have c0:=wN2 a1.2 (show n+1+1≤n+2 by omega);cases (o.2.2.1==1) with
 |true=>exact c0
 |false =>
  cases (o.2.2.1==2) with
  |true=>exact wN2 (b1 _ _ _ _).2 (by omega)
  |false=>exact wN2 h (by omega)
theorem pol6 {n:Int}{o:OT}(b:Bool)(l:List D217)(h:Few n 16 o.2.2.2.1)(hn:n≤3000000000)(hl:len l≤4097) :
  xB7 (wT6 (b,l,l,len l,())) (wO3 (b,l,l,len l,())) (wV9 (b,l,l,len l,())) (o,0,())∧Few (n+4097) 16 (zB9 (wT6 (b,l,l,len l,())) (wO3 (b,l,l,len l,())) (o,0,())).1.2.2.2.1:=by
 have st:∀ x:wQ3,((0≤x.2.1∧x.2.1≤len l)∧Few (n+x.2.1) 16 x.1.2.2.2.1)→∀ p q r s:D140,wL5 x.1 [p,q,r,s]∧Few (n+x.2.1+1) 16 (wL0 x.1 [p,q,r,s]).1.2.2.2.1:=fun x hx p q r s=>vQ6 hx.2 (by omega) (show (4:Int)≤16 by omega);have w:=whole (g:=wT6 (b,l,l,len l,())) (next:=wO3 (b,l,l,len l,())) (ok:=wV9 (b,l,l,len l,())) (fun x=>(0≤x.2.1∧x.2.1≤len l)∧Few (n+x.2.1) 16 x.1.2.2.2.1) (fun x=>(len l-x.2.1).toNat) (fun x hx=>fun h3=>?_) (fun x hx hg=>?_) (x:=(o,0,())) ⟨⟨Int.le_refl 0,wF l⟩,by rw[Int.add_zero];exact h⟩ (by unfold zH7;simp only;omega)
 ·exact⟨w.1,wN2 w.2.1.2 (by have:=w.2.1.1;omega)⟩
 ·have h4:x.2.1<len l:=of_decide_eq_true h3;exact⟨⟨hx.1.1,h4⟩,wP1 _ _,wP1 _ _,wW8 _ _,wW8 _ _,(st x hx _ _ _ _).1,wL (by omega) (by omega)⟩
 ·have h4:x.2.1<len l:=of_decide_eq_true hg;refine⟨⟨(show 0≤x.2.1+1∧x.2.1+1≤len l by omega),?_⟩,(show (len l-(x.2.1+1)).toNat<(len l-x.2.1).toNat by omega)⟩;show Few (n+(x.2.1+1)) 16 (wL0 x.1 _).1.2.2.2.1;rw[← Int.add_assoc];exact (st x hx _ _ _ _).2
theorem pU0 {n:Int}{o:OT}(b:Bool)(l:List D217)(h:Few n 16 o.2.2.2.1)(hn:n≤3000000000)(hl:len l≤4097) :
  xB7 (wP (b,l,())) (wN0 (b,l,())) (wS2 (b,l,())) (o,1,())∧Few (n+12300) 16 (zB9 (wP (b,l,())) (wN0 (b,l,())) (o,1,())).1.2.2.2.1:=by
 have st:∀ x:wO9,((1≤x.2.1∧x.2.1≤4098)∧Few (n+3*x.2.1) 16 x.1.2.2.2.1)→∀ p q:D217,wZ x.1 p q∧Few (n+3*x.2.1+3) 16 (vA x.1 p q).1.2.2.2.1:=fun x hx p q=>sI8 hx.2 (by omega);have w:=whole (g:=wP (b,l,())) (next:=wN0 (b,l,())) (ok:=wS2 (b,l,())) (fun x=>(1≤x.2.1∧x.2.1≤4098)∧Few (n+3*x.2.1) 16 x.1.2.2.2.1) (fun x=>(len l-x.2.1).toNat) (fun x hx=>fun h3=>?_) (fun x hx hg=>?_) (x:=(o,1,())) ⟨⟨Int.le_refl 1,(by omega:(1:Int)≤4098)⟩,wN2 h (show n≤n+3*1 by omega)⟩ (by unfold zH7;simp only;omega)
 ·exact⟨w.1,wN2 w.2.1.2 (by have:=w.2.1.1;omega)⟩
 ·have h4:x.2.1<len l:=of_decide_eq_true h3;have h5:=hx.1.1;exact⟨wL (by omega) (by omega),⟨(show 0≤x.2.1-1 by omega),(show x.2.1-1<len l by omega)⟩,⟨(show 0≤x.2.1 by omega),h4⟩,(st x hx _ _).1,wL (by omega) (by omega)⟩
 ·have h4:x.2.1<len l:=of_decide_eq_true hg;have h5:=hx.1.1;refine⟨⟨(show 1≤x.2.1+1∧x.2.1+1≤4098 by omega),?_⟩,(show (len l-(x.2.1+1)).toNat<(len l-x.2.1).toNat by omega)⟩;show Few (n+3*(x.2.1+1)) 16 (vA x.1 _ _).1.2.2.2.1;exact wN2 (st x hx _ _).2 (by omega)
set_option maxHeartbeats 1000000 in
theorem rF4 {n:Int}{o:OT}{l:List D140}{b:Bool}(h:Few n 16 o.2.2.2.1)(hn:n≤2000000000)(hl:len l≤4096):vC5 o l b∧Few (n+20000) 16 (vW o l b).1.2.2.2.1:=by
 have r:=qK8 l b hl;have e:=qK9 (f151 l b) b o.1 (by omega);have hE:len (f152 (f151 l b) b o.1)≤4097:=by omega
 have hd:=pJ3 (c:=nth (f151 l b) (0:Int) Z140) h (by omega);have p6:=pol6 b (f152 (f151 l b) b o.1) h (by omega) hE;have k6:=fun p q=>sI8 (p:=p) (q:=q) p6.2 (by omega);have hne:(!(len (f152 (f151 l b) b o.1)==0))=true→0<len (f152 (f151 l b) b o.1):=fun hf=>by
  have:=wF (f152 (f151 l b) b o.1);simp only[Bool.not_eq_true',beq_eq_false_iff_ne,ne_eq] at hf;omega
 have hm:(len (f151 l b)==1)=true→InB (0:Int) (len (f151 l b)):=fun hf=>by
  have hf:len (f151 l b)=1:=by simpa using hf
  rw[hf];exact⟨by omega,by omega⟩
 have last:(!(len (f152 (f151 l b) b o.1)==0))=true→InR (len (f152 (f151 l b) b o.1)-1)∧InB (len (f152 (f151 l b) b o.1)-1) (len (f152 (f151 l b) b o.1)):=fun hf=>by
  have:=hne hf;exact⟨wL (by omega) (by omega),⟨by omega,by omega⟩⟩
 generalize hmm:f151 l b=m at r e hd p6 k6 hm hne last hE ⊢;generalize hEE:f152 m b o.1=E at e p6 k6 hne last hE ⊢;obtain⟨o1,o2,o3,o4,o5,⟨⟩⟩:=o;simp only[vC5,vW,uV9,vN4,vH0];simp only at hEE;simp only[hmm,hEE];generalize zB9 (wT6 (b,E,E,len E,())) (wO3 (b,E,E,len E,())) ((o1,o2,o3,o4,o5,()),0,())=z at p6 k6 ⊢;obtain⟨⟨a1,a2,a3,a4,a5,⟨⟩⟩,i,⟨⟩⟩:=z;simp only at p6 k6 ⊢;cases b with
 |true =>
  have p13:=pU0 (n:=n+4097) (o:=(a1,a2,a3,a4,a5,())) true E p6.2 (by omega) hE;simp only[Bool.not_true,cond_false];generalize zB9 (wP (true,E,())) (wN0 (true,E,())) ((a1,a2,a3,a4,a5,()),1,())=z at p13 ⊢;obtain⟨⟨b1,b2,b3,b4,b5,⟨⟩⟩,i2,⟨⟩⟩:=z;simp only at p13 ⊢;have c:=fun p q=>qL2 (o:=(b1,b2,b3,b4,b5,())) (p:=p) (q:=q) p13.2 (by omega);refine⟨⟨r.1,e.1,fun _ h1=>⟨hm h1,hd.1⟩,fun h0=>⟨p6.1,fun hf=>absurd hf (by decide),p13.1,fun _=>⟨⟨Int.le_refl 0,hne h0⟩,(last h0).1,(last h0).2,(c _ _).1⟩⟩⟩,?_⟩;cases (len E==0) with
  |true =>
   cases (len m==1) with
   |true=>exact wN2 hd.2 (by omega)
   |false=>exact wN2 h (by omega)
  |false=>exact wN2 (c _ _).2 (by omega)
 |false =>
  simp only[Bool.not_false,cond_true,cond_false];have k6:=k6 (nth E (len E-1) Z217) (nth E (0:Int) Z217);have p13:=pU0 (n:=n+4097+3) (o:=(vA (a1,a2,a3,a4,a5,()) (nth E (len E-1) Z217) (nth E (0:Int) Z217)).1) false E k6.2 (by omega) hE;generalize (vA (a1,a2,a3,a4,a5,()) (nth E (len E-1) Z217) (nth E (0:Int) Z217)).1=w at k6 p13 ⊢;obtain⟨w1,w2,w3,w4,w5,⟨⟩⟩:=w;simp only at k6 p13 ⊢;generalize zB9 (wP (false,E,())) (wN0 (false,E,())) ((w1,w2,w3,w4,w5,()),1,())=z at p13 ⊢;obtain⟨⟨b1,b2,b3,b4,b5,⟨⟩⟩,i2,⟨⟩⟩:=z;simp only at p13 ⊢;refine⟨⟨r.1,e.1,fun _ h1=>⟨hm h1,hd.1⟩,fun h0=>⟨p6.1,fun _=>⟨(last h0).1,(last h0).2,⟨Int.le_refl 0,hne h0⟩,k6.1⟩,p13.1,fun hf=>absurd hf (by decide)⟩⟩,?_⟩;cases (len E==0) with
  |true =>
   cases (len m==1) with
   |true=>exact wN2 hd.2 (by omega)
   |false=>exact wN2 h (by omega)
  |false=>exact wN2 p13.2 (by omega)
theorem sN9 {l:List (List D140)}{bs:List Bool}{w j k:Int}(hl:Few 128 4096 l):tR9 l bs w j k∧Few 4294967296 16 (f122 l bs w j k).1:=by
 have h81:=sN7 l 0 (by have:=hl.1;omega) (fun q hq=>by have:=hl.2 q hq;omega);have key:len bs=len l →
   xB7 (vL (bs,(),l,len l,())) (wW0 (bs,(),l,len l,())) (vC6 (bs,(),l,len l,())) ((w,j,k,([]:List (List D140)),(0:Int),()),(0:Int),()) ∧
   Few 4294967296 16 (zB9 (vL (bs,(),l,len l,())) (wW0 (bs,(),l,len l,())) ((w,j,k,([]:List (List D140)),(0:Int),()),(0:Int),())).1.2.2.2.1:=fun hb=>by
  have hl1:=hl.1;have st:∀ x:wO7,((0≤x.2.1∧x.2.1≤len l)∧Few (20000*x.2.1) 16 x.1.2.2.2.1)→x.2.1<len l→vC5 x.1 (nth l x.2.1 ([]:List D140)) (nth bs x.2.1 false)∧Few (20000*x.2.1+20000) 16 (vW x.1 (nth l x.2.1 ([]:List D140)) (nth bs x.2.1 false)).1.2.2.2.1:=fun x hx h4=>rF4 hx.2 (by omega) (hl.2 _ (wM ⟨hx.1.1,h4⟩));have w:=whole (g:=vL (bs,(),l,len l,())) (next:=wW0 (bs,(),l,len l,())) (ok:=vC6 (bs,(),l,len l,())) (fun x=>(0≤x.2.1∧x.2.1≤len l)∧Few (20000*x.2.1) 16 x.1.2.2.2.1) (fun x=>(len l-x.2.1).toNat) (fun x hx=>fun h3=>?_) (fun x hx hg=>?_) (x:=((w,j,k,([]:List (List D140)),(0:Int),()),(0:Int),())) ⟨⟨Int.le_refl 0,wF l⟩,⟨Int.le_refl 0,fun q hq=>by cases hq⟩⟩ (by unfold zH7;simp only;omega)
  ·exact⟨w.1,wN2 w.2.1.2 (by have:=w.2.1.1;omega)⟩
  ·have h4:x.2.1<len l:=of_decide_eq_true h3;exact⟨⟨hx.1.1,h4⟩,⟨hx.1.1,(show x.2.1<len bs by omega)⟩,(st x hx h4).1,fun _=>wL (by omega) (by omega)⟩
  ·have h4:x.2.1<len l:=wL6 hg;refine⟨⟨(show 0≤x.2.1+1∧x.2.1+1≤len l by omega),?_⟩,(show (len l-(x.2.1+1)).toNat<(len l-x.2.1).toNat by omega)⟩;show Few (20000*(x.2.1+1)) 16 (vW x.1 _ _).1.2.2.2.1;exact wN2 (st x hx h4).2 (by omega)
 refine⟨⟨qJ3 _ _ _,fun _=>⟨h81,fun _ hf=>(key (by simpa using hf)).1⟩⟩,?_⟩;have nil:Few 4294967296 16 ([]:List (List D140)):=⟨(show (0:Int)≤4294967296 by omega),fun q hq=>by cases hq⟩;simp only[f122,qG1,vY7,vY8];cases (f139 w j k !=0) with
 |true=>exact nil
 |false =>
  cases (f123 l 0 !=0) with
  |true=>exact nil
  |false =>
   cases hf:(len bs !=len l) with
   |true=>exact nil
   |false =>
    simp only[cond_false];cases uQ5 _ _ with
    |true=>exact nil
    |false=>exact (key (by simpa using hf)).2
theorem qL3 (p:D91)(hl:len p.2.2.2.2.2.2.2.2.2.2.2.2.2.2.2.2.2.2.1<9223372036854775808):tS p:=by
 have h77:=qK6 p.2.2.2.2.2.2.2.2.2.2.2.2.2.2.2.2.2.2.1 p.2.2.2.2.2.2.2.2.2.2.1 hl;have h78:=rI6 (f119 p.2.2.2.2.2.2.2.2.2.2.2.2.2.2.2.2.2.2.1 p.2.2.2.2.2.2.2.2.2.2.1).1 (by omega);have h79:=qK7 (f119 p.2.2.2.2.2.2.2.2.2.2.2.2.2.2.2.2.2.2.1 p.2.2.2.2.2.2.2.2.2.2.1).1 (by omega);refine⟨h77.1,fun _ _ _=>⟨h78.1,fun _=>⟨fun _=>⟨h79,fun _=>(sN9 h78.2).1⟩,fun _=>⟨?_,fun _=>sN5 _⟩⟩⟩⟩;refine sN7 _ _ ?_ ?_
 ·cases (p.2.2.2.2.2.2.2.2.2.2.2.2.2.2.2.2.2.2.2.2.1 !=0) with
  |true=>have:=(sN9 (bs:=(f121 (f119 p.2.2.2.2.2.2.2.2.2.2.2.2.2.2.2.2.2.2.1 p.2.2.2.2.2.2.2.2.2.2.1).1).1) (w:=p.2.2.2.2.2.2.2.2.2.2.2.2.2.2.2.2.2.2.2.2.1) (j:=p.2.2.2.2.2.2.2.2.2.2.2.2.2.2.2.2.2.2.2.2.2.1) (k:=p.2.2.2.2.2.2.2.2.2.2.2.2.2.2.2.2.2.2.2.2.2.2.1) h78.2).2.1;simp only[cond_true];omega
  |false=>have:=h78.2.1;simp only[cond_false];omega
 ·cases (p.2.2.2.2.2.2.2.2.2.2.2.2.2.2.2.2.2.2.2.2.1 !=0) with
  |true=>intro q hq;have:=(sN9 h78.2).2.2 q hq;omega
  |false=>intro q hq;have:=h78.2.2 q hq;omega
end Go.Proofs.YtofmmkikplmlpaaGreatDoor.Am
namespace Go.Proofs.YtofmmkikplmlpaaGreatDoor.Am
open Go Go.Am
theorem uT2 {x:Int}(h1:-9223372036854775808≤x)(h2:x≤9223372036854775807):InR x:=⟨h1,h2⟩
def prep (w:List UInt8):List (List UInt8)→List (List UInt8)
 |[]=>[w]
 |x::r=>(w++x)::r
theorem rF5 (c b:UInt8)(l:List UInt8):wL4 c (b::l)=if b==c then []::wL4 c l else prep [b] (wL4 c l):=by
 rw[wL4];split
 ·rfl
 ·cases wL4 c l<;>rfl
def tot:List (List UInt8)→Nat
 |[]=>0
 |x::r=>x.length+1+tot r
theorem qL4 (w:List UInt8){X:List (List UInt8)}(h:X≠[]):tot (prep w X)=w.length+tot X:=by
 cases X with
 |nil=>exact absurd rfl h
 |cons x r=>simp[prep,tot];omega
theorem sC (c:UInt8):∀ l:List UInt8,tot (wL4 c l)=l.length+1
 |[]=>rfl
 |b::l=>by
  rw[rF5];have ih:=sC c l;split
  ·simp only[tot,List.length_nil,List.length_cons,ih];omega
  ·rw[qL4 _ (sP0 c l),ih];simp;omega
theorem sI9:∀ X:List (List UInt8),X.length≤tot X
 |[]=>Nat.le_refl _
 |x::r=>by
  have:=sI9 r;simp only[List.length_cons,tot];omega
theorem rP4 {c:UInt8}{l:List UInt8}(h:Lib.countByte l c=0):wL4 c l=[l]:=by
 refine vX5 c l ?_;unfold Lib.countByte at h
 induction l with
 |nil=>rfl
 |cons b l ih =>
  rw[List.count_cons] at h;have h1:(b==c)=false:=by
   cases hb:b==c with
   |false=>rfl
   |true=>rw[hb] at h;simp at h
  rw[h1] at h;have:=ih (by simpa using h);unfold Lib.indexByte;rw[h1,this];simp
theorem rJ {c:UInt8}:∀ {l:List UInt8}{i:Nat},Lib.indexByte l c=i→Lib.countByte l c=1+Lib.countByte (l.drop (i+1)) c
 |[],i,h=>by simp only[Lib.indexByte] at h;omega
 |b::l,i,h=>by
  unfold Lib.indexByte at h;unfold Lib.countByte;rw[List.count_cons];by_cases hb:b==c
  ·simp only[hb,if_true] at h ⊢;have:i=0:=by omega
   subst this;simp;omega
  ·simp only[hb,if_false,Bool.false_eq_true] at h ⊢;by_cases hn:Lib.indexByte l c==-1
   ·simp only[hn,if_true] at h;omega
   ·simp only[hn,if_false,Bool.false_eq_true] at h;have hge:=Lib.indexByte_ge l c;have hn':Lib.indexByte l c≠-1:=by simpa using hn
    obtain⟨k,hk⟩:∃ k:Nat,Lib.indexByte l c=k:=⟨(Lib.indexByte l c).toNat,by omega⟩;have ih:=rJ hk;have:i=k+1:=by omega
    subst this;unfold Lib.countByte at ih;rw[ih];simp
theorem sO (c:UInt8)(l:List UInt8):Lib.countByte l c≤l.length:=List.count_le_length
def libI (c:UInt8)(s:List UInt8)(x:List UInt8×List (List UInt8)×Int×Unit):Prop:=
 0≤x.2.2.1∧x.2.2.1≤Lib.countByte s c∧x.2.1.length=Lib.countByte s c+1∧(Lib.countByte x.1 c:Int)=Lib.countByte s c-x.2.2.1∧x.1.length≤s.length∧x.2.1.take x.2.2.1.toNat++wL4 c x.1=wL4 c s
theorem rJ0 {X:List (List UInt8)}{k:Nat}{w:List UInt8}(h:k<X.length):(X.set k w).take (k+1)=X.take k++[w]:=by
 rw[List.take_succ_eq_append_getElem (by simpa using h)];simp[List.take_set_of_le]
theorem sC0 {c:UInt8}{s:List UInt8}{k:Int}(hk:k=Lib.countByte s c){x:List UInt8×List (List UInt8)×Int×Unit}(hi:libI c s x)(hg:wP5 ([c],0,k,()) x=true) :
  libI c s (wM3 ([c],0,k,()) x)∧(k-(wM3 ([c],0,k,()) x).2.2.1).toNat<(k-x.2.2.1).toNat:=by
 obtain⟨a0,a9,a10,_⟩:=x;obtain⟨h1,h2,h3,h4,h5,h6⟩:=hi;simp only at h1 h2 h3 h4 h5 h6;simp only[wP5,vL9,Bool.and_eq_true,decide_eq_true_eq,Bool.not_eq_true',decide_eq_false_iff_not] at hg;obtain⟨hg1,hg2⟩:=hg;have hg2:¬ Lib.indexByte a0 c<0:=hg2;obtain⟨i,hii⟩:∃ i:Nat,Lib.indexByte a0 c=i:=⟨(Lib.indexByte a0 c).toNat,by omega⟩;have hs:=uT4 c a0 i hii;have hc:=rJ hii;have e82:f186 a0 [c]=i:=hii;simp only[wM3,vL9,e82];have e0:((i:Int)+0).toNat=i:=by omega
 have e1:((i:Int)+len [c]).toNat=i+1:=by show ((i:Int)+1).toNat=_;omega
 have ek:(a10+1).toNat=a10.toNat+1:=by omega
 rw[e0,e1];refine⟨⟨(show 0≤a10+1 by omega),(show a10+1≤_ by omega),?_,?_,?_,?_⟩,(show (k-(a10+1)).toNat<(k-a10).toNat by omega)⟩
 ·simpa using h3
 ·show (Lib.countByte (a0.drop (i+1)) c:Int)=Lib.countByte s c-(a10+1);omega
 ·show (a0.drop (i+1)).length≤s.length;rw[List.length_drop];omega
 ·show (a9.set a10.toNat (a0.take i)).take (a10+1).toNat++wL4 c (a0.drop (i+1))=wL4 c s;rw[ek,rJ0 (by omega),List.append_assoc,← h6,hs.1];rfl
theorem tG6 (c:UInt8)(s:List UInt8):libI c s (s,List.replicate (Lib.countByte s c+1) [],0,()):=by
 refine⟨Int.le_refl _,(show (0:Int)≤_ by omega),by simp,(show (Lib.countByte s c:Int)=Lib.countByte s c-0 by omega),Nat.le_refl _,?_⟩;show (List.replicate (Lib.countByte s c+1) []).take (0:Int).toNat++wL4 c s=wL4 c s;rfl
theorem pU1 (c:UInt8)(s:List UInt8):wI6 ((Lib.countByte s c:Int)+1) (len s+1)=(Lib.countByte s c:Int)+1:=by
 have:=sO c s;unfold wI6 len;split<;>omega
theorem pJ4 (c:UInt8)(s:List UInt8)(hs:len s<9223372036854775808):f162 s [c]=wL4 c s:=by
 have hcl:=sO c s;have hll:len s=(s.length:Int):=rfl;have h:=xF4 (g:=wP5 ([c],0,(Lib.countByte s c:Int),())) (next:=wM3 ([c],0,(Lib.countByte s c:Int),())) (libI c s) (fun x=>((Lib.countByte s c:Int)-x.2.2.1).toNat) (fun x hi hg=>sC0 rfl hi hg) (tG6 c s) (by simp only[zH7];omega)
 have e84:f188 s [c]=(Lib.countByte s c:Int):=rfl;have eb:([c]==([]:List UInt8))=false:=rfl;have en:Int.toNat ((Lib.countByte s c:Int)+1)=Lib.countByte s c+1:=by omega
 have em:(Lib.countByte s c:Int)+1-1=(Lib.countByte s c:Int):=by omega
 have e1:((-1:Int)==0)=false:=rfl;have e2:decide ((-1:Int)<0)=true:=rfl;simp only[f162,rQ5,f177,rQ4,vH2,vH3,vH4,e84,eb,e1,e2,cond_false,cond_true,pU1,en,em];generalize zB9 (wP5 ([c],0,(Lib.countByte s c:Int),())) (wM3 ([c],0,(Lib.countByte s c:Int),())) (s,List.replicate (Lib.countByte s c+1) [],0,())=e at h;obtain⟨a0,a9,a10,_⟩:=e;obtain⟨⟨h1,h2,h3,h4,h5,h6⟩,h7⟩:=h;simp only at h1 h2 h3 h4 h5 h6;have hone:wL4 c a0=[a0]:=by
  simp only[wP5,vL9,Bool.and_eq_false_iff,decide_eq_false_iff_not,Bool.not_eq_false',decide_eq_true_eq] at h7;rcases h7 with h7|h7
  ·exact rP4 (by omega)
  ·have h7:Lib.indexByte a0 c<0:=h7;have:=Lib.indexByte_ge a0 c;exact vX5 c a0 (by omega)
 show (a9.set a10.toNat a0).take (a10+1).toNat=wL4 c s;have ek:(a10+1).toNat=a10.toNat+1:=by omega
 rw[ek,rJ0 (by omega),← hone,h6]
theorem qL5 (c:UInt8)(s:List UInt8)(hs:len s≤4096):uC7 s [c]:=by
 have hcl:=sO c s;have hll:len s=(s.length:Int):=rfl;have e84:f188 s [c]=(Lib.countByte s c:Int):=rfl;have eb:([c]==([]:List UInt8))=false:=rfl;have en:Int.toNat ((Lib.countByte s c:Int)+1)=Lib.countByte s c+1:=by omega
 have em:(Lib.countByte s c:Int)+1-1=(Lib.countByte s c:Int):=by omega
 have e1:((-1:Int)==0)=false:=rfl;have e2:decide ((-1:Int)<0)=true:=rfl;have h:=xF4 (g:=wP5 ([c],0,(Lib.countByte s c:Int),())) (next:=wM3 ([c],0,(Lib.countByte s c:Int),())) (libI c s) (fun x=>((Lib.countByte s c:Int)-x.2.2.1).toNat) (fun x hi hg=>sC0 rfl hi hg) (tG6 c s) (by simp only[zH7];omega)
 have hE:xB7 (wP5 ([c],0,(Lib.countByte s c:Int),())) (wM3 ([c],0,(Lib.countByte s c:Int),())) (vM ([c],0,(Lib.countByte s c:Int),())) (s,List.replicate (Lib.countByte s c+1) [],0,()):=by
  refine xF5 (libI c s) (fun x=>((Lib.countByte s c:Int)-x.2.2.1).toNat) (fun x hi=>?_) (fun x hi hg=>sC0 rfl hi hg) (tG6 c s) (by simp only[zH7];omega);obtain⟨a0,a9,a10,_⟩:=x;obtain⟨h1,h2,h3,h4,h5,h6⟩:=hi;simp only at h1 h2 h3 h4 h5 h6;intro hv;have hv:a10<(Lib.countByte s c:Int):=of_decide_eq_true hv;refine⟨rfl,fun g=>?_⟩;have g:(!decide (Lib.indexByte a0 c<0))=true:=g;have g:¬ Lib.indexByte a0 c<0:=by simpa using g
  obtain⟨i,hii⟩:∃ i:Nat,Lib.indexByte a0 c=i:=⟨(Lib.indexByte a0 c).toNat,by omega⟩;have hs:=uT4 c a0 i hii;have e82:f186 a0 [c]=i:=hii;have hla:len a0=(a0.length:Int):=rfl;have hl9:len a9=(a9.length:Int):=rfl;have hone:len [c]=1:=rfl;simp only[e82,hone];exact⟨uT2 (by omega) (by omega),⟨by omega,by omega⟩,⟨by omega,by omega⟩,by omega,uT2 (by omega) (by omega),⟨by omega,by omega⟩,uT2 (by omega) (by omega)⟩
 simp only[uC7,rQ5,tO4,rQ4,vH2,vH3,vH4,e84,eb,e1,e2,cond_true,pU1,en,em];generalize zB9 (wP5 ([c],0,(Lib.countByte s c:Int),())) (wM3 ([c],0,(Lib.countByte s c:Int),())) (s,List.replicate (Lib.countByte s c+1) [],0,())=e at h;obtain⟨a0,a9,a10,_⟩:=e;obtain⟨⟨h1,h2,h3,h4,h5,h6⟩,h7⟩:=h;simp only at h1 h2 h3 h4 h5 h6;have hl9:len a9=(a9.length:Int):=rfl;have hset:len (a9.set a10.toNat a0)=(a9.length:Int):=by unfold len;rw[List.length_set]
 refine fun _=>⟨fun g=>absurd g (by simp),fun _=>⟨fun _=>⟨rfl,uT2 (by omega) (by omega)⟩,uT2 (by omega) (by omega),⟨by omega,by omega,by omega⟩,uT2 (by omega) (by omega),hE,?_⟩⟩;show InB a10 (len a9)∧a10<len a9∧InR (a10+1)∧0≤a10+1∧a10+1≤len (a9.set a10.toNat a0);rw[hset];exact⟨⟨by omega,by omega⟩,by omega,uT2 (by omega) (by omega),by omega,by omega⟩
end Go.Proofs.YtofmmkikplmlpaaGreatDoor.Am
namespace Go.Proofs.YtofmmkikplmlpaaGreatDoor.Am
open Go Go.Am
theorem rJ1 (a b c:Int):vC7 a b c:=trivial
theorem qL6 (s:List UInt8)(w h:Int)(hs:len s<9223372036854775808):tS8 std s w h:=
 ⟨qI7,fun _=>⟨wG8 (wF s) hs (fun _ h=>wL6 h) (fun _=>rfl) fun x h1 _=>fun h3=>by
  have h4:x.1<len s:=of_decide_eq_true h3;exact⟨⟨h1,h4⟩,fun _=>⟨h1,h4⟩,fun _=>⟨h1,h4⟩,fun _=>wL (by omega) (by omega)⟩,fun _ _=>⟨rJ1 _ _ _,fun _=>rJ1 _ _ _⟩⟩⟩
theorem qB4 {s:List UInt8}{w h:Int}(h0:f141 std s w h=0):len s≤128:=by
 simp only[f141,qG2,uF9] at h0;cases hc:(f159 std !=0) with
 |true =>
  simp only[hc,cond_true] at h0;simp[h0] at hc
 |false =>
  simp only[hc,cond_false] at h0;cases he:tD6 _ _ with
  |true=>rw[he] at h0;simp at h0
  |false =>
   rw[he] at h0;simp only[cond_false] at h0;cases hk:decide (len s>128) with
   |true=>rw[hk] at h0;simp at h0
   |false=>have:=of_decide_eq_false hk;omega
def sO0 (p:D225):Prop:=p.1=std∧len p.2.1=256∧∀ v,InB v 256→-1≤nth p.2.1 v (0:Int)∧nth p.2.1 v (0:Int)<95
theorem sO1:len std.2.2.2.1=95:=by simp only[len,rP3];rfl
theorem qL7:len std.2.2.2.2.1=4:=rfl
theorem qB5:sO0 (f142 std):=by
 refine⟨qA6,by simp only[len,rI1];rfl,fun v hv=>?_⟩;have hm:nth (f142 std).2.1 v (0:Int)∈(f142 std).2.1:=wM (by simp only[len,rI1];exact hv);have h:=List.all_eq_true.1 qI9 _ hm;simp only[Bool.and_eq_true,decide_eq_true_eq] at h;exact h
theorem qL8 {p:D225}{a b:Int}(hp:p.1=std)(ha:InB a 95)(hb:InB b 95):tO5 p a b:=by
 have hk:len p.1.2.2.2.2.1=4:=by rw[hp];exact qL7
 have hg:len p.1.2.2.2.1=95:=by rw[hp];exact sO1
 refine⟨by rw[hg];exact ha,by rw[hg];exact hb,?_⟩;have w:=whole (g:=uT5 ((nth p.1.2.2.2.1 a Z204).1,(nth p.1.2.2.2.1 b Z204).1,p.1.2.2.2.2.1,(len p.1.2.2.2.2.1),())) (next:=vQ8 ((nth p.1.2.2.2.1 a Z204).1,(nth p.1.2.2.2.1 b Z204).1,p.1.2.2.2.2.1,(len p.1.2.2.2.2.1),())) (ok:=vU4 ((nth p.1.2.2.2.1 a Z204).1,(nth p.1.2.2.2.1 b Z204).1,p.1.2.2.2.2.1,(len p.1.2.2.2.2.1),())) (fun x=>0≤x.1∧x.1≤4) (fun x=>(4-x.1).toNat) (fun x hx=>fun h3=>by
   have h4:x.1<len p.1.2.2.2.2.1:=of_decide_eq_true h3;exact⟨hx.1,h4⟩) (fun x hx hg=>by
   have h4:x.1<len p.1.2.2.2.2.1:=wL6 hg;have e:IntKind.wrap .i64 (x.1+1)=x.1+1:=wP9 (wL (by omega) (by omega));show (0≤IntKind.wrap .i64 (x.1+1)∧IntKind.wrap .i64 (x.1+1)≤4)∧(4-IntKind.wrap .i64 (x.1+1)).toNat<(4-x.1).toNat;rw[e];omega) (x:=(0,())) ⟨by decide,by decide⟩ (by simp[zH7])
 exact w.1
theorem qB6 (s:List UInt8)(i:Int):InB (wJ5 s i) 256:=by
 have:=(s.getD i.toNat 0).toNat_lt;unfold InB wJ5;omega
theorem vQ7 {α:Type}{P:α→Prop}{l:List α}{x:α}(h:∀ q∈l,P q)(hx:P x):∀ q∈l++[x],P q:=fun q hq=>by
 rcases List.mem_append.1 hq with h1|h1
 ·exact h q h1
 ·rw[List.mem_singleton.1 h1];exact hx
def pU2 (s:List UInt8)(x:wZ3):Prop:=(0≤x.2.2.1∧x.2.2.1≤len s)∧len x.1≤x.2.2.1∧∀ q∈x.1,InB q.1 95
theorem pW3 {p:D225}(hp:sO0 p)(s:List UInt8)(hs:len s≤1000000) :
  xB7 (vU6 (p,s,len s,())) (wY8 (p,s,len s,())) (vK (p,s,len s,())) ([],0,0,()) ∧
  pU2 s (zB9 (vU6 (p,s,len s,())) (wY8 (p,s,len s,())) ([],0,0,())):=by
 have w:=whole (g:=vU6 (p,s,len s,())) (next:=wY8 (p,s,len s,())) (ok:=vK (p,s,len s,())) (pU2 s) (fun x=>(len s-x.2.2.1).toNat) (fun x hx=>fun h3=>?_) (fun x hx hg=>?_) (x:=([],0,0,())) ⟨⟨Int.le_refl 0,wF s⟩,Int.le_refl 0,fun q hq=>by cases hq⟩ (by unfold zH7;simp only;omega)
 ·exact⟨w.1,w.2.1⟩
 ·have h4:x.2.2.1<len s:=of_decide_eq_true h3;obtain⟨⟨h0,h1⟩,h2,h5⟩:=hx;have hb:=qB6 s x.2.2.1;have hv:=hp.2.2 _ hb;have hl:len x.1=(x.1.length:Int):=rfl;refine⟨⟨h0,h4⟩,hb,fun hn=>?_⟩;have hn:¬ nth p.2.1 (wJ5 s x.2.2.1) (0:Int)<0:=by simpa using hn
  have hv':InB (nth p.2.1 (wJ5 s x.2.2.1) (0:Int)) 95:=⟨by omega,hv.2⟩;refine⟨fun hg=>?_,?_,?_⟩
  ·have hg:len x.1>0:=of_decide_eq_true hg;have e:IntKind.wrap .i64 (len x.1-1)=len x.1-1:=wP9 (wL (by omega) (by omega));have hi:InB (IntKind.wrap .i64 (len x.1-1)) (len x.1):=by rw[e];exact⟨by omega,by omega⟩
   exact⟨hi,qL8 hp.1 (h5 _ (wM hi)) hv'⟩
  ·show ((x.1.length+1:Nat):Int)≤4294967296;omega
  ·show InB _ (len p.1.2.2.2.1);rw[hp.1,sO1];exact hv'
 ·have h4:x.2.2.1<len s:=wL6 hg;obtain⟨⟨h0,h1⟩,h2,h5⟩:=hx;have e:IntKind.wrap .i64 (x.2.2.1+1)=x.2.2.1+1:=wP9 (wL (by omega) (by omega));have hv:=hp.2.2 _ (qB6 s x.2.2.1);refine⟨⟨?_,?_,?_⟩,?_⟩
  ·show 0≤IntKind.wrap .i64 (x.2.2.1+1)∧IntKind.wrap .i64 (x.2.2.1+1)≤len s;rw[e];omega
  ·show len (bif decide (nth p.2.1 (wJ5 s x.2.2.1) (0:Int)<0) then x.1 else (x.1++_))≤IntKind.wrap .i64 (x.2.2.1+1);rw[e];cases decide (nth p.2.1 (wJ5 s x.2.2.1) (0:Int)<0) with
   |true=>simp only[cond_true];omega
   |false=>simp only[cond_false,wV,wY7];omega
  ·show ∀ q∈(bif decide (nth p.2.1 (wJ5 s x.2.2.1) (0:Int)<0) then x.1 else (x.1++[(nth p.2.1 (wJ5 s x.2.2.1) (0:Int),_,())])),InB q.1 95;cases hd:decide (nth p.2.1 (wJ5 s x.2.2.1) (0:Int)<0) with
   |true=>exact h5
   |false =>
    have hd:=of_decide_eq_false hd;exact vQ7 h5 ⟨(show 0≤nth p.2.1 (wJ5 s x.2.2.1) (0:Int) by omega),hv.2⟩
  ·show (len s-IntKind.wrap .i64 (x.2.2.1+1)).toNat<(len s-x.2.2.1).toNat;rw[e];omega
theorem rJ2 {p:D225}(hp:sO0 p)(s:List UInt8)(hs:len s≤1000000):uC8 p s∧len (f144 p s).1≤len s∧∀ q∈(f144 p s).1,InB q.1 95:=by
 have h:=pW3 hp s hs;exact⟨h.1,Int.le_trans h.2.2.1 h.2.1.2,h.2.2.2⟩
theorem qL9 {p:D225}(hp:sO0 p)(s:List UInt8)(w:Int)(hs:len s≤1000000):tC3 p s w:=⟨(rJ2 hp s hs).1,wM1 _ _⟩
theorem qB7:∀ {X:List (List UInt8)}{w:List UInt8},w∈X→w.length+1≤tot X
 |x::r,w,h=>by
  simp only[tot];rcases List.mem_cons.1 h with h|h
  ·rw[h];omega
  ·have:=qB7 h;omega
theorem sX6 (c:UInt8){s:List UInt8}{n:Int}(h:len s≤n):len (wL4 c s)≤n+1∧∀ w∈wL4 c s,len w≤n:=by
 have h1:=sI9 (wL4 c s);rw[sC] at h1;have hl:len s=(s.length:Int):=rfl;have hl2:len (wL4 c s)=((wL4 c s).length:Int):=rfl;refine⟨by omega,fun w hw=>?_⟩;have h2:=qB7 hw;rw[sC] at h2;have hl3:len w=(w.length:Int):=rfl;omega
def Lns (n:Int)(l:List (List UInt8)):Prop:=len l≤n∧∀ q∈l,len q≤100000
def pU3 (l:List (List UInt8))(n:Int)(x:wV2):Prop:=(0≤x.2.2.1∧x.2.2.1≤len l)∧Lns (n+x.2.2.1) x.1∧len x.2.1≤200*(x.2.2.1+1)
theorem lin7 {p:D225}(hp:sO0 p)(a b n:Int)(l A:List (List UInt8))(w:List UInt8)(hl:len l≤129)(hq:∀ q∈l,len q≤128)(hn:n≤1000000000)(hA:Lns n A)(hw:len w≤128) :
  xB7 (vC0 (p,a,b,l,len l,())) (wQ6 (p,a,b,l,len l,())) (vC (p,a,b,l,len l,())) (A,w,0,()) ∧
  pU3 l n (zB9 (vC0 (p,a,b,l,len l,())) (wQ6 (p,a,b,l,len l,())) (A,w,0,())):=by
 have wh:=whole (g:=vC0 (p,a,b,l,len l,())) (next:=wQ6 (p,a,b,l,len l,())) (ok:=vC (p,a,b,l,len l,())) (pU3 l n) (fun x=>(len l-x.2.2.1).toNat) (fun x hx=>fun h3=>?_) (fun x hx hg=>?_) (x:=(A,w,0,())) ⟨⟨Int.le_refl 0,wF l⟩,by simpa[Lns] using hA,(show len w≤200*(0+1) by omega)⟩ (by unfold zH7;simp only;omega)
 ·exact⟨wh.1,wh.2.1⟩
 ·have h4:x.2.2.1<len l:=of_decide_eq_true h3;obtain⟨⟨h0,h1⟩,h2,h5⟩:=hx;have hm:=hq _ (wM (d:=([]:List UInt8)) ⟨h0,h4⟩);have e1:len x.2.1=(x.2.1.length:Int):=rfl;have e2:len x.1=(x.1.length:Int):=rfl;have e3:len (nth l x.2.2.1 ([]:List UInt8))=((nth l x.2.2.1 ([]:List UInt8)).length:Int):=rfl;have h21:=h2.1;refine⟨⟨h0,h4⟩,(show ((x.2.1.length+1:Nat):Int)≤9223372036854775807 by omega),?_,fun _=>qL9 hp _ _ ?_,fun _=>(show ((x.1.length+1:Nat):Int)≤4294967296 by omega),wL (by omega) (by omega)⟩
  ·show (((x.2.1++[32]).length+(nth l x.2.2.1 ([]:List UInt8)).length:Nat):Int)≤9223372036854775807;rw[List.length_append];simp only[List.length_cons,List.length_nil];omega
  ·show len ((x.2.1++[32])++nth l x.2.2.1 ([]:List UInt8))≤1000000;rw[wV,wV,wY7];omega
 ·have h4:x.2.2.1<len l:=of_decide_eq_true hg;obtain⟨⟨h0,h1⟩,h2,h5⟩:=hx;have hm:=hq _ (wM (d:=([]:List UInt8)) ⟨h0,h4⟩);refine⟨⟨(show 0≤x.2.2.1+1∧x.2.2.1+1≤len l by omega),?_,?_⟩,(show (len l-(x.2.2.1+1)).toNat<(len l-x.2.2.1).toNat by omega)⟩
  ·show Lns (n+(x.2.2.1+1)) (bif _ then x.1 else (x.1++[x.2.1]));generalize (bif (b==0) then true else _)=c;cases c with
   |true=>exact⟨(show len x.1≤_ by have:=h2.1;omega),h2.2⟩
   |false=>exact⟨by rw[cond_false,wV,wY7];have:=h2.1;omega,vQ7 h2.2 (by omega)⟩
  ·show len (bif _ then ((x.2.1++[32])++nth l x.2.2.1 ([]:List UInt8)) else nth l x.2.2.1 ([]:List UInt8))≤200*(x.2.2.1+1+1);generalize (bif (b==0) then true else _)=c;cases c with
   |true=>rw[cond_true,wV,wV,wY7];omega
   |false=>rw[cond_false];omega
theorem qB8 {p:D225}(hp:sO0 p)(a b n:Int)(A:List (List UInt8))(x:List UInt8)(hx:len x≤128)(hn:n≤1000000000)(hA:Lns n A) :
  vH5 p a b A x∧Lns (n+130) (wS7 p a b A x):=by
 have e:f162 x [32]=wL4 32 x:=pJ4 32 x (by omega);have ho:uC7 x [32]:=qL5 32 x (by omega);obtain⟨hs1,hs2⟩:=sX6 32 hx;have hne:=sP0 32 x;have h1:(1:Int)≤len (wL4 32 x):=by
  cases hc:wL4 32 x with
  |nil=>exact absurd hc hne
  |cons y r=>simp only[len,List.length_cons];omega
 have hd:len (List.drop (Int.toNat (1:Int)) (wL4 32 x))≤129:=by
  simp only[len,List.length_drop] at hs1 ⊢;omega
 have h7:=lin7 hp a b n (List.drop (Int.toNat (1:Int)) (wL4 32 x)) A (nth (wL4 32 x) 0 ([]:List UInt8)) hd (fun q hq=>hs2 q (List.mem_of_mem_drop hq)) hn hA (hs2 _ (wM ⟨Int.le_refl 0,by omega⟩));simp only[vH5,wS7,tC4,rG4,e,vX6,vX7];generalize zB9 (vC0 (p,a,b,List.drop (Int.toNat (1:Int)) (wL4 32 x),len (List.drop (Int.toNat (1:Int)) (wL4 32 x)),())) (wQ6 (p,a,b,List.drop (Int.toNat (1:Int)) (wL4 32 x),len (List.drop (Int.toNat (1:Int)) (wL4 32 x)),())) (A,nth (wL4 32 x) 0 ([]:List UInt8),0,())=z at h7 ⊢;obtain⟨hE,⟨h0,h2⟩,h3,h4⟩:=h7;have e2:len z.1=(z.1.length:Int):=rfl;have h31:=h3.1;refine⟨⟨ho,⟨by omega,by omega⟩,⟨by omega,h1⟩,hE,(show ((z.1.length+1:Nat):Int)≤4294967296 by omega)⟩,⟨?_,vQ7 h3.2 (by omega)⟩⟩;rw[wV,wY7];omega
theorem sJ {p:D225}(hp:sO0 p)(a b:Int):∀ (xs:List (List UInt8)) (n:Int) (A:List (List UInt8)),(∀ x∈xs,len x≤128)→n+130*len xs≤1000000000→Lns n A →
  xV4 (vH5 p a b) (wS7 p a b) xs A∧Lns (n+130*len xs) (xs.foldl (wS7 p a b) A)
 |[],n,A,_,_,hA=>⟨trivial,by simpa[len] using hA⟩
 |x::r,n,A,hx,hn,hA=>by
  have e:len (x::r)=len r+1:=by simp[len]
  have hr:=wF r;have h1:=qB8 hp a b n A x (hx x (List.mem_cons_self ..)) (by omega) hA;have h2:=sJ hp a b r (n+130) (wS7 p a b A x) (fun y hy=>hx y (List.mem_cons_of_mem _ hy)) (by omega) h1.2;refine⟨⟨h1.1,h2.1⟩,?_⟩;rw[show n+130*len (x::r)=n+130+130*len r by omega];exact h2.2
theorem qM {p:D225}(hp:sO0 p)(s:List UInt8)(a b:Int)(hs:len s≤128):vX8 p s a b∧Lns 20000 (f143 p s a b):=by
 obtain⟨h1,h2⟩:=sX6 10 hs;have h:=sJ hp a b (wL4 10 s) 0 [] h2 (by omega) ⟨Int.le_refl 0,fun q hq=>by cases hq⟩;have hl:len s=(s.length:Int):=rfl;exact⟨⟨by omega,h.1⟩,⟨by have:=h.2.1;show len (f143 p s a b)≤20000;unfold f143;omega,h.2.2⟩⟩
end Go.Proofs.YtofmmkikplmlpaaGreatDoor.Am
namespace Go.Proofs.YtofmmkikplmlpaaGreatDoor.Am
open Go Go.Am
theorem tG7 {n m:Int}(h:0≤n):Few n m []:=⟨h,fun q hq=>by cases hq⟩
theorem pJ5 {n m:Int}{l:List (List D140)}{q:List D140}(h:Few n m l)(hq:len q≤m):Few (n+1) m (l++[q]):=
 ⟨by rw[wV,wY7];have:=h.1;omega,vQ7 h.2 hq⟩
theorem tC1 {x n:Int}(h0:0≤x)(h:x<n)(hn:n≤4611686018427387904):IntKind.wrap .i64 (x+1)=x+1:=wP9 (wL (by omega) (by omega))
theorem rF6 {i:Int}(h:InB i 95):len (nth std.2.2.2.1 i Z204).2.2.1<9223372036854775808∧Few 64 64 (f120 (nth std.2.2.2.1 i Z204).2.2.1).1∧∀ q∈(f120 (nth std.2.2.2.1 i Z204).2.2.1).1,1≤len q:=by
 have hm:nth std.2.2.2.1 i Z204∈std.2.2.2.1:=wM (by rw[sO1];exact h);have hp:=List.all_eq_true.1 qA7 _ hm;have hs:=List.all_eq_true.1 qJ _ hm;simp only[qR,Bool.and_eq_true,decide_eq_true_eq,List.all_eq_true] at hp hs;refine⟨by unfold len;omega,⟨by unfold len;omega,fun q hq=>?_⟩,fun q hq=>?_⟩
 ·have:=hp.2 q hq;unfold len;omega
 ·have:=hp.2 q hq;unfold len;omega
theorem pU4 (y:vL0)(a:List D140)(hy1:y.2.2.2.2.2.2.2.2.2.2.2.2.2.2.2.2.1=a)(hy2:y.2.2.2.2.2.2.2.2.2.2.2.2.2.2.2.2.2.1=len a)(ha:len a≤64) :
  xB7 (vL1 y) (wW3 y) (vD2 y) (List.replicate (Int.toNat (len a)) Z140,0,()) ∧
  len (zB9 (vL1 y) (wW3 y) (List.replicate (Int.toNat (len a)) Z140,0,())).1=len a:=by
 have h0a:=wF a;have w:=whole (g:=vL1 y) (next:=wW3 y) (ok:=vD2 y) (fun x=>(0≤x.2.1∧x.2.1≤len a)∧len x.1=len a) (fun x=>(len a-x.2.1).toNat) (fun x hx=>fun h3=>?_) (fun x hx hg=>?_) (x:=(List.replicate (Int.toNat (len a)) Z140,0,())) ⟨⟨Int.le_refl 0,h0a⟩,by simp only[len,List.length_replicate];omega⟩ (by unfold zH7;simp only;omega)
 ·exact⟨w.1,w.2.1.2⟩
 ·have h4:x.2.1<y.2.2.2.2.2.2.2.2.2.2.2.2.2.2.2.2.2.1:=of_decide_eq_true h3;rw[hy2] at h4;obtain⟨⟨h0,h1⟩,h2⟩:=hx;exact⟨(by rw[hy1];exact⟨h0,h4⟩),wM1 _ _,wM1 _ _,(by rw[h2];exact⟨h0,h4⟩),(by rw[h2];exact h4)⟩
 ·have h4:x.2.1<y.2.2.2.2.2.2.2.2.2.2.2.2.2.2.2.2.2.1:=of_decide_eq_true hg;rw[hy2] at h4;obtain⟨⟨h0,h1⟩,h2⟩:=hx;have e:=tC1 h0 h4 (by omega);refine⟨⟨?_,?_⟩,?_⟩
  ·show 0≤IntKind.wrap .i64 (x.2.1+1)∧IntKind.wrap .i64 (x.2.1+1)≤len a;rw[e];omega
  ·show len (List.set x.1 _ _)=len a;rw[wU9];exact h2
  ·show (len a-IntKind.wrap .i64 (x.2.1+1)).toNat<(len a-x.2.1).toNat;rw[e];omega
def Pts (l:List (List D140))(n:Int):Prop:=(0≤n∧n≤4096)∧Few n 64 l
theorem pW4 (y:wO)(a A:List (List D140))(n:Int)(hy1:y.2.2.2.2.2.2.2.2.2.2.2.1=a)(hy2:y.2.2.2.2.2.2.2.2.2.2.2.2.1=len a)(ha:Few 64 64 a)(h1:∀ q∈a,1≤len q)(hA:Pts A n) :
  xB7 (wM6 y) (wL2 y) (wT7 y) (A,n,0,()) ∧
  Pts (zB9 (wM6 y) (wL2 y) (A,n,0,())).1 (zB9 (wM6 y) (wL2 y) (A,n,0,())).2.1:=by
 have h0a:=wF a;have ha1:=ha.1;obtain⟨y0,y1,y2,y3,y4,y5,y6,y7,y8,y9,y10,y11,y12,⟨⟩⟩:=y;simp only at hy1 hy2;subst hy1 hy2;have w:=whole (g:=wM6 (y0,y1,y2,y3,y4,y5,y6,y7,y8,y9,y10,y11,len y11,())) (next:=wL2 (y0,y1,y2,y3,y4,y5,y6,y7,y8,y9,y10,y11,len y11,())) (ok:=wT7 (y0,y1,y2,y3,y4,y5,y6,y7,y8,y9,y10,y11,len y11,())) (fun x=>(0≤x.2.2.1∧x.2.2.1≤len y11)∧Pts x.1 x.2.1) (fun x=>(len y11-x.2.2.1).toNat) (fun x hx=>fun h3=>?_) (fun x hx hg=>?_) (x:=(A,n,0,())) ⟨⟨Int.le_refl 0,h0a⟩,hA⟩ (by unfold zH7;simp only;omega)
 ·exact⟨w.1,w.2.1.2⟩
 ·have h4:x.2.2.1<len y11:=of_decide_eq_true h3;obtain⟨⟨h0,h5⟩,hp,hf⟩:=hx;have hm:=wM (d:=([]:List D140)) (show InB x.2.2.1 (len y11) from ⟨h0,h4⟩);have hq:=ha.2 _ hm;have hq0:=wF (nth y11 x.2.2.1 ([]:List D140));have e2:len x.1=(x.1.length:Int):=rfl;have hf1:=hf.1;exact⟨⟨h0,h4⟩,fun _=>⟨⟨hq0,Int.le_refl _,(show len (nth y11 x.2.2.1 ([]:List D140))≤4294967296 by omega)⟩,(pU4 _ _ rfl rfl hq).1,(show ((x.1.length+1:Nat):Int)≤4294967296 by omega)⟩⟩
 ·simp only[wM6,vN9,Bool.and_eq_true,decide_eq_true_eq,Bool.not_eq_true',decide_eq_false_iff_not] at hg;obtain⟨h4,hk⟩:=hg;obtain⟨⟨h0,h5⟩,hp,hf⟩:=hx;have hm:=wM (d:=([]:List D140)) (show InB x.2.2.1 (len y11) from ⟨h0,h4⟩);have hq:=ha.2 _ hm;have hq1:=h1 _ hm;have e:=tC1 h0 h4 (by omega);have e2:IntKind.wrap .i64 (x.2.1+len (nth y11 x.2.2.1 ([]:List D140)))=x.2.1+len (nth y11 x.2.2.1 ([]:List D140)):=wP9 (wL (by omega) (by omega));rw[e2] at hk;refine⟨⟨?_,?_,?_⟩,?_⟩
  ·show 0≤IntKind.wrap .i64 (x.2.2.1+1)∧IntKind.wrap .i64 (x.2.2.1+1)≤len y11;rw[e];omega
  ·show 0≤IntKind.wrap .i64 (x.2.1+len (nth y11 x.2.2.1 ([]:List D140)))∧IntKind.wrap .i64 (x.2.1+len (nth y11 x.2.2.1 ([]:List D140)))≤4096;rw[e2];omega
  ·show Few (IntKind.wrap .i64 (x.2.1+len (nth y11 x.2.2.1 ([]:List D140)))) 64 (x.1++[_]);rw[e2];refine wN2 (pJ5 hf ?_) (by omega:x.2.1+1≤_);have:=(pU4 (y0,y1,y2,x.1,(IntKind.wrap .i64 (x.2.1+len (nth y11 x.2.2.1 ([]:List D140)))),y3,y4,y5,y6,y7,y8,y9,y10,y11,len y11,x.2.2.1,nth y11 x.2.2.1 ([]:List D140),len (nth y11 x.2.2.1 ([]:List D140)),()) _ rfl rfl hq).2;exact Int.le_trans (Int.le_of_eq this) hq
  ·show (len y11-IntKind.wrap .i64 (x.2.2.1+1)).toNat<(len y11-x.2.2.1).toNat;rw[e];omega
def pJ6 (s:D175):Prop:=len s.2.2.2.1=95∧∀ i,InB i 95→len (nth s.2.2.2.1 i Z204).2.2.1<9223372036854775808∧Few 64 64 (f120 (nth s.2.2.2.1 i Z204).2.2.1).1∧∀ q∈(f120 (nth s.2.2.2.1 i Z204).2.2.1).1,1≤len q
theorem pJ7:pJ6 std:=⟨sO1,fun _ h=>rF6 h⟩
def in18 (y:wM7)(x:wM8):wO:=(y.1,y.2.1,y.2.2.1,y.2.2.2.1,nth y.2.2.2.2.2.2.2.1 x.2.2.1 Z140,y.2.2.2.2.1,y.2.2.2.2.2.1,y.2.2.2.2.2.2.1,y.2.2.2.2.2.2.2.1,y.2.2.2.2.2.2.2.2.1,x.2.2.1,(f120 (nth y.2.1.2.2.2.1 (nth y.2.2.2.2.2.2.2.1 x.2.2.1 Z140).1 Z204).2.2.1).1,len (f120 (nth y.2.1.2.2.2.1 (nth y.2.2.2.2.2.2.2.1 x.2.2.1 Z140).1 Z204).2.2.1).1,())
theorem pU5 (y:wM7)(x:wM8):wL1 y x=((zB9 (wM6 (in18 y x)) (wL2 (in18 y x)) (x.1,x.2.1,(0:Int),())).1,(zB9 (wM6 (in18 y x)) (wL2 (in18 y x)) (x.1,x.2.1,(0:Int),())).2.1,IntKind.wrap .i64 (x.2.2.1+1),()):=rfl
theorem ok12 (y:wM7)(x:wM8):wQ9 y x=(decide (x.2.2.1<y.2.2.2.2.2.2.2.2.1)=true→(InB x.2.2.1 (len y.2.2.2.2.2.2.2.1)∧(InB (nth y.2.2.2.2.2.2.2.1 x.2.2.1 Z140).1 (len y.2.1.2.2.2.1)∧((uE3 (nth y.2.1.2.2.2.1 (nth y.2.2.2.2.2.2.2.1 x.2.2.1 Z140).1 Z204).2.2.1)∧((!((f120 (nth y.2.1.2.2.2.1 (nth y.2.2.2.2.2.2.2.1 x.2.2.1 Z140).1 Z204).2.2.1).2.1 !=0))=true→(xB7 (wM6 (in18 y x)) (wL2 (in18 y x)) (wT7 (in18 y x)) (x.1,x.2.1,(0:Int),()))))))):=rfl
theorem pW5 (y:wM7)(a:List D140)(A:List (List D140))(n:Int){s:D175}(hG:pJ6 s)(hs:y.2.1=s)(hy1:y.2.2.2.2.2.2.2.1=a)(hy2:y.2.2.2.2.2.2.2.2.1=len a)(ha:len a≤1000000)(hi:∀ q∈a,InB q.1 95)(hA:Pts A n) :
  xB7 (wN3 y) (wL1 y) (wQ9 y) (A,n,0,()) ∧
  Pts (zB9 (wN3 y) (wL1 y) (A,n,0,())).1 (zB9 (wN3 y) (wL1 y) (A,n,0,())).2.1:=by
 have h0a:=wF a;obtain⟨y0,y1,y2,y3,y4,y5,y6,y7,y8,⟨⟩⟩:=y;simp only at hy1 hy2 hs;subst hy1 hy2;cases hs;have key:∀ (x:wM8),((0≤x.2.2.1∧x.2.2.1≤len y7)∧Pts x.1 x.2.1)→x.2.2.1<len y7→InB (nth y7 x.2.2.1 Z140).1 95∧uE3 (nth s.2.2.2.1 (nth y7 x.2.2.1 Z140).1 Z204).2.2.1∧(∀ u:List D140,True) ∧
   ∀ y:wO,y.2.2.2.2.2.2.2.2.2.2.2.1=(f120 (nth s.2.2.2.1 (nth y7 x.2.2.1 Z140).1 Z204).2.2.1).1→y.2.2.2.2.2.2.2.2.2.2.2.2.1=len (f120 (nth s.2.2.2.1 (nth y7 x.2.2.1 Z140).1 Z204).2.2.1).1 →
    xB7 (wM6 y) (wL2 y) (wT7 y) (x.1,x.2.1,0,())∧Pts (zB9 (wM6 y) (wL2 y) (x.1,x.2.1,0,())).1 (zB9 (wM6 y) (wL2 y) (x.1,x.2.1,0,())).2.1:=fun x hx h4=>by
  have hb:=hi _ (wM (d:=Z140) (show InB x.2.2.1 (len y7) from ⟨hx.1.1,h4⟩));obtain⟨g1,g2,g3⟩:=hG.2 _ hb;exact⟨hb,(rI6 _ g1).1,fun _=>trivial,fun y e1 e2=>pW4 y _ x.1 x.2.1 e1 e2 g2 g3 hx.2⟩
 have w:=whole (g:=wN3 (y0,s,y2,y3,y4,y5,y6,y7,len y7,())) (next:=wL1 (y0,s,y2,y3,y4,y5,y6,y7,len y7,())) (ok:=wQ9 (y0,s,y2,y3,y4,y5,y6,y7,len y7,())) (fun x=>(0≤x.2.2.1∧x.2.2.1≤len y7)∧Pts x.1 x.2.1) (fun x=>(len y7-x.2.2.1).toNat) (fun x hx=>?_) (fun x hx hg=>?_) (x:=(A,n,0,())) ⟨⟨Int.le_refl 0,h0a⟩,hA⟩ (by unfold zH7;simp only;omega)
 ·exact⟨w.1,w.2.1.2⟩
 ·rw[ok12];intro h3;have h4:x.2.2.1<len y7:=of_decide_eq_true h3;obtain⟨k1,k2,_,k3⟩:=key x hx h4;exact⟨⟨hx.1.1,h4⟩,(show InB _ (len s.2.2.2.1) by rw[hG.1];exact k1),k2,fun _=>(k3 _ rfl rfl).1⟩
 ·have h4:x.2.2.1<len y7:=wL6 hg;obtain⟨k1,k2,_,k3⟩:=key x hx h4;have e:=tC1 hx.1.1 h4 (by omega);rw[pU5,e];refine⟨⟨?_,?_⟩,?_⟩
  ·have:=hx.1;exact (show 0≤x.2.2.1+1∧x.2.2.1+1≤len y7 by omega)
  ·exact (k3 _ rfl rfl).2
  ·have:=hx.1;exact (show (len y7-(x.2.2.1+1)).toNat<(len y7-x.2.2.1).toNat by omega)
def in12 (y:wR9)(x:wO4):wM7:=(y.1,y.2.1,y.2.2.1,x.2.2.1,y.2.2.2.1,y.2.2.2.2.1,x.2.2.1,(f144 y.2.2.1 (nth y.2.2.2.1 x.2.2.1 ([]:List UInt8))).1,len (f144 y.2.2.1 (nth y.2.2.2.1 x.2.2.1 ([]:List UInt8))).1,())
theorem pW6 (y:wR9)(x:wO4):wQ4 y x=((zB9 (wN3 (in12 y x)) (wL1 (in12 y x)) (x.1,x.2.1,(0:Int),())).1,(zB9 (wN3 (in12 y x)) (wL1 (in12 y x)) (x.1,x.2.1,(0:Int),())).2.1,IntKind.wrap .i64 (x.2.2.1+1),()):=rfl
theorem ok8 (y:wR9)(x:wO4):vD3 y x=(decide (x.2.2.1<y.2.2.2.2.1)=true→(InB x.2.2.1 (len y.2.2.2.1)∧(uC8 y.2.2.1 (nth y.2.2.2.1 x.2.2.1 ([]:List UInt8))∧(xB7 (wN3 (in12 y x)) (wL1 (in12 y x)) (wQ9 (in12 y x)) (x.1,x.2.1,(0:Int),()))))):=rfl
theorem out8 {s:D175}(hG:pJ6 s){p:D225}(hp:sO0 p)(k:Int)(l:List (List UInt8))(hl:Lns 20000 l) :
  xB7 (vO (k,s,p,l,len l,())) (wQ4 (k,s,p,l,len l,())) (vD3 (k,s,p,l,len l,())) ([],0,0,()) ∧
  Pts (zB9 (vO (k,s,p,l,len l,())) (wQ4 (k,s,p,l,len l,())) ([],0,0,())).1 (zB9 (vO (k,s,p,l,len l,())) (wQ4 (k,s,p,l,len l,())) ([],0,0,())).2.1:=by
 have hl1:=hl.1;have key:∀ (x:wO4),((0≤x.2.2.1∧x.2.2.1≤len l)∧Pts x.1 x.2.1)→x.2.2.1<len l→uC8 p (nth l x.2.2.1 ([]:List UInt8)) ∧
   ∀ y:wM7,y.2.1=s→y.2.2.2.2.2.2.2.1=(f144 p (nth l x.2.2.1 ([]:List UInt8))).1→y.2.2.2.2.2.2.2.2.1=len (f144 p (nth l x.2.2.1 ([]:List UInt8))).1 →
    xB7 (wN3 y) (wL1 y) (wQ9 y) (x.1,x.2.1,0,())∧Pts (zB9 (wN3 y) (wL1 y) (x.1,x.2.1,0,())).1 (zB9 (wN3 y) (wL1 y) (x.1,x.2.1,0,())).2.1:=fun x hx h4=>by
  have hm:=hl.2 _ (wM (d:=([]:List UInt8)) (show InB x.2.2.1 (len l) from ⟨hx.1.1,h4⟩));obtain⟨g1,g2,g3⟩:=rJ2 hp (nth l x.2.2.1 ([]:List UInt8)) (by omega);exact⟨g1,fun y e0 e1 e2=>pW5 y _ x.1 x.2.1 hG e0 e1 e2 (by omega) g3 hx.2⟩
 have w:=whole (g:=vO (k,s,p,l,len l,())) (next:=wQ4 (k,s,p,l,len l,())) (ok:=vD3 (k,s,p,l,len l,())) (fun x=>(0≤x.2.2.1∧x.2.2.1≤len l)∧Pts x.1 x.2.1) (fun x=>(len l-x.2.2.1).toNat) (fun x hx=>?_) (fun x hx hg=>?_) (x:=([],0,0,())) ⟨⟨Int.le_refl 0,wF l⟩,⟨by decide,by decide⟩,tG7 (by decide)⟩ (by unfold zH7;simp only;omega)
 ·exact⟨w.1,w.2.1.2⟩
 ·rw[ok8];intro h3;have h4:x.2.2.1<len l:=of_decide_eq_true h3;obtain⟨k1,k2⟩:=key x hx h4;exact⟨⟨hx.1.1,h4⟩,k1,(k2 _ rfl rfl rfl).1⟩
 ·have h4:x.2.2.1<len l:=wL6 hg;obtain⟨k1,k2⟩:=key x hx h4;have e:=tC1 hx.1.1 h4 (by omega);rw[pW6,e];refine⟨⟨?_,?_⟩,?_⟩
  ·have:=hx.1;exact (show 0≤x.2.2.1+1∧x.2.2.1+1≤len l by omega)
  ·exact (k2 _ rfl rfl rfl).2
  ·have:=hx.1;exact (show (len l-(x.2.2.1+1)).toNat<(len l-x.2.2.1).toNat by omega)
theorem qM0 (s:List UInt8)(a b:Int)(hs:len s<9223372036854775808):tE std s a b∧Few 4096 64 (f124 std s a b).1:=by
 have h1:=qL6 s a b hs;have h8:f141 std s a b=0→vX8 (f142 std) s a b∧_:=fun h0=>by
  have h3:=qM qB5 s a b (qB4 h0);exact And.intro h3.1 (out8 pJ7 qB5 a (f143 (f142 std) s a b) h3.2)
 have hz:(!(f141 std s a b !=0))=true→f141 std s a b=0:=fun h=>by simpa using h
 refine⟨⟨h1,fun h0=>⟨qI8,(h8 (hz h0)).1,(h8 (hz h0)).2.1⟩⟩,?_⟩;simp only[f124,qG3,uG2];cases hc:(f141 std s a b !=0) with
 |true=>exact tG7 (by decide)
 |false =>
  have h9:=(h8 (hz (by rw[hc];rfl))).2.2;simp only[cond_false];cases tD9 _ _ with
  |false=>exact wN2 h9.2 h9.1.2
  |true =>
   simp only[cond_true,uG1,vZ6,vZ5];generalize ((f120 _).2.1 !=0)=c;cases c<;>exact tG7 (by decide)
end Go.Proofs.YtofmmkikplmlpaaGreatDoor.Am
namespace Go.Proofs.YtofmmkikplmlpaaGreatDoor.Am
open Go Go.Am
theorem rJ3 {l:List (List D140)}{k:Nat}{v:List D140}(h:k<l.length):(List.set l k v).getD k []=v:=by
 rw[List.getD_eq_getElem?_getD,List.getElem?_set_self h];rfl
theorem sC1 {α:Type}{P:α→Prop}{l:List α}{k:Nat}{v:α}(h:∀ q∈l,P q)(hv:P v):∀ q∈List.set l k v,P q:=fun q hq=>by
 rcases List.mem_or_eq_of_mem_set hq with h1|h1
 ·exact h q h1
 ·rw[h1];exact hv
def shiI (n:Int)(k:Nat)(m:Int)(x:wO0):Prop:=
 (0≤x.2.1∧x.2.1≤m)∧len x.1.1=n∧x.1.2=k∧len (List.getD x.1.1 x.1.2 [])=m∧∀ q∈x.1.1,len q≤64
theorem pW7 (y:wP7)(n:Int)(v:List D140)(A:List (List D140))(k:Nat)(hk:(k:Int)<n)(hy0:y.2.1=(k:Int))(hy1:y.2.2.2.2.2.1=v)(hy2:y.2.2.2.2.2.2.1=len v)(hv:len v≤64)(hA:len A=n)(hq:∀ q∈A,len q≤64) :
  xB7 (wO1 y) (wL7 y) (wT8 y) ((List.set A k (List.replicate (Int.toNat (len v)) Z140),k),0,()) ∧
  shiI n k (len v) (zB9 (wO1 y) (wL7 y) ((List.set A k (List.replicate (Int.toNat (len v)) Z140),k),0,())):=by
 have h0v:=wF v;have hlr:len (List.replicate (Int.toNat (len v)) Z140)=len v:=by simp only[len,List.length_replicate];omega
 have hkA:k<A.length:=by simp only[len] at hA;omega
 obtain⟨y0,y1,y2,y3,y4,y5,y6,⟨⟩⟩:=y;simp only at hy0 hy1 hy2;subst hy0 hy1 hy2;have w:=whole (g:=wO1 (y0,(k:Int),y2,y3,y4,y5,len y5,())) (next:=wL7 (y0,(k:Int),y2,y3,y4,y5,len y5,())) (ok:=wT8 (y0,(k:Int),y2,y3,y4,y5,len y5,())) (shiI n k (len y5)) (fun x=>(len y5-x.2.1).toNat) (fun x hx=>fun h3=>?_) (fun x hx hg=>?_) (x:=((List.set A k (List.replicate (Int.toNat (len y5)) Z140),k),0,()))
  ⟨⟨Int.le_refl 0,h0v⟩,by rw[wU9];exact hA,rfl,by simp only[rJ3 hkA];exact hlr,sC1 hq (by rw[hlr];exact hv)⟩ (by unfold zH7;simp only;omega)
 ·exact⟨w.1,w.2.1⟩
 ·have h4:x.2.1<len y5:=of_decide_eq_true h3;obtain⟨⟨h0,h1⟩,h2,h5,h6,h7⟩:=hx;refine⟨⟨h0,h4⟩,tN3 _,fun _=>⟨rI4 _ _,tN3 _,fun _=>?_⟩,fun _=>wL (by omega) (by omega)⟩;have hk0:(0:Int)≤(k:Int):=by omega
  rw[h2,h6,h5];exact⟨⟨hk0,hk⟩,⟨(show Int.toNat (k:Int)=k by omega),hk⟩,⟨h0,h4⟩,h4⟩
 ·have h4:x.2.1<len y5:=wL6 hg;obtain⟨⟨h0,h1⟩,h2,h5,h6,h7⟩:=hx;have hkx:x.1.2<x.1.1.length:=by rw[h5];simp only[len] at h2;omega
  refine⟨⟨(show 0≤x.2.1+1∧x.2.1+1≤len y5 by omega),?_,h5,?_,?_⟩,(show (len y5-(x.2.1+1)).toNat<(len y5-x.2.1).toNat by omega)⟩
  ·show len (List.set x.1.1 _ _)=n;rw[wU9];exact h2
  ·show len (List.getD (List.set x.1.1 x.1.2 (List.set (List.getD x.1.1 x.1.2 []) _ _)) x.1.2 [])=len y5;rw[rJ3 hkx,wU9];exact h6
  ·exact sC1 h7 (by rw[wU9,h6];exact hv)
def in84 (y:wO2)(x:wM9):wP7:=(y.1,x.2.1,y.2.1,y.2.2.1,x.2.1,nth y.2.1 x.2.1 ([]:List D140),len (nth y.2.1 x.2.1 ([]:List D140)),())
def at84 (y:wO2)(x:wM9):wO0:=((List.set x.1 (Int.toNat x.2.1) (List.replicate (Int.toNat (len (nth y.2.1 x.2.1 ([]:List D140)))) Z140),Int.toNat x.2.1),(0:Int),())
theorem pU6 (y:wO2)(x:wM9):wP0 y x=((zB9 (wO1 (in84 y x)) (wL7 (in84 y x)) (at84 y x)).1.1,x.2.1+1,()):=rfl
theorem ok14 (y:wO2)(x:wM9):wY y x=(decide (x.2.1<y.2.2.1)=true→(InB x.2.1 (len y.2.1)∧((0≤len (nth y.2.1 x.2.1 ([]:List D140))∧len (nth y.2.1 x.2.1 ([]:List D140))≤len (nth y.2.1 x.2.1 ([]:List D140))∧len (nth y.2.1 x.2.1 ([]:List D140))≤4294967296)∧(InB x.2.1 (len x.1)∧(x.2.1<len x.1∧((xB7 (wO1 (in84 y x)) (wL7 (in84 y x)) (wT8 (in84 y x)) (at84 y x))∧(uQ6 (in84 y x) (zB9 (wO1 (in84 y x)) (wL7 (in84 y x)) (at84 y x))=true→InR (x.2.1+1)))))))):=rfl
theorem pW8 (p:D79)(l:List (List D140))(hl:Few 4096 64 l) :
  xB7 (vD4 (p,l,len l,())) (wP0 (p,l,len l,())) (wY (p,l,len l,())) (List.replicate (Int.toNat (len l)) ([]:List D140),0,()) ∧
  (len (zB9 (vD4 (p,l,len l,())) (wP0 (p,l,len l,())) (List.replicate (Int.toNat (len l)) ([]:List D140),0,())).1=len l∧∀ q∈(zB9 (vD4 (p,l,len l,())) (wP0 (p,l,len l,())) (List.replicate (Int.toNat (len l)) ([]:List D140),0,())).1,len q≤64):=by
 have h0l:=wF l;have hl1:=hl.1;have key:∀ x:wM9,((0≤x.2.1∧x.2.1≤len l)∧len x.1=len l∧∀ q∈x.1,len q≤64)→x.2.1<len l→len (nth l x.2.1 ([]:List D140))≤64 ∧
   (xB7 (wO1 (in84 (p,l,len l,()) x)) (wL7 (in84 (p,l,len l,()) x)) (wT8 (in84 (p,l,len l,()) x)) (at84 (p,l,len l,()) x)∧shiI (len l) (Int.toNat x.2.1) (len (nth l x.2.1 ([]:List D140))) (zB9 (wO1 (in84 (p,l,len l,()) x)) (wL7 (in84 (p,l,len l,()) x)) (at84 (p,l,len l,()) x))):=fun x hx h4=>by
  have hm:=hl.2 _ (wM (d:=([]:List D140)) (show InB x.2.1 (len l) from ⟨hx.1.1,h4⟩));have e:((Int.toNat x.2.1:Nat):Int)=x.2.1:=by have:=hx.1.1;omega
  exact⟨hm,pW7 (in84 (p,l,len l,()) x) (len l) (nth l x.2.1 ([]:List D140)) x.1 (Int.toNat x.2.1) (by omega) e.symm rfl rfl hm hx.2.1 hx.2.2⟩
 have w:=whole (g:=vD4 (p,l,len l,())) (next:=wP0 (p,l,len l,())) (ok:=wY (p,l,len l,())) (fun x=>(0≤x.2.1∧x.2.1≤len l)∧len x.1=len l∧∀ q∈x.1,len q≤64) (fun x=>(len l-x.2.1).toNat) (fun x hx=>?_) (fun x hx hg=>?_) (x:=(List.replicate (Int.toNat (len l)) ([]:List D140),0,())) ⟨⟨Int.le_refl 0,h0l⟩,by simp only[len,List.length_replicate];omega,fun q hq=>by rw[List.eq_of_mem_replicate hq];decide⟩ (by unfold zH7;simp only;omega)
 ·exact⟨w.1,w.2.1.2⟩
 ·rw[ok14];intro h3;have h4:x.2.1<len l:=of_decide_eq_true h3;obtain⟨k1,k2,k3⟩:=key x hx h4;have hn:=wF (nth l x.2.1 ([]:List D140));have h5:=hx.1.1;exact⟨⟨h5,h4⟩,⟨hn,Int.le_refl _,(show len (nth l x.2.1 ([]:List D140))≤4294967296 by omega)⟩,by rw[hx.2.1];exact⟨h5,h4⟩,by rw[hx.2.1];exact h4,k2,fun _=>wL (by omega) (by omega)⟩
 ·have h4:x.2.1<len l:=wL6 hg;obtain⟨k1,k2,k3⟩:=key x hx h4;have h5:=hx.1.1;rw[pU6];exact⟨⟨(show 0≤x.2.1+1∧x.2.1+1≤len l by omega),k3.2.1,k3.2.2.2.2⟩,(show (len l-(x.2.1+1)).toNat<(len l-x.2.1).toNat by omega)⟩
theorem shi6 (p:D79)(l:List (List D140))(hl:Few 4096 64 l):xB7 (uG9 (l,p,l,len l,())) (vG (l,p,l,len l,())) (vL2 (l,p,l,len l,())) (0,0,()):=by
 have h0l:=wF l;have hl1:=hl.1;have w:=whole (g:=uG9 (l,p,l,len l,())) (next:=vG (l,p,l,len l,())) (ok:=vL2 (l,p,l,len l,())) (fun x=>(0≤x.2.1∧x.2.1≤len l)∧0≤x.1∧x.1≤64*x.2.1) (fun x=>(len l-x.2.1).toNat) (fun x hx=>fun h3=>?_) (fun x hx hg=>?_) (x:=(0,0,())) ⟨⟨Int.le_refl 0,h0l⟩,by decide,by decide⟩ (by unfold zH7;simp only;omega)
 ·exact w.1
 ·have h4:x.2.1<len l:=of_decide_eq_true h3;have hm:=hl.2 _ (wM (d:=([]:List D140)) (show InB x.2.1 (len l) from ⟨hx.1.1,h4⟩));have hn:=wF (nth l x.2.1 ([]:List D140));exact⟨⟨hx.1.1,h4⟩,wL (by show _≤x.1+len (nth l x.2.1 ([]:List D140));omega) (by show x.1+len (nth l x.2.1 ([]:List D140))≤_;omega),fun _=>wL (by omega) (by omega)⟩
 ·have h4:x.2.1<len l:=wL6 hg;have hm:=hl.2 _ (wM (d:=([]:List D140)) (show InB x.2.1 (len l) from ⟨hx.1.1,h4⟩));have hn:=wF (nth l x.2.1 ([]:List D140));exact⟨⟨(show 0≤x.2.1+1∧x.2.1+1≤len l by omega),(show 0≤x.1+len (nth l x.2.1 ([]:List D140))∧x.1+len (nth l x.2.1 ([]:List D140))≤64*(x.2.1+1) by omega)⟩,(show (len l-(x.2.1+1)).toNat<(len l-x.2.1).toNat by omega)⟩
theorem qM1 (l:List (List D140))(p:D79)(hl:Few 4096 64 l):tE2 l p∧Few 4096 64 (f126 l p).1:=by
 have h14:=pW8 p l hl;have h0l:=wF l;have hl1:=hl.1;refine⟨⟨tG5 _,fun _=>⟨shi6 p l hl,fun _=>⟨⟨h0l,Int.le_refl _,(show len l≤4294967296 by omega)⟩,h14.1⟩⟩⟩,?_⟩;simp only[f126,qG4,uH,vZ8,vZ9,vZ7];generalize (f76 p !=0)=c1;generalize tE1 _ _=c2;generalize uQ7 _ _=c3;cases c1 with
 |true=>exact tG7 (by decide)
 |false =>
  cases c2 with
  |true=>exact tG7 (by decide)
  |false =>
   cases c3 with
   |true=>exact tG7 (by decide)
   |false=>exact⟨Int.le_trans (Int.le_of_eq h14.2.1) hl1,h14.2.2⟩
theorem qM2 (p:D91)(h:len p.2.2.2.2.2.2.2.2.2.2.2.2.2.2.2.2.2.2.2.2.2.2.2.1<9223372036854775808):tE3 p:=by
 simp only[tE3,qG5,qI5];have h82:=qM0 p.2.2.2.2.2.2.2.2.2.2.2.2.2.2.2.2.2.2.2.2.2.2.2.1 p.2.2.2.2.2.2.2.2.2.2.2.2.2.2.2.2.2.2.2.2.2.2.2.2.1 p.2.2.2.2.2.2.2.2.2.2.2.2.2.2.2.2.2.2.2.2.2.2.2.2.2.1 h;have h84:=qM1 (f124 std p.2.2.2.2.2.2.2.2.2.2.2.2.2.2.2.2.2.2.2.2.2.2.2.1 p.2.2.2.2.2.2.2.2.2.2.2.2.2.2.2.2.2.2.2.2.2.2.2.2.1 p.2.2.2.2.2.2.2.2.2.2.2.2.2.2.2.2.2.2.2.2.2.2.2.2.2.1).1 p.2.2.2.2.2.2.2.2.2.2.1 h82.2;exact⟨qI6,h82.1,fun _=>⟨h84.1,fun _=>⟨sN7 _ _ (by have:=h84.2.1;omega) (fun q hq=>by have:=h84.2.2 q hq;omega),fun _=>sN5 _⟩⟩⟩
def tG8 (p:D91):Prop:=
 len p.2.2.2.1<9223372036854775808∧len p.2.2.2.2.2.2.2.2.2.1.2.2.1<9223372036854775808∧len p.2.2.2.2.2.2.2.2.2.2.2.2.1.2.2.1<9223372036854775808∧len p.2.2.2.2.2.2.2.2.2.2.2.2.2.2.2.1<9223372036854775808 ∧
 len p.2.2.2.2.2.2.2.2.2.2.2.2.2.2.2.2.2.1<9223372036854775808∧len p.2.2.2.2.2.2.2.2.2.2.2.2.2.2.2.2.2.2.1<9223372036854775808∧len p.2.2.2.2.2.2.2.2.2.2.2.2.2.2.2.2.2.2.2.2.2.2.2.1<9223372036854775808∧len p.2.2.2.2.2.2.2.2.2.2.2.2.2.2.2.2.2.2.2.2.2.2.2.2.2.2.2.1.2.2.2.1<9223372036854775808
theorem pJ8 (p:D91)(h:tG8 p):sQ6 p:=by
 obtain⟨h1,h2,h3,h4,h5,h6,h7,h8⟩:=h;exact⟨fun _=>qB1 _ h3,fun _=>⟨fun _=>sN5 _,fun _=>⟨fun _=>qJ8 _ _ _ _ h4 h5,fun _=>⟨fun _=>qL3 p h6,fun _=>⟨fun _=>qM2 p h7,fun _=>⟨fun _=>qK3 _ _ _ h4 h5,fun _=>⟨fun _=>qK4 _ _ h4,fun _ _ _=>qK5 _ h8⟩⟩⟩⟩⟩⟩⟩
theorem pJ9 (p:D91):sQ7 p:=trivial
theorem pK (p:D91):sQ8 p:=⟨qA8 _,qA9 _⟩
theorem pK0 (p:D91)(w h:Int)(hf:tG8 p):sQ9 p w h:=
 ⟨pJ2 p w h hf.1 hf.2.1,fun _=>⟨qA8 _,fun _=>⟨tG5 _,fun _=>pJ0 _⟩,fun _=>⟨qA9 _,fun _=>pI8 _,fun _=>⟨pJ8 p hf,fun _=>⟨pK _,pJ9 _⟩⟩⟩⟩⟩
end Go.Proofs.YtofmmkikplmlpaaGreatDoor.Am
