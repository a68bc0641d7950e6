/- node.Check answers for every node: the simple parts. Condition: lengths of Go slices. -/
import Derived.Test.YtpanghcojpnkaaaGreatDoorDocP3
import Derived.Test.YtpanghcojpnkaaaGreatDoorMach4
namespace Go.Proofs.YtpanghcojpnkaaaGreatDoor.Am
open Go Go.Am
theorem xZ1 {a n:Int}{b:Bool}(h:(decide (a<n)&&b)=true):a<n:=by
 simp only[jB,decide_eq_true_eq] at h;exact h.1
theorem xY3 {x:Int}(h1:-4611686018427387904≤x)(h2:x≤9223372036854775807):InR x:=by unfold InR;omega
theorem wE7 {x:Int}(h:InR x):IntKind.wrap .i64 x=x:=by unfold InR at h;rw[IntKind.wrap_i64];omega
theorem whole {X:Type}{g:X→Bool}{next:X→X}{ok:X→Prop}(inv:X→Prop)(m:X→Nat)(hok:∀ x,inv x→ok x)(hstep:∀ x,inv x→g x=true→inv (next x)∧m (next x)<m x){x:X}(hx:inv x)(hm:m x<zI1) :
  Am.Ends g next ok x∧inv (zC3 g next x)∧g (zC3 g next x)=false:=
 ⟨xQ1 inv m hok hstep hx hm,xQ0 inv m hstep hx hm⟩
theorem wA3 {α:Type}{l:List α}{i:Int}{d:α}(h:InB i (len l)):nth l i d∈l:=by
 obtain⟨h1,h2⟩:=h
 have h3:i.toNat<l.length:=by simp only[len] at h2;omega
 show l.getD i.toNat d∈l
 rw[jM,jL h3]
 exact List.getElem_mem h3
theorem wC0 {α:Type}(l:List α)(i:Nat)(x:α):len (List.set l i x)=len l:=by simp[len]
theorem wI7 {α:Type}(l m:List α):len (l++m)=len l+len m:=by simp[len]
theorem sZ {a b:Int}(ha:0≤a∧a≤256)(hb:0≤b∧b≤256):InR (a*b):=by
 have h1:0≤a*b:=Int.mul_nonneg ha.1 hb.1
 have h2:a*b≤256*256:=Int.mul_le_mul ha.2 hb.2 hb.1 (by omega)
 unfold InR;omega
theorem qX8 (p:Int):uZ1 p:=trivial
theorem qJ8 (p:Int):tQ p:=trivial
theorem qJ9 (p:Int):tQ0 p:=trivial
theorem oD1 (p:Int):sG4 p:=trivial
theorem rK7 (p:Int):uK2 p:=trivial
theorem qX9 (p:Int):uZ4 p:=trivial
theorem qY (p:Int):uZ5 p:=trivial
theorem oD2 (p:Int):sF5 p:=trivial
theorem sZ0 (p:D49):uZ0 p:=trivial
theorem oD3 (p q:Int):sG5 p q:=trivial
theorem qY0 (p q:Int):tA1 p q:=trivial
theorem rK8 (p:Int):uK5 p:=trivial
theorem uX3 (p:D125):vO0 p:=trivial
theorem qY1 (p q r:Int):tC2 p q r:=trivial
theorem wD6 (p q:D125):wD7 p q:=trivial
theorem wJ6 (p q:D125):wH5 p q:=trivial
theorem sB8 (p q:Int):vZ6 p q:=trivial
theorem uX4 (p:Int):vP1 p:=trivial
theorem sB9 (p q r:Int):vZ p q r:=trivial
theorem uX5 (p:Int):vN6 p:=sB9 _ _ _
theorem vX2 (p:Int):vD8 p:=sB9 _ _ _
theorem uX6 (p:Int):vN8 p:=sB9 _ _ _
theorem rK9 (p:D37):uK3 p:=⟨uX5 _,uX5 _,uX5 _,uX5 _,vX2 _,vX2 _⟩
theorem uM8 (p:D37):vX6 p:=rK9 p
theorem qY2 (p:D42):uZ9 p:=⟨uX6 _,uX6 _,uX6 _,uX6 _⟩
theorem sC (p:D42):uO0 p:=qY2 p
theorem sC0 (p:D42):vZ1 p:=sC p
theorem sC1 (a b:Int):vY8 a b:=fun h _=>by
 have:b≠0:=by intro e;subst e;simp at h
 exact⟨this,this⟩
theorem wA2 (a b:Int):wB a b:=fun _ _=>sC1 a b
theorem uX7 (a b c d:Int):vN7 a b c d:=⟨sC1 _ _,sC1 _ _,wA2 _ _⟩
theorem oD4 (p:D37):sG3 p:=⟨uM8 _,fun _ _=>⟨wA2 _ _,wA2 _ _,wA2 _ _,wA2 _ _,uM8 _,fun _=>⟨uX7 _ _ _ _,uX7 _ _ _ _,uM8 _⟩⟩⟩
theorem qY3 (p:D37)(q:D125):tA8 p q:=⟨rK9 _,vX2 _,vX2 _,uX7 _ _ _ _,vX2 _,uX7 _ _ _ _,vX2 _⟩
theorem rL (p:D37)(q:D125):uK7 p q:=⟨qY3 _ _,wA2 _ _,wA2 _ _⟩
theorem qY4 (s:List UInt8)(h:len s<9223372036854775808):uZ3 s:=fun _ =>
 xV4 (xT7 s) h (fun _ h=>xZ1 h) (fun _=>rfl) fun x h1 _=>fun h3=>by
  have h4:x.1<len s:=jF h3
  exact⟨⟨h1,h4⟩,fun _=>⟨h1,h4⟩,fun _=>xY3 (by omega) (by omega)⟩
theorem qK (p:D24)(h:len p.2.2.1<9223372036854775808):tP8 p:=fun h0=>by
 have hb:(0≤p.1∧p.1≤256)∧(0≤p.2.1∧p.2.1≤256):=by
  simp only[jK,Bool.cond_true_left,jJ,decide_eq_false_iff_not] at h0
  omega
 exact⟨fun _=>sZ hb.1 hb.2,fun _=>xV4 (xT7 p.2.2.1) h (fun _ h=>xZ1 h) (fun _=>rfl) fun x h1 _=>fun h3=>by
  have h4:x.1<len p.2.2.1:=jF h3
  exact⟨⟨h1,h4⟩,oD2 _,fun _=>xY3 (by omega) (by omega)⟩⟩
theorem qK0 (p:D40)(h:len p.2.2.1<9223372036854775808):tQ1 p:=⟨oD3 _ _,fun h0=>by
  have hb:(0≤p.1∧p.1≤256)∧(0≤p.2.1∧p.2.1≤256):=by
   have h0:f84 p.1 p.2.1=true:=by simpa using h0
   simp only[f84,f84t,Bool.cond_false_right,jB,decide_eq_true_eq] at h0
   omega
  exact sZ hb.1 hb.2,fun _=>xV4 (xT7 p.2.2.1) h (fun _ h=>xZ1 h) (fun _=>rfl) fun x h1 _=>fun h3=>by
  have h4:x.1<len p.2.2.1:=jF h3
  exact⟨⟨h1,h4⟩,sC _,fun _=>xY3 (by omega) (by omega)⟩⟩
theorem oD5 (p:D49)(w h:Int)(hn:len p.2.2.2.1<9223372036854775808)(hm:len p.2.2.2.2.2.2.2.2.2.1.2.2.1<9223372036854775808):sG1 p w h:=
 fun _=>⟨qX8 _,fun _=>⟨qY4 _ hn,fun _=>⟨rK7 _,fun _=>rK7 _,fun _=>qX9 _,fun _=>⟨qY _,fun _=>sZ0 _,fun _=>qK _ hm⟩⟩⟩⟩
theorem qY5 (a:Int)(l:List Int)(b n:Int)(h:len l<9223372036854775808):tA3 a l b n:=fun _=>by
 refine⟨qY0 _ _,fun hc _=>⟨xV4 (xT7 l) h (fun _ h=>xZ1 h) (fun _=>rfl) fun x h1 _=>fun h3=>?_,?_⟩⟩
 ·have h4:x.1<len l:=jF h3
  exact⟨⟨h1,h4⟩,fun _=>xY3 (by omega) (by omega)⟩
 ·intro _ hk
  have:len l=4∨len l=3:=by
   simp only[jK,Bool.cond_true_left,jJ,Bool.not_eq_false'] at hc
   have h1:=hc.1
   simp only[f139,qQ4] at h1
   cases hq:(a==1)<;>simp[hq] at h1<;>omega
  unfold InB;omega
theorem qY6 (l:List D122)(h:len l<9223372036854775808):tA5 l:=
 xV4 (xT7 l) h (fun _ h=>xZ1 h) (fun _=>rfl) fun x h1 _=>fun h3=>by
  have h4:x.1<len l:=jF h3
  exact⟨⟨h1,h4⟩,fun _=>sC _,fun _=>⟨fun h5=>by have h5:=jF h5;exact xY3 (by omega) (by omega),fun h5=>by have h5:=jF h5;exact⟨(show 0≤x.1-1 by omega),(show x.1-1<len l by omega)⟩⟩,fun _=>xY3 (by omega) (by omega)⟩
theorem qY7 (a:Int)(l:List Int)(b:Int)(m:List D122)(h:len l<9223372036854775808)(h':len m<9223372036854775808):tA6 a l b m:=⟨qY5 _ _ _ _ h,fun _=>qY6 _ h'⟩
theorem qY8 (p q:Int):tG8 p q:=trivial
theorem qY9 (p q:Int):tG9 p q:=trivial
theorem qZ (p:Int):tH6 p:=trivial
theorem qZ0 (a:Int)(l:List Int)(m:List D122)(hl:len l<9223372036854775808)(hm:len m<9223372036854775808)(h9:a=9→len l=3):tH1 a l m:=
 ⟨xV4 (xT7 l) hl (fun _ h=>xZ1 h) (fun _=>rfl) fun x h1 _=>fun h3=>by
  have h4:x.1<len l:=jF h3
  exact⟨⟨h1,h4⟩,qY9 _ _,fun _=>xY3 (by omega) (by omega)⟩,
  fun _=>by
  have key:∀ b:Bool,((a==9)=true→b=true→False)∨True:=fun _=>.inr trivial
  have e3:∀ c:Bool,(bif (a==9) then c else false)=true→len l=3:=fun c h=>by
   cases hq:(a==9) with
   |true=>exact h9 (by simpa using hq)
   |false=>simp[hq] at h
  refine⟨fun h=>?_,fun h=>?_,fun h=>?_,fun _=>xV4 (xT7 m) hm (fun _ h=>xZ1 h) (fun _=>rfl) fun x h1 _=>fun h3=>?_⟩
  ·have:=h9 (by simpa using h);unfold InB;omega
  ·have:=e3 _ h;unfold InB;omega
  ·cases hq:(a==9) with
   |true=>have:=h9 (by simpa using hq);unfold InB;omega
   |false=>simp[hq] at h
  ·have h4:x.1<len m:=jF h3
   exact⟨⟨h1,h4⟩,fun _=>sC _,fun _=>xY3 (by omega) (by omega)⟩⟩
theorem qZ1 (a:Int)(l:List Int)(m:List D122)(hm:len m<9223372036854775808)(h2:a=2→len l=5)(h3:a=3→len l≤16):tH4 a l m:=by
 refine⟨fun h=>?_,fun h=>?_,fun _=>⟨fun h=>?_,fun _=>?_⟩⟩
 ·have:=h2 (by simpa using h);unfold InB;omega
 ·have:=h2 (by simpa using h);unfold InB;omega
 ·have hl:=h3 (by simpa using h)
  refine xQ1 (fun x=>2≤x.1∧x.1≤18) (fun x=>(20-x.1).toNat) (fun x hx=>fun hg=>?_) (fun x hx hg=>?_) ⟨by decide,by decide⟩ (by simp[zI1])
  ·have h4:x.1<len l:=jF hg
   exact⟨⟨by omega,h4⟩,xY3 (by omega) (by omega),⟨(show 0≤x.1-2 by omega),(show x.1-2<len l by omega)⟩,fun _=>xY3 (by omega) (by omega)⟩
  ·have h4:x.1<len l:=xZ1 hg
   exact⟨(show 2≤x.1+2∧x.1+2≤18 by omega),(show (20-(x.1+2)).toNat<(20-x.1).toNat by omega)⟩
 ·have e:(bif (a==3) then m else m)=m:=by cases (a==3)<;>rfl
  show Am.Ends (vV9 ((bif (a==3) then m else m),())) (wV9 ((bif (a==3) then m else m),())) (vA1 ((bif (a==3) then m else m),())) (1,())
  rw[e]
  refine xQ1 (fun x=>1≤x.1) (fun x=>(len m-x.1).toNat) (fun x hx=>fun hg=>?_) (fun x hx hg=>?_) (by decide) (by unfold zI1;omega)
  ·have h4:x.1<len m:=jF hg
   exact⟨⟨by omega,h4⟩,xY3 (by omega) (by omega),⟨(show 0≤x.1-1 by omega),(show x.1-1<len m by omega)⟩,fun _=>xY3 (by omega) (by omega)⟩
  ·have h4:x.1<len m:=xZ1 hg
   exact⟨(show 1≤x.1+1 by omega),(show (len m-(x.1+1)).toNat<(len m-x.1).toNat by omega)⟩
theorem qZ2 (a:Int)(l:List Int)(m:List D122)(hl:len l<9223372036854775808)(hm:len m<9223372036854775808):tH5 a l m:=by
 intro _
 refine⟨qY8 _ _,fun hc _=>?_⟩
 have hc:f133 a (len l)=true:=by
  simp only[Bool.cond_true_left,jJ,Bool.not_eq_false'] at hc
  exact hc.1
 have k9:a=9→len l=3:=by rintro rfl;simpa[f133,rR1] using hc
 have k2:a=2→len l=5:=by rintro rfl;simpa[f133,rR1] using hc
 have k3:a=3→len l≤16:=by
  rintro rfl
  simp only[f133,rR1] at hc
  by_cases h:len l≤16
  ·exact h
  ·simp[h] at hc
 exact⟨qZ0 a l m hl hm k9,fun _=>qZ1 a l m hm k2 k3⟩
theorem qZ3 (a:Int)(l:List Int)(hl:len l<9223372036854775808):tH8 a l:=by
 intro _
 refine⟨qZ _,fun he=>?_⟩
 have he:len l=len (f136 a):=by simpa using he
 exact xV4 (xT7 l) hl (fun _ h=>xZ1 h) (fun _=>rfl) fun x h1 _=>fun h3=>by
  have h4:x.1<len l:=jF h3
  exact⟨⟨h1,h4⟩,⟨h1,(show x.1<len (f136 a) by omega)⟩,fun _=>⟨h1,(show x.1<len (f136 a) by omega)⟩,fun _=>xY3 (by omega) (by omega)⟩
theorem qZ4 (p:D47)(h:len p.2.2.2.1<9223372036854775808):tI p:=fun h0=>by
 have hb:(0≤p.1∧p.1≤256)∧(0≤p.2.1∧p.2.1≤256):=by
  simp only[jK,Bool.cond_true_left,jJ,decide_eq_false_iff_not] at h0
  omega
 exact⟨fun _=>sZ hb.1 hb.2,fun _=>xV4 (xT7 p.2.2.2.1) h (fun _ h=>xZ1 h) (fun _=>rfl) fun x h1 _=>fun h3=>by
  have h4:x.1<len p.2.2.2.1:=jF h3
  exact⟨⟨h1,h4⟩,fun _=>xY3 (by omega) (by omega)⟩⟩
theorem sC2 (l:List (List D125))(r:Int)(h:len l<9223372036854775808)(hq:∀ q∈l,len q≤4611686018427387904):vZ5 l r:=fun _=>by
 refine⟨?_,fun _=>?_⟩
 ·refine xQ1 (fun x=>(0≤x.1∧x.1≤4096)∧0≤x.2.1) (fun x=>(len l-x.2.1).toNat) (fun x hx=>fun hg=>?_) (fun x hx hg=>?_) ⟨⟨by decide,by decide⟩,by decide⟩ (by unfold zI1;simp only;omega)
  ·have h4:x.2.1<len l:=jF hg
   have h5:=hq _ (wA3 (d:=([]:List D125)) (i:=x.2.1) ⟨hx.2,h4⟩)
   have h6:=xT7 (nth l x.2.1 ([]:List D125))
   exact⟨⟨hx.2,h4⟩,xY3 (show _≤x.1+len (nth l x.2.1 ([]:List D125)) by omega) (show x.1+len (nth l x.2.1 ([]:List D125))≤_ by omega),fun _=>xY3 (by omega) (by omega)⟩
  ·have h4:x.2.1<len l:=xZ1 hg
   have h6:=xT7 (nth l x.2.1 ([]:List D125))
   have h7:x.1+len (nth l x.2.1 ([]:List D125))≤4096:=by
    have hg:(decide (x.2.1<len l)&&!(decide (x.1+len (nth l x.2.1 ([]:List D125))>4096)))=true:=hg
    simp only[jB,jK,decide_eq_false_iff_not] at hg
    omega
   exact⟨⟨(show 0≤x.1+len (nth l x.2.1 ([]:List D125))∧_ from ⟨by omega,h7⟩),(show 0≤x.2.1+1 by omega)⟩,(show (len l-(x.2.1+1)).toNat<(len l-x.2.1).toNat by omega)⟩
 ·exact xV4 (xT7 l) h (fun _ h=>xZ1 h) (fun _=>rfl) fun x h1 _=>fun h3=>by
   have h4:x.1<len l:=jF h3
   have h5:=hq _ (wA3 (d:=([]:List D125)) (i:=x.1) ⟨h1,h4⟩)
   exact⟨⟨h1,h4⟩,xV4 (xT7 _) (show len (nth l x.1 ([]:List D125))<_ by omega) (fun _ h=>xZ1 h) (fun _=>rfl) fun z k1 _=>fun k3=>by
    have k4:z.1<len (nth l x.1 ([]:List D125)):=jF k3
    exact⟨⟨k1,k4⟩,fun _=>xY3 (by omega) (by omega)⟩,fun _=>xY3 (by omega) (by omega)⟩
end Go.Proofs.YtpanghcojpnkaaaGreatDoor.Am
