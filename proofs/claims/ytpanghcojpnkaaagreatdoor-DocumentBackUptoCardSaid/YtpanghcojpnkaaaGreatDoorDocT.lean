/- node.Check answers for every node: texts, up to the lines. No condition. -/
import Derived.Test.YtpanghcojpnkaaaGreatDoorDocN
import Derived.Test.YtpanghcojpnkaaaGreatDoorDocB
import Derived.Test.YtpanghcojpnkaaaGreatDoorDocC1
import Derived.Test.YtpanghcojpnkaaaGreatDoorDocC3
import Derived.Test.YtpanghcojpnkaaaGreatDoorDocC4
import Derived.Test.YtpanghcojpnkaaaGreatDoorDocC6
import Derived.Test.YtpanghcojpnkaaaGreatDoorMach4
namespace Go.Proofs.YtpanghcojpnkaaaGreatDoor.Am
open Go Go.Am
theorem rL7 (a b c:Int):wQ a b c:=trivial
theorem pA6 (s:List UInt8)(w h:Int)(hs:len s<9223372036854775808):tE1 std s w h:=
 ⟨qX4,fun _=>⟨xV4 (xT7 s) hs (fun _ h=>xZ1 h) (fun _=>rfl) fun x h1 _=>fun h3=>by
  have h4:x.1<len s:=jF h3
  exact⟨⟨h1,h4⟩,fun _=>⟨h1,h4⟩,fun _=>⟨h1,h4⟩,fun _=>xY3 (by omega) (by omega)⟩,fun _ _=>⟨rL7 _ _ _,fun _=>rL7 _ _ _⟩⟩⟩
theorem qK3 {s:List UInt8}{w h:Int}(h0:f147 std s w h=0):len s≤128:=by
 simp only[f147,qS9,vQ] at h0
 cases hc:(f165 std !=0) with
 |true =>
  simp only[hc,jE] at h0
  simp[h0] at hc
 |false =>
  simp only[hc,jD] at h0
  cases he:uL2 _ _ with
  |true=>rw[he] at h0;simp at h0
  |false =>
   rw[he] at h0
   simp only[jD] at h0
   cases hk:decide (len s>128) with
   |true=>rw[hk] at h0;simp at h0
   |false=>have:=of_decide_eq_false hk;omega
def sC6 (p:D213):Prop:=p.1=std∧len p.2.1=256∧∀ v,InB v 256→-1≤nth p.2.1 v (0:Int)∧nth p.2.1 v (0:Int)<95
theorem sC7:len std.2.2.2.1=95:=by simp only[len,rS7];rfl
theorem pA7:len std.2.2.2.2.1=4:=rfl
theorem qK4:sC6 (f148 std):=by
 refine⟨qJ6,by simp only[len,rK6];rfl,fun v hv=>?_⟩
 have hm:nth (f148 std).2.1 v (0:Int)∈(f148 std).2.1:=wA3 (by simp only[len,rK6];exact hv)
 have h:=List.all_eq_true.1 qX6 _ hm
 simp only[jB,decide_eq_true_eq] at h
 exact h
theorem pA8 {p:D213}{a b:Int}(hp:p.1=std)(ha:InB a 95)(hb:InB b 95):uY4 p a b:=by
 have hk:len p.1.2.2.2.2.1=4:=by rw[hp];exact pA7
 have hg:len p.1.2.2.2.1=95:=by rw[hp];exact sC7
 refine⟨by rw[hg];exact ha,by rw[hg];exact hb,?_⟩
 have w:=whole (g:=uB2 ((nth p.1.2.2.2.1 a Z192).1,(nth p.1.2.2.2.1 b Z192).1,p.1.2.2.2.2.1,(len p.1.2.2.2.2.1),())) (next:=vB6 ((nth p.1.2.2.2.1 a Z192).1,(nth p.1.2.2.2.1 b Z192).1,p.1.2.2.2.2.1,(len p.1.2.2.2.2.1),())) (ok:=vE6 ((nth p.1.2.2.2.1 a Z192).1,(nth p.1.2.2.2.1 b Z192).1,p.1.2.2.2.2.1,(len p.1.2.2.2.2.1),())) (fun x=>0≤x.1∧x.1≤4) (fun x=>(4-x.1).toNat) (fun x hx=>fun h3=>by
   have h4:x.1<len p.1.2.2.2.2.1:=jF h3
   exact⟨hx.1,h4⟩) (fun x hx hg=>by
   have h4:x.1<len p.1.2.2.2.2.1:=xZ1 hg
   have e:IntKind.wrap .i64 (x.1+1)=x.1+1:=wE7 (xY3 (by omega) (by omega))
   show (0≤IntKind.wrap .i64 (x.1+1)∧IntKind.wrap .i64 (x.1+1)≤4)∧(4-IntKind.wrap .i64 (x.1+1)).toNat<(4-x.1).toNat
   rw[e];omega) (x:=(0,())) ⟨by decide,by decide⟩ (by simp[zI1])
 exact w.1
theorem qK5 (s:List UInt8)(i:Int):InB (xX4 s i) 256:=by
 have:=(s.getD i.toNat 0).toNat_lt
 unfold InB xX4;omega
theorem vB3 {α:Type}{P:α→Prop}{l:List α}{x:α}(h:∀ q∈l,P q)(hx:P x):∀ q∈l++[x],P q:=fun q hq=>by
 rcases List.mem_append.1 hq with h1|h1
 ·exact h q h1
 ·rw[jH.1 h1];exact hx
def oO4 (s:List UInt8)(x:wK):Prop:=(0≤x.2.2.1∧x.2.2.1≤len s)∧len x.1≤x.2.2.1∧∀ q∈x.1,InB q.1 95
theorem oQ5 {p:D213}(hp:sC6 p)(s:List UInt8)(hs:len s≤1000000) :
  Am.Ends (vE7 (p,s,len s,())) (wM8 (p,s,len s,())) (wX3 (p,s,len s,())) ([],0,0,()) ∧
  oO4 s (zC3 (vE7 (p,s,len s,())) (wM8 (p,s,len s,())) ([],0,0,())):=by
 have w:=whole (g:=vE7 (p,s,len s,())) (next:=wM8 (p,s,len s,())) (ok:=wX3 (p,s,len s,())) (oO4 s) (fun x=>(len s-x.2.2.1).toNat) (fun x hx=>fun h3=>?_) (fun x hx hg=>?_) (x:=([],0,0,())) ⟨⟨Int.le_refl 0,xT7 s⟩,Int.le_refl 0,fun q hq=>by cases hq⟩ (by unfold zI1;simp only;omega)
 ·exact⟨w.1,w.2.1⟩
 ·have h4:x.2.2.1<len s:=jF h3
  obtain⟨⟨h0,h1⟩,h2,h5⟩:=hx
  have hb:=qK5 s x.2.2.1
  have hv:=hp.2.2 _ hb
  have hl:len x.1=(x.1.length:Int):=rfl
  refine⟨⟨h0,h4⟩,hb,fun hn=>?_⟩
  have hn:¬ nth p.2.1 (xX4 s x.2.2.1) (0:Int)<0:=by simpa using hn
  have hv':InB (nth p.2.1 (xX4 s x.2.2.1) (0:Int)) 95:=⟨by omega,hv.2⟩
  refine⟨fun hg=>?_,?_,?_⟩
  ·have hg:len x.1>0:=jF hg
   have e:IntKind.wrap .i64 (len x.1-1)=len x.1-1:=wE7 (xY3 (by omega) (by omega))
   have hi:InB (IntKind.wrap .i64 (len x.1-1)) (len x.1):=by rw[e];exact⟨by omega,by omega⟩
   exact⟨hi,pA8 hp.1 (h5 _ (wA3 hi)) hv'⟩
  ·show ((x.1.length+1:Nat):Int)≤4294967296
   omega
  ·show InB _ (len p.1.2.2.2.1)
   rw[hp.1,sC7];exact hv'
 ·have h4:x.2.2.1<len s:=xZ1 hg
  obtain⟨⟨h0,h1⟩,h2,h5⟩:=hx
  have e:IntKind.wrap .i64 (x.2.2.1+1)=x.2.2.1+1:=wE7 (xY3 (by omega) (by omega))
  have hv:=hp.2.2 _ (qK5 s x.2.2.1)
  refine⟨⟨?_,?_,?_⟩,?_⟩
  ·show 0≤IntKind.wrap .i64 (x.2.2.1+1)∧IntKind.wrap .i64 (x.2.2.1+1)≤len s
   rw[e];omega
  ·show len (bif decide (nth p.2.1 (xX4 s x.2.2.1) (0:Int)<0) then x.1 else (x.1++_))≤IntKind.wrap .i64 (x.2.2.1+1)
   rw[e]
   cases decide (nth p.2.1 (xX4 s x.2.2.1) (0:Int)<0) with
   |true=>simp only[jE];omega
   |false=>simp only[jD,wI7,wJ7];omega
  ·show ∀ q∈(bif decide (nth p.2.1 (xX4 s x.2.2.1) (0:Int)<0) then x.1 else (x.1++[(nth p.2.1 (xX4 s x.2.2.1) (0:Int),_,())])),InB q.1 95
   cases hd:decide (nth p.2.1 (xX4 s x.2.2.1) (0:Int)<0) with
   |true=>exact h5
   |false =>
    have hd:=of_decide_eq_false hd
    exact vB3 h5 ⟨(show 0≤nth p.2.1 (xX4 s x.2.2.1) (0:Int) by omega),hv.2⟩
  ·show (len s-IntKind.wrap .i64 (x.2.2.1+1)).toNat<(len s-x.2.2.1).toNat
   rw[e];omega
theorem rL8 {p:D213}(hp:sC6 p)(s:List UInt8)(hs:len s≤1000000):vN2 p s∧len (f150 p s).1≤len s∧∀ q∈(f150 p s).1,InB q.1 95:=by
 have h:=oQ5 hp s hs
 exact⟨h.1,Int.le_trans h.2.2.1 h.2.1.2,h.2.2.2⟩
theorem pA9 {p:D213}(hp:sC6 p)(s:List UInt8)(w:Int)(hs:len s≤1000000):uY6 p s w:=⟨(rL8 hp s hs).1,wA2 _ _⟩
theorem qK6:∀ {X:List (List UInt8)}{w:List UInt8},w∈X→w.length+1≤tot X
 |x::r,w,h=>by
  simp only[tot]
  rcases List.mem_cons.1 h with h|h
  ·rw[h];omega
  ·have:=qK6 h;omega
theorem sP3 (c:UInt8){s:List UInt8}{n:Int}(h:len s≤n):len (xZ c s)≤n+1∧∀ w∈xZ c s,len w≤n:=by
 have h1:=tV6 (xZ c s)
 rw[tO3] at h1
 have hl:len s=(s.length:Int):=rfl
 have hl2:len (xZ c s)=((xZ c s).length:Int):=rfl
 refine⟨by omega,fun w hw=>?_⟩
 have h2:=qK6 hw
 rw[tO3] at h2
 have hl3:len w=(w.length:Int):=rfl
 omega
def Lns (n:Int)(l:List (List UInt8)):Prop:=len l≤n∧∀ q∈l,len q≤100000
def oO5 (l:List (List UInt8))(n:Int)(x:wF9):Prop:=(0≤x.2.2.1∧x.2.2.1≤len l)∧Lns (n+x.2.2.1) x.1∧len x.2.1≤200*(x.2.2.1+1)
theorem lin7 {p:D213}(hp:sC6 p)(a b n:Int)(l A:List (List UInt8))(w:List UInt8)(hl:len l≤129)(hq:∀ q∈l,len q≤128)(hn:n≤1000000000)(hA:Lns n A)(hw:len w≤128) :
  Am.Ends (wP5 (p,a,b,l,len l,())) (wF3 (p,a,b,l,len l,())) (wP4 (p,a,b,l,len l,())) (A,w,0,()) ∧
  oO5 l n (zC3 (wP5 (p,a,b,l,len l,())) (wF3 (p,a,b,l,len l,())) (A,w,0,())):=by
 have wh:=whole (g:=wP5 (p,a,b,l,len l,())) (next:=wF3 (p,a,b,l,len l,())) (ok:=wP4 (p,a,b,l,len l,())) (oO5 l n) (fun x=>(len l-x.2.2.1).toNat) (fun x hx=>fun h3=>?_) (fun x hx hg=>?_) (x:=(A,w,0,())) ⟨⟨Int.le_refl 0,xT7 l⟩,by simpa[Lns] using hA,(show len w≤200*(0+1) by omega)⟩ (by unfold zI1;simp only;omega)
 ·exact⟨wh.1,wh.2.1⟩
 ·have h4:x.2.2.1<len l:=jF h3
  obtain⟨⟨h0,h1⟩,h2,h5⟩:=hx
  have hm:=hq _ (wA3 (d:=([]:List UInt8)) ⟨h0,h4⟩)
  have e1:len x.2.1=(x.2.1.length:Int):=rfl
  have e2:len x.1=(x.1.length:Int):=rfl
  have e3:len (nth l x.2.2.1 ([]:List UInt8))=((nth l x.2.2.1 ([]:List UInt8)).length:Int):=rfl
  have h21:=h2.1
  refine⟨⟨h0,h4⟩,(show ((x.2.1.length+1:Nat):Int)≤9223372036854775807 by omega),?_,fun _=>pA9 hp _ _ ?_,fun _=>(show ((x.1.length+1:Nat):Int)≤4294967296 by omega),xY3 (by omega) (by omega)⟩
  ·show (((x.2.1++[32]).length+(nth l x.2.2.1 ([]:List UInt8)).length:Nat):Int)≤9223372036854775807
   rw[jO]
   simp only[List.length_cons,List.length_nil]
   omega
  ·show len ((x.2.1++[32])++nth l x.2.2.1 ([]:List UInt8))≤1000000
   rw[wI7,wI7,wJ7];omega
 ·have h4:x.2.2.1<len l:=jF hg
  obtain⟨⟨h0,h1⟩,h2,h5⟩:=hx
  have hm:=hq _ (wA3 (d:=([]:List UInt8)) ⟨h0,h4⟩)
  refine⟨⟨(show 0≤x.2.2.1+1∧x.2.2.1+1≤len l by omega),?_,?_⟩,(show (len l-(x.2.2.1+1)).toNat<(len l-x.2.2.1).toNat by omega)⟩
  ·show Lns (n+(x.2.2.1+1)) (bif _ then x.1 else (x.1++[x.2.1]))
   generalize (bif (b==0) then true else _)=c
   cases c with
   |true=>exact⟨(show len x.1≤_ by have:=h2.1;omega),h2.2⟩
   |false=>exact⟨by rw[jD,wI7,wJ7];have:=h2.1;omega,vB3 h2.2 (by omega)⟩
  ·show len (bif _ then ((x.2.1++[32])++nth l x.2.2.1 ([]:List UInt8)) else nth l x.2.2.1 ([]:List UInt8))≤200*(x.2.2.1+1+1)
   generalize (bif (b==0) then true else _)=c
   cases c with
   |true=>rw[jE,wI7,wI7,wJ7];omega
   |false=>rw[jD];omega
theorem qK7 {p:D213}(hp:sC6 p)(a b n:Int)(A:List (List UInt8))(x:List UInt8)(hx:len x≤128)(hn:n≤1000000000)(hA:Lns n A) :
  wV5 p a b A x∧Lns (n+130) (wE2 p a b A x):=by
 have e:f168 x [32]=xZ 32 x:=oD7 32 x (by omega)
 have ho:vY7 x [32]:=pA5 32 x (by omega)
 obtain⟨hs1,hs2⟩:=sP3 32 hx
 have hne:=sE 32 x
 have h1:(1:Int)≤len (xZ 32 x):=by
  cases hc:xZ 32 x with
  |nil=>exact absurd hc hne
  |cons y r=>simp only[len,List.length_cons];omega
 have hd:len (List.drop (Int.toNat (1:Int)) (xZ 32 x))≤129:=by
  simp only[len,List.length_drop] at hs1 ⊢;omega
 have h7:=lin7 hp a b n (List.drop (Int.toNat (1:Int)) (xZ 32 x)) A (nth (xZ 32 x) 0 ([]:List UInt8)) hd (fun q hq=>hs2 q (List.mem_of_mem_drop hq)) hn hA (hs2 _ (wA3 ⟨Int.le_refl 0,by omega⟩))
 simp only[wV5,wE2,vJ,rB4,e,vI8,vI9]
 generalize zC3 (wP5 (p,a,b,List.drop (Int.toNat (1:Int)) (xZ 32 x),len (List.drop (Int.toNat (1:Int)) (xZ 32 x)),())) (wF3 (p,a,b,List.drop (Int.toNat (1:Int)) (xZ 32 x),len (List.drop (Int.toNat (1:Int)) (xZ 32 x)),())) (A,nth (xZ 32 x) 0 ([]:List UInt8),0,())=z at h7 ⊢
 obtain⟨hE,⟨h0,h2⟩,h3,h4⟩:=h7
 have e2:len z.1=(z.1.length:Int):=rfl
 have h31:=h3.1
 refine⟨⟨ho,⟨by omega,by omega⟩,⟨by omega,h1⟩,hE,(show ((z.1.length+1:Nat):Int)≤4294967296 by omega)⟩,⟨?_,vB3 h3.2 (by omega)⟩⟩
 rw[wI7,wJ7];omega
theorem tV7 {p:D213}(hp:sC6 p)(a b:Int):∀ (xs:List (List UInt8)) (n:Int) (A:List (List UInt8)),(∀ x∈xs,len x≤128)→n+130*len xs≤1000000000→Lns n A →
  xL5 (wV5 p a b) (wE2 p a b) xs A∧Lns (n+130*len xs) (xs.foldl (wE2 p a b) A)
 |[],n,A,_,_,hA=>⟨trivial,by simpa[len] using hA⟩
 |x::r,n,A,hx,hn,hA=>by
  have e:len (x::r)=len r+1:=by simp[len]
  have hr:=xT7 r
  have h1:=qK7 hp a b n A x (hx x (jQ ..)) (by omega) hA
  have h2:=tV7 hp a b r (n+130) (wE2 p a b A x) (fun y hy=>hx y (jP _ hy)) (by omega) h1.2
  refine⟨⟨h1.1,h2.1⟩,?_⟩
  rw[show n+130*len (x::r)=n+130+130*len r by omega]
  exact h2.2
theorem pB0 {p:D213}(hp:sC6 p)(s:List UInt8)(a b:Int)(hs:len s≤128):vJ1 p s a b∧Lns 20000 (f149 p s a b):=by
 obtain⟨h1,h2⟩:=sP3 10 hs
 have h:=tV7 hp a b (xZ 10 s) 0 [] h2 (by omega) ⟨Int.le_refl 0,fun q hq=>by cases hq⟩
 have hl:len s=(s.length:Int):=rfl
 exact⟨⟨by omega,h.1⟩,⟨by have:=h.2.1;show len (f149 p s a b)≤20000;unfold f149;omega,h.2.2⟩⟩
end Go.Proofs.YtpanghcojpnkaaaGreatDoor.Am
