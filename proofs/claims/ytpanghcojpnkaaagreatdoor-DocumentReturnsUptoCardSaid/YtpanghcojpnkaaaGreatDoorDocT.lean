/- node.Check answers for every node: texts, up to the lines. No condition. -/
import Derived.Test.YtpanghcojpnkaaaGreatDoorDocN
import Derived.Test.YtpanghcojpnkaaaGreatDoorDocB
import Derived.Test.YtpanghcojpnkaaaGreatDoorDocC1
import Derived.Test.YtpanghcojpnkaaaGreatDoorDocC3
import Derived.Test.YtpanghcojpnkaaaGreatDoorDocC4
import Derived.Test.YtpanghcojpnkaaaGreatDoorDocC6
import Derived.Test.YtpanghcojpnkaaaGreatDoorMach4
namespace Go.Proofs.YtpanghcojpnkaaaGreatDoor.Am
open Go Go.Am
theorem rT8 (a b c:Int):wP2 a b c:=trivial
theorem pR5 (s:List UInt8)(w h:Int)(hs:len s<9223372036854775808):tI6 std s w h:=
 ⟨pO4,fun _=>⟨xV5 (xT8 s) hs (fun _ h=>xZ7 h) (fun _=>rfl) fun x h1 _=>fun h3=>by
  have h4:x.1<len s:=of_decide_eq_true h3
  exact⟨⟨h1,h4⟩,fun _=>⟨h1,h4⟩,fun _=>⟨h1,h4⟩,fun _=>xY6 (by omega) (by omega)⟩,fun _ _=>⟨rT8 _ _ _,fun _=>rT8 _ _ _⟩⟩⟩
theorem qU0 {s:List UInt8}{w h:Int}(h0:f147 std s w h=0):len s≤128:=by
 simp only[f147,pG7,vP5] at h0
 cases hc:(f165 std !=0) with
 |true =>
  simp only[hc,cond_true] at h0
  simp[h0] at hc
 |false =>
  simp only[hc,cond_false] at h0
  cases he:uN8 _ _ with
  |true=>rw[he] at h0;simp at h0
  |false =>
   rw[he] at h0
   simp only[cond_false] at h0
   cases hk:decide (len s>128) with
   |true=>rw[hk] at h0;simp at h0
   |false=>have:=of_decide_eq_false hk;omega
def sI3 (p:D213):Prop:=p.1=std∧len p.2.1=256∧∀ v,InB v 256→-1≤nth p.2.1 v (0:Int)∧nth p.2.1 v (0:Int)<95
theorem sI4:len std.2.2.2.1=95:=by simp only[len,qB0];rfl
theorem pR6:len std.2.2.2.2.1=4:=rfl
theorem qU1:sI3 (f148 std):=by
 refine⟨qT3,by simp only[len,rS7];rfl,fun v hv=>?_⟩
 have hm:nth (f148 std).2.1 v (0:Int)∈(f148 std).2.1:=xZ4 (by simp only[len,rS7];exact hv)
 have h:=List.all_eq_true.1 pO6 _ hm
 simp only[Bool.and_eq_true,decide_eq_true_eq] at h
 exact h
theorem pR7 {p:D213}{a b:Int}(hp:p.1=std)(ha:InB a 95)(hb:InB b 95):tC7 p a b:=by
 have hk:len p.1.2.2.2.2.1=4:=by rw[hp];exact pR6
 have hg:len p.1.2.2.2.1=95:=by rw[hp];exact sI4
 refine⟨by rw[hg];exact ha,by rw[hg];exact hb,?_⟩
 have w:=whole (g:=uD2 ((nth p.1.2.2.2.1 a Z192).1,(nth p.1.2.2.2.1 b Z192).1,p.1.2.2.2.2.1,(len p.1.2.2.2.2.1),())) (next:=vB1 ((nth p.1.2.2.2.1 a Z192).1,(nth p.1.2.2.2.1 b Z192).1,p.1.2.2.2.2.1,(len p.1.2.2.2.2.1),())) (ok:=vE8 ((nth p.1.2.2.2.1 a Z192).1,(nth p.1.2.2.2.1 b Z192).1,p.1.2.2.2.2.1,(len p.1.2.2.2.2.1),())) (fun x=>0≤x.1∧x.1≤4) (fun x=>(4-x.1).toNat) (fun x hx=>fun h3=>by
   have h4:x.1<len p.1.2.2.2.2.1:=of_decide_eq_true h3
   exact⟨hx.1,h4⟩) (fun x hx hg=>by
   have h4:x.1<len p.1.2.2.2.2.1:=xZ7 hg
   have e:IntKind.wrap .i64 (x.1+1)=x.1+1:=wE1 (xY6 (by omega) (by omega))
   show (0≤IntKind.wrap .i64 (x.1+1)∧IntKind.wrap .i64 (x.1+1)≤4)∧(4-IntKind.wrap .i64 (x.1+1)).toNat<(4-x.1).toNat
   rw[e];omega) (x:=(0,())) ⟨by decide,by decide⟩ (by simp[zI1])
 exact w.1
theorem qU2 (s:List UInt8)(i:Int):InB (xX6 s i) 256:=by
 have:=(s.getD i.toNat 0).toNat_lt
 unfold InB xX6;omega
theorem vB0 {α:Type}{P:α→Prop}{l:List α}{x:α}(h:∀ q∈l,P q)(hx:P x):∀ q∈l++[x],P q:=fun q hq=>by
 rcases List.mem_append.1 hq with h1|h1
 ·exact h q h1
 ·rw[List.mem_singleton.1 h1];exact hx
def nI6 (s:List UInt8)(x:wJ9):Prop:=(0≤x.2.2.1∧x.2.2.1≤len s)∧len x.1≤x.2.2.1∧∀ q∈x.1,InB q.1 95
theorem nK7 {p:D213}(hp:sI3 p)(s:List UInt8)(hs:len s≤1000000) :
  Am.Ends (vE9 (p,s,len s,())) (wM6 (p,s,len s,())) (wW5 (p,s,len s,())) ([],0,0,()) ∧
  nI6 s (zC1 (vE9 (p,s,len s,())) (wM6 (p,s,len s,())) ([],0,0,())):=by
 have w:=whole (g:=vE9 (p,s,len s,())) (next:=wM6 (p,s,len s,())) (ok:=wW5 (p,s,len s,())) (nI6 s) (fun x=>(len s-x.2.2.1).toNat) (fun x hx=>fun h3=>?_) (fun x hx hg=>?_) (x:=([],0,0,())) ⟨⟨Int.le_refl 0,xT8 s⟩,Int.le_refl 0,fun q hq=>by cases hq⟩ (by unfold zI1;simp only;omega)
 ·exact⟨w.1,w.2.1⟩
 ·have h4:x.2.2.1<len s:=of_decide_eq_true h3
  obtain⟨⟨h0,h1⟩,h2,h5⟩:=hx
  have hb:=qU2 s x.2.2.1
  have hv:=hp.2.2 _ hb
  have hl:len x.1=(x.1.length:Int):=rfl
  refine⟨⟨h0,h4⟩,hb,fun hn=>?_⟩
  have hn:¬ nth p.2.1 (xX6 s x.2.2.1) (0:Int)<0:=by simpa using hn
  have hv':InB (nth p.2.1 (xX6 s x.2.2.1) (0:Int)) 95:=⟨by omega,hv.2⟩
  refine⟨fun hg=>?_,?_,?_⟩
  ·have hg:len x.1>0:=of_decide_eq_true hg
   have e:IntKind.wrap .i64 (len x.1-1)=len x.1-1:=wE1 (xY6 (by omega) (by omega))
   have hi:InB (IntKind.wrap .i64 (len x.1-1)) (len x.1):=by rw[e];exact⟨by omega,by omega⟩
   exact⟨hi,pR7 hp.1 (h5 _ (xZ4 hi)) hv'⟩
  ·show ((x.1.length+1:Nat):Int)≤4294967296
   omega
  ·show InB _ (len p.1.2.2.2.1)
   rw[hp.1,sI4];exact hv'
 ·have h4:x.2.2.1<len s:=xZ7 hg
  obtain⟨⟨h0,h1⟩,h2,h5⟩:=hx
  have e:IntKind.wrap .i64 (x.2.2.1+1)=x.2.2.1+1:=wE1 (xY6 (by omega) (by omega))
  have hv:=hp.2.2 _ (qU2 s x.2.2.1)
  refine⟨⟨?_,?_,?_⟩,?_⟩
  ·show 0≤IntKind.wrap .i64 (x.2.2.1+1)∧IntKind.wrap .i64 (x.2.2.1+1)≤len s
   rw[e];omega
  ·show len (bif decide (nth p.2.1 (xX6 s x.2.2.1) (0:Int)<0) then x.1 else (x.1++_))≤IntKind.wrap .i64 (x.2.2.1+1)
   rw[e]
   cases decide (nth p.2.1 (xX6 s x.2.2.1) (0:Int)<0) with
   |true=>simp only[cond_true];omega
   |false=>simp only[cond_false,wI7,wJ7];omega
  ·show ∀ q∈(bif decide (nth p.2.1 (xX6 s x.2.2.1) (0:Int)<0) then x.1 else (x.1++[(nth p.2.1 (xX6 s x.2.2.1) (0:Int),_,())])),InB q.1 95
   cases hd:decide (nth p.2.1 (xX6 s x.2.2.1) (0:Int)<0) with
   |true=>exact h5
   |false =>
    have hd:=of_decide_eq_false hd
    exact vB0 h5 ⟨(show 0≤nth p.2.1 (xX6 s x.2.2.1) (0:Int) by omega),hv.2⟩
  ·show (len s-IntKind.wrap .i64 (x.2.2.1+1)).toNat<(len s-x.2.2.1).toNat
   rw[e];omega
theorem rT9 {p:D213}(hp:sI3 p)(s:List UInt8)(hs:len s≤1000000):vM8 p s∧len (f150 p s).1≤len s∧∀ q∈(f150 p s).1,InB q.1 95:=by
 have h:=nK7 hp s hs
 exact⟨h.1,Int.le_trans h.2.2.1 h.2.1.2,h.2.2.2⟩
theorem pR8 {p:D213}(hp:sI3 p)(s:List UInt8)(w:Int)(hs:len s≤1000000):tC9 p s w:=⟨(rT9 hp s hs).1,wA1 _ _⟩
theorem qU3:∀ {X:List (List UInt8)}{w:List UInt8},w∈X→w.length+1≤tot X
 |x::r,w,h=>by
  simp only[tot]
  rcases List.mem_cons.1 h with h|h
  ·rw[h];omega
  ·have:=qU3 h;omega
theorem sW8 (c:UInt8){s:List UInt8}{n:Int}(h:len s≤n):len (xZ2 c s)≤n+1∧∀ w∈xZ2 c s,len w≤n:=by
 have h1:=sB (xZ2 c s)
 rw[tT1] at h1
 have hl:len s=(s.length:Int):=rfl
 have hl2:len (xZ2 c s)=((xZ2 c s).length:Int):=rfl
 refine⟨by omega,fun w hw=>?_⟩
 have h2:=qU3 hw
 rw[tT1] at h2
 have hl3:len w=(w.length:Int):=rfl
 omega
def Lns (n:Int)(l:List (List UInt8)):Prop:=len l≤n∧∀ q∈l,len q≤100000
def nI7 (l:List (List UInt8))(n:Int)(x:wF5):Prop:=(0≤x.2.2.1∧x.2.2.1≤len l)∧Lns (n+x.2.2.1) x.1∧len x.2.1≤200*(x.2.2.1+1)
theorem lin7 {p:D213}(hp:sI3 p)(a b n:Int)(l A:List (List UInt8))(w:List UInt8)(hl:len l≤129)(hq:∀ q∈l,len q≤128)(hn:n≤1000000000)(hA:Lns n A)(hw:len w≤128) :
  Am.Ends (wO8 (p,a,b,l,len l,())) (wF (p,a,b,l,len l,())) (wO7 (p,a,b,l,len l,())) (A,w,0,()) ∧
  nI7 l n (zC1 (wO8 (p,a,b,l,len l,())) (wF (p,a,b,l,len l,())) (A,w,0,())):=by
 have wh:=whole (g:=wO8 (p,a,b,l,len l,())) (next:=wF (p,a,b,l,len l,())) (ok:=wO7 (p,a,b,l,len l,())) (nI7 l n) (fun x=>(len l-x.2.2.1).toNat) (fun x hx=>fun h3=>?_) (fun x hx hg=>?_) (x:=(A,w,0,())) ⟨⟨Int.le_refl 0,xT8 l⟩,by simpa[Lns] using hA,(show len w≤200*(0+1) by omega)⟩ (by unfold zI1;simp only;omega)
 ·exact⟨wh.1,wh.2.1⟩
 ·have h4:x.2.2.1<len l:=of_decide_eq_true h3
  obtain⟨⟨h0,h1⟩,h2,h5⟩:=hx
  have hm:=hq _ (xZ4 (d:=([]:List UInt8)) ⟨h0,h4⟩)
  have e1:len x.2.1=(x.2.1.length:Int):=rfl
  have e2:len x.1=(x.1.length:Int):=rfl
  have e3:len (nth l x.2.2.1 ([]:List UInt8))=((nth l x.2.2.1 ([]:List UInt8)).length:Int):=rfl
  have h21:=h2.1
  refine⟨⟨h0,h4⟩,(show ((x.2.1.length+1:Nat):Int)≤9223372036854775807 by omega),?_,fun _=>pR8 hp _ _ ?_,fun _=>(show ((x.1.length+1:Nat):Int)≤4294967296 by omega),xY6 (by omega) (by omega)⟩
  ·show (((x.2.1++[32]).length+(nth l x.2.2.1 ([]:List UInt8)).length:Nat):Int)≤9223372036854775807
   rw[List.length_append]
   simp only[List.length_cons,List.length_nil]
   omega
  ·show len ((x.2.1++[32])++nth l x.2.2.1 ([]:List UInt8))≤1000000
   rw[wI7,wI7,wJ7];omega
 ·have h4:x.2.2.1<len l:=of_decide_eq_true hg
  obtain⟨⟨h0,h1⟩,h2,h5⟩:=hx
  have hm:=hq _ (xZ4 (d:=([]:List UInt8)) ⟨h0,h4⟩)
  refine⟨⟨(show 0≤x.2.2.1+1∧x.2.2.1+1≤len l by omega),?_,?_⟩,(show (len l-(x.2.2.1+1)).toNat<(len l-x.2.2.1).toNat by omega)⟩
  ·show Lns (n+(x.2.2.1+1)) (bif _ then x.1 else (x.1++[x.2.1]))
   generalize (bif (b==0) then true else _)=c
   cases c with
   |true=>exact⟨(show len x.1≤_ by have:=h2.1;omega),h2.2⟩
   |false=>exact⟨by rw[cond_false,wI7,wJ7];have:=h2.1;omega,vB0 h2.2 (by omega)⟩
  ·show len (bif _ then ((x.2.1++[32])++nth l x.2.2.1 ([]:List UInt8)) else nth l x.2.2.1 ([]:List UInt8))≤200*(x.2.2.1+1+1)
   generalize (bif (b==0) then true else _)=c
   cases c with
   |true=>rw[cond_true,wI7,wI7,wJ7];omega
   |false=>rw[cond_false];omega
theorem qU4 {p:D213}(hp:sI3 p)(a b n:Int)(A:List (List UInt8))(x:List UInt8)(hx:len x≤128)(hn:n≤1000000000)(hA:Lns n A) :
  wV2 p a b A x∧Lns (n+130) (wD8 p a b A x):=by
 have e:f168 x [32]=xZ2 32 x:=oX2 32 x (by omega)
 have ho:uA0 x [32]:=pR4 32 x (by omega)
 obtain⟨hs1,hs2⟩:=sW8 32 hx
 have hne:=sJ6 32 x
 have h1:(1:Int)≤len (xZ2 32 x):=by
  cases hc:xZ2 32 x with
  |nil=>exact absurd hc hne
  |cons y r=>simp only[len,List.length_cons];omega
 have hd:len (List.drop (Int.toNat (1:Int)) (xZ2 32 x))≤129:=by
  simp only[len,List.length_drop] at hs1 ⊢;omega
 have h7:=lin7 hp a b n (List.drop (Int.toNat (1:Int)) (xZ2 32 x)) A (nth (xZ2 32 x) 0 ([]:List UInt8)) hd (fun q hq=>hs2 q (List.mem_of_mem_drop hq)) hn hA (hs2 _ (xZ4 ⟨Int.le_refl 0,by omega⟩))
 simp only[wV2,wD8,vJ2,rJ0,e,vJ0,vJ1]
 generalize zC1 (wO8 (p,a,b,List.drop (Int.toNat (1:Int)) (xZ2 32 x),len (List.drop (Int.toNat (1:Int)) (xZ2 32 x)),())) (wF (p,a,b,List.drop (Int.toNat (1:Int)) (xZ2 32 x),len (List.drop (Int.toNat (1:Int)) (xZ2 32 x)),())) (A,nth (xZ2 32 x) 0 ([]:List UInt8),0,())=z at h7 ⊢
 obtain⟨hE,⟨h0,h2⟩,h3,h4⟩:=h7
 have e2:len z.1=(z.1.length:Int):=rfl
 have h31:=h3.1
 refine⟨⟨ho,⟨by omega,by omega⟩,⟨by omega,h1⟩,hE,(show ((z.1.length+1:Nat):Int)≤4294967296 by omega)⟩,⟨?_,vB0 h3.2 (by omega)⟩⟩
 rw[wI7,wJ7];omega
theorem sB0 {p:D213}(hp:sI3 p)(a b:Int):∀ (xs:List (List UInt8)) (n:Int) (A:List (List UInt8)),(∀ x∈xs,len x≤128)→n+130*len xs≤1000000000→Lns n A →
  xL6 (wV2 p a b) (wD8 p a b) xs A∧Lns (n+130*len xs) (xs.foldl (wD8 p a b) A)
 |[],n,A,_,_,hA=>⟨trivial,by simpa[len] using hA⟩
 |x::r,n,A,hx,hn,hA=>by
  have e:len (x::r)=len r+1:=by simp[len]
  have hr:=xT8 r
  have h1:=qU4 hp a b n A x (hx x (List.mem_cons_self ..)) (by omega) hA
  have h2:=sB0 hp a b r (n+130) (wD8 p a b A x) (fun y hy=>hx y (List.mem_cons_of_mem _ hy)) (by omega) h1.2
  refine⟨⟨h1.1,h2.1⟩,?_⟩
  rw[show n+130*len (x::r)=n+130+130*len r by omega]
  exact h2.2
theorem pR9 {p:D213}(hp:sI3 p)(s:List UInt8)(a b:Int)(hs:len s≤128):vJ4 p s a b∧Lns 20000 (f149 p s a b):=by
 obtain⟨h1,h2⟩:=sW8 10 hs
 have h:=sB0 hp a b (xZ2 10 s) 0 [] h2 (by omega) ⟨Int.le_refl 0,fun q hq=>by cases hq⟩
 have hl:len s=(s.length:Int):=rfl
 exact⟨⟨by omega,h.1⟩,⟨by have:=h.2.1;show len (f149 p s a b)≤20000;unfold f149;omega,h.2.2⟩⟩
end Go.Proofs.YtpanghcojpnkaaaGreatDoor.Am
