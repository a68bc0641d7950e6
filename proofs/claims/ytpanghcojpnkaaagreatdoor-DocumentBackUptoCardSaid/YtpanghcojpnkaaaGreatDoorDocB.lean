/- node.Check answers for every node: paths. Condition: lengths of Go slices. -/
import Derived.Test.YtpanghcojpnkaaaGreatDoorDocA
namespace Go.Proofs.YtpanghcojpnkaaaGreatDoor.Am
open Go Go.Am
theorem inb0:InB (0:Int) 3:=by unfold InB;omega
theorem inb1:InB (1:Int) 3:=by unfold InB;omega
theorem inb2:InB (2:Int) 3:=by unfold InB;omega
theorem wJ7 {α:Type}(x:α):len [x]=1:=rfl
theorem qK1 (p:Int):0≤f141 p∧f141 p≤3:=by
 simp only[f141,qQ7]
 cases (p==3)<;>cases (p==4)<;>cases (p==5)<;>simp
theorem seg9 (y:wO2):Am.Ends (wK4 y) (wE8 y) (wX4 y) (0,())∧wK4 y (zC3 (wK4 y) (wE8 y) (0,()))=false:=by
 have h:=whole (g:=wK4 y) (next:=wE8 y) (ok:=wX4 y) (fun x=>0≤x.1∧x.1≤3) (fun x=>(3-x.1).toNat) (fun x hx=>fun h3=>by
   have h4:x.1<3:=jF h3
   exact⟨⟨hx.1,h4⟩,uX3 _,fun _=>rK8 _,fun _=>xY3 (by omega) (by omega)⟩) (fun x hx hg=>by
   have h4:x.1<3:=xZ1 hg
   exact⟨(show 0≤x.1+1∧x.1+1≤3 by omega),(show (3-(x.1+1)).toNat<(3-x.1).toNat by omega)⟩) (x:=(0,())) ⟨by decide,by decide⟩ (by simp[zI1])
 exact⟨h.1,h.2.2⟩
theorem seg4 (l:List D128)(hl:len l<9223372036854775808) :
  Am.Ends (wH (l,l,len l,())) (wE9 (l,l,len l,())) (vE8 (l,l,len l,())) (0,()) ∧
  (0≤(zC3 (wH (l,l,len l,())) (wE9 (l,l,len l,())) (0,())).1∧(0<(zC3 (wH (l,l,len l,())) (wE9 (l,l,len l,())) (0,())).1→(nth l 0 Z128).1=1)) ∧
  wH (l,l,len l,()) (zC3 (wH (l,l,len l,())) (wE9 (l,l,len l,())) (0,()))=false:=by
 refine whole (fun x:wG9=>0≤x.1∧(0<x.1→(nth l 0 Z128).1=1)) (fun x=>(len l-x.1).toNat) (fun x hx=>fun h3=>?_) (fun x hx hg=>?_) ⟨by decide,fun h=>absurd h (by decide)⟩ (by unfold zI1;simp only;omega)
 ·have h4:x.1<len l:=jF h3
  refine⟨⟨hx.1,h4⟩,fun _=>⟨(seg9 _).1,fun _=>⟨fun h5=>?_,fun h5=>?_⟩⟩,fun _=>xY3 (by omega) (by omega)⟩
  ·exact xY3 (by omega) (by omega)
  ·simp only[jB,jK,beq_eq_false_iff_ne,ne_eq] at h5
   exact⟨(show 0≤x.1-1 by omega),(show x.1-1<len l by omega)⟩
 ·have h4:x.1<len l:=xZ1 hg
  refine⟨⟨(show 0≤x.1+1 by omega),fun _=>?_⟩,(show (len l-(x.1+1)).toNat<(len l-x.1).toNat by omega)⟩
  by_cases h0:x.1=0
  ·simp only[wH,wV6,h0] at hg
   simp only[jB,jK] at hg
   have h5:=hg.2.2.2
   cases hk:((nth l 0 Z128).1 !=1) with
   |true=>simp[hk] at h5
   |false=>simpa using hk
  ·exact hx.2 (by omega)
theorem sC3 (l:List D128)(hl:len l<9223372036854775808):vO3 l:=fun _=>(seg4 l hl).1
theorem vB1 {l:List D128}(hl:len l<9223372036854775808)(h:f140 l=0):len l≤128∧(0<len l→(nth l 0 Z128).1=1):=by
 obtain⟨_,⟨h1,h2⟩,h3⟩:=seg4 l hl
 simp only[f140,qR] at h
 generalize zC3 (wH (l,l,len l,())) (wE9 (l,l,len l,())) (0,())=e at h h1 h2 h3
 have hv:decide (len l>128)=false:=by
  cases hv:decide (len l>128) with
  |false=>rfl
  |true=>simp[hv] at h
 have hle:=of_decide_eq_false hv
 refine⟨by omega,fun hp=>h2 ?_⟩
 have he1:vE9 (l,l,len l,()) e=false:=by
  cases he:vE9 (l,l,len l,()) e with
  |false=>rfl
  |true =>
   simp only[hv,he,jD,jE,vO2] at h
   revert h
   cases (bif (decide ((nth l e.1 Z128).1<1)) then true else (decide ((nth l e.1 Z128).1>5)))<;>simp only[jE,jD]
   ·cases wX5 _ _<;>simp[vO1]
   ·simp
 by_cases hlt:e.1<len l
 ·exfalso
  simp only[wH,wV6] at h3
  simp only[vE9,wV6] at he1
  have h9:=(seg9 (l,e.1,nth l e.1 Z128,l,len l,e.1,(nth l e.1 Z128).2.1,())).2
  generalize zC3 (wK4 (l,e.1,nth l e.1 Z128,l,len l,e.1,(nth l e.1 Z128).2.1,())) (wE8 (l,e.1,nth l e.1 Z128,l,len l,e.1,(nth l e.1 Z128).2.1,())) (0,())=z at h3 he1 h9
  generalize (bif (decide ((nth l e.1 Z128).1<1)) then true else (decide ((nth l e.1 Z128).1>5)))=v24 at h3 he1
  generalize (bif (nth l e.1 Z128).1 !=1 then (bif e.1==0 then true else ((nth l (e.1-1) Z128).1==5)) else false)=v61 at h3 he1
  have e4:uK6 (l,e.1,nth l e.1 Z128,l,len l,e.1,(nth l e.1 Z128).2.1,()) z=!(decide (z.1<3)):=rfl
  have e1:wX5 (l,e.1,nth l e.1 Z128,l,len l,e.1,(nth l e.1 Z128).2.1,()) z=true∨decide (z.1<3)=false:=by
   cases hz:decide (z.1<3) with
   |false=>exact .inr rfl
   |true =>
    left
    simp only[wK4,vB9,hz,Bool.true_and,Bool.not_eq_false'] at h9
    simp only[wX5,vB9,hz,Bool.true_and]
    exact h9
  simp only[hlt,decide_true,Bool.true_and] at h3 he1
  rw[e4] at h3 he1
  rcases e1 with e1|e1
  ·rw[e1] at he1;cases v24<;>simp_all
  ·rw[e1] at h3 he1;cases v24<;>cases v61<;>simp_all
 ·omega
theorem qK2 (y:wE3){n:Int}(hk:y.2.2.2.2.2.2.1≤3)(l:List D128)(hn:len l=n)(hi:InB y.2.1 n) :
  Am.Ends (wI9 y) (wB9 y) (wP6 y) (l,0,())∧len (zC3 (wI9 y) (wB9 y) (l,0,())).1=n:=by
 have h:=whole (g:=wI9 y) (next:=wB9 y) (ok:=wP6 y) (fun x=>len x.1=n∧0≤x.2.1∧x.2.1≤3) (fun x=>(3-x.2.1).toNat) (fun x hx=>fun h3=>by
   have h4:x.2.1<y.2.2.2.2.2.2.1:=jF h3
   obtain⟨k1,k2⟩:=hi
   refine⟨⟨hx.2.1,by omega⟩,rL _ _,uX3 _,fun _=>⟨⟨k1,?_⟩,⟨hx.2.1,by omega⟩,?_⟩,fun _=>xY3 (by omega) (by omega)⟩
   ·show y.2.1<len x.1;rw[hx.1];exact k2
   ·show y.2.1<len x.1;rw[hx.1];exact k2) (fun x hx hg=>by
   have h4:x.2.1<y.2.2.2.2.2.2.1:=xZ1 hg
   exact⟨⟨(show len (List.set x.1 _ _)=n by rw[wC0];exact hx.1),(show 0≤x.2.1+1∧x.2.1+1≤3 by omega)⟩,(show (3-(x.2.1+1)).toNat<(3-x.2.1).toNat by omega)⟩) (x:=(l,0,())) ⟨hn,Int.le_refl 0,(by decide:(0:Int)≤3)⟩ (by simp[zI1])
 exact⟨h.1,h.2.1.1⟩
theorem sZ1 (a:D37)(l:List D128)(x:wE4):wH0 (a,l,len l,()) x=((zC3 (wI9 (a,x.2.1,nth l x.2.1 Z128,l,len l,x.2.1,f141 (nth l x.2.1 Z128).1,())) (wB9 (a,x.2.1,nth l x.2.1 Z128,l,len l,x.2.1,f141 (nth l x.2.1 Z128).1,())) (List.set x.1 (Int.toNat x.2.1) ((nth l x.2.1 Z128).1,(nth x.1 x.2.1 Z128).2.1,()),0,())).1,x.2.1+1,()):=rfl
theorem pI4 (l:List D128)(a:D37)(z:List D128)(hz:len z=len l)(hl:len l≤128) :
  Am.Ends (vF0 (a,l,len l,())) (wH0 (a,l,len l,())) (wX6 (a,l,len l,())) (z,0,())∧len (zC3 (vF0 (a,l,len l,())) (wH0 (a,l,len l,())) (z,0,())).1=len l:=by
 have h:=whole (g:=vF0 (a,l,len l,())) (next:=wH0 (a,l,len l,())) (ok:=wX6 (a,l,len l,())) (fun x=>len x.1=len l∧0≤x.2.1) (fun x=>(len l-x.2.1).toNat) (fun x hx=>fun h3=>?_) (fun x hx hg=>?_) (x:=(z,0,())) ⟨hz,Int.le_refl 0⟩ (by unfold zI1;simp only;omega)
 ·exact⟨h.1,h.2.1.1⟩
 ·have h4:x.2.1<len l:=jF h3
  have hb:InB x.2.1 (len l):=⟨hx.2,h4⟩
  refine⟨hb,?_,?_,rK8 _,(qK2 _ (qK1 _).2 _ (by rw[wC0];exact hx.1) hb).1,fun _=>xY3 (by omega) (by omega)⟩
  ·show InB x.2.1 (len x.1);rw[hx.1];exact hb
  ·show x.2.1<len x.1;rw[hx.1];exact h4
 ·have h4:x.2.1<len l:=xZ1 hg
  have hb:InB x.2.1 (len l):=⟨hx.2,h4⟩
  have h13:=(qK2 (a,x.2.1,nth l x.2.1 Z128,l,len l,x.2.1,f141 (nth l x.2.1 Z128).1,()) (qK1 _).2 (List.set x.1 (Int.toNat x.2.1) ((nth l x.2.1 Z128).1,(nth x.1 x.2.1 Z128).2.1,())) (by rw[wC0];exact hx.1) hb).2
  rw[sZ1]
  exact⟨⟨h13,(show 0≤x.2.1+1 by omega)⟩,(show (len l-(x.2.1+1)).toNat<(len l-x.2.1).toNat by omega)⟩
theorem qZ5 (l:List D128)(a:D37)(hl:len l<9223372036854775808):tB3 l a∧len (f125 l a).1≤128:=by
 have hrep:len (List.replicate (Int.toNat (len l)) Z128)=len l:=by simp[len]
 refine⟨⟨sC3 l hl,fun h0=>⟨uM8 _,fun _=>?_⟩⟩,?_⟩
 ·have h0:f140 l=0:=by simpa using h0
  have hk:=(vB1 hl h0).1
  have:=xT7 l
  exact⟨⟨by omega,by omega,by omega⟩,(pI4 l a _ hrep hk).1⟩
 ·simp only[f125,qR2]
  cases h0:(f140 l !=0) with
  |true=>simp[len]
  |false =>
   have h0:f140 l=0:=by simpa using h0
   have hk:=(vB1 hl h0).1
   have h9:=(pI4 l a _ hrep hk).2
   simp only[jD]
   cases (f77 a !=0) with
   |true=>simp[len]
   |false =>
    simp only[jD]
    cases uK8 _ _ with
    |true=>simp[vO5,vJ2,len]
    |false=>simp only[jD,vO6];rw[h9];exact hk
theorem uJ8 {p:D125}{l:List D125}(h1:1≤len l)(h2:len l≤2147483648):wP7 p l∧len l≤len (wH1 p l).1∧len (wH1 p l).1≤len l+1:=by
 have hw:IntKind.wrap .i64 (len l-1)=len l-1:=wE7 (xY3 (by omega) (by omega))
 refine⟨⟨?_,fun _=>?_⟩,?_⟩
 ·rw[hw];exact⟨by omega,by omega⟩
 ·simp only[len] at h2;simp only[List.length_cons,List.length_nil];omega
 ·simp only[wH1,uC4]
  cases (!(Ty.eqb T125 p (nth l (IntKind.wrap .i64 (len l-1)) Z125))) with
  |true=>simp only[jE,wI7,wJ7];omega
  |false=>simp only[jD];omega
theorem ext8 (y:wH2)(l:List D125)(h1:1≤len l)(h2:len l≤1073741824) :
  Am.Ends (wH3 y) (wB3 y) (wJ y) (l,1,())∧len l≤len (zC3 (wH3 y) (wB3 y) (l,1,())).1∧len (zC3 (wH3 y) (wB3 y) (l,1,())).1≤len l+16:=by
 have h:=whole (g:=wH3 y) (next:=wB3 y) (ok:=wJ y) (fun x=>(1≤x.2.1∧x.2.1≤9)∧len l≤len x.1∧len x.1≤len l+(x.2.1-1)) (fun x=>(9-x.2.1).toNat) (fun x hx=>fun _=>by
   exact⟨inb0,inb1,wA2 _ _,inb0,inb1,wA2 _ _,(uJ8 (by omega) (by omega)).1⟩) (fun x hx hg=>by
   have h4:x.2.1≤8:=jF hg
   have hw:IntKind.wrap .i64 (x.2.1+1)=x.2.1+1:=wE7 (xY3 (by omega) (by omega))
   have ha:∀ q:D125,len x.1≤len (wH1 q x.1).1∧len (wH1 q x.1).1≤len x.1+1:=fun q=>(uJ8 (p:=q) (by omega) (by omega)).2
   simp only[wB3,wZ4]
   rw[hw]
   exact⟨⟨⟨by omega,by omega⟩,Int.le_trans hx.2.1 (ha _).1,Int.le_trans (ha _).2 (by omega)⟩,by omega⟩) (x:=(l,1,())) ⟨⟨Int.le_refl 1,(by decide:(1:Int)≤9)⟩,Int.le_refl _,(show len l≤len l+(1-1) by omega)⟩ (by simp[zI1])
 exact⟨h.1,h.2.1.2.1,by have:=h.2.1.2.2;have:=h.2.1.1.2;omega⟩
theorem oO0 (y:wF4)(l:List D125)(h1:1≤len l)(h2:len l≤1073741824) :
  Am.Ends (wF5 y) (wA7 y) (wG y) (l,1,())∧len l≤len (zC3 (wF5 y) (wA7 y) (l,1,())).1∧len (zC3 (wF5 y) (wA7 y) (l,1,())).1≤len l+16:=by
 have h:=whole (g:=wF5 y) (next:=wA7 y) (ok:=wG y) (fun x=>(1≤x.2.1∧x.2.1≤17)∧len l≤len x.1∧len x.1≤len l+(x.2.1-1)) (fun x=>(17-x.2.1).toNat) (fun x hx=>fun _=>by
   exact⟨inb0,inb1,inb2,wA2 _ _,inb0,inb1,inb2,wA2 _ _,(uJ8 (by omega) (by omega)).1⟩) (fun x hx hg=>by
   have h4:x.2.1≤16:=jF hg
   have hw:IntKind.wrap .i64 (x.2.1+1)=x.2.1+1:=wE7 (xY3 (by omega) (by omega))
   have ha:∀ q:D125,len x.1≤len (wH1 q x.1).1∧len (wH1 q x.1).1≤len x.1+1:=fun q=>(uJ8 (p:=q) (by omega) (by omega)).2
   simp only[wA7,wS1]
   rw[hw]
   exact⟨⟨⟨by omega,by omega⟩,Int.le_trans hx.2.1 (ha _).1,Int.le_trans (ha _).2 (by omega)⟩,by omega⟩) (x:=(l,1,())) ⟨⟨Int.le_refl 1,(by decide:(1:Int)≤17)⟩,Int.le_refl _,(show len l≤len l+(1-1) by omega)⟩ (by simp[zI1])
 exact⟨h.1,h.2.1.2.1,by have:=h.2.1.2.2;have:=h.2.1.1.2;omega⟩
theorem rL0 {l:List D125}{s:D128}(h1:1≤len l)(h2:len l≤1073741824):vF1 l s∧len l≤len (vZ2 l s)∧len (vZ2 l s)≤len l+16:=by
 have hw:IntKind.wrap .i64 (len l-1)=len l-1:=wE7 (xY3 (by omega) (by omega))
 have ha:=uJ8 (p:=nth s.2.1 (0:Int) Z125) h1 (show len l≤2147483648 by omega)
 refine⟨⟨?_,fun _=>⟨inb0,ha.1⟩,fun _=>⟨fun _=>(ext8 _ l h1 h2).1,fun _ _=>(oO0 _ l h1 h2).1⟩⟩,?_⟩
 ·rw[hw];exact⟨by omega,by omega⟩
 ·simp only[vZ2,uV5,wZ5,wU8]
  have h8:=(ext8 (s,nth l (IntKind.wrap .i64 (len l-1)) Z125,((),()),()) l h1 h2).2
  have h15:=(oO0 (s,nth l (IntKind.wrap .i64 (len l-1)) Z125,((),()),()) l h1 h2).2
  cases (s.1==2) with
  |true=>simp only[jE];omega
  |false =>
   cases (s.1==3) with
   |true=>simp only[jE,jD];exact h8
   |false =>
    cases (s.1==4) with
    |true=>simp only[jE,jD];exact h15
    |false=>simp only[jD];omega
def Few (n m:Int)(l:List (List D125)):Prop:=len l≤n∧∀ q∈l,len q≤m
theorem oO1 (l:List D128)(hl:len l≤128)(h0:0<len l→(nth l 0 Z128).1=1) :
  Am.Ends (vF3 (l,l,len l,())) (wF0 (l,l,len l,())) (wX7 (l,l,len l,())) ([],[],0,())∧Few 128 4096 (zC3 (vF3 (l,l,len l,())) (wF0 (l,l,len l,())) ([],[],0,())).1:=by
 have step:∀ x:wO3,(0≤x.2.2.1∧(0<x.2.2.1→1≤len x.2.1)∧len x.2.1≤1+16*x.2.2.1)→x.2.2.1<len l →
   (((nth l x.2.2.1 Z128).1==1)=false→1≤len x.2.1) ∧
   1≤len (bif ((nth l x.2.2.1 Z128).1==1) then ([(nth (nth l x.2.2.1 Z128).2.1 (0:Int) Z125)]:List D125) else (vZ2 x.2.1 (nth l x.2.2.1 Z128))) ∧
   len (bif ((nth l x.2.2.1 Z128).1==1) then ([(nth (nth l x.2.2.1 Z128).2.1 (0:Int) Z125)]:List D125) else (vZ2 x.2.1 (nth l x.2.2.1 Z128)))≤1+16*(x.2.2.1+1):=by
  intro x hx hlt
  have hne:((nth l x.2.2.1 Z128).1==1)=false→1≤len x.2.1:=fun hf=>by
   by_cases hz:x.2.2.1=0
   ·have:=h0 (by omega)
    rw[hz,this] at hf
    simp at hf
   ·exact hx.2.1 (by omega)
  refine⟨hne,?_⟩
  cases hk:((nth l x.2.2.1 Z128).1==1) with
  |true=>simp only[jE,wJ7];omega
  |false =>
   simp only[jD]
   have ha:=(rL0 (s:=nth l x.2.2.1 Z128) (hne hk) (show len x.2.1≤1073741824 by omega)).2
   have:=hne hk
   omega
 have h:=whole (g:=vF3 (l,l,len l,())) (next:=wF0 (l,l,len l,())) (ok:=wX7 (l,l,len l,())) (fun x=>(0≤x.2.2.1∧(0<x.2.2.1→1≤len x.2.1)∧len x.2.1≤1+16*x.2.2.1)∧(x.2.2.1≤len l∧len x.1≤x.2.2.1)∧∀ q∈x.1,len q≤4096) (fun x=>(len l-x.2.2.1).toNat) (fun x hx=>fun h3=>by
   have h4:x.2.2.1<len l:=jF h3
   obtain⟨s1,s2,s3⟩:=step x hx.1 h4
   refine⟨⟨hx.1.1,h4⟩,fun _=>inb0,fun hf=>(rL0 (s1 hf) (by have:=hx.1.2.2;omega)).1,xY3 (show _≤len l-1 by omega) (show len l-1≤_ by omega),fun _=>xY3 (by omega) (by omega),fun hf=>?_,fun _=>?_,xY3 (by omega) (by omega)⟩
   ·simp only[jK,beq_eq_false_iff_ne,ne_eq] at hf
    have hf:¬ x.2.2.1=len l-1:=hf
    exact⟨(show 0≤x.2.2.1+1 by omega),(show x.2.2.1+1<len l by omega)⟩
   ·have:=hx.2.1.2
    simp only[len] at this hl h4
    simp only[List.length_cons,List.length_nil]
    omega) (fun x hx hg=>by
   have h4:x.2.2.1<len l:=jF hg
   obtain⟨s1,s2,s3⟩:=step x hx.1 h4
   have hle:=hx.2.1.2
   refine⟨⟨⟨(show 0≤x.2.2.1+1 by omega),fun _=>s2,s3⟩,⟨(show x.2.2.1+1≤len l by omega),?_⟩,?_⟩,(show (len l-(x.2.2.1+1)).toNat<(len l-x.2.2.1).toNat by omega)⟩
   ·simp only[wF0,vT6]
    cases (bif (x.2.2.1==(len l-1)) then true else ((nth l (x.2.2.1+1) Z128).1==1)) with
    |true=>simp only[jE,wI7,wJ7];omega
    |false=>simp only[jD];omega
   ·simp only[wF0,vT6]
    cases (bif (x.2.2.1==(len l-1)) then true else ((nth l (x.2.2.1+1) Z128).1==1)) with
    |true =>
     simp only[jE]
     intro q hq
     rcases List.mem_append.1 hq with hq|hq
     ·exact hx.2.2 q hq
     ·rw[jH.1 hq];omega
    |false=>simp only[jD];exact hx.2.2) (x:=([],[],0,())) ⟨⟨by decide,fun h=>absurd h (by decide),by simp[len]⟩,⟨xT7 l,by simp[len]⟩,fun q hq=>by cases hq⟩ (by unfold zI1;simp only;omega)
 exact⟨h.1,by have h1:=h.2.1.2.1.1;have h2:=h.2.1.2.1.2;omega,h.2.1.2.2⟩
theorem rL1 (l:List D128)(hl:len l<9223372036854775808):vO9 l∧Few 128 4096 (f126 l).1:=by
 refine⟨⟨sC3 l hl,fun h0=>?_⟩,?_⟩
 ·have h0:f140 l=0:=by simpa using h0
  exact (oO1 l (vB1 hl h0).1 (vB1 hl h0).2).1
 ·simp only[f126,qR3,vO8]
  cases h0:(f140 l !=0) with
  |true=>exact⟨by simp[len],fun q hq=>by cases hq⟩
  |false =>
   have h0:f140 l=0:=by simpa using h0
   exact (oO1 l (vB1 hl h0).1 (vB1 hl h0).2).2
theorem qZ6 (l:List D128)(hl:len l<9223372036854775808):tB7 l:=⟨sC3 l hl,fun h0=>by
 have h0:f140 l=0:=by simpa using h0
 have hk:=(vB1 hl h0).1
 refine xQ1 (fun x=>0≤x.2.1∧x.2.1≤len l∧len x.1≤x.2.1) (fun x=>(len l-x.2.1).toNat) (fun x hx=>fun h3=>?_) (fun x hx hg=>?_) ⟨by decide,xT7 l,by simp[len]⟩ (by unfold zI1;simp only;omega)
 ·have h4:x.2.1<len l:=jF h3
  refine⟨⟨hx.1,h4⟩,xY3 (show _≤len l-1 by omega) (show len l-1≤_ by omega),fun _=>xY3 (by omega) (by omega),fun hf=>?_,fun _=>?_,xY3 (by omega) (by omega)⟩
  ·simp only[jK,beq_eq_false_iff_ne,ne_eq] at hf
   have hf:¬ x.2.1=len l-1:=hf
   exact⟨(show 0≤x.2.1+1 by omega),(show x.2.1+1<len l by omega)⟩
  ·have:=hx.2.2
   simp only[len] at this hk h4
   simp only[List.length_cons,List.length_nil]
   omega
 ·have h4:x.2.1<len l:=jF hg
  refine⟨⟨(show 0≤x.2.1+1 by omega),(show x.2.1+1≤len l by omega),?_⟩,(show (len l-(x.2.1+1)).toNat<(len l-x.2.1).toNat by omega)⟩
  have:=hx.2.2
  simp only[vC,uC6]
  cases (bif (x.2.1==(len l-1)) then true else ((nth l (x.2.1+1) Z128).1==1)) with
  |true=>simp only[jE,wI7,wJ7];omega
  |false=>simp only[jD];omega⟩
end Go.Proofs.YtpanghcojpnkaaaGreatDoor.Am
