/- node.Check answers for every node: paths. Condition: lengths of Go slices. -/
import Derived.Test.YtpanghcojpnkaaaGreatDoorDocA
namespace Go.Proofs.YtpanghcojpnkaaaGreatDoor.Am
open Go Go.Am
theorem inb0:InB (0:Int) 3:=by unfold InB; omega
theorem inb1:InB (1:Int) 3:=by unfold InB; omega
theorem inb2:InB (2:Int) 3:=by unfold InB; omega
theorem len_one {α:Type} (x:α):len [x] = 1:=rfl
theorem qA7 (p:Int):0 ≤ f141 p ∧ f141 p ≤ 3:=by
 simp only [f141,qH0]
 cases (p == 3) <;> cases (p == 4) <;> cases (p == 5) <;> simp
theorem seg9 (y:wM6):Am.Ends (wJ6 y) (wE y) (wU5 y) (0,()) ∧ wJ6 y (zC1 (wJ6 y) (wE y) (0,())) = false:=by
 have h:=whole (g:=wJ6 y) (next:=wE y) (ok:=wU5 y) (fun x=>0 ≤ x.1 ∧ x.1 ≤ 3) (fun x=>(3 - x.1).toNat) (fun x hx=>fun h3=>by
   have h4:x.1 < 3:=of_decide_eq_true h3
   exact ⟨⟨hx.1,h4⟩,uS1 _,fun _=>rC8 _,fun _=>inr_small (by omega) (by omega)⟩) (fun x hx hg=>by
   have h4:x.1 < 3:=and_lt hg
   exact ⟨(show 0 ≤ x.1 + 1 ∧ x.1 + 1 ≤ 3 by omega),(show (3 - (x.1 + 1)).toNat < (3 - x.1).toNat by omega)⟩) (x:=(0,())) ⟨by decide,by decide⟩ (by simp [zI1])
 exact ⟨h.1,h.2.2⟩
theorem seg4 (l:List D128) (hl:len l < 9223372036854775808) :
  Am.Ends (wG2 (l,l,len l,())) (wE0 (l,l,len l,())) (vA8 (l,l,len l,())) (0,()) ∧
  (0 ≤ (zC1 (wG2 (l,l,len l,())) (wE0 (l,l,len l,())) (0,())).1 ∧ (0 < (zC1 (wG2 (l,l,len l,())) (wE0 (l,l,len l,())) (0,())).1 → (nth l 0 Z128).1 = 1)) ∧
  wG2 (l,l,len l,()) (zC1 (wG2 (l,l,len l,())) (wE0 (l,l,len l,())) (0,())) = false:=by
 refine whole (fun x:wG1=>0 ≤ x.1 ∧ (0 < x.1 → (nth l 0 Z128).1 = 1)) (fun x=>(len l - x.1).toNat) (fun x hx=>fun h3=>?_) (fun x hx hg=>?_) ⟨by decide,fun h=>absurd h (by decide)⟩ (by unfold zI1; simp only; omega)
 ·have h4:x.1 < len l:=of_decide_eq_true h3
  refine ⟨⟨hx.1,h4⟩,fun _=>⟨(seg9 _).1,fun _=>⟨fun h5=>?_,fun h5=>?_⟩⟩,fun _=>inr_small (by omega) (by omega)⟩
  ·exact inr_small (by omega) (by omega)
  ·simp only [Bool.and_eq_true,Bool.not_eq_true',beq_eq_false_iff_ne,ne_eq] at h5
   exact ⟨(show 0 ≤ x.1 - 1 by omega),(show x.1 - 1 < len l by omega)⟩
 ·have h4:x.1 < len l:=and_lt hg
  refine ⟨⟨(show 0 ≤ x.1 + 1 by omega),fun _=>?_⟩,(show (len l - (x.1 + 1)).toNat < (len l - x.1).toNat by omega)⟩
  by_cases h0:x.1 = 0
  ·simp only [wG2,wT1,h0] at hg
   simp only [Bool.and_eq_true,Bool.not_eq_true'] at hg
   have h5:=hg.2.2.2
   cases hk:((nth l 0 Z128).1 != 1) with
   | true=>simp [hk] at h5
   | false=>simpa using hk
  ·exact hx.2 (by omega)
theorem tW6 (l:List D128) (hl:len l < 9223372036854775808):vJ5 l:=fun _=>(seg4 l hl).1
theorem wX3 {l:List D128} (hl:len l < 9223372036854775808) (h:f140 l = 0):len l ≤ 128 ∧ (0 < len l → (nth l 0 Z128).1 = 1):=by
 obtain ⟨_,⟨h1,h2⟩,h3⟩:=seg4 l hl
 simp only [f140,qH5] at h
 generalize zC1 (wG2 (l,l,len l,())) (wE0 (l,l,len l,())) (0,()) = e at h h1 h2 h3
 have hv:decide (len l > 128) = false:=by
  cases hv:decide (len l > 128) with
  | false=>rfl
  | true=>simp [hv] at h
 have hle:=of_decide_eq_false hv
 refine ⟨by omega,fun hp=>h2 ?_⟩
 have he1:vA9 (l,l,len l,()) e = false:=by
  cases he:vA9 (l,l,len l,()) e with
  | false=>rfl
  | true =>
   simp only [hv,he,cond_false,cond_true,vJ4] at h
   revert h
   cases (bif (decide ((nth l e.1 Z128).1 < 1)) then true else (decide ((nth l e.1 Z128).1 > 5))) <;> simp only [cond_true,cond_false]
   ·cases wU6 _ _ <;> simp [vJ3]
   ·simp
 by_cases hlt:e.1 < len l
 ·exfalso
  simp only [wG2,wT1] at h3
  simp only [vA9,wT1] at he1
  have h9:=(seg9 (l,e.1,nth l e.1 Z128,l,len l,e.1,(nth l e.1 Z128).2.1,())).2
  generalize zC1 (wJ6 (l,e.1,nth l e.1 Z128,l,len l,e.1,(nth l e.1 Z128).2.1,())) (wE (l,e.1,nth l e.1 Z128,l,len l,e.1,(nth l e.1 Z128).2.1,())) (0,()) = z at h3 he1 h9
  generalize (bif (decide ((nth l e.1 Z128).1 < 1)) then true else (decide ((nth l e.1 Z128).1 > 5))) = v24 at h3 he1
  generalize (bif (nth l e.1 Z128).1 != 1 then (bif e.1 == 0 then true else ((nth l (e.1 - 1) Z128).1 == 5)) else false) = v61 at h3 he1
  have e4:uF6 (l,e.1,nth l e.1 Z128,l,len l,e.1,(nth l e.1 Z128).2.1,()) z = !(decide (z.1 < 3)):=rfl
  have e1:wU6 (l,e.1,nth l e.1 Z128,l,len l,e.1,(nth l e.1 Z128).2.1,()) z = true ∨ decide (z.1 < 3) = false:=by
   cases hz:decide (z.1 < 3) with
   | false=>exact .inr rfl
   | true =>
    left
    simp only [wJ6,wX9,hz,Bool.true_and,Bool.not_eq_false'] at h9
    simp only [wU6,wX9,hz,Bool.true_and]
    exact h9
  simp only [hlt,decide_true,Bool.true_and] at h3 he1
  rw [e4] at h3 he1
  rcases e1 with e1 | e1
  ·rw [e1] at he1; cases v24 <;> simp_all
  ·rw [e1] at h3 he1; cases v24 <;> cases v61 <;> simp_all
 ·omega
theorem place13 (y:wD6) {n:Int} (hk:y.2.2.2.2.2.2.1 ≤ 3) (l:List D128) (hn:len l = n) (hi:InB y.2.1 n) :
  Am.Ends (wI0 y) (wB6 y) (wN3 y) (l,0,()) ∧ len (zC1 (wI0 y) (wB6 y) (l,0,())).1 = n:=by
 have h:=whole (g:=wI0 y) (next:=wB6 y) (ok:=wN3 y) (fun x=>len x.1 = n ∧ 0 ≤ x.2.1 ∧ x.2.1 ≤ 3) (fun x=>(3 - x.2.1).toNat) (fun x hx=>fun h3=>by
   have h4:x.2.1 < y.2.2.2.2.2.2.1:=of_decide_eq_true h3
   obtain ⟨k1,k2⟩:=hi
   refine ⟨⟨hx.2.1,by omega⟩,rD _ _,uS1 _,fun _=>⟨⟨k1,?_⟩,⟨hx.2.1,by omega⟩,?_⟩,fun _=>inr_small (by omega) (by omega)⟩
   ·show y.2.1 < len x.1; rw [hx.1]; exact k2
   ·show y.2.1 < len x.1; rw [hx.1]; exact k2) (fun x hx hg=>by
   have h4:x.2.1 < y.2.2.2.2.2.2.1:=and_lt hg
   exact ⟨⟨(show len (List.set x.1 _ _) = n by rw [len_set]; exact hx.1),(show 0 ≤ x.2.1 + 1 ∧ x.2.1 + 1 ≤ 3 by omega)⟩,(show (3 - (x.2.1 + 1)).toNat < (3 - x.2.1).toNat by omega)⟩) (x:=(l,0,())) ⟨hn,Int.le_refl 0,(by decide:(0:Int) ≤ 3)⟩ (by simp [zI1])
 exact ⟨h.1,h.2.1.1⟩
theorem place9_next (a:D37) (l:List D128) (x:wD7):wG3 (a,l,len l,()) x = ((zC1 (wI0 (a,x.2.1,nth l x.2.1 Z128,l,len l,x.2.1,f141 (nth l x.2.1 Z128).1,())) (wB6 (a,x.2.1,nth l x.2.1 Z128,l,len l,x.2.1,f141 (nth l x.2.1 Z128).1,())) (List.set x.1 (Int.toNat x.2.1) ((nth l x.2.1 Z128).1,(nth x.1 x.2.1 Z128).2.1,()),0,())).1,x.2.1 + 1,()):=rfl
theorem place9 (l:List D128) (a:D37) (z:List D128) (hz:len z = len l) (hl:len l ≤ 128) :
  Am.Ends (vB1 (a,l,len l,())) (wG3 (a,l,len l,())) (wU7 (a,l,len l,())) (z,0,()) ∧ len (zC1 (vB1 (a,l,len l,())) (wG3 (a,l,len l,())) (z,0,())).1 = len l:=by
 have h:=whole (g:=vB1 (a,l,len l,())) (next:=wG3 (a,l,len l,())) (ok:=wU7 (a,l,len l,())) (fun x=>len x.1 = len l ∧ 0 ≤ x.2.1) (fun x=>(len l - x.2.1).toNat) (fun x hx=>fun h3=>?_) (fun x hx hg=>?_) (x:=(z,0,())) ⟨hz,Int.le_refl 0⟩ (by unfold zI1; simp only; omega)
 ·exact ⟨h.1,h.2.1.1⟩
 ·have h4:x.2.1 < len l:=of_decide_eq_true h3
  have hb:InB x.2.1 (len l):=⟨hx.2,h4⟩
  refine ⟨hb,?_,?_,rC8 _,(place13 _ (qA7 _).2 _ (by rw [len_set]; exact hx.1) hb).1,fun _=>inr_small (by omega) (by omega)⟩
  ·show InB x.2.1 (len x.1); rw [hx.1]; exact hb
  ·show x.2.1 < len x.1; rw [hx.1]; exact h4
 ·have h4:x.2.1 < len l:=and_lt hg
  have hb:InB x.2.1 (len l):=⟨hx.2,h4⟩
  have h13:=(place13 (a,x.2.1,nth l x.2.1 Z128,l,len l,x.2.1,f141 (nth l x.2.1 Z128).1,()) (qA7 _).2 (List.set x.1 (Int.toNat x.2.1) ((nth l x.2.1 Z128).1,(nth x.1 x.2.1 Z128).2.1,())) (by rw [len_set]; exact hx.1) hb).2
  rw [place9_next]
  exact ⟨⟨h13,(show 0 ≤ x.2.1 + 1 by omega)⟩,(show (len l - (x.2.1 + 1)).toNat < (len l - x.2.1).toNat by omega)⟩
theorem qU (l:List D128) (a:D37) (hl:len l < 9223372036854775808):uW1 l a ∧ len (f125 l a).1 ≤ 128:=by
 have hrep:len (List.replicate (Int.toNat (len l)) Z128) = len l:=by simp [len]
 refine ⟨⟨tW6 l hl,fun h0=>⟨uH7 _,fun _=>?_⟩⟩,?_⟩
 ·have h0:f140 l = 0:=by simpa using h0
  have hk:=(wX3 hl h0).1
  have:=xT7 l
  exact ⟨⟨by omega,by omega,by omega⟩,(place9 l a _ hrep hk).1⟩
 ·simp only [f125,qI]
  cases h0:(f140 l != 0) with
  | true=>simp [len]
  | false =>
   have h0:f140 l = 0:=by simpa using h0
   have hk:=(wX3 hl h0).1
   have h9:=(place9 l a _ hrep hk).2
   simp only [cond_false]
   cases (f77 a != 0) with
   | true=>simp [len]
   | false =>
    simp only [cond_false]
    cases uF8 _ _ with
    | true=>simp [vJ7,vF3,len]
    | false=>simp only [cond_false,vJ8]; rw [h9]; exact hk
theorem uF {p:D125} {l:List D125} (h1:1 ≤ len l) (h2:len l ≤ 2147483648):wN4 p l ∧ len l ≤ len (wG4 p l).1 ∧ len (wG4 p l).1 ≤ len l + 1:=by
 have hw:IntKind.wrap .i64 (len l - 1) = len l - 1:=wrap_in (inr_small (by omega) (by omega))
 refine ⟨⟨?_,fun _=>?_⟩,?_⟩
 ·rw [hw]; exact ⟨by omega,by omega⟩
 ·simp only [len] at h2; simp only [List.length_cons,List.length_nil]; omega
 ·simp only [wG4,vY2]
  cases (!(Ty.eqb T125 p (nth l (IntKind.wrap .i64 (len l - 1)) Z125))) with
  | true=>simp only [cond_true,len_app,len_one]; omega
  | false=>simp only [cond_false]; omega
theorem ext8 (y:wG5) (l:List D125) (h1:1 ≤ len l) (h2:len l ≤ 1073741824) :
  Am.Ends (wG6 y) (wB1 y) (wI1 y) (l,1,()) ∧ len l ≤ len (zC1 (wG6 y) (wB1 y) (l,1,())).1 ∧ len (zC1 (wG6 y) (wB1 y) (l,1,())).1 ≤ len l + 16:=by
 have h:=whole (g:=wG6 y) (next:=wB1 y) (ok:=wI1 y) (fun x=>(1 ≤ x.2.1 ∧ x.2.1 ≤ 9) ∧ len l ≤ len x.1 ∧ len x.1 ≤ len l + (x.2.1 - 1)) (fun x=>(9 - x.2.1).toNat) (fun x hx=>fun _=>by
   exact ⟨inb0,inb1,wA0 _ _,inb0,inb1,wA0 _ _,(uF (by omega) (by omega)).1⟩) (fun x hx hg=>by
   have h4:x.2.1 ≤ 8:=of_decide_eq_true hg
   have hw:IntKind.wrap .i64 (x.2.1 + 1) = x.2.1 + 1:=wrap_in (inr_small (by omega) (by omega))
   have ha:∀ q:D125,len x.1 ≤ len (wG4 q x.1).1 ∧ len (wG4 q x.1).1 ≤ len x.1 + 1:=fun q=>(uF (p:=q) (by omega) (by omega)).2
   simp only [wB1,wW3]
   rw [hw]
   exact ⟨⟨⟨by omega,by omega⟩,Int.le_trans hx.2.1 (ha _).1,Int.le_trans (ha _).2 (by omega)⟩,by omega⟩) (x:=(l,1,())) ⟨⟨Int.le_refl 1,(by decide:(1:Int) ≤ 9)⟩,Int.le_refl _,(show len l ≤ len l + (1 - 1) by omega)⟩ (by simp [zI1])
 exact ⟨h.1,h.2.1.2.1,by have:=h.2.1.2.2; have:=h.2.1.1.2; omega⟩
theorem ext15 (y:wE6) (l:List D125) (h1:1 ≤ len l) (h2:len l ≤ 1073741824) :
  Am.Ends (wE7 y) (wA6 y) (wF1 y) (l,1,()) ∧ len l ≤ len (zC1 (wE7 y) (wA6 y) (l,1,())).1 ∧ len (zC1 (wE7 y) (wA6 y) (l,1,())).1 ≤ len l + 16:=by
 have h:=whole (g:=wE7 y) (next:=wA6 y) (ok:=wF1 y) (fun x=>(1 ≤ x.2.1 ∧ x.2.1 ≤ 17) ∧ len l ≤ len x.1 ∧ len x.1 ≤ len l + (x.2.1 - 1)) (fun x=>(17 - x.2.1).toNat) (fun x hx=>fun _=>by
   exact ⟨inb0,inb1,inb2,wA0 _ _,inb0,inb1,inb2,wA0 _ _,(uF (by omega) (by omega)).1⟩) (fun x hx hg=>by
   have h4:x.2.1 ≤ 16:=of_decide_eq_true hg
   have hw:IntKind.wrap .i64 (x.2.1 + 1) = x.2.1 + 1:=wrap_in (inr_small (by omega) (by omega))
   have ha:∀ q:D125,len x.1 ≤ len (wG4 q x.1).1 ∧ len (wG4 q x.1).1 ≤ len x.1 + 1:=fun q=>(uF (p:=q) (by omega) (by omega)).2
   simp only [wA6,wP9]
   rw [hw]
   exact ⟨⟨⟨by omega,by omega⟩,Int.le_trans hx.2.1 (ha _).1,Int.le_trans (ha _).2 (by omega)⟩,by omega⟩) (x:=(l,1,())) ⟨⟨Int.le_refl 1,(by decide:(1:Int) ≤ 17)⟩,Int.le_refl _,(show len l ≤ len l + (1 - 1) by omega)⟩ (by simp [zI1])
 exact ⟨h.1,h.2.1.2.1,by have:=h.2.1.2.2; have:=h.2.1.1.2; omega⟩
theorem rD0 {l:List D125} {s:D128} (h1:1 ≤ len l) (h2:len l ≤ 1073741824):vB2 l s ∧ len l ≤ len (vU5 l s) ∧ len (vU5 l s) ≤ len l + 16:=by
 have hw:IntKind.wrap .i64 (len l - 1) = len l - 1:=wrap_in (inr_small (by omega) (by omega))
 have ha:=uF (p:=nth s.2.1 (0:Int) Z125) h1 (show len l ≤ 2147483648 by omega)
 refine ⟨⟨?_,fun _=>⟨inb0,ha.1⟩,fun _=>⟨fun _=>(ext8 _ l h1 h2).1,fun _ _=>(ext15 _ l h1 h2).1⟩⟩,?_⟩
 ·rw [hw]; exact ⟨by omega,by omega⟩
 ·simp only [vU5,uP9,wW4,wS4]
  have h8:=(ext8 (s,nth l (IntKind.wrap .i64 (len l - 1)) Z125,((),()),()) l h1 h2).2
  have h15:=(ext15 (s,nth l (IntKind.wrap .i64 (len l - 1)) Z125,((),()),()) l h1 h2).2
  cases (s.1 == 2) with
  | true=>simp only [cond_true]; omega
  | false =>
   cases (s.1 == 3) with
   | true=>simp only [cond_true,cond_false]; exact h8
   | false =>
    cases (s.1 == 4) with
    | true=>simp only [cond_true,cond_false]; exact h15
    | false=>simp only [cond_false]; omega
def Few (n m:Int) (l:List (List D125)):Prop:=len l ≤ n ∧ ∀ q ∈ l,len q ≤ m
theorem flat7 (l:List D128) (hl:len l ≤ 128) (h0:0 < len l → (nth l 0 Z128).1 = 1) :
  Am.Ends (vB4 (l,l,len l,())) (wE2 (l,l,len l,())) (wU8 (l,l,len l,())) ([],[],0,()) ∧ Few 128 4096 (zC1 (vB4 (l,l,len l,())) (wE2 (l,l,len l,())) ([],[],0,())).1:=by
 have step:∀ x:wM7,(0 ≤ x.2.2.1 ∧ (0 < x.2.2.1 → 1 ≤ len x.2.1) ∧ len x.2.1 ≤ 1 + 16 * x.2.2.1) → x.2.2.1 < len l →
   (((nth l x.2.2.1 Z128).1 == 1) = false → 1 ≤ len x.2.1) ∧
   1 ≤ len (bif ((nth l x.2.2.1 Z128).1 == 1) then ([(nth (nth l x.2.2.1 Z128).2.1 (0:Int) Z125)]:List D125) else (vU5 x.2.1 (nth l x.2.2.1 Z128))) ∧
   len (bif ((nth l x.2.2.1 Z128).1 == 1) then ([(nth (nth l x.2.2.1 Z128).2.1 (0:Int) Z125)]:List D125) else (vU5 x.2.1 (nth l x.2.2.1 Z128))) ≤ 1 + 16 * (x.2.2.1 + 1):=by
  intro x hx hlt
  have hne:((nth l x.2.2.1 Z128).1 == 1) = false → 1 ≤ len x.2.1:=fun hf=>by
   by_cases hz:x.2.2.1 = 0
   ·have:=h0 (by omega)
    rw [hz,this] at hf
    simp at hf
   ·exact hx.2.1 (by omega)
  refine ⟨hne,?_⟩
  cases hk:((nth l x.2.2.1 Z128).1 == 1) with
  | true=>simp only [cond_true,len_one]; omega
  | false =>
   simp only [cond_false]
   have ha:=(rD0 (s:=nth l x.2.2.1 Z128) (hne hk) (show len x.2.1 ≤ 1073741824 by omega)).2
   have:=hne hk
   omega
 have h:=whole (g:=vB4 (l,l,len l,())) (next:=wE2 (l,l,len l,())) (ok:=wU8 (l,l,len l,())) (fun x=>(0 ≤ x.2.2.1 ∧ (0 < x.2.2.1 → 1 ≤ len x.2.1) ∧ len x.2.1 ≤ 1 + 16 * x.2.2.1) ∧ (x.2.2.1 ≤ len l ∧ len x.1 ≤ x.2.2.1) ∧ ∀ q ∈ x.1,len q ≤ 4096) (fun x=>(len l - x.2.2.1).toNat) (fun x hx=>fun h3=>by
   have h4:x.2.2.1 < len l:=of_decide_eq_true h3
   obtain ⟨s1,s2,s3⟩:=step x hx.1 h4
   refine ⟨⟨hx.1.1,h4⟩,fun _=>inb0,fun hf=>(rD0 (s1 hf) (by have:=hx.1.2.2; omega)).1,inr_small (show _ ≤ len l - 1 by omega) (show len l - 1 ≤ _ by omega),fun _=>inr_small (by omega) (by omega),fun hf=>?_,fun _=>?_,inr_small (by omega) (by omega)⟩
   ·simp only [Bool.not_eq_true',beq_eq_false_iff_ne,ne_eq] at hf
    have hf:¬ x.2.2.1 = len l - 1:=hf
    exact ⟨(show 0 ≤ x.2.2.1 + 1 by omega),(show x.2.2.1 + 1 < len l by omega)⟩
   ·have:=hx.2.1.2
    simp only [len] at this hl h4
    simp only [List.length_cons,List.length_nil]
    omega) (fun x hx hg=>by
   have h4:x.2.2.1 < len l:=of_decide_eq_true hg
   obtain ⟨s1,s2,s3⟩:=step x hx.1 h4
   have hle:=hx.2.1.2
   refine ⟨⟨⟨(show 0 ≤ x.2.2.1 + 1 by omega),fun _=>s2,s3⟩,⟨(show x.2.2.1 + 1 ≤ len l by omega),?_⟩,?_⟩,(show (len l - (x.2.2.1 + 1)).toNat < (len l - x.2.2.1).toNat by omega)⟩
   ·simp only [wE2,vO7]
    cases (bif (x.2.2.1 == (len l - 1)) then true else ((nth l (x.2.2.1 + 1) Z128).1 == 1)) with
    | true=>simp only [cond_true,len_app,len_one]; omega
    | false=>simp only [cond_false]; omega
   ·simp only [wE2,vO7]
    cases (bif (x.2.2.1 == (len l - 1)) then true else ((nth l (x.2.2.1 + 1) Z128).1 == 1)) with
    | true =>
     simp only [cond_true]
     intro q hq
     rcases List.mem_append.1 hq with hq | hq
     ·exact hx.2.2 q hq
     ·rw [List.mem_singleton.1 hq]; omega
    | false=>simp only [cond_false]; exact hx.2.2) (x:=([],[],0,())) ⟨⟨by decide,fun h=>absurd h (by decide),by simp [len]⟩,⟨xT7 l,by simp [len]⟩,fun q hq=>by cases hq⟩ (by unfold zI1; simp only; omega)
 exact ⟨h.1,by have h1:=h.2.1.2.1.1; have h2:=h.2.1.2.1.2; omega,h.2.1.2.2⟩
theorem rD1 (l:List D128) (hl:len l < 9223372036854775808):vK0 l ∧ Few 128 4096 (f126 l).1:=by
 refine ⟨⟨tW6 l hl,fun h0=>?_⟩,?_⟩
 ·have h0:f140 l = 0:=by simpa using h0
  exact (flat7 l (wX3 hl h0).1 (wX3 hl h0).2).1
 ·simp only [f126,qI0,vK]
  cases h0:(f140 l != 0) with
  | true=>exact ⟨by simp [len],fun q hq=>by cases hq⟩
  | false =>
   have h0:f140 l = 0:=by simpa using h0
   exact (flat7 l (wX3 hl h0).1 (wX3 hl h0).2).2
theorem qU0 (l:List D128) (hl:len l < 9223372036854775808):uW5 l:=⟨tW6 l hl,fun h0=>by
 have h0:f140 l = 0:=by simpa using h0
 have hk:=(wX3 hl h0).1
 refine xQ1 (fun x=>0 ≤ x.2.1 ∧ x.2.1 ≤ len l ∧ len x.1 ≤ x.2.1) (fun x=>(len l - x.2.1).toNat) (fun x hx=>fun h3=>?_) (fun x hx hg=>?_) ⟨by decide,xT7 l,by simp [len]⟩ (by unfold zI1; simp only; omega)
 ·have h4:x.2.1 < len l:=of_decide_eq_true h3
  refine ⟨⟨hx.1,h4⟩,inr_small (show _ ≤ len l - 1 by omega) (show len l - 1 ≤ _ by omega),fun _=>inr_small (by omega) (by omega),fun hf=>?_,fun _=>?_,inr_small (by omega) (by omega)⟩
  ·simp only [Bool.not_eq_true',beq_eq_false_iff_ne,ne_eq] at hf
   have hf:¬ x.2.1 = len l - 1:=hf
   exact ⟨(show 0 ≤ x.2.1 + 1 by omega),(show x.2.1 + 1 < len l by omega)⟩
  ·have:=hx.2.2
   simp only [len] at this hk h4
   simp only [List.length_cons,List.length_nil]
   omega
 ·have h4:x.2.1 < len l:=of_decide_eq_true hg
  refine ⟨⟨(show 0 ≤ x.2.1 + 1 by omega),(show x.2.1 + 1 ≤ len l by omega),?_⟩,(show (len l - (x.2.1 + 1)).toNat < (len l - x.2.1).toNat by omega)⟩
  have:=hx.2.2
  simp only [wY,vY4]
  cases (bif (x.2.1 == (len l - 1)) then true else ((nth l (x.2.1 + 1) Z128).1 == 1)) with
  | true=>simp only [cond_true,len_app,len_one]; omega
  | false=>simp only [cond_false]; omega⟩
end Go.Proofs.YtpanghcojpnkaaaGreatDoor.Am
