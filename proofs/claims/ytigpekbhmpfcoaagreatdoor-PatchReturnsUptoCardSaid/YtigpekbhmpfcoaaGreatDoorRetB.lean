/- node.Check answers for every node: paths. Condition: lengths of Go slices. -/
import Derived.Test.YtigpekbhmpfcoaaGreatDoorRetA
namespace Go.Proofs.YtigpekbhmpfcoaaGreatDoor.Am
open Go Go.Am
theorem inb0:InB (0:Int) 3:=by unfold InB; omega
theorem inb1:InB (1:Int) 3:=by unfold InB; omega
theorem inb2:InB (2:Int) 3:=by unfold InB; omega
theorem len_one {α:Type} (x:α):len [x] = 1:=rfl
theorem qV2 (p:Int):0 ≤ f129 p ∧ f129 p ≤ 3:=by
 simp only [f129,pB4]
 cases (p == 3) <;> cases (p == 4) <;> cases (p == 5) <;> simp
theorem seg9 (y:wN3):Am.Ends (wJ4 y) (wD5 y) (wW8 y) (0,()) ∧ wJ4 y (zB9 (wJ4 y) (wD5 y) (0,())) = false:=by
 have h:=whole (g:=wJ4 y) (next:=wD5 y) (ok:=wW8 y) (fun x=>0 ≤ x.1 ∧ x.1 ≤ 3) (fun x=>(3 - x.1).toNat) (fun x hx=>fun h3=>by
   have h4:x.1 < 3:=of_decide_eq_true h3
   exact ⟨⟨hx.1,h4⟩,tD5 _,fun _=>rT0 _,fun _=>inr_small (by omega) (by omega)⟩) (fun x hx hg=>by
   have h4:x.1 < 3:=and_lt hg
   exact ⟨(show 0 ≤ x.1 + 1 ∧ x.1 + 1 ≤ 3 by omega),(show (3 - (x.1 + 1)).toNat < (3 - x.1).toNat by omega)⟩) (x:=(0,())) ⟨by decide,by decide⟩ (by simp [zH8])
 exact ⟨h.1,h.2.2⟩
theorem seg4 (l:List D97) (hl:len l < 9223372036854775808) :
  Am.Ends (wG2 (l,l,len l,())) (wD6 (l,l,len l,())) (vG2 (l,l,len l,())) (0,()) ∧
  (0 ≤ (zB9 (wG2 (l,l,len l,())) (wD6 (l,l,len l,())) (0,())).1 ∧ (0 < (zB9 (wG2 (l,l,len l,())) (wD6 (l,l,len l,())) (0,())).1 → (nth l 0 Z97).1 = 1)) ∧
  wG2 (l,l,len l,()) (zB9 (wG2 (l,l,len l,())) (wD6 (l,l,len l,())) (0,())) = false:=by
 refine whole (fun x:wG1=>0 ≤ x.1 ∧ (0 < x.1 → (nth l 0 Z97).1 = 1)) (fun x=>(len l - x.1).toNat) (fun x hx=>fun h3=>?_) (fun x hx hg=>?_) ⟨by decide,fun h=>absurd h (by decide)⟩ (by unfold zH8; simp only; omega)
 ·have h4:x.1 < len l:=of_decide_eq_true h3
  refine ⟨⟨hx.1,h4⟩,fun _=>⟨(seg9 _).1,fun _=>⟨fun h5=>?_,fun h5=>?_⟩⟩,fun _=>inr_small (by omega) (by omega)⟩
  ·exact inr_small (by omega) (by omega)
  ·simp only [Bool.and_eq_true,Bool.not_eq_true',beq_eq_false_iff_ne,ne_eq] at h5
   exact ⟨(show 0 ≤ x.1 - 1 by omega),(show x.1 - 1 < len l by omega)⟩
 ·have h4:x.1 < len l:=and_lt hg
  refine ⟨⟨(show 0 ≤ x.1 + 1 by omega),fun _=>?_⟩,(show (len l - (x.1 + 1)).toNat < (len l - x.1).toNat by omega)⟩
  by_cases h0:x.1 = 0
  ·simp only [wG2,wV5,h0] at hg
   simp only [Bool.and_eq_true,Bool.not_eq_true'] at hg
   have h5:=hg.2.2.2
   cases hk:((nth l 0 Z97).1 != 1) with
   | true=>simp [hk] at h5
   | false=>simpa using hk
  ·exact hx.2 (by omega)
theorem sJ3 (l:List D97) (hl:len l < 9223372036854775808):vO8 l:=fun _=>(seg4 l hl).1
theorem vA9 {l:List D97} (hl:len l < 9223372036854775808) (h:f128 l = 0):len l ≤ 128 ∧ (0 < len l → (nth l 0 Z97).1 = 1):=by
 obtain ⟨_,⟨h1,h2⟩,h3⟩:=seg4 l hl
 simp only [f128,pB9] at h
 generalize zB9 (wG2 (l,l,len l,())) (wD6 (l,l,len l,())) (0,()) = e at h h1 h2 h3
 have hv:decide (len l > 128) = false:=by
  cases hv:decide (len l > 128) with
  | false=>rfl
  | true=>simp [hv] at h
 have hle:=of_decide_eq_false hv
 refine ⟨by omega,fun hp=>h2 ?_⟩
 have he1:vG3 (l,l,len l,()) e = false:=by
  cases he:vG3 (l,l,len l,()) e with
  | false=>rfl
  | true =>
   simp only [hv,he,cond_false,cond_true,vO7] at h
   revert h
   cases (bif (decide ((nth l e.1 Z97).1 < 1)) then true else (decide ((nth l e.1 Z97).1 > 5))) <;> simp only [cond_true,cond_false]
   ·cases wW9 _ _ <;> simp [vO6]
   ·simp
 by_cases hlt:e.1 < len l
 ·exfalso
  simp only [wG2,wV5] at h3
  simp only [vG3,wV5] at he1
  have h9:=(seg9 (l,e.1,nth l e.1 Z97,l,len l,e.1,(nth l e.1 Z97).2.1,())).2
  generalize zB9 (wJ4 (l,e.1,nth l e.1 Z97,l,len l,e.1,(nth l e.1 Z97).2.1,())) (wD5 (l,e.1,nth l e.1 Z97,l,len l,e.1,(nth l e.1 Z97).2.1,())) (0,()) = z at h3 he1 h9
  generalize (bif (decide ((nth l e.1 Z97).1 < 1)) then true else (decide ((nth l e.1 Z97).1 > 5))) = v24 at h3 he1
  generalize (bif (nth l e.1 Z97).1 != 1 then (bif e.1 == 0 then true else ((nth l (e.1 - 1) Z97).1 == 5)) else false) = v61 at h3 he1
  have e4:uP3 (l,e.1,nth l e.1 Z97,l,len l,e.1,(nth l e.1 Z97).2.1,()) z = !(decide (z.1 < 3)):=rfl
  have e1:wW9 (l,e.1,nth l e.1 Z97,l,len l,e.1,(nth l e.1 Z97).2.1,()) z = true ∨ decide (z.1 < 3) = false:=by
   cases hz:decide (z.1 < 3) with
   | false=>exact .inr rfl
   | true =>
    left
    simp only [wJ4,vC1,hz,Bool.true_and,Bool.not_eq_false'] at h9
    simp only [wW9,vC1,hz,Bool.true_and]
    exact h9
  simp only [hlt,decide_true,Bool.true_and] at h3 he1
  rw [e4] at h3 he1
  rcases e1 with e1 | e1
  ·rw [e1] at he1; cases v24 <;> simp_all
  ·rw [e1] at h3 he1; cases v24 <;> cases v61 <;> simp_all
 ·omega
theorem place13 (y:wD1) {n:Int} (hk:y.2.2.2.2.2.2.1 ≤ 3) (l:List D97) (hn:len l = n) (hi:InB y.2.1 n) :
  Am.Ends (wI2 y) (wA6 y) (wO3 y) (l,0,()) ∧ len (zB9 (wI2 y) (wA6 y) (l,0,())).1 = n:=by
 have h:=whole (g:=wI2 y) (next:=wA6 y) (ok:=wO3 y) (fun x=>len x.1 = n ∧ 0 ≤ x.2.1 ∧ x.2.1 ≤ 3) (fun x=>(3 - x.2.1).toNat) (fun x hx=>fun h3=>by
   have h4:x.2.1 < y.2.2.2.2.2.2.1:=of_decide_eq_true h3
   obtain ⟨k1,k2⟩:=hi
   refine ⟨⟨hx.2.1,by omega⟩,rT1 _ _,tD5 _,fun _=>⟨⟨k1,?_⟩,⟨hx.2.1,by omega⟩,?_⟩,fun _=>inr_small (by omega) (by omega)⟩
   ·show y.2.1 < len x.1; rw [hx.1]; exact k2
   ·show y.2.1 < len x.1; rw [hx.1]; exact k2) (fun x hx hg=>by
   have h4:x.2.1 < y.2.2.2.2.2.2.1:=and_lt hg
   exact ⟨⟨(show len (List.set x.1 _ _) = n by rw [len_set]; exact hx.1),(show 0 ≤ x.2.1 + 1 ∧ x.2.1 + 1 ≤ 3 by omega)⟩,(show (3 - (x.2.1 + 1)).toNat < (3 - x.2.1).toNat by omega)⟩) (x:=(l,0,())) ⟨hn,Int.le_refl 0,(by decide:(0:Int) ≤ 3)⟩ (by simp [zH8])
 exact ⟨h.1,h.2.1.1⟩
theorem place9_next (a:D45) (l:List D97) (x:wD2):wG3 (a,l,len l,()) x = ((zB9 (wI2 (a,x.2.1,nth l x.2.1 Z97,l,len l,x.2.1,f129 (nth l x.2.1 Z97).1,())) (wA6 (a,x.2.1,nth l x.2.1 Z97,l,len l,x.2.1,f129 (nth l x.2.1 Z97).1,())) (List.set x.1 (Int.toNat x.2.1) ((nth l x.2.1 Z97).1,(nth x.1 x.2.1 Z97).2.1,()),0,())).1,x.2.1 + 1,()):=rfl
theorem place9 (l:List D97) (a:D45) (z:List D97) (hz:len z = len l) (hl:len l ≤ 128) :
  Am.Ends (vG5 (a,l,len l,())) (wG3 (a,l,len l,())) (wX (a,l,len l,())) (z,0,()) ∧ len (zB9 (vG5 (a,l,len l,())) (wG3 (a,l,len l,())) (z,0,())).1 = len l:=by
 have h:=whole (g:=vG5 (a,l,len l,())) (next:=wG3 (a,l,len l,())) (ok:=wX (a,l,len l,())) (fun x=>len x.1 = len l ∧ 0 ≤ x.2.1) (fun x=>(len l - x.2.1).toNat) (fun x hx=>fun h3=>?_) (fun x hx hg=>?_) (x:=(z,0,())) ⟨hz,Int.le_refl 0⟩ (by unfold zH8; simp only; omega)
 ·exact ⟨h.1,h.2.1.1⟩
 ·have h4:x.2.1 < len l:=of_decide_eq_true h3
  have hb:InB x.2.1 (len l):=⟨hx.2,h4⟩
  refine ⟨hb,?_,?_,rT0 _,(place13 _ (qV2 _).2 _ (by rw [len_set]; exact hx.1) hb).1,fun _=>inr_small (by omega) (by omega)⟩
  ·show InB x.2.1 (len x.1); rw [hx.1]; exact hb
  ·show x.2.1 < len x.1; rw [hx.1]; exact h4
 ·have h4:x.2.1 < len l:=and_lt hg
  have hb:InB x.2.1 (len l):=⟨hx.2,h4⟩
  have h13:=(place13 (a,x.2.1,nth l x.2.1 Z97,l,len l,x.2.1,f129 (nth l x.2.1 Z97).1,()) (qV2 _).2 (List.set x.1 (Int.toNat x.2.1) ((nth l x.2.1 Z97).1,(nth x.1 x.2.1 Z97).2.1,())) (by rw [len_set]; exact hx.1) hb).2
  rw [place9_next]
  exact ⟨⟨h13,(show 0 ≤ x.2.1 + 1 by omega)⟩,(show (len l - (x.2.1 + 1)).toNat < (len l - x.2.1).toNat by omega)⟩
theorem pO4 (l:List D97) (a:D45) (hl:len l < 9223372036854775808):tI0 l a ∧ len (f113 l a).1 ≤ 128:=by
 have hrep:len (List.replicate (Int.toNat (len l)) Z97) = len l:=by simp [len]
 refine ⟨⟨sJ3 l hl,fun h0=>⟨uS5 _,fun _=>?_⟩⟩,?_⟩
 ·have h0:f128 l = 0:=by simpa using h0
  have hk:=(vA9 hl h0).1
  have:=xT l
  exact ⟨⟨by omega,by omega,by omega⟩,(place9 l a _ hrep hk).1⟩
 ·simp only [f113,pC3]
  cases h0:(f128 l != 0) with
  | true=>simp [len]
  | false =>
   have h0:f128 l = 0:=by simpa using h0
   have hk:=(vA9 hl h0).1
   have h9:=(place9 l a _ hrep hk).2
   simp only [cond_false]
   cases (f77 a != 0) with
   | true=>simp [len]
   | false =>
    simp only [cond_false]
    cases uP5 _ _ with
    | true=>simp [vP,vK7,len]
    | false=>simp only [cond_false,vP0]; rw [h9]; exact hk
theorem uO1 {p:D94} {l:List D94} (h1:1 ≤ len l) (h2:len l ≤ 2147483648):wO4 p l ∧ len l ≤ len (wG4 p l).1 ∧ len (wG4 p l).1 ≤ len l + 1:=by
 have hw:IntKind.wrap .i64 (len l - 1) = len l - 1:=wrap_in (inr_small (by omega) (by omega))
 refine ⟨⟨?_,fun _=>?_⟩,?_⟩
 ·rw [hw]; exact ⟨by omega,by omega⟩
 ·simp only [len] at h2; simp only [List.length_cons,List.length_nil]; omega
 ·simp only [wG4,uF4]
  cases (!(Ty.eqb T94 p (nth l (IntKind.wrap .i64 (len l - 1)) Z94))) with
  | true=>simp only [cond_true,len_app,len_one]; omega
  | false=>simp only [cond_false]; omega
theorem ext8 (y:wG5) (l:List D94) (h1:1 ≤ len l) (h2:len l ≤ 1073741824) :
  Am.Ends (wG6 y) (wA1 y) (wI3 y) (l,1,()) ∧ len l ≤ len (zB9 (wG6 y) (wA1 y) (l,1,())).1 ∧ len (zB9 (wG6 y) (wA1 y) (l,1,())).1 ≤ len l + 16:=by
 have h:=whole (g:=wG6 y) (next:=wA1 y) (ok:=wI3 y) (fun x=>(1 ≤ x.2.1 ∧ x.2.1 ≤ 9) ∧ len l ≤ len x.1 ∧ len x.1 ≤ len l + (x.2.1 - 1)) (fun x=>(9 - x.2.1).toNat) (fun x hx=>fun _=>by
   exact ⟨inb0,inb1,wA8 _ _,inb0,inb1,wA8 _ _,(uO1 (by omega) (by omega)).1⟩) (fun x hx hg=>by
   have h4:x.2.1 ≤ 8:=of_decide_eq_true hg
   have hw:IntKind.wrap .i64 (x.2.1 + 1) = x.2.1 + 1:=wrap_in (inr_small (by omega) (by omega))
   have ha:∀ q:D94,len x.1 ≤ len (wG4 q x.1).1 ∧ len (wG4 q x.1).1 ≤ len x.1 + 1:=fun q=>(uO1 (p:=q) (by omega) (by omega)).2
   simp only [wA1,wZ3]
   rw [hw]
   exact ⟨⟨⟨by omega,by omega⟩,Int.le_trans hx.2.1 (ha _).1,Int.le_trans (ha _).2 (by omega)⟩,by omega⟩) (x:=(l,1,())) ⟨⟨Int.le_refl 1,(by decide:(1:Int) ≤ 9)⟩,Int.le_refl _,(show len l ≤ len l + (1 - 1) by omega)⟩ (by simp [zH8])
 exact ⟨h.1,h.2.1.2.1,by have:=h.2.1.2.2; have:=h.2.1.1.2; omega⟩
theorem ext15 (y:wE1) (l:List D94) (h1:1 ≤ len l) (h2:len l ≤ 1073741824) :
  Am.Ends (wE2 y) (xZ7 y) (wF1 y) (l,1,()) ∧ len l ≤ len (zB9 (wE2 y) (xZ7 y) (l,1,())).1 ∧ len (zB9 (wE2 y) (xZ7 y) (l,1,())).1 ≤ len l + 16:=by
 have h:=whole (g:=wE2 y) (next:=xZ7 y) (ok:=wF1 y) (fun x=>(1 ≤ x.2.1 ∧ x.2.1 ≤ 17) ∧ len l ≤ len x.1 ∧ len x.1 ≤ len l + (x.2.1 - 1)) (fun x=>(17 - x.2.1).toNat) (fun x hx=>fun _=>by
   exact ⟨inb0,inb1,inb2,wA8 _ _,inb0,inb1,inb2,wA8 _ _,(uO1 (by omega) (by omega)).1⟩) (fun x hx hg=>by
   have h4:x.2.1 ≤ 16:=of_decide_eq_true hg
   have hw:IntKind.wrap .i64 (x.2.1 + 1) = x.2.1 + 1:=wrap_in (inr_small (by omega) (by omega))
   have ha:∀ q:D94,len x.1 ≤ len (wG4 q x.1).1 ∧ len (wG4 q x.1).1 ≤ len x.1 + 1:=fun q=>(uO1 (p:=q) (by omega) (by omega)).2
   simp only [xZ7,wS4]
   rw [hw]
   exact ⟨⟨⟨by omega,by omega⟩,Int.le_trans hx.2.1 (ha _).1,Int.le_trans (ha _).2 (by omega)⟩,by omega⟩) (x:=(l,1,())) ⟨⟨Int.le_refl 1,(by decide:(1:Int) ≤ 17)⟩,Int.le_refl _,(show len l ≤ len l + (1 - 1) by omega)⟩ (by simp [zH8])
 exact ⟨h.1,h.2.1.2.1,by have:=h.2.1.2.2; have:=h.2.1.1.2; omega⟩
theorem rT2 {l:List D94} {s:D97} (h1:1 ≤ len l) (h2:len l ≤ 1073741824):vG6 l s ∧ len l ≤ len (uA7 l s) ∧ len (uA7 l s) ≤ len l + 16:=by
 have hw:IntKind.wrap .i64 (len l - 1) = len l - 1:=wrap_in (inr_small (by omega) (by omega))
 have ha:=uO1 (p:=nth s.2.1 (0:Int) Z94) h1 (show len l ≤ 2147483648 by omega)
 refine ⟨⟨?_,fun _=>⟨inb0,ha.1⟩,fun _=>⟨fun _=>(ext8 _ l h1 h2).1,fun _ _=>(ext15 _ l h1 h2).1⟩⟩,?_⟩
 ·rw [hw]; exact ⟨by omega,by omega⟩
 ·simp only [uA7,tB4,wZ4,wV]
  have h8:=(ext8 (s,nth l (IntKind.wrap .i64 (len l - 1)) Z94,((),()),()) l h1 h2).2
  have h15:=(ext15 (s,nth l (IntKind.wrap .i64 (len l - 1)) Z94,((),()),()) l h1 h2).2
  cases (s.1 == 2) with
  | true=>simp only [cond_true]; omega
  | false =>
   cases (s.1 == 3) with
   | true=>simp only [cond_true,cond_false]; exact h8
   | false =>
    cases (s.1 == 4) with
    | true=>simp only [cond_true,cond_false]; exact h15
    | false=>simp only [cond_false]; omega
def Few (n m:Int) (l:List (List D94)):Prop:=len l ≤ n ∧ ∀ q ∈ l,len q ≤ m
theorem flat7 (l:List D97) (hl:len l ≤ 128) (h0:0 < len l → (nth l 0 Z97).1 = 1) :
  Am.Ends (vG8 (l,l,len l,())) (wD8 (l,l,len l,())) (wX0 (l,l,len l,())) ([],[],0,()) ∧ Few 128 4096 (zB9 (vG8 (l,l,len l,())) (wD8 (l,l,len l,())) ([],[],0,())).1:=by
 have step:∀ x:wN4,(0 ≤ x.2.2.1 ∧ (0 < x.2.2.1 → 1 ≤ len x.2.1) ∧ len x.2.1 ≤ 1 + 16 * x.2.2.1) → x.2.2.1 < len l →
   (((nth l x.2.2.1 Z97).1 == 1) = false → 1 ≤ len x.2.1) ∧
   1 ≤ len (bif ((nth l x.2.2.1 Z97).1 == 1) then ([(nth (nth l x.2.2.1 Z97).2.1 (0:Int) Z94)]:List D94) else (uA7 x.2.1 (nth l x.2.2.1 Z97))) ∧
   len (bif ((nth l x.2.2.1 Z97).1 == 1) then ([(nth (nth l x.2.2.1 Z97).2.1 (0:Int) Z94)]:List D94) else (uA7 x.2.1 (nth l x.2.2.1 Z97))) ≤ 1 + 16 * (x.2.2.1 + 1):=by
  intro x hx hlt
  have hne:((nth l x.2.2.1 Z97).1 == 1) = false → 1 ≤ len x.2.1:=fun hf=>by
   by_cases hz:x.2.2.1 = 0
   ·have:=h0 (by omega)
    rw [hz,this] at hf
    simp at hf
   ·exact hx.2.1 (by omega)
  refine ⟨hne,?_⟩
  cases hk:((nth l x.2.2.1 Z97).1 == 1) with
  | true=>simp only [cond_true,len_one]; omega
  | false =>
   simp only [cond_false]
   have ha:=(rT2 (s:=nth l x.2.2.1 Z97) (hne hk) (show len x.2.1 ≤ 1073741824 by omega)).2
   have:=hne hk
   omega
 have h:=whole (g:=vG8 (l,l,len l,())) (next:=wD8 (l,l,len l,())) (ok:=wX0 (l,l,len l,())) (fun x=>(0 ≤ x.2.2.1 ∧ (0 < x.2.2.1 → 1 ≤ len x.2.1) ∧ len x.2.1 ≤ 1 + 16 * x.2.2.1) ∧ (x.2.2.1 ≤ len l ∧ len x.1 ≤ x.2.2.1) ∧ ∀ q ∈ x.1,len q ≤ 4096) (fun x=>(len l - x.2.2.1).toNat) (fun x hx=>fun h3=>by
   have h4:x.2.2.1 < len l:=of_decide_eq_true h3
   obtain ⟨s1,s2,s3⟩:=step x hx.1 h4
   refine ⟨⟨hx.1.1,h4⟩,fun _=>inb0,fun hf=>(rT2 (s1 hf) (by have:=hx.1.2.2; omega)).1,inr_small (show _ ≤ len l - 1 by omega) (show len l - 1 ≤ _ by omega),fun _=>inr_small (by omega) (by omega),fun hf=>?_,fun _=>?_,inr_small (by omega) (by omega)⟩
   ·simp only [Bool.not_eq_true',beq_eq_false_iff_ne,ne_eq] at hf
    have hf:¬ x.2.2.1 = len l - 1:=hf
    exact ⟨(show 0 ≤ x.2.2.1 + 1 by omega),(show x.2.2.1 + 1 < len l by omega)⟩
   ·have:=hx.2.1.2
    simp only [len] at this hl h4
    simp only [List.length_cons,List.length_nil]
    omega) (fun x hx hg=>by
   have h4:x.2.2.1 < len l:=of_decide_eq_true hg
   obtain ⟨s1,s2,s3⟩:=step x hx.1 h4
   have hle:=hx.2.1.2
   refine ⟨⟨⟨(show 0 ≤ x.2.2.1 + 1 by omega),fun _=>s2,s3⟩,⟨(show x.2.2.1 + 1 ≤ len l by omega),?_⟩,?_⟩,(show (len l - (x.2.2.1 + 1)).toNat < (len l - x.2.2.1).toNat by omega)⟩
   ·simp only [wD8,vU3]
    cases (bif (x.2.2.1 == (len l - 1)) then true else ((nth l (x.2.2.1 + 1) Z97).1 == 1)) with
    | true=>simp only [cond_true,len_app,len_one]; omega
    | false=>simp only [cond_false]; omega
   ·simp only [wD8,vU3]
    cases (bif (x.2.2.1 == (len l - 1)) then true else ((nth l (x.2.2.1 + 1) Z97).1 == 1)) with
    | true =>
     simp only [cond_true]
     intro q hq
     rcases List.mem_append.1 hq with hq | hq
     ·exact hx.2.2 q hq
     ·rw [List.mem_singleton.1 hq]; omega
    | false=>simp only [cond_false]; exact hx.2.2) (x:=([],[],0,())) ⟨⟨by decide,fun h=>absurd h (by decide),by simp [len]⟩,⟨xT l,by simp [len]⟩,fun q hq=>by cases hq⟩ (by unfold zH8; simp only; omega)
 exact ⟨h.1,by have h1:=h.2.1.2.1.1; have h2:=h.2.1.2.1.2; omega,h.2.1.2.2⟩
theorem rT3 (l:List D97) (hl:len l < 9223372036854775808):vP3 l ∧ Few 128 4096 (f114 l).1:=by
 refine ⟨⟨sJ3 l hl,fun h0=>?_⟩,?_⟩
 ·have h0:f128 l = 0:=by simpa using h0
  exact (flat7 l (vA9 hl h0).1 (vA9 hl h0).2).1
 ·simp only [f114,pC4,vP2]
  cases h0:(f128 l != 0) with
  | true=>exact ⟨by simp [len],fun q hq=>by cases hq⟩
  | false =>
   have h0:f128 l = 0:=by simpa using h0
   exact (flat7 l (vA9 hl h0).1 (vA9 hl h0).2).2
theorem pO5 (l:List D97) (hl:len l < 9223372036854775808):tI4 l:=⟨sJ3 l hl,fun h0=>by
 have h0:f128 l = 0:=by simpa using h0
 have hk:=(vA9 hl h0).1
 refine xP6 (fun x=>0 ≤ x.2.1 ∧ x.2.1 ≤ len l ∧ len x.1 ≤ x.2.1) (fun x=>(len l - x.2.1).toNat) (fun x hx=>fun h3=>?_) (fun x hx hg=>?_) ⟨by decide,xT l,by simp [len]⟩ (by unfold zH8; simp only; omega)
 ·have h4:x.2.1 < len l:=of_decide_eq_true h3
  refine ⟨⟨hx.1,h4⟩,inr_small (show _ ≤ len l - 1 by omega) (show len l - 1 ≤ _ by omega),fun _=>inr_small (by omega) (by omega),fun hf=>?_,fun _=>?_,inr_small (by omega) (by omega)⟩
  ·simp only [Bool.not_eq_true',beq_eq_false_iff_ne,ne_eq] at hf
   have hf:¬ x.2.1 = len l - 1:=hf
   exact ⟨(show 0 ≤ x.2.1 + 1 by omega),(show x.2.1 + 1 < len l by omega)⟩
  ·have:=hx.2.2
   simp only [len] at this hk h4
   simp only [List.length_cons,List.length_nil]
   omega
 ·have h4:x.2.1 < len l:=of_decide_eq_true hg
  refine ⟨⟨(show 0 ≤ x.2.1 + 1 by omega),(show x.2.1 + 1 ≤ len l by omega),?_⟩,(show (len l - (x.2.1 + 1)).toNat < (len l - x.2.1).toNat by omega)⟩
  have:=hx.2.2
  simp only [vC2,uF6]
  cases (bif (x.2.1 == (len l - 1)) then true else ((nth l (x.2.1 + 1) Z97).1 == 1)) with
  | true=>simp only [cond_true,len_app,len_one]; omega
  | false=>simp only [cond_false]; omega⟩
end Go.Proofs.YtigpekbhmpfcoaaGreatDoor.Am
