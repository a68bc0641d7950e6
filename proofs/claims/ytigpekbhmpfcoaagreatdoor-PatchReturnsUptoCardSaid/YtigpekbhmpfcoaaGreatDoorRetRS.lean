/- Plain law of PatchReturns: the law. Condition: the second form's bound. -/
import Derived.Test.YtigpekbhmpfcoaaGreatDoorRetRR
namespace Go.Proofs.YtigpekbhmpfcoaaGreatDoor.Am
open Go Go.Am
theorem found_empty {a b:D28} {k:Int} {l m s:List D57} (wa:Ty.wf T28 a) (wb:Ty.wf T28 b) (F:Found a b k l m s):f11 (dP a b k l m) = true ↔ a = b:=by
 have wp:=dP_wf wa wb F
 have e16:=vN2 (a:=a.2.2.2.2.2.1) (b:=b.2.2.2.2.2.1) (sel_fit wa)
 have e18:=vN3 (meta_wf wa) (meta_wf wb)
 have e20:=vN4 (links_wf wa) (links_wf wb)
 have g16:=vN2 (a:=(dP a b k l m).2.2.2.2.2.1) (b:=(dP a b k l m).2.2.2.2.2.2.1) (selO_fit wp)
 have g18:=vN3 (metO_wf wp) (metN_wf wp)
 have g20:=vN4 (lnkO_wf wp) (lnkN_wf wp)
 have g29:=rU4 (del_wf wp) (ins_wf wp)
 have gh:=eqb_iff (τ:=T50) rfl (head_wf wa) (head_wf wb)
 have ef:f11 (dP a b k l m) = true ↔ headOf a = headOf b ∧ l = m ∧ (dP a b k l m).2.2.2.2.2.1 = (dP a b k l m).2.2.2.2.2.2.1 ∧ (dP a b k l m).2.2.2.2.2.2.2.1 = (dP a b k l m).2.2.2.2.2.2.2.2.1 ∧ (dP a b k l m).2.2.2.2.2.2.2.2.2.1 = (dP a b k l m).2.2.2.2.2.2.2.2.2.2.1:=by
  rw [← gh,← g16,← g18,← g20,show (l = m ↔ uA (dP a b k l m).2.2.2.1 (dP a b k l m).2.2.2.2.1 () = true) from g29.symm]
  show (bif (bif (!(Ty.eqb T50 (headOf a) (headOf b))) then true else (!(uA (dP a b k l m).2.2.2.1 (dP a b k l m).2.2.2.2.1 ()))) then false else (bif (bif (f16 (dP a b k l m).2.2.2.2.2.1 (dP a b k l m).2.2.2.2.2.2.1) then (f18 (dP a b k l m).2.2.2.2.2.2.2.1 (dP a b k l m).2.2.2.2.2.2.2.2.1) else false) then (f20 (dP a b k l m).2.2.2.2.2.2.2.2.2.1 (dP a b k l m).2.2.2.2.2.2.2.2.2.2.1) else false)) = true ↔ _
  generalize Ty.eqb T50 (headOf a) (headOf b) = c1
  generalize uA (dP a b k l m).2.2.2.1 (dP a b k l m).2.2.2.2.1 () = c2
  generalize f16 (dP a b k l m).2.2.2.2.2.1 (dP a b k l m).2.2.2.2.2.2.1 = c3
  generalize f18 (dP a b k l m).2.2.2.2.2.2.2.1 (dP a b k l m).2.2.2.2.2.2.2.2.1 = c4
  generalize f20 (dP a b k l m).2.2.2.2.2.2.2.2.2.1 (dP a b k l m).2.2.2.2.2.2.2.2.2.2.1 = c5
  cases c1 <;> cases c2 <;> cases c3 <;> cases c4 <;> cases c5 <;> simp
 rw [ef]
 constructor
 ·rintro ⟨h1,h2,h3,h4,h5⟩
  have hl:l = []:=by
   cases hc:l with
   | nil=>rfl
   | cons x r =>
    have h0:0 < len l:=by rw [hc]; simp only [len,List.length_cons]; omega
    exact absurd (by rw [h2]:nth l 0 Z57 = nth m 0 Z57) (F.hd h0 (by rw [← h2]; exact h0))
  have hn:a.2.2.2.1 = b.2.2.2.1:=by rw [F.ea,F.eb,h2]
  have h3':(bif (!(f16 a.2.2.2.2.2.1 b.2.2.2.2.2.1)) then a.2.2.2.2.2.1 else ZM) = (bif (!(f16 a.2.2.2.2.2.1 b.2.2.2.2.2.1)) then b.2.2.2.2.2.1 else ZM):=h3
  have h4':(bif (!(f18 a.2.2.2.2.2.2.1 b.2.2.2.2.2.2.1)) then a.2.2.2.2.2.2.1 else []) = (bif (!(f18 a.2.2.2.2.2.2.1 b.2.2.2.2.2.2.1)) then b.2.2.2.2.2.2.1 else []):=h4
  have h5':(bif (!(f20 a.2.2.2.2.2.2.2.1 b.2.2.2.2.2.2.2.1)) then a.2.2.2.2.2.2.2.1 else []) = (bif (!(f20 a.2.2.2.2.2.2.2.1 b.2.2.2.2.2.2.2.1)) then b.2.2.2.2.2.2.2.1 else []):=h5
  have s1:a.2.2.2.2.2.1 = b.2.2.2.2.2.1:=by
   cases hc:f16 a.2.2.2.2.2.1 b.2.2.2.2.2.1 with
   | true=>exact e16.1 hc
   | false=>rw [hc] at h3'; exact h3'
  have s2:a.2.2.2.2.2.2.1 = b.2.2.2.2.2.2.1:=by
   cases hc:f18 a.2.2.2.2.2.2.1 b.2.2.2.2.2.2.1 with
   | true=>exact e18.1 hc
   | false=>rw [hc] at h4'; exact h4'
  have s3:a.2.2.2.2.2.2.2.1 = b.2.2.2.2.2.2.2.1:=by
   cases hc:f20 a.2.2.2.2.2.2.2.1 b.2.2.2.2.2.2.2.1 with
   | true=>exact e20.1 hc
   | false=>rw [hc] at h5'; exact h5'
  obtain ⟨a0,a1,a2,a3,a4,a5,a6,a7,⟨⟩⟩:=a
  obtain ⟨b0,b1,b2,b3,b4,b5,b6,b7,⟨⟩⟩:=b
  simp only [headOf,Prod.mk.injEq,and_true] at h1 hn s1 s2 s3
  obtain ⟨q0,q1,q2,q4⟩:=h1
  rw [q0,q1,q2,q4,hn,s1,s2,s3]
 ·intro h
  subst h
  have hlm:l = m:=by
   have h0:List.take (Int.toNat k) a.2.2.2.1 ++ l ++ s = List.take (Int.toNat k) a.2.2.2.1 ++ m ++ s:=F.ea.symm.trans F.eb
   exact List.append_cancel_left (List.append_cancel_right h0)
  exact ⟨rfl,hlm,rfl,rfl,rfl⟩
theorem oZ9 {p:D32} (wp:Ty.wf T32 p):tA7 p :=
 ⟨fun _=>qX3 _ _ (len_lt (del_wf wp).1) (fun n hn=>lens_of ((del_wf wp).2 n hn)),fun _=>⟨tU5 (selO_fit wp),fun _=>tU6 _ _ (len_lt (metO_wf wp).1),fun _=>tU7 _ _ (lnkO_wf wp)⟩⟩
theorem patchReturns_at (a b:D28) (wa:Ty.wf T28 a) (wb:Ty.wf T28 b) (da:DocSz 1048576 a) (db:DocSz 1048576 b):f3_ok a b ∧ f3 a b = true:=by
 cases c1:(f13 a != 0) with
 | true =>
  have e:=oZ6 (b:=b) c1
  have o:uR5 a b:=⟨uC9 _ (doc_fit wa),fun hf=>by rw [c1] at hf; cases hf⟩
  have z:(f6 (Z50,Z50,(0:Int),([]:List D57),([]:List D57),ZM,ZM,([]:List D66),([]:List D66),([]:List D74),([]:List D74),()) == 0) = true:=by kernel_rfl
  simp only [f3_ok,f3,f3t,e,c1,z,cond_true,Bool.not_true]
  exact ⟨⟨o,fun _=>⟨by unfold sW3 f6t InR; decide,fun _=>qX7⟩,fun hf=>Bool.noConfusion hf⟩,rI3⟩
 | false =>
  cases c2:(f13 b != 0) with
  | true =>
   have e:=oZ7 c1 c2
   have o:uR5 a b:=⟨uC9 _ (doc_fit wa),fun _=>⟨uC9 _ (doc_fit wb),fun hf=>by rw [c2] at hf; cases hf⟩⟩
   have z:(f6 (Z50,Z50,(0:Int),([]:List D57),([]:List D57),ZM,ZM,([]:List D66),([]:List D66),([]:List D74),([]:List D74),()) == 0) = true:=by kernel_rfl
   simp only [f3_ok,f3,f3t,e,c2,z,cond_true,Bool.not_true]
   exact ⟨⟨o,fun _=>⟨by unfold sW3 f6t InR; decide,fun _=>qX7⟩,fun hf=>Bool.noConfusion hf⟩,rI3⟩
  | false =>
   obtain ⟨o,k,l,m,s,e,F⟩:=oZ8 wa wb c1 c2 da db (by omega)
   obtain ⟨Ff,Fm⟩:=found_fits wa wb F
   have wp:=dP_wf wa wb F
   have sp:=dP_sz da db F
   have o1:=pX0 wa wp da sp (by omega)
   have v1:f8 a (dP a b k l m) = (b,0,()):=by rw [pX1 da sp (by omega),c1,(sK2 wa wp).2 Ff,Fm,c2]; rfl
   have u:=undo_fits wp Ff
   rw [Fm] at u
   have o2:=pX0 wb (inv_wf wp) db (inv_sz sp) (by omega)
   have v2:f8 b (inv (dP a b k l m)) = (a,0,()):=by rw [pX1 db (inv_sz sp) (by omega),c2,(sK2 wb (inv_wf wp)).2 u.1,u.2,c1]; rfl
   have ei:=nJ6 wp
   have oi:=nJ7 sp (by omega)
   have hz:((0:Int) != 0) = false:=by decide
   have sb':=(sK0 wb wb).2 rfl
   have sa':=(sK0 wa wa).2 rfl
   have em:f11 (dP a b k l m) = f10 a b:=bool_iff ((found_empty wa wb F).trans (sK0 wa wb).symm)
   have eb2:∀ c:Bool,Ty.eqb .bool c c = true:=fun c=>by cases c <;> rfl
   have hl0:=xT l
   have hm0:=xT m
   have both:(bif (decide ((len l) > 0)) then (decide ((len m) > 0)) else false) = true → 0 < len l ∧ 0 < len m:=fun h=>by simpa only [Bool.cond_false_right,Bool.and_eq_true,decide_eq_true_eq] using h
   have il:0 < len l → InB 0 (len l) ∧ InB (len l - 1) (len l):=fun h=>⟨⟨Int.le_refl 0,h⟩,⟨by omega,by omega⟩⟩
   have im:0 < len m → InB 0 (len m) ∧ InB (len m - 1) (len m):=fun h=>⟨⟨Int.le_refl 0,h⟩,⟨by omega,by omega⟩⟩
   have d0:(bif (decide ((len l) > 0)) then (decide ((len m) > 0)) else false) = true → f12 (nth l 0 Z57) (nth m 0 Z57) = false:=fun h=>by
    obtain ⟨h1,h2⟩:=both h
    exact Bool.eq_false_iff.2 fun q=>F.hd h1 h2 ((wW6 ((del_wf wp).2 _ (nth_mem (il h1).1)) ((ins_wf wp).2 _ (nth_mem (im h2).1))).1 q)
   have d1:(bif (decide ((len l) > 0)) then (decide ((len m) > 0)) else false) = true → f12 (nth l (len l - 1) Z57) (nth m (len m - 1) Z57) = false:=fun h=>by
    obtain ⟨h1,h2⟩:=both h
    exact Bool.eq_false_iff.2 fun q=>F.tl h1 h2 ((wW6 ((del_wf wp).2 _ (nth_mem (il h1).2)) ((ins_wf wp).2 _ (nth_mem (im h2).2))).1 q)
   have last:(bif (bif (decide ((len l) > 0)) then (decide ((len m) > 0)) else false) then (bif (f12 (nth l 0 Z57) (nth m 0 Z57)) then true else (f12 (nth l (len l - 1) Z57) (nth m (len m - 1) Z57))) else false) = false:=by
    cases hc:(bif (decide ((len l) > 0)) then (decide ((len m) > 0)) else false) with
    | false=>rfl
    | true=>rw [d0 hc,d1 hc]; rfl
   have ed:(dP a b k l m).2.2.2.1 = l:=rfl
   have ein:(dP a b k l m).2.2.2.2.1 = m:=rfl
   have hll:=len_lt (del_wf wp).1
   have hlm:=len_lt (ins_wf wp).1
   simp only [f3_ok,f3,f3t,e,hz,v1,ei,v2,sb',sa',em,eb2,ed,ein,last,cond_true,cond_false,Bool.not_true,Bool.not_false]
   refine ⟨⟨o,fun hf=>Bool.noConfusion hf,fun _=>⟨o1,oi,o2,fun _=>rI2 b wb,fun _=>rI2 a wa,fun _=>oZ9 wp,fun _=>rI2 b wa,fun _=>⟨fun h=>(il (both h).1).1,fun h=>(im (both h).2).1,fun h=>tU4 (lens_of ((del_wf wp).2 _ (nth_mem (il (both h).1).1))),fun h=>?_,fun h=>?_,fun h=>?_,fun h=>?_,fun h=>?_,fun _=>qX7⟩⟩⟩,rI3⟩
   ·exact inr_all (by have:len l < 9223372036854775808:=hll; omega) (by have:len l < 9223372036854775808:=hll; omega)
   ·simp only [Bool.and_eq_true] at h; exact (il (both h.1).1).2
   ·exact inr_all (by have:len m < 9223372036854775808:=hlm; omega) (by have:len m < 9223372036854775808:=hlm; omega)
   ·simp only [Bool.and_eq_true] at h; exact (im (both h.1).2).2
   ·simp only [Bool.and_eq_true] at h; exact tU4 (lens_of ((del_wf wp).2 _ (nth_mem (il (both h.1).1).2)))
theorem patchReturns_law:∀ x,wfL 0 [T28,T28] x → xK3 0 [T28,T28] x ≤ 1048576 → f3_ok x.1 x.2.1 ∧ f3 x.1 x.2.1 = true:=by
 intro x hx hN
 have hN1:Ty.bulk T28 x.1 ≤ 1048576:=Nat.le_trans (Nat.le_add_right _ _) hN
 have hN2:Ty.bulk T28 x.2.1 ≤ 1048576:=Nat.le_trans (Nat.le_trans (Nat.le_add_right _ _) (Nat.le_add_left _ _)) hN
 exact patchReturns_at x.1 x.2.1 hx.1 hx.2.1 (doc_sz hN1) (doc_sz hN2)
end Go.Proofs.YtigpekbhmpfcoaaGreatDoor.Am
