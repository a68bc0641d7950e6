/- Plain laws of patches: when a patch fits; Apply answers; undoing. Condition: the second form's bound. -/
import Derived.Test.YtigpekbhmpfcoaaGreatDoorRetW
namespace Go.Proofs.YtigpekbhmpfcoaaGreatDoor.Am
open Go Go.Am
def part (d:D28) (p:D32):List D57:=List.drop (Int.toNat p.2.2.1) (List.take (Int.toNat (p.2.2.1 + len p.2.2.2.1)) d.2.2.2.1)
structure Fits (d:D28) (p:D32):Prop where
 head:headOf d = p.1
 at0:0 ≤ p.2.2.1
 at1:p.2.2.1 + len p.2.2.2.1 ≤ len d.2.2.2.1
 del:part d p = p.2.2.2.1
 sel:p.2.2.2.2.2.1 = p.2.2.2.2.2.2.1 ∨ p.2.2.2.2.2.1 = d.2.2.2.2.2.1
 met:p.2.2.2.2.2.2.2.1 = p.2.2.2.2.2.2.2.2.1 ∨ p.2.2.2.2.2.2.2.1 = d.2.2.2.2.2.2.1
 lnk:p.2.2.2.2.2.2.2.2.2.1 = p.2.2.2.2.2.2.2.2.2.2.1 ∨ p.2.2.2.2.2.2.2.2.2.1 = d.2.2.2.2.2.2.2.1
theorem wfN_sub {l m:List D57} (h:WfN l) (hm:∀ n ∈ m,n ∈ l) (hl:m.length ≤ l.length):WfN m:=⟨Nat.le_trans hl h.1,fun n hn=>h.2 n (hm n hn)⟩
theorem part_wf {d:D28} (p:D32) (wd:Ty.wf T28 d):WfN (part d p) :=
 wfN_sub (nodes_wf wd) (fun n hn=>List.mem_of_mem_take (List.mem_of_mem_drop hn)) (by simp only [part,List.length_drop,List.length_take]; omega)
theorem del_wf {p:D32} (wp:Ty.wf T32 p):WfN p.2.2.2.1:=wp.2.2.2.1
theorem ins_wf {p:D32} (wp:Ty.wf T32 p):WfN p.2.2.2.2.1:=wp.2.2.2.2.1
theorem selO_fit {p:D32} (wp:Ty.wf T32 p):len p.2.2.2.2.2.1.2.2.1 < 9223372036854775808:=len_lt wp.2.2.2.2.2.1.2.2.1.1
theorem metO_wf {p:D32} (wp:Ty.wf T32 p):Ty.wf (.sl T66) p.2.2.2.2.2.2.2.1:=wp.2.2.2.2.2.2.2.1
theorem metN_wf {p:D32} (wp:Ty.wf T32 p):Ty.wf (.sl T66) p.2.2.2.2.2.2.2.2.1:=wp.2.2.2.2.2.2.2.2.1
theorem lnkO_wf {p:D32} (wp:Ty.wf T32 p):Ty.wf (.sl T74) p.2.2.2.2.2.2.2.2.2.1:=wp.2.2.2.2.2.2.2.2.2.1
theorem lnkN_wf {p:D32} (wp:Ty.wf T32 p):Ty.wf (.sl T74) p.2.2.2.2.2.2.2.2.2.2.1:=wp.2.2.2.2.2.2.2.2.2.2.1
theorem head_wf {d:D28} (wd:Ty.wf T28 d):Ty.wf T50 (headOf d):=⟨wd.1,wd.2.1,wd.2.2.1,wd.2.2.2.2.1,trivial⟩
theorem eqb_iff {τ:Ty} (hc:τ.cmp = true) {x y:τ.den} (hx:τ.wf x) (hy:τ.wf y):τ.eqb x y = true ↔ x = y:=⟨eqb_eq τ hc x y hx hy,fun h=>by subst h; exact eqb_refl τ hc x⟩
theorem v34_is (d:D28) (p:D32):(bif (bif (bif (!(Ty.eqb T50 (f14 d) p.1)) then true else (decide (p.2.2.1 < 0))) then true else (decide (p.2.2.1 > (len d.2.2.2.1)))) then true else (decide ((len d.2.2.2.1 - p.2.2.1) < (len p.2.2.2.1)))) = false ↔ Ty.eqb T50 (headOf d) p.1 = true ∧ 0 ≤ p.2.2.1 ∧ p.2.2.1 ≤ len d.2.2.2.1 ∧ p.2.2.1 + len p.2.2.2.1 ≤ len d.2.2.2.1:=by
 have e:f14 d = headOf d:=rfl
 rw [e]
 simp only [Bool.cond_true_left,Bool.or_eq_false_iff,Bool.not_eq_false',decide_eq_false_iff_not]
 constructor
 ·rintro ⟨⟨⟨h1,h2⟩,h3⟩,h4⟩; exact ⟨h1,by omega,by omega,by omega⟩
 ·rintro ⟨h1,h2,h3,h4⟩; exact ⟨⟨⟨h1,by omega⟩,by omega⟩,by omega⟩
theorem sK2 {d:D28} {p:D32} (wd:Ty.wf T28 d) (wp:Ty.wf T32 p):f24 d p = true ↔ Fits d p:=by
 have hm:=v34_is d p
 have e29:=rU4 (part_wf p wd) (del_wf wp)
 have e16:=vN2 (a:=p.2.2.2.2.2.1) (b:=p.2.2.2.2.2.2.1) (selO_fit wp)
 have e16':=vN2 (a:=p.2.2.2.2.2.1) (b:=d.2.2.2.2.2.1) (selO_fit wp)
 have e18:=vN3 (metO_wf wp) (metN_wf wp)
 have e18':=vN3 (metO_wf wp) (meta_wf wd)
 have e20:=vN4 (lnkO_wf wp) (lnkN_wf wp)
 have e20':=vN4 (lnkO_wf wp) (links_wf wd)
 have ehd:=eqb_iff (τ:=T50) rfl (head_wf wd) (wp.1)
 have ef:f24 d p = (bif (bif (bif (bif (!(Ty.eqb T50 (f14 d) p.1)) then true else (decide (p.2.2.1 < 0))) then true else (decide (p.2.2.1 > (len d.2.2.2.1)))) then true else (decide ((len d.2.2.2.1 - p.2.2.1) < (len p.2.2.2.1)))) then false else (bif (!(uA (part d p) p.2.2.2.1 ())) then false else (bif (bif (!(f16 p.2.2.2.2.2.1 p.2.2.2.2.2.2.1)) then (!(f16 p.2.2.2.2.2.1 d.2.2.2.2.2.1)) else false) then false else (bif (bif (!(f18 p.2.2.2.2.2.2.2.1 p.2.2.2.2.2.2.2.2.1)) then (!(f18 p.2.2.2.2.2.2.2.1 d.2.2.2.2.2.2.1)) else false) then false else (bif (f20 p.2.2.2.2.2.2.2.2.2.1 p.2.2.2.2.2.2.2.2.2.2.1) then true else (f20 p.2.2.2.2.2.2.2.2.2.1 d.2.2.2.2.2.2.2.1)))))):=rfl
 rw [ef]
 constructor
 ·intro h
  cases h34:(bif (bif (bif (!(Ty.eqb T50 (f14 d) p.1)) then true else (decide (p.2.2.1 < 0))) then true else (decide (p.2.2.1 > (len d.2.2.2.1)))) then true else (decide ((len d.2.2.2.1 - p.2.2.1) < (len p.2.2.2.1)))) with
  | true=>rw [h34] at h; cases h
  | false =>
   obtain ⟨q1,q2,q3,q4⟩:=hm.1 h34
   rw [h34] at h
   simp only [cond_false] at h
   cases h29:uA (part d p) p.2.2.2.1 () with
   | false=>rw [h29] at h; cases h
   | true =>
    rw [h29] at h
    simp only [Bool.not_true,cond_false] at h
    refine ⟨ehd.1 q1,q2,q4,e29.1 h29,?_,?_,?_⟩
    ·cases c1:f16 p.2.2.2.2.2.1 p.2.2.2.2.2.2.1 with
     | true=>exact .inl (e16.1 c1)
     | false =>
      cases c2:f16 p.2.2.2.2.2.1 d.2.2.2.2.2.1 with
      | true=>exact .inr (e16'.1 c2)
      | false=>rw [c1,c2] at h; cases h
    ·cases c1:f18 p.2.2.2.2.2.2.2.1 p.2.2.2.2.2.2.2.2.1 with
     | true=>exact .inl (e18.1 c1)
     | false =>
      cases c2:f18 p.2.2.2.2.2.2.2.1 d.2.2.2.2.2.2.1 with
      | true=>exact .inr (e18'.1 c2)
      | false =>
       rw [c1,c2] at h
       generalize (bif (!(f16 p.2.2.2.2.2.1 p.2.2.2.2.2.2.1)) then (!(f16 p.2.2.2.2.2.1 d.2.2.2.2.2.1)) else false) = c at h
       cases c <;> cases h
    ·cases c1:f20 p.2.2.2.2.2.2.2.2.2.1 p.2.2.2.2.2.2.2.2.2.2.1 with
     | true=>exact .inl (e20.1 c1)
     | false =>
      cases c2:f20 p.2.2.2.2.2.2.2.2.2.1 d.2.2.2.2.2.2.2.1 with
      | true=>exact .inr (e20'.1 c2)
      | false =>
       rw [c1,c2] at h
       generalize (bif (!(f16 p.2.2.2.2.2.1 p.2.2.2.2.2.2.1)) then (!(f16 p.2.2.2.2.2.1 d.2.2.2.2.2.1)) else false) = c at h
       generalize (bif (!(f18 p.2.2.2.2.2.2.2.1 p.2.2.2.2.2.2.2.2.1)) then (!(f18 p.2.2.2.2.2.2.2.1 d.2.2.2.2.2.2.1)) else false) = c' at h
       cases c <;> cases c' <;> cases h
 ·intro F
  have hl:=xT p.2.2.2.1
  have h34:=hm.2 ⟨ehd.2 F.head,F.at0,by have:=F.at1; omega,F.at1⟩
  rw [h34,e29.2 F.del]
  have s1:(bif (!(f16 p.2.2.2.2.2.1 p.2.2.2.2.2.2.1)) then (!(f16 p.2.2.2.2.2.1 d.2.2.2.2.2.1)) else false) = false:=by
   rcases F.sel with h | h
   ·rw [e16.2 h]; rfl
   ·rw [e16'.2 h]; cases f16 p.2.2.2.2.2.1 p.2.2.2.2.2.2.1 <;> rfl
  have s2:(bif (!(f18 p.2.2.2.2.2.2.2.1 p.2.2.2.2.2.2.2.2.1)) then (!(f18 p.2.2.2.2.2.2.2.1 d.2.2.2.2.2.2.1)) else false) = false:=by
   rcases F.met with h | h
   ·rw [e18.2 h]; rfl
   ·rw [e18'.2 h]; cases f18 p.2.2.2.2.2.2.2.1 p.2.2.2.2.2.2.2.2.1 <;> rfl
  rw [s1,s2]
  simp only [Bool.not_true,cond_false]
  rcases F.lnk with h | h
  ·rw [e20.2 h]; rfl
  ·rw [e20'.2 h]; cases f20 p.2.2.2.2.2.2.2.2.2.1 p.2.2.2.2.2.2.2.2.2.2.1 <;> rfl
theorem oZ1 {d:D28} {p:D32} (wd:Ty.wf T28 d) (wp:Ty.wf T32 p):sW8 d p:=by
 have hm:=v34_is d p
 have hn:=len_lt (nodes_wf wd).1
 have h0:=xT d.2.2.2.1
 have hl:=xT p.2.2.2.1
 refine ⟨trivial,fun h22=>?_,fun h34=>?_⟩
 ·simp only [Bool.not_eq_true',Bool.cond_true_left,Bool.or_eq_false_iff,decide_eq_false_iff_not] at h22
  exact inr_all (by omega) (by omega)
 ·obtain ⟨_,q2,q3,q4⟩:=hm.1 (by simpa using h34)
  exact ⟨inr_all (by omega) (by omega),⟨q2,(show p.2.2.1 ≤ p.2.2.1 + len p.2.2.2.1 by omega),q4⟩,qX3 _ _ (len_lt (part_wf p wd).1) (fun n hn=>lens_of ((part_wf p wd).2 n hn)),fun _=>⟨tU5 (selO_fit wp),fun _=>tU5 (selO_fit wp),fun _=>⟨tU6 _ _ (len_lt (metO_wf wp).1),fun _=>tU6 _ _ (len_lt (metO_wf wp).1),fun _=>⟨tU7 _ _ (lnkO_wf wp),fun _=>tU7 _ _ (lnkO_wf wp)⟩⟩⟩⟩
end Go.Proofs.YtigpekbhmpfcoaaGreatDoor.Am
