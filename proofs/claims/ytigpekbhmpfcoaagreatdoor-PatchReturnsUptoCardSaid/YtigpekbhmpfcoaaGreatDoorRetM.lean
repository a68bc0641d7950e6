/- Plain law of PatchReturns: what Diff finds. Condition: the second form's bound. -/
import Derived.Test.YtigpekbhmpfcoaaGreatDoorRetJ
namespace Go.Proofs.YtigpekbhmpfcoaaGreatDoor.Am
open Go Go.Am
abbrev ZM:D24:=((0:Int),(0:Int),([]:List Int),())
def pre (a b:D28) (k:Int):D32:=(f14 a,f14 b,k,([]:List D57),([]:List D57),ZM,ZM,([]:List D66),([]:List D66),([]:List D74),([]:List D74),())
def headI (a b:D28) (x:vN):Prop:=∃ k:Int,x.1 = pre a b k ∧ 0 ≤ k ∧ k ≤ len a.2.2.2.1 ∧ k ≤ len b.2.2.2.1 ∧ List.take (Int.toNat k) a.2.2.2.1 = List.take (Int.toNat k) b.2.2.2.1
theorem take_next {l m:List D57} {k:Int} (h0:0 ≤ k) (hl:k < len l) (hm:k < len m) (h:List.take (Int.toNat k) l = List.take (Int.toNat k) m) (he:nth l k Z57 = nth m k Z57):List.take (Int.toNat (k + 1)) l = List.take (Int.toNat (k + 1)) m:=by
 have e:Int.toNat (k + 1) = Int.toNat k + 1:=by omega
 have h1:Int.toNat k < l.length:=by unfold len at hl; omega
 have h2:Int.toNat k < m.length:=by unfold len at hm; omega
 unfold nth at he
 rw [List.getD_eq_getElem?_getD,List.getD_eq_getElem?_getD,List.getElem?_eq_getElem h1,List.getElem?_eq_getElem h2,Option.getD_some,Option.getD_some] at he
 rw [e,List.take_succ_eq_append_getElem h1,List.take_succ_eq_append_getElem h2,h,he]
theorem diff9 (a b:D28) (y2:D32) (wa:Ty.wf T28 a) (wb:Ty.wf T28 b) :
  Am.Ends (vN0 (a,b,y2,a.2.2.2.1,b.2.2.2.1,())) (wP5 (a,b,y2,a.2.2.2.1,b.2.2.2.1,())) (uM5 (a,b,y2,a.2.2.2.1,b.2.2.2.1,())) (pre a b 0,()) ∧
  headI a b (zB9 (vN0 (a,b,y2,a.2.2.2.1,b.2.2.2.1,())) (wP5 (a,b,y2,a.2.2.2.1,b.2.2.2.1,())) (pre a b 0,())) ∧
  vN0 (a,b,y2,a.2.2.2.1,b.2.2.2.1,()) (zB9 (vN0 (a,b,y2,a.2.2.2.1,b.2.2.2.1,())) (wP5 (a,b,y2,a.2.2.2.1,b.2.2.2.1,())) (pre a b 0,())) = false:=by
 have hl:=len_lt (nodes_wf wa).1
 have n0:=xT a.2.2.2.1
 have n1:=xT b.2.2.2.1
 have both:∀ k:Int,(bif (decide (k < len a.2.2.2.1)) then (decide (k < len b.2.2.2.1)) else false) = true → k < len a.2.2.2.1 ∧ k < len b.2.2.2.1:=fun k h=>by
  simpa only [Bool.cond_false_right,Bool.and_eq_true,decide_eq_true_eq] using h
 refine whole (headI a b) (fun x=>(len a.2.2.2.1 - x.1.2.2.1).toNat) (fun x hx=>?_) (fun x hx hg=>?_) ⟨0,rfl,Int.le_refl 0,n0,n1,rfl⟩ (by unfold zH8; show (len a.2.2.2.1 - 0).toNat < _; omega)
 ·obtain ⟨P,⟨⟩⟩:=x
  obtain ⟨k,hP,k0,k1,k2,ht⟩:=hx
  simp only at hP
  subst hP
  refine ⟨fun h=>⟨k0,(both k h).1⟩,fun h=>⟨k0,(both k h).2⟩,fun h=>tU4 (lens_of ((nodes_wf wa).2 _ (nth_mem ⟨k0,(both k h).1⟩))),fun h=>?_⟩
  have h':(bif (bif (decide (k < len a.2.2.2.1)) then (decide (k < len b.2.2.2.1)) else false) then (f12 (nth a.2.2.2.1 k Z57) (nth b.2.2.2.1 k Z57)) else false) = true:=h
  simp only [Bool.cond_false_right,Bool.and_eq_true] at h'
  obtain ⟨h1,_⟩:=both k (by simpa only [Bool.cond_false_right,Bool.and_eq_true] using h'.1)
  exact (show InR (k + 1) from inr_all (by omega) (by omega))
 ·obtain ⟨P,⟨⟩⟩:=x
  obtain ⟨k,hP,k0,k1,k2,ht⟩:=hx
  simp only at hP
  subst hP
  have hg':(bif (bif (decide (k < len a.2.2.2.1)) then (decide (k < len b.2.2.2.1)) else false) then (f12 (nth a.2.2.2.1 k Z57) (nth b.2.2.2.1 k Z57)) else false) = true:=hg
  simp only [Bool.cond_false_right,Bool.and_eq_true] at hg'
  obtain ⟨h1,h2⟩:=both k (by simpa only [Bool.cond_false_right,Bool.and_eq_true] using hg'.1)
  have he:=(wW6 ((nodes_wf wa).2 _ (nth_mem ⟨k0,h1⟩)) ((nodes_wf wb).2 _ (nth_mem ⟨k0,h2⟩))).1 hg'.2
  exact ⟨⟨k + 1,rfl,by omega,by omega,by omega,take_next k0 h1 h2 ht he⟩,(show (len a.2.2.2.1 - (k + 1)).toNat < (len a.2.2.2.1 - k).toNat by omega)⟩
def tailI (l m:List D57) (x:wL3):Prop:=∃ s,l = x.1 ++ s ∧ m = x.2.1 ++ s
theorem last_split {l:List D57} (h:0 < len l):l = List.take (Int.toNat (len l - 1)) l ++ [nth l (len l - 1) Z57]:=by
 have e:Int.toNat (len l - 1) = l.length - 1:=by unfold len; omega
 have h1:l.length - 1 < l.length:=by unfold len at h; omega
 have hn:nth l (len l - 1) Z57 = l[l.length - 1]:=by
  unfold nth
  rw [e,List.getD_eq_getElem?_getD,List.getElem?_eq_getElem h1,Option.getD_some]
 rw [hn,e]
 have h2:=List.take_succ_eq_append_getElem h1
 rw [Nat.sub_add_cancel (by omega),List.take_length] at h2
 exact h2
theorem diff12 (y:vD9) (l m:List D57) (wl:WfN l) (wm:WfN m) :
  Am.Ends (vE y) (wL6 y) (vS9 y) (l,m,()) ∧ tailI l m (zB9 (vE y) (wL6 y) (l,m,())) ∧ vE y (zB9 (vE y) (wL6 y) (l,m,())) = false:=by
 have hl:=len_lt wl.1
 have hm:=len_lt wm.1
 have both:∀ x:wL3,(bif (decide ((len x.1) > 0)) then (decide ((len x.2.1) > 0)) else false) = true → 0 < len x.1 ∧ 0 < len x.2.1:=fun x h=>by
  simpa only [Bool.cond_false_right,Bool.and_eq_true,decide_eq_true_eq] using h
 have sub:∀ x:wL3,tailI l m x → (WfN x.1 ∧ WfN x.2.1) ∧ len x.1 ≤ len l ∧ len x.2.1 ≤ len m:=fun x hx=>by
  obtain ⟨s,h1,h2⟩:=hx
  have l1:len x.1 ≤ len l:=by rw [h1,len_app]; have:=xT s; omega
  have l2:len x.2.1 ≤ len m:=by rw [h2,len_app]; have:=xT s; omega
  exact ⟨⟨wfN_sub wl (fun n hn=>by rw [h1]; exact List.mem_append_left _ hn) (by unfold len at l1; omega),wfN_sub wm (fun n hn=>by rw [h2]; exact List.mem_append_left _ hn) (by unfold len at l2; omega)⟩,l1,l2⟩
 refine whole (tailI l m) (fun x=>(len x.1).toNat) (fun x hx=>?_) (fun x hx hg=>?_) ⟨[],by simp,by simp⟩ (by unfold zH8; show (len l).toNat < _; omega)
 ·obtain ⟨⟨w1,w2⟩,l1,l2⟩:=sub x hx
  refine ⟨fun h=>?_,fun h=>?_,fun h=>?_,fun h=>?_,fun h=>?_,fun h=>?_⟩
  ·have:=both x h; exact (show InR (len x.1 - 1) from inr_all (by omega) (by omega))
  ·have:=both x h; exact ⟨(show 0 ≤ len x.1 - 1 by omega),(show len x.1 - 1 < len x.1 by omega)⟩
  ·have:=both x h; exact (show InR (len x.2.1 - 1) from inr_all (by omega) (by omega))
  ·have:=both x h; exact ⟨(show 0 ≤ len x.2.1 - 1 by omega),(show len x.2.1 - 1 < len x.2.1 by omega)⟩
  ·have:=both x h
   exact tU4 (lens_of (w1.2 _ (nth_mem ⟨(show 0 ≤ len x.1 - 1 by omega),(show len x.1 - 1 < len x.1 by omega)⟩)))
  ·have h':(bif (bif (decide ((len x.1) > 0)) then (decide ((len x.2.1) > 0)) else false) then (f12 (nth x.1 (len x.1 - 1) Z57) (nth x.2.1 (len x.2.1 - 1) Z57)) else false) = true:=h
   simp only [Bool.cond_false_right,Bool.and_eq_true] at h'
   have:=both x (by simpa only [Bool.cond_false_right,Bool.and_eq_true] using h'.1)
   exact ⟨(show InR (len x.1 - 1) from inr_all (by omega) (by omega)),⟨(show 0 ≤ len x.1 - 1 by omega),(show len x.1 - 1 ≤ len x.1 by omega)⟩,(show InR (len x.2.1 - 1) from inr_all (by omega) (by omega)),(show 0 ≤ len x.2.1 - 1 by omega),(show len x.2.1 - 1 ≤ len x.2.1 by omega)⟩
 ·obtain ⟨⟨w1,w2⟩,l1,l2⟩:=sub x hx
  have hg':(bif (bif (decide ((len x.1) > 0)) then (decide ((len x.2.1) > 0)) else false) then (f12 (nth x.1 (len x.1 - 1) Z57) (nth x.2.1 (len x.2.1 - 1) Z57)) else false) = true:=hg
  simp only [Bool.cond_false_right,Bool.and_eq_true] at hg'
  obtain ⟨p1,p2⟩:=both x (by simpa only [Bool.cond_false_right,Bool.and_eq_true] using hg'.1)
  have he:=(wW6 (w1.2 _ (nth_mem ⟨(show 0 ≤ len x.1 - 1 by omega),(show len x.1 - 1 < len x.1 by omega)⟩)) (w2.2 _ (nth_mem ⟨(show 0 ≤ len x.2.1 - 1 by omega),(show len x.2.1 - 1 < len x.2.1 by omega)⟩))).1 hg'.2
  have s1:=last_split p1
  have s2:=last_split p2
  obtain ⟨s,h1,h2⟩:=hx
  refine ⟨⟨nth x.1 (len x.1 - 1) Z57 :: s,?_,?_⟩,?_⟩
  ·show l = List.take (Int.toNat (len x.1 - 1)) x.1 ++ nth x.1 (len x.1 - 1) Z57 :: s
   rw [h1]
   conv=>lhs; lhs; rw [s1]
   simp
  ·show m = List.take (Int.toNat (len x.2.1 - 1)) x.2.1 ++ nth x.1 (len x.1 - 1) Z57 :: s
   rw [h2,he]
   conv=>lhs; lhs; rw [s2]
   simp
  ·show (len (List.take (Int.toNat (len x.1 - 1)) x.1)).toNat < (len x.1).toNat
   simp only [len,List.length_take]; unfold len at p1; omega
end Go.Proofs.YtigpekbhmpfcoaaGreatDoor.Am
