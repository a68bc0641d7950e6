/- Plain law of PatchReturns: the patch that Diff zT8. Condition: the second form's bound. -/
import Derived.Test.YtigpekbhmpfcoaaGreatDoorRetM
namespace Go.Proofs.YtigpekbhmpfcoaaGreatDoor.Am
open Go Go.Am
def dP (a b:D28) (k:Int) (l m:List D57):D32:=(f14 a,f14 b,k,l,m,(bif (!(f16 a.2.2.2.2.2.1 b.2.2.2.2.2.1)) then a.2.2.2.2.2.1 else ZM),(bif (!(f16 a.2.2.2.2.2.1 b.2.2.2.2.2.1)) then b.2.2.2.2.2.1 else ZM),(bif (!(f18 a.2.2.2.2.2.2.1 b.2.2.2.2.2.2.1)) then a.2.2.2.2.2.2.1 else []),(bif (!(f18 a.2.2.2.2.2.2.1 b.2.2.2.2.2.2.1)) then b.2.2.2.2.2.2.1 else []),(bif (!(f20 a.2.2.2.2.2.2.2.1 b.2.2.2.2.2.2.2.1)) then a.2.2.2.2.2.2.2.1 else []),(bif (!(f20 a.2.2.2.2.2.2.2.1 b.2.2.2.2.2.2.2.1)) then b.2.2.2.2.2.2.2.1 else []),())
theorem oZ6 {a b:D28} (h:(f13 a != 0) = true):f5 a b = ((Z50,Z50,(0:Int),[],[],ZM,ZM,[],[],[],[],()),f13 a,()):=by
 simp only [f5,f5t,h,cond_true]
theorem oZ7 {a b:D28} (h:(f13 a != 0) = false) (h2:(f13 b != 0) = true):f5 a b = ((Z50,Z50,(0:Int),[],[],ZM,ZM,[],[],[],[],()),f13 b,()):=by
 simp only [f5,f5t,h,h2,cond_true,cond_false]
structure Found (a b:D28) (k:Int) (l m s:List D57):Prop where
 k0:0 ≤ k
 k1:k ≤ len a.2.2.2.1
 k2:k ≤ len b.2.2.2.1
 ea:a.2.2.2.1 = List.take (Int.toNat k) a.2.2.2.1 ++ l ++ s
 eb:b.2.2.2.1 = List.take (Int.toNat k) a.2.2.2.1 ++ m ++ s
 hd:0 < len l → 0 < len m → nth l 0 Z57 ≠ nth m 0 Z57
 tl:0 < len l → 0 < len m → nth l (len l - 1) Z57 ≠ nth m (len m - 1) Z57
theorem nth_head {L l s:List D57} {k:Int} (k0:0 ≤ k) (h:List.drop (Int.toNat k) L = l ++ s) (hl:0 < len l):k < len L ∧ nth L k Z57 = nth l 0 Z57:=by
 have hlen:(List.drop (Int.toNat k) L).length = l.length + s.length:=by rw [h,List.length_append]
 rw [List.length_drop] at hlen
 have h1:0 < l.length:=by unfold len at hl; omega
 refine ⟨by unfold len; omega,?_⟩
 cases l with
 | nil=>simp at h1
 | cons x r =>
  have e:(List.drop (Int.toNat k) L)[0]? = some x:=by rw [h]; rfl
  rw [List.getElem?_drop,Nat.add_zero] at e
  show L.getD (Int.toNat k) Z57 = x
  rw [List.getD_eq_getElem?_getD,e]; rfl
theorem oZ8 {N:Int} {a b:D28} (wa:Ty.wf T28 a) (wb:Ty.wf T28 b) (ha:(f13 a != 0) = false) (hb:(f13 b != 0) = false) (da:DocSz N a) (db:DocSz N b) (hN:N ≤ 100000000):uR5 a b ∧ ∃ k l m s,f5 a b = (dP a b k l m,0,()) ∧ Found a b k l m s:=by
 obtain ⟨e9,⟨k,hk,k0,k1,k2,ht⟩,g9⟩:=diff9 a b (Z50,Z50,(0:Int),([]:List D57),([]:List D57),((0:Int),(0:Int),([]:List Int),()),((0:Int),(0:Int),([]:List Int),()),([]:List D66),([]:List D66),([]:List D74),([]:List D74),()) wa wb
 have h9:zB9 (vN0 (a,b,(Z50,Z50,(0:Int),([]:List D57),([]:List D57),((0:Int),(0:Int),([]:List Int),()),((0:Int),(0:Int),([]:List Int),()),([]:List D66),([]:List D66),([]:List D74),([]:List D74),()),a.2.2.2.1,b.2.2.2.1,())) (wP5 (a,b,(Z50,Z50,(0:Int),([]:List D57),([]:List D57),((0:Int),(0:Int),([]:List Int),()),((0:Int),(0:Int),([]:List Int),()),([]:List D66),([]:List D66),([]:List D74),([]:List D74),()),a.2.2.2.1,b.2.2.2.1,())) ((f14 a,f14 b,(0:Int),([]:List D57),([]:List D57),((0:Int),(0:Int),([]:List Int),()),((0:Int),(0:Int),([]:List Int),()),([]:List D66),([]:List D66),([]:List D74),([]:List D74),()),()) = (pre a b k,()):=Prod.ext hk rfl
 have g9':vN0 (a,b,(Z50,Z50,(0:Int),([]:List D57),([]:List D57),((0:Int),(0:Int),([]:List Int),()),((0:Int),(0:Int),([]:List Int),()),([]:List D66),([]:List D66),([]:List D74),([]:List D74),()),a.2.2.2.1,b.2.2.2.1,()) (pre a b k,()) = false:=by
  have:=g9
  rw [show zB9 _ _ (pre a b 0,()) = (pre a b k,()) from h9] at this
  exact this
 have wl:WfN (List.drop (Int.toNat k) a.2.2.2.1):=wfN_sub (nodes_wf wa) (fun n hn=>List.mem_of_mem_drop hn) (by simp only [List.length_drop]; omega)
 have wm:WfN (List.drop (Int.toNat k) b.2.2.2.1):=wfN_sub (nodes_wf wb) (fun n hn=>List.mem_of_mem_drop hn) (by simp only [List.length_drop]; omega)
 have d12:=diff12 (a,b,(Z50,Z50,(0:Int),([]:List D57),([]:List D57),((0:Int),(0:Int),([]:List Int),()),((0:Int),(0:Int),([]:List Int),()),([]:List D66),([]:List D66),([]:List D74),([]:List D74),()),(f14 a,f14 b,k,([]:List D57),([]:List D57),((0:Int),(0:Int),([]:List Int),()),((0:Int),(0:Int),([]:List Int),()),([]:List D66),([]:List D66),([]:List D74),([]:List D74),()),()) _ _ wl wm
 simp only [uR5,f5,f5t,ha,hb,h9,cond_false,Bool.cond_self,uR4,uC4,uC5,pre,mask_copy,f19]
 generalize zB9 (vE (a,b,(Z50,Z50,(0:Int),([]:List D57),([]:List D57),((0:Int),(0:Int),([]:List Int),()),((0:Int),(0:Int),([]:List Int),()),([]:List D66),([]:List D66),([]:List D74),([]:List D74),()),(f14 a,f14 b,k,([]:List D57),([]:List D57),((0:Int),(0:Int),([]:List Int),()),((0:Int),(0:Int),([]:List Int),()),([]:List D66),([]:List D66),([]:List D74),([]:List D74),()),())) (wL6 (a,b,(Z50,Z50,(0:Int),([]:List D57),([]:List D57),((0:Int),(0:Int),([]:List Int),()),((0:Int),(0:Int),([]:List Int),()),([]:List D66),([]:List D66),([]:List D74),([]:List D74),()),(f14 a,f14 b,k,([]:List D57),([]:List D57),((0:Int),(0:Int),([]:List Int),()),((0:Int),(0:Int),([]:List Int),()),([]:List D66),([]:List D66),([]:List D74),([]:List D74),()),())) (List.drop (Int.toNat k) a.2.2.2.1,List.drop (Int.toNat k) b.2.2.2.1,()) = z at d12 ⊢
 obtain ⟨e12,⟨s,t1,t2⟩,g12⟩:=d12
 have hs1:len (List.drop (Int.toNat k) a.2.2.2.1) ≤ N:=Int.le_trans (drop_len _ _) da.nodes.1
 have hs2:len (List.drop (Int.toNat k) b.2.2.2.1) ≤ N:=Int.le_trans (drop_len _ _) db.nodes.1
 have s0:=xT s
 have z1:len z.1 ≤ N:=by rw [t1,len_app] at hs1; omega
 have z2:len z.2.1 ≤ N:=by rw [t2,len_app] at hs2; omega
 have q1:∀ n ∈ z.1,n ∈ a.2.2.2.1:=fun n hn=>List.mem_of_mem_drop (by rw [t1]; exact List.mem_append_left _ hn)
 have q2:∀ n ∈ z.2.1,n ∈ b.2.2.2.1:=fun n hn=>List.mem_of_mem_drop (by rw [t2]; exact List.mem_append_left _ hn)
 have la:=da.lnk.1
 have lb:=db.lnk.1
 simp only [nodes_copy _ (show len z.1 < 9223372036854775808 by omega),nodes_copy _ (show len z.2.1 < 9223372036854775808 by omega),links_copy _ (len_lt (links_wf wa).1),links_copy _ (len_lt (links_wf wb).1)]
 refine ⟨⟨uC9 _ (doc_fit wa),fun _=>⟨uC9 _ (doc_fit wb),fun _=>⟨trivial,trivial,e9,⟨k0,k1⟩,⟨k0,k2⟩,e12,tU8 _ (by omega) (fun n hn=>da.nodes.2 n (q1 n hn)),tU8 _ (by omega) (fun n hn=>db.nodes.2 n (q2 n hn)),tU5 (sel_fit wa),fun _=>⟨clone_ok da.sel,clone_ok db.sel⟩,tU6 _ _ (len_lt (meta_wf wa).1),fun _=>⟨clone_ok da.met,clone_ok db.met⟩,tU7 _ _ (links_wf wa),fun _=>⟨uT _ (by unfold len; omega) da.lnk.2,uT _ (by unfold len; omega) db.lnk.2⟩⟩⟩⟩,k,z.1,z.2.1,s,rfl,k0,k1,k2,?_,?_,fun h1 h2 he=>?_,fun h1 h2 he=>?_⟩
 ·rw [List.append_assoc,← t1]; exact (List.take_append_drop _ _).symm
 ·rw [ht,List.append_assoc,← t2]; exact (List.take_append_drop _ _).symm
 ·obtain ⟨c1,c2⟩:=nth_head k0 t1 h1
  obtain ⟨c3,c4⟩:=nth_head k0 t2 h2
  have he':nth a.2.2.2.1 k Z57 = nth b.2.2.2.1 k Z57:=by rw [c2,c4,he]
  have hf:=(wW6 ((nodes_wf wa).2 _ (nth_mem ⟨k0,c1⟩)) ((nodes_wf wb).2 _ (nth_mem ⟨k0,c3⟩))).2 he'
  have g:(bif (bif (decide (k < len a.2.2.2.1)) then (decide (k < len b.2.2.2.1)) else false) then (f12 (nth a.2.2.2.1 k Z57) (nth b.2.2.2.1 k Z57)) else false) = false:=g9'
  rw [hf,decide_eq_true c1,decide_eq_true c3] at g
  cases g
 ·have i1:InB (len z.1 - 1) (len z.1):=⟨by omega,by omega⟩
  have i2:InB (len z.2.1 - 1) (len z.2.1):=⟨by omega,by omega⟩
  have hf:=(wW6 ((nodes_wf wa).2 _ (q1 _ (nth_mem i1))) ((nodes_wf wb).2 _ (q2 _ (nth_mem i2)))).2 he
  have g:(bif (bif (decide ((len z.1) > 0)) then (decide ((len z.2.1) > 0)) else false) then (f12 (nth z.1 (len z.1 - 1) Z57) (nth z.2.1 (len z.2.1 - 1) Z57)) else false) = false:=g12
  rw [hf,decide_eq_true (show len z.1 > 0 from h1),decide_eq_true (show len z.2.1 > 0 from h2)] at g
  cases g
end Go.Proofs.YtigpekbhmpfcoaaGreatDoor.Am
