/- Plain law of PatchReturns. Condition: the second form's bound. -/
import Derived.Test.YtigpekbhmpfcoaaGreatDoorRetR
namespace Go.Proofs.YtigpekbhmpfcoaaGreatDoor.Am
open Go Go.Am
theorem found_len {a b:D28} {k:Int} {l m s:List D57} (F:Found a b k l m s):(List.take (Int.toNat k) a.2.2.2.1).length = Int.toNat k ∧ k + len l + len s = len a.2.2.2.1:=by
 have h:(List.take (Int.toNat k) a.2.2.2.1).length = Int.toNat k:=by
  rw [List.length_take]
  have:=F.k1; have:=F.k0
  simp only [len] at *
  omega
 refine ⟨h,?_⟩
 have e:=congrArg len F.ea
 rw [cat_len] at e
 have hk:len (List.take (Int.toNat k) a.2.2.2.1) = k:=by have:=F.k0; unfold len; omega
 omega
theorem found_fits {a b:D28} {k:Int} {l m s:List D57} (wa:Ty.wf T28 a) (wb:Ty.wf T28 b) (F:Found a b k l m s):Fits a (dP a b k l m) ∧ mk a (dP a b k l m) = b:=by
 obtain ⟨h1,h2⟩:=found_len F
 have k0:=F.k0
 have ls:=xT s
 have ll:=xT l
 have e16:=vN2 (a:=a.2.2.2.2.2.1) (b:=b.2.2.2.2.2.1) (sel_fit wa)
 have e18:=vN3 (meta_wf wa) (meta_wf wb)
 have e20:=vN4 (links_wf wa) (links_wf wb)
 have p1:List.drop (Int.toNat k) (List.take (Int.toNat (k + len l)) a.2.2.2.1) = l:=by
  conv=>lhs; rhs; rw [F.ea]
  rw [List.take_left' (by rw [List.length_append,h1,toNat_add k0])]
  exact List.drop_left' h1
 have p2:List.drop (Int.toNat (k + len l)) a.2.2.2.1 = s:=by
  conv=>lhs; rw [F.ea]
  exact List.drop_left' (by rw [List.length_append,h1,toNat_add k0])
 constructor
 ·refine ⟨rfl,k0,(show k + len l ≤ len a.2.2.2.1 by omega),p1,?_,?_,?_⟩
  ·show (bif (!(f16 a.2.2.2.2.2.1 b.2.2.2.2.2.1)) then a.2.2.2.2.2.1 else ZM) = (bif (!(f16 a.2.2.2.2.2.1 b.2.2.2.2.2.1)) then b.2.2.2.2.2.1 else ZM) ∨ (bif (!(f16 a.2.2.2.2.2.1 b.2.2.2.2.2.1)) then a.2.2.2.2.2.1 else ZM) = a.2.2.2.2.2.1
   cases f16 a.2.2.2.2.2.1 b.2.2.2.2.2.1 with
   | true=>exact .inl rfl
   | false=>exact .inr rfl
  ·show (bif (!(f18 a.2.2.2.2.2.2.1 b.2.2.2.2.2.2.1)) then a.2.2.2.2.2.2.1 else []) = (bif (!(f18 a.2.2.2.2.2.2.1 b.2.2.2.2.2.2.1)) then b.2.2.2.2.2.2.1 else []) ∨ (bif (!(f18 a.2.2.2.2.2.2.1 b.2.2.2.2.2.2.1)) then a.2.2.2.2.2.2.1 else []) = a.2.2.2.2.2.2.1
   cases f18 a.2.2.2.2.2.2.1 b.2.2.2.2.2.2.1 with
   | true=>exact .inl rfl
   | false=>exact .inr rfl
  ·show (bif (!(f20 a.2.2.2.2.2.2.2.1 b.2.2.2.2.2.2.2.1)) then a.2.2.2.2.2.2.2.1 else []) = (bif (!(f20 a.2.2.2.2.2.2.2.1 b.2.2.2.2.2.2.2.1)) then b.2.2.2.2.2.2.2.1 else []) ∨ (bif (!(f20 a.2.2.2.2.2.2.2.1 b.2.2.2.2.2.2.2.1)) then a.2.2.2.2.2.2.2.1 else []) = a.2.2.2.2.2.2.2.1
   cases f20 a.2.2.2.2.2.2.2.1 b.2.2.2.2.2.2.2.1 with
   | true=>exact .inl rfl
   | false=>exact .inr rfl
 ·have t16:f16 ZM ZM = true:=by kernel_rfl
  have t18:f18 ([]:List D66) [] = true:=by kernel_rfl
  have t20:f20 ([]:List D74) [] = true:=by kernel_rfl
  have s1:(bif (!(f16 (bif (!(f16 a.2.2.2.2.2.1 b.2.2.2.2.2.1)) then a.2.2.2.2.2.1 else ZM) (bif (!(f16 a.2.2.2.2.2.1 b.2.2.2.2.2.1)) then b.2.2.2.2.2.1 else ZM))) then (bif (!(f16 a.2.2.2.2.2.1 b.2.2.2.2.2.1)) then b.2.2.2.2.2.1 else ZM) else a.2.2.2.2.2.1) = b.2.2.2.2.2.1:=by
   cases hc:f16 a.2.2.2.2.2.1 b.2.2.2.2.2.1 with
   | true=>simp only [Bool.not_true,cond_false,t16]; exact e16.1 hc
   | false=>simp only [Bool.not_false,cond_true,hc]
  have s2:(bif (!(f18 (bif (!(f18 a.2.2.2.2.2.2.1 b.2.2.2.2.2.2.1)) then a.2.2.2.2.2.2.1 else []) (bif (!(f18 a.2.2.2.2.2.2.1 b.2.2.2.2.2.2.1)) then b.2.2.2.2.2.2.1 else []))) then (bif (!(f18 a.2.2.2.2.2.2.1 b.2.2.2.2.2.2.1)) then b.2.2.2.2.2.2.1 else []) else a.2.2.2.2.2.2.1) = b.2.2.2.2.2.2.1:=by
   cases hc:f18 a.2.2.2.2.2.2.1 b.2.2.2.2.2.2.1 with
   | true=>simp only [Bool.not_true,cond_false,t18]; exact e18.1 hc
   | false=>simp only [Bool.not_false,cond_true,hc]
  have s3:(bif (!(f20 (bif (!(f20 a.2.2.2.2.2.2.2.1 b.2.2.2.2.2.2.2.1)) then a.2.2.2.2.2.2.2.1 else []) (bif (!(f20 a.2.2.2.2.2.2.2.1 b.2.2.2.2.2.2.2.1)) then b.2.2.2.2.2.2.2.1 else []))) then (bif (!(f20 a.2.2.2.2.2.2.2.1 b.2.2.2.2.2.2.2.1)) then b.2.2.2.2.2.2.2.1 else []) else a.2.2.2.2.2.2.2.1) = b.2.2.2.2.2.2.2.1:=by
   cases hc:f20 a.2.2.2.2.2.2.2.1 b.2.2.2.2.2.2.2.1 with
   | true=>simp only [Bool.not_true,cond_false,t20]; exact e20.1 hc
   | false=>simp only [Bool.not_false,cond_true,hc]
  show (b.1,b.2.1,b.2.2.1,List.take (Int.toNat k) a.2.2.2.1 ++ m ++ List.drop (Int.toNat (k + len l)) a.2.2.2.1,b.2.2.2.2.1,_,_,_,()) = b
  rw [p2,← F.eb]
  refine Eq.trans (congrArg (fun z=>(b.1,b.2.1,b.2.2.1,b.2.2.2.1,b.2.2.2.2.1,z)) (show (_,_,_,()) = (b.2.2.2.2.2.1,b.2.2.2.2.2.2.1,b.2.2.2.2.2.2.2.1,()) from ?_)) rfl
  exact Prod.ext s1 (Prod.ext s2 (Prod.ext s3 rfl))
theorem dP_wf {a b:D28} {k:Int} {l m s:List D57} (wa:Ty.wf T28 a) (wb:Ty.wf T28 b) (F:Found a b k l m s):Ty.wf T32 (dP a b k l m):=by
 have ml:∀ n ∈ l,n ∈ a.2.2.2.1:=fun n hn=>by rw [F.ea]; exact List.mem_append_left _ (List.mem_append_right _ hn)
 have mm:∀ n ∈ m,n ∈ b.2.2.2.1:=fun n hn=>by rw [F.eb]; exact List.mem_append_left _ (List.mem_append_right _ hn)
 have l1:l.length ≤ a.2.2.2.1.length:=by have:=congrArg List.length F.ea; rw [List.length_append,List.length_append] at this; omega
 have l2:m.length ≤ b.2.2.2.1.length:=by have:=congrArg List.length F.eb; rw [List.length_append,List.length_append] at this; omega
 have k1:=F.k1
 have k0:=F.k0
 have hn:=len_lt (nodes_wf wa).1
 have zm:Ty.wf T24 ZM:=⟨⟨by decide,by decide⟩,⟨by decide,by decide⟩,⟨Nat.zero_le _,fun n hn=>by cases hn⟩,trivial⟩
 have z6:Ty.wf (.sl T66) ([]:List D66):=⟨Nat.zero_le _,fun n hn=>by cases hn⟩
 have z7:Ty.wf (.sl T74) ([]:List D74):=⟨Nat.zero_le _,fun n hn=>by cases hn⟩
 have ek:IntKind.min .i64 ≤ k ∧ k ≤ IntKind.max .i64:=by
  have e1:IntKind.min .i64 = -9223372036854775808:=by decide
  have e2:IntKind.max .i64 = 9223372036854775807:=by decide
  rw [e1,e2]; omega
 exact ⟨head_wf wa,head_wf wb,ek,wfN_sub (nodes_wf wa) ml l1,wfN_sub (nodes_wf wb) mm l2,pick_or (Ty.wf T24) _ wa.2.2.2.2.2.1 zm,pick_or (Ty.wf T24) _ wb.2.2.2.2.2.1 zm,pick_or (Ty.wf (.sl T66)) _ (meta_wf wa) z6,pick_or (Ty.wf (.sl T66)) _ (meta_wf wb) z6,pick_or (Ty.wf (.sl T74)) _ (links_wf wa) z7,pick_or (Ty.wf (.sl T74)) _ (links_wf wb) z7,trivial⟩
theorem dP_sz {N:Int} {a b:D28} {k:Int} {l m s:List D57} (da:DocSz N a) (db:DocSz N b) (F:Found a b k l m s):PatSz N (dP a b k l m):=by
 have ml:∀ n ∈ l,n ∈ a.2.2.2.1:=fun n hn=>by rw [F.ea]; exact List.mem_append_left _ (List.mem_append_right _ hn)
 have mm:∀ n ∈ m,n ∈ b.2.2.2.1:=fun n hn=>by rw [F.eb]; exact List.mem_append_left _ (List.mem_append_right _ hn)
 have e1:=congrArg len F.ea
 have e2:=congrArg len F.eb
 rw [cat_len] at e1 e2
 have t:=xT (List.take (Int.toNat k) a.2.2.2.1)
 have s0:=xT s
 have n1:=da.nodes.1
 have n2:=db.nodes.1
 have z:LinksSz ([]:List D74):=⟨Nat.zero_le _,fun n hn=>by cases hn⟩
 exact ⟨⟨(show len l ≤ N by omega),fun n hn=>da.nodes.2 n (ml n hn)⟩,⟨(show len m ≤ N by omega),fun n hn=>db.nodes.2 n (mm n hn)⟩,pick_or (fun m:D24=>m.2.2.1.length ≤ 1048576) _ da.sel (Nat.zero_le _),pick_or (fun m:D24=>m.2.2.1.length ≤ 1048576) _ db.sel (Nat.zero_le _),pick_or (fun m:List D66=>m.length ≤ 1048576) _ da.met (Nat.zero_le _),pick_or (fun m:List D66=>m.length ≤ 1048576) _ db.met (Nat.zero_le _),pick_or LinksSz _ da.lnk z,pick_or LinksSz _ db.lnk z⟩
end Go.Proofs.YtigpekbhmpfcoaaGreatDoor.Am
