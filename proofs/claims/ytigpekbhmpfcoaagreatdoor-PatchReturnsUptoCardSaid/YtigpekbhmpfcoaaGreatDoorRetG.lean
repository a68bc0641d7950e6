/- Plain law of PatchUndoes. Condition: the second form's bound. -/
import Derived.Test.YtigpekbhmpfcoaaGreatDoorRetK
namespace Go.Proofs.YtigpekbhmpfcoaaGreatDoor.Am
open Go Go.Am
def NodesSz (N:Int) (l:List D57):Prop:=len l ≤ N ∧ ∀ n ∈ l,Short n
def LinksSz (l:List D74):Prop:=l.length ≤ 1048576 ∧ ∀ m ∈ l,m.2.2.2.2.1.2.2.1.length ≤ 1048576
structure DocSz (N:Int) (d:D28):Prop where
 nodes:NodesSz N d.2.2.2.1
 sel:d.2.2.2.2.2.1.2.2.1.length ≤ 1048576
 met:d.2.2.2.2.2.2.1.length ≤ 1048576
 lnk:LinksSz d.2.2.2.2.2.2.2.1
structure PatSz (N:Int) (p:D32):Prop where
 del:NodesSz N p.2.2.2.1
 ins:NodesSz N p.2.2.2.2.1
 selO:p.2.2.2.2.2.1.2.2.1.length ≤ 1048576
 selN:p.2.2.2.2.2.2.1.2.2.1.length ≤ 1048576
 metO:p.2.2.2.2.2.2.2.1.length ≤ 1048576
 metN:p.2.2.2.2.2.2.2.2.1.length ≤ 1048576
 lnkO:LinksSz p.2.2.2.2.2.2.2.2.2.1
 lnkN:LinksSz p.2.2.2.2.2.2.2.2.2.2.1
theorem pick_or {α:Type} (P:α → Prop) (b:Bool) {x y:α} (hx:P x) (hy:P y):P (bif b then x else y):=by cases b <;> assumption
theorem mem_cat {a b c:List D57} {P:D57 → Prop} (ha:∀ n ∈ a,P n) (hb:∀ n ∈ b,P n) (hc:∀ n ∈ c,P n):∀ n ∈ a ++ b ++ c,P n:=fun n hn=>by
 rcases List.mem_append.1 hn with h | h
 ·rcases List.mem_append.1 h with h | h
  ·exact ha n h
  ·exact hb n h
 ·exact hc n h
theorem take_len (l:List D57) (k:Nat):len (List.take k l) ≤ len l:=by simp only [len,List.length_take]; omega
theorem drop_len (l:List D57) (k:Nat):len (List.drop k l) ≤ len l:=by simp only [len,List.length_drop]; omega
theorem mk_sz {N M:Int} {d:D28} {p:D32} (hd:DocSz N d) (hp:PatSz M p):DocSz (2 * N + M) (mk d p):=by
 refine ⟨⟨?_,mem_cat (fun n hn=>hd.nodes.2 n (List.mem_of_mem_take hn)) hp.ins.2 (fun n hn=>hd.nodes.2 n (List.mem_of_mem_drop hn))⟩,?_,?_,?_⟩
 ·have h1:=take_len d.2.2.2.1 (Int.toNat p.2.2.1)
  have h2:=drop_len d.2.2.2.1 (Int.toNat (p.2.2.1 + len p.2.2.2.1))
  have h3:=hd.nodes.1
  have h4:=hp.ins.1
  show len (List.take (Int.toNat p.2.2.1) d.2.2.2.1 ++ p.2.2.2.2.1 ++ List.drop (Int.toNat (p.2.2.1 + len p.2.2.2.1)) d.2.2.2.1) ≤ _
  rw [cat_len]; omega
 ·exact pick_or (fun m:D24=>m.2.2.1.length ≤ 1048576) _ hp.selN hd.sel
 ·exact pick_or (fun m:List D66=>m.length ≤ 1048576) _ hp.metN hd.met
 ·exact pick_or LinksSz _ hp.lnkN hd.lnk
theorem mk_wf {N M:Int} {d:D28} {p:D32} (wd:Ty.wf T28 d) (wp:Ty.wf T32 p) (hd:DocSz N d) (hp:PatSz M p) (hN:2 * N + M ≤ 100000000):Ty.wf T28 (mk d p):=by
 have hz:=(mk_sz hd hp).nodes.1
 refine ⟨wp.2.1.1,wp.2.1.2.1,wp.2.1.2.2.1,⟨?_,mem_cat (fun n hn=>(nodes_wf wd).2 n (List.mem_of_mem_take hn)) (ins_wf wp).2 (fun n hn=>(nodes_wf wd).2 n (List.mem_of_mem_drop hn))⟩,wp.2.1.2.2.2.1,?_,?_,?_,trivial⟩
 ·have e:maxLen = 9223372036854775807:=rfl
  show (mk d p).2.2.2.1.length ≤ maxLen
  simp only [len] at hz
  omega
 ·exact pick_or (Ty.wf T24) _ wp.2.2.2.2.2.2.1 wd.2.2.2.2.2.1
 ·exact pick_or (Ty.wf (.sl T66)) _ (metN_wf wp) (meta_wf wd)
 ·exact pick_or (Ty.wf (.sl T74)) _ (lnkN_wf wp) (links_wf wd)
def inv (p:D32):D32:=(p.2.1,p.1,p.2.2.1,p.2.2.2.2.1,p.2.2.2.1,p.2.2.2.2.2.2.1,p.2.2.2.2.2.1,p.2.2.2.2.2.2.2.2.1,p.2.2.2.2.2.2.2.1,p.2.2.2.2.2.2.2.2.2.2.1,p.2.2.2.2.2.2.2.2.2.1,())
theorem nJ6 {p:D32} (wp:Ty.wf T32 p):f9 p = inv p:=by
 simp only [f9,f9t,nodes_copy _ (len_lt (del_wf wp).1),nodes_copy _ (len_lt (ins_wf wp).1),links_copy _ (len_lt (lnkO_wf wp).1),links_copy _ (len_lt (lnkN_wf wp).1),mask_copy,f19]
 rfl
theorem nJ7 {N:Int} {p:D32} (hp:PatSz N p) (hN:N ≤ 100000000):rH0 p:=by
 have l1:=hp.lnkO.1
 have l2:=hp.lnkN.1
 have d1:=hp.del.1
 have i1:=hp.ins.1
 exact ⟨tU8 _ (by omega) hp.ins.2,tU8 _ (by omega) hp.del.2,clone_ok hp.selN,clone_ok hp.selO,clone_ok hp.metN,clone_ok hp.metO,uT _ (by unfold len; omega) hp.lnkN.2,uT _ (by unfold len; omega) hp.lnkO.2⟩
theorem inv_sz {N:Int} {p:D32} (hp:PatSz N p):PatSz N (inv p):=⟨hp.ins,hp.del,hp.selN,hp.selO,hp.metN,hp.metO,hp.lnkN,hp.lnkO⟩
theorem inv_wf {p:D32} (wp:Ty.wf T32 p):Ty.wf T32 (inv p):=⟨wp.2.1,wp.1,wp.2.2.1,wp.2.2.2.2.1,wp.2.2.2.1,wp.2.2.2.2.2.2.1,wp.2.2.2.2.2.1,wp.2.2.2.2.2.2.2.2.1,wp.2.2.2.2.2.2.2.1,wp.2.2.2.2.2.2.2.2.2.2.1,wp.2.2.2.2.2.2.2.2.2.1,trivial⟩
theorem pX0 {N M:Int} {d:D28} {p:D32} (wd:Ty.wf T28 d) (wp:Ty.wf T32 p) (hd:DocSz N d) (hp:PatSz M p) (hN:2 * N + M ≤ 100000000):tA9 d p:=by
 have hz:=(mk_sz hd hp).nodes
 have hw:=mk_wf wd wp hd hp hN
 have hm:=v34_is d p
 have fl:=@sK2 d p wd wp
 have n0:=xT d.2.2.2.1
 have i0:=xT p.2.2.2.2.1
 have l0:=xT p.2.2.2.1
 have n1:=hd.nodes.1
 have i1:=hp.ins.1
 have hll:len d.2.2.2.2.2.2.2.1 ≤ 1048576:=by have:=hd.lnk.1; unfold len; omega
 have hln:len p.2.2.2.2.2.2.2.2.2.2.1 ≤ 1048576:=by have:=hp.lnkN.1; unfold len; omega
 have hlen:len (List.take (Int.toNat p.2.2.1) d.2.2.2.1 ++ p.2.2.2.2.1 ++ List.drop (Int.toNat (p.2.2.1 + len p.2.2.2.1)) d.2.2.2.1) ≤ 2 * N + M:=hz.1
 simp only [tA9,f8t,qX6,nodes_copy _ (show len (List.take (Int.toNat p.2.2.1) d.2.2.2.1 ++ p.2.2.2.2.1 ++ List.drop (Int.toNat (p.2.2.1 + len p.2.2.2.1)) d.2.2.2.1) < 9223372036854775808 by omega),links_copy _ (show len d.2.2.2.2.2.2.2.1 < 9223372036854775808 by omega),links_copy _ (show len p.2.2.2.2.2.2.2.2.2.2.1 < 9223372036854775808 by omega),mask_copy,f19,Bool.cond_self]
 refine ⟨uC9 _ (doc_fit wd),fun _=>⟨oZ1 wd wp,fun hv=>?_⟩⟩
 have F:=fl.1 (by simpa using hv)
 have a0:=F.at0
 have a1:=F.at1
 have b1:p.2.2.1 ≤ len d.2.2.2.1:=by omega
 have b2:InR (p.2.2.1 + len p.2.2.2.1):=inr_all (by omega) (by omega)
 have b3:0 ≤ p.2.2.1 + len p.2.2.2.1:=by omega
 exact ⟨⟨a0,b1⟩,b2,⟨b3,a1⟩,oZ0 _ _ _ (Int.le_trans (take_len _ _) (by omega)) (by omega) (Int.le_trans (drop_len _ _) (by omega)),tU8 _ (by omega) hz.2,clone_ok hd.sel,clone_ok hd.met,uT _ (by omega) hd.lnk.2,tU5 (selO_fit wp),fun _=>clone_ok hp.selN,tU6 _ _ (len_lt (metO_wf wp).1),fun _=>clone_ok hp.metN,tU7 _ _ (lnkO_wf wp),fun _=>uT _ (by omega) hp.lnkN.2,uC9 _ (doc_fit hw)⟩
theorem pX1 {N M:Int} {d:D28} {p:D32} (hd:DocSz N d) (hp:PatSz M p) (hN:2 * N + M ≤ 100000000) :
  f8 d p = (bif (f13 d != 0) then (zeroD,f13 d,()) else (bif (!(f24 d p)) then (zeroD,14,()) else (bif (f13 (mk d p) != 0) then (zeroD,f13 (mk d p),()) else (mk d p,0,())))):=by
 have h1:=(mk_sz hd hp).nodes.1
 have h2:=hd.lnk.1
 have h3:=hp.lnkN.1
 exact nK9 d p (Int.lt_of_le_of_lt h1 (by omega)) (by unfold len; omega) (by unfold len; omega)
theorem toNat_add {k:Int} {l:List D57} (h:0 ≤ k):Int.toNat (k + len l) = Int.toNat k + l.length:=by unfold len; omega
theorem undo_fits {d:D28} {p:D32} (wp:Ty.wf T32 p) (F:Fits d p):Fits (mk d p) (inv p) ∧ mk (mk d p) (inv p) = d:=by
 obtain ⟨Fh,F0,F1,Fd,Fs,Fm,Fl⟩:=F
 have e16:=vN2 (a:=p.2.2.2.2.2.1) (b:=p.2.2.2.2.2.2.1) (selO_fit wp)
 have e16':=vN2 (a:=p.2.2.2.2.2.2.1) (b:=p.2.2.2.2.2.1) (len_lt wp.2.2.2.2.2.2.1.2.2.1.1)
 have e18:=vN3 (metO_wf wp) (metN_wf wp)
 have e18':=vN3 (metN_wf wp) (metO_wf wp)
 have e20:=vN4 (lnkO_wf wp) (lnkN_wf wp)
 have e20':=vN4 (lnkN_wf wp) (lnkO_wf wp)
 have hlen:(List.take (Int.toNat p.2.2.1) d.2.2.2.1).length = Int.toNat p.2.2.1:=by
  rw [List.length_take]
  have:=xT p.2.2.2.1
  simp only [len] at F1 this
  omega
 have hM:(mk d p).2.2.2.1 = List.take (Int.toNat p.2.2.1) d.2.2.2.1 ++ p.2.2.2.2.1 ++ List.drop (Int.toNat (p.2.2.1 + len p.2.2.2.1)) d.2.2.2.1:=rfl
 have t1:List.take (Int.toNat p.2.2.1) (mk d p).2.2.2.1 = List.take (Int.toNat p.2.2.1) d.2.2.2.1:=by
  rw [hM,List.append_assoc]; exact List.take_left' hlen
 have t2:List.drop (Int.toNat (p.2.2.1 + len p.2.2.2.2.1)) (mk d p).2.2.2.1 = List.drop (Int.toNat (p.2.2.1 + len p.2.2.2.1)) d.2.2.2.1:=by
  rw [hM]; exact List.drop_left' (by rw [List.length_append,hlen,toNat_add F0])
 have t3:List.drop (Int.toNat p.2.2.1) (List.take (Int.toNat (p.2.2.1 + len p.2.2.2.2.1)) (mk d p).2.2.2.1) = p.2.2.2.2.1:=by
  rw [hM,List.take_left' (by rw [List.length_append,hlen,toNat_add F0])]
  exact List.drop_left' hlen
 have t4:List.take (Int.toNat p.2.2.1) d.2.2.2.1 ++ p.2.2.2.1 ++ List.drop (Int.toNat (p.2.2.1 + len p.2.2.2.1)) d.2.2.2.1 = d.2.2.2.1:=by
  have e:List.take (Int.toNat p.2.2.1) d.2.2.2.1 ++ p.2.2.2.1 = List.take (Int.toNat (p.2.2.1 + len p.2.2.2.1)) d.2.2.2.1:=by
   have h1:List.take (Int.toNat p.2.2.1) d.2.2.2.1 = List.take (Int.toNat p.2.2.1) (List.take (Int.toNat (p.2.2.1 + len p.2.2.2.1)) d.2.2.2.1):=by
    rw [List.take_take,toNat_add F0,Nat.min_eq_left (by omega)]
   have h2:p.2.2.2.1 = List.drop (Int.toNat p.2.2.1) (List.take (Int.toNat (p.2.2.1 + len p.2.2.2.1)) d.2.2.2.1):=Fd.symm
   rw [h1]
   conv=>lhs; rhs; rw [h2]
   exact List.take_append_drop _ _
  rw [e]; exact List.take_append_drop _ _
 constructor
 ·refine ⟨rfl,F0,?_,t3,?_,?_,?_⟩
  ·have:len (mk d p).2.2.2.1 = len (List.take (Int.toNat p.2.2.1) d.2.2.2.1) + len p.2.2.2.2.1 + len (List.drop (Int.toNat (p.2.2.1 + len p.2.2.2.1)) d.2.2.2.1):=by rw [hM,cat_len]
   have h0:=xT (List.drop (Int.toNat (p.2.2.1 + len p.2.2.2.1)) d.2.2.2.1)
   show p.2.2.1 + len p.2.2.2.2.1 ≤ len (mk d p).2.2.2.1
   have hk:len (List.take (Int.toNat p.2.2.1) d.2.2.2.1) = p.2.2.1:=by unfold len; omega
   omega
  ·show p.2.2.2.2.2.2.1 = p.2.2.2.2.2.1 ∨ p.2.2.2.2.2.2.1 = (bif (!(f16 p.2.2.2.2.2.1 p.2.2.2.2.2.2.1)) then p.2.2.2.2.2.2.1 else d.2.2.2.2.2.1)
   cases hc:f16 p.2.2.2.2.2.1 p.2.2.2.2.2.2.1 with
   | true=>exact .inl (e16.1 hc).symm
   | false=>exact .inr rfl
  ·show p.2.2.2.2.2.2.2.2.1 = p.2.2.2.2.2.2.2.1 ∨ p.2.2.2.2.2.2.2.2.1 = (bif (!(f18 p.2.2.2.2.2.2.2.1 p.2.2.2.2.2.2.2.2.1)) then p.2.2.2.2.2.2.2.2.1 else d.2.2.2.2.2.2.1)
   cases hc:f18 p.2.2.2.2.2.2.2.1 p.2.2.2.2.2.2.2.2.1 with
   | true=>exact .inl (e18.1 hc).symm
   | false=>exact .inr rfl
  ·show p.2.2.2.2.2.2.2.2.2.2.1 = p.2.2.2.2.2.2.2.2.2.1 ∨ p.2.2.2.2.2.2.2.2.2.2.1 = (bif (!(f20 p.2.2.2.2.2.2.2.2.2.1 p.2.2.2.2.2.2.2.2.2.2.1)) then p.2.2.2.2.2.2.2.2.2.2.1 else d.2.2.2.2.2.2.2.1)
   cases hc:f20 p.2.2.2.2.2.2.2.2.2.1 p.2.2.2.2.2.2.2.2.2.2.1 with
   | true=>exact .inl (e20.1 hc).symm
   | false=>exact .inr rfl
 ·have s:(bif (!(f16 p.2.2.2.2.2.2.1 p.2.2.2.2.2.1)) then p.2.2.2.2.2.1 else (bif (!(f16 p.2.2.2.2.2.1 p.2.2.2.2.2.2.1)) then p.2.2.2.2.2.2.1 else d.2.2.2.2.2.1)) = d.2.2.2.2.2.1:=by
   by_cases hc:p.2.2.2.2.2.1 = p.2.2.2.2.2.2.1
   ·rw [e16.2 hc,e16'.2 hc.symm]; rfl
   ·have:f16 p.2.2.2.2.2.2.1 p.2.2.2.2.2.1 = false:=Bool.eq_false_iff.2 fun h=>hc (e16'.1 h).symm
    rw [this]
    rcases Fs with h | h
    ·exact absurd h hc
    ·exact h
  have m:(bif (!(f18 p.2.2.2.2.2.2.2.2.1 p.2.2.2.2.2.2.2.1)) then p.2.2.2.2.2.2.2.1 else (bif (!(f18 p.2.2.2.2.2.2.2.1 p.2.2.2.2.2.2.2.2.1)) then p.2.2.2.2.2.2.2.2.1 else d.2.2.2.2.2.2.1)) = d.2.2.2.2.2.2.1:=by
   by_cases hc:p.2.2.2.2.2.2.2.1 = p.2.2.2.2.2.2.2.2.1
   ·rw [e18.2 hc,e18'.2 hc.symm]; rfl
   ·have:f18 p.2.2.2.2.2.2.2.2.1 p.2.2.2.2.2.2.2.1 = false:=Bool.eq_false_iff.2 fun h=>hc (e18'.1 h).symm
    rw [this]
    rcases Fm with h | h
    ·exact absurd h hc
    ·exact h
  have n:(bif (!(f20 p.2.2.2.2.2.2.2.2.2.2.1 p.2.2.2.2.2.2.2.2.2.1)) then p.2.2.2.2.2.2.2.2.2.1 else (bif (!(f20 p.2.2.2.2.2.2.2.2.2.1 p.2.2.2.2.2.2.2.2.2.2.1)) then p.2.2.2.2.2.2.2.2.2.2.1 else d.2.2.2.2.2.2.2.1)) = d.2.2.2.2.2.2.2.1:=by
   by_cases hc:p.2.2.2.2.2.2.2.2.2.1 = p.2.2.2.2.2.2.2.2.2.2.1
   ·rw [e20.2 hc,e20'.2 hc.symm]; rfl
   ·have:f20 p.2.2.2.2.2.2.2.2.2.2.1 p.2.2.2.2.2.2.2.2.2.1 = false:=Bool.eq_false_iff.2 fun h=>hc (e20'.1 h).symm
    rw [this]
    rcases Fl with h | h
    ·exact absurd h hc
    ·exact h
  show (p.1.1,p.1.2.1,p.1.2.2.1,List.take (Int.toNat p.2.2.1) (mk d p).2.2.2.1 ++ p.2.2.2.1 ++ List.drop (Int.toNat (p.2.2.1 + len p.2.2.2.2.1)) (mk d p).2.2.2.1,p.1.2.2.2.1,(bif (!(f16 p.2.2.2.2.2.2.1 p.2.2.2.2.2.1)) then p.2.2.2.2.2.1 else (bif (!(f16 p.2.2.2.2.2.1 p.2.2.2.2.2.2.1)) then p.2.2.2.2.2.2.1 else d.2.2.2.2.2.1)),(bif (!(f18 p.2.2.2.2.2.2.2.2.1 p.2.2.2.2.2.2.2.1)) then p.2.2.2.2.2.2.2.1 else (bif (!(f18 p.2.2.2.2.2.2.2.1 p.2.2.2.2.2.2.2.2.1)) then p.2.2.2.2.2.2.2.2.1 else d.2.2.2.2.2.2.1)),(bif (!(f20 p.2.2.2.2.2.2.2.2.2.2.1 p.2.2.2.2.2.2.2.2.2.1)) then p.2.2.2.2.2.2.2.2.2.1 else (bif (!(f20 p.2.2.2.2.2.2.2.2.2.1 p.2.2.2.2.2.2.2.2.2.2.1)) then p.2.2.2.2.2.2.2.2.2.2.1 else d.2.2.2.2.2.2.2.1)),()) = d
  rw [t1,t2,t4,s,m,n,← Fh]
  rfl
end Go.Proofs.YtigpekbhmpfcoaaGreatDoor.Am
