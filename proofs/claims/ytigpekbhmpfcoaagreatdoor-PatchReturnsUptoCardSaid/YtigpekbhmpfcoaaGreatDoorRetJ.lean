/- Plain law of PatchUndoes, from the bound on its inputs. Condition: the second form's bound. -/
import Derived.Test.YtigpekbhmpfcoaaGreatDoorRetG
namespace Go.Proofs.YtigpekbhmpfcoaaGreatDoor.Am
open Go Go.Am
theorem mem_bulk {τ:Ty}:∀ {l:List τ.den} {x:τ.den},x ∈ l → τ.bulk x ≤ (l.map τ.bulk).sum
 | y :: r,x,h=>by
  simp only [List.map_cons,List.sum_cons]
  rcases List.mem_cons.1 h with h | h
  ·rw [h]; omega
  ·have:=mem_bulk h; omega
theorem mem_sl {τ:Ty} {l:List τ.den} {x:τ.den} {N:Nat} (h:x ∈ l) (hN:(Ty.sl τ).bulk l ≤ N):τ.bulk x ≤ N:=by
 have:=mem_bulk h
 have e:(Ty.sl τ).bulk l = (l.map τ.bulk).sum + 1:=rfl
 omega
theorem nodes_sz {l:List D57} (h:(Ty.sl T57).bulk l ≤ 1048576):NodesSz 1048576 l :=
 ⟨by have:=sl_len (τ:=T57) (st_pos _) h; unfold len; omega,fun n hn=>short_of (mem_sl (τ:=T57) hn h)⟩
theorem links_sz {l:List D74} (h:(Ty.sl T74).bulk l ≤ 1048576):LinksSz l :=
 ⟨sl_len (τ:=T74) (st_pos _) h,fun m hm=>sl_len (τ:=T50) (st_pos _) (Nat.le_trans (sb (fieldsOf ((fieldsOf T74).fty 4)) 2 m.2.2.2.2.1) (Nat.le_trans (sb (fieldsOf T74) 4 m) (mem_sl (τ:=T74) hm h)))⟩
theorem mask_sz {m:D24} (h:Ty.bulk T24 m ≤ 1048576):m.2.2.1.length ≤ 1048576 :=
 sl_len (τ:=.int .i64) (fun _=>Nat.le_refl _) (Nat.le_trans (sb (fieldsOf T24) 2 m) h)
theorem meta_sz {l:List D66} (h:(Ty.sl T66).bulk l ≤ 1048576):l.length ≤ 1048576:=sl_len (τ:=T66) (st_pos _) h
theorem doc_sz {d:D28} (h:Ty.bulk T28 d ≤ 1048576):DocSz 1048576 d :=
 ⟨nodes_sz (Nat.le_trans (sb (fieldsOf T28) 3 d) h),mask_sz (Nat.le_trans (sb (fieldsOf T28) 5 d) h),meta_sz (Nat.le_trans (sb (fieldsOf T28) 6 d) h),links_sz (Nat.le_trans (sb (fieldsOf T28) 7 d) h)⟩
end Go.Proofs.YtigpekbhmpfcoaaGreatDoor.Am
