/- slices.Grow at nodes (of nothing, with room) and slices.Reverse at points. No condition. -/
import Derived.Test.YtigpekbhmpfcoaaGreatDoorMach4
import Derived.Test.YtigpekbhmpfcoaaGreatDoorTryzGrowP
import Derived.Test.YtigpekbhmpfcoaaGreatDoorRev
import Derived.Test.YtigpekbhmpfcoaaGreatDoorTryzRevP
namespace Go.Proofs.YtigpekbhmpfcoaaGreatDoor.Am
open Go Go.Am
def zL4 (P:Program) (T n:Nat):Bool :=
 match P.info? T with
 | some i=>Nat.beq i.size n && Nat.ble i.bytes 32768 && (match i.zero with | some z=>Nat.beq z.cells.size n | none=>false)
 | none=>false
theorem zK1 {P:Program} {T n:Nat} (h:zL4 P T n = true):∃ i z,P.info? T = some i ∧ i.zero = some z ∧ i.size = n ∧ i.bytes ≤ 32768 ∧ z.cells.size = n:=by
 unfold zL4 at h
 split at h
 ·rename_i i hi
  simp only [Bool.and_eq_true] at h
  obtain ⟨⟨h1,h2⟩,h3⟩:=h
  split at h3
  ·rename_i z hz
   exact ⟨i,z,hi,hz,Nat.eq_of_beq_eq_true h1,Nat.le_of_ble_eq_true h2,Nat.eq_of_beq_eq_true h3⟩
  ·cases h3
 ·cases h
theorem grow_zero (w:World):Calls Tryz.prog 47 #[.slice none 0 0,.int .i64 ((0:Nat):Int)] w fun e w'=>e = .returned (.slice none 0 0) ∧ w' = w :=
 Any8.slices_Grow_room Tryz.growN none 0 0 0 w (Nat.le_refl 0) (Nat.zero_le _) (Nat.zero_le _) (Nat.le_refl 0)
theorem grow_more (n:Nat) (w:World) (h0:0 < n) (hn:n ≤ 4294967296):Calls Tryz.prog 47 #[.slice none 0 0,.int .i64 (n:Int)] w fun e w'=>∃ cap cells ty,e = .returned (.slice (some ⟨w.heap.size,0,none⟩) 0 cap) ∧ w' = w.drew.alloc (.cells cells ty) ∧ cap ≤ maxLen ∧ cells.size = cap * 43:=by
 obtain ⟨i,z,hi,hz,hs,hb,hzs⟩:=zK1 (P:=Tryz.prog) (T:=58) (n:=43) (by kernel_rfl)
 have hbytes:(0 + n) * i.bytes ≤ 140737488355328:=by
  calc (0 + n) * i.bytes ≤ 4294967296 * 32768:=Nat.mul_le_mul (by omega) hb
   _ = 140737488355328:=by decide
 refine (Any8.slices_Grow_grow Tryz.growN i z hi hz (by omega) none 0 0 n [] w (Nat.le_refl 0) (by omega) hbytes (by omega) (by simp) (fun _=>rfl) (fun a h=>by cases h)).mono ?_
 rintro e w' ⟨rfl,rfl⟩
 have hge:=grownCap_ge w (0 + n) 0 (Tryz.growN_ren.t 25)
 refine ⟨_,_,_,rfl,rfl,grownCap_le_maxLen w (0 + n) 0 _ (by simp only [maxLen]; omega),?_⟩
 generalize grownCap w (0 + n) 0 (Tryz.growN_ren.t 25) = k at hge
 simp only [Array.size_append,size_zeroCells,hzs,List.size_toArray,List.length_nil,Nat.zero_add,Nat.sub_zero]
 rw [← Nat.add_mul,Nat.add_sub_cancel' (by simpa using hge)]
theorem rev_ok:RevOk Tryz.prog 166 2 :=
 ⟨fun blk cap d w hH hs=>AnyQ.slices_Reverse Tryz.revN 2 Tryz.isAgg95 Tryz.sizeOf95 Chunk.l (fun x=>x.len) (fun x=>x.one) blk 0 cap d w hH hs,
  fun w=>AnyQ.slices_Reverse_empty Tryz.revN none 0 w⟩
end Go.Proofs.YtigpekbhmpfcoaaGreatDoor.Am
