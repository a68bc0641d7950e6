/- The listed table strings.asciiSpace, as the machine wants it. No condition. -/
import Derived.Test.YtdgfchmfajmkiaaDoorCards
import Derived.Test.YtdgfchmfajmkiaaDoorOutP1
import Derived.Lib.LaidTab
import Derived.Stop.LaidErr
import Derived.MakeChecks
namespace Go.Proofs.YtdgfchmfajmkiaaDoor.Am
open Go Go.Am Go.RowKit
theorem LRep_ints_mk {χ : Nat → Nat → Nat} {w : World} {k : IntKind} : ∀ {l : List Int}, LRep (CRep χ w (.int k)) l (l.map (Value.int k)) := by
  intro l
  induction l with
  | nil => simp [LRep]
  | cons x l ih => exact ⟨[.int k x], _, rfl, by simp only [CRep], ih⟩
theorem tabData0 : Rows.laid_strings_asciiSpace (H := Unit) = Lib.tabData .u8 G0 := by kernel_rfl
theorem glob_of (W : World) (h : laidMetH Tryd.prog Rows.fontOutlinesRow.laid W) : GlobOk (fun b _ => if b < W.heap.size then 0 else 2) W := by
  intro g τ x hm
  cases List.mem_singleton.1 hm
  have h := (MakeChecks.laidMetH_plain Tryd.prog Rows.fontOutlinesRow.laid W (by kernel_rfl)).mp h
  have h : laidMet Tryd.prog (("strings.asciiSpace", Rows.laid_strings_asciiSpace) :: [("unicode/utf8.first", Rows.laid_unicode_utf8_first)]) W := laidMet.tail (laidMet.tail h)
  rw [tabData0] at h
  have ht := Lib.tabIs_of_head (g := 0) (n := 256) (by kernel_rfl) (t := Tryd.prog.globals[0]!.type) (by kernel_rfl) (e := 5) (by kernel_rfl) (by kernel_rfl) (by kernel_rfl) (by kernel_rfl) h
  have hlen : G0.length = 256 := by kernel_rfl
  have hc : ∀ i, i < 256 → W.cell? ⟨0, i, none⟩ = some (.int .u8 (G0.getD i 0)) := fun i hi => ht.cell (g := 0) (by kernel_rfl) i (by rw [hlen]; exact hi)
  have hpos : 0 < W.heap.size := World.block_lt_of_cell? _ _ (hc 0 (by omega))
  refine ⟨G0.map (Value.int .u8), ⟨hlen, LRep_ints_mk⟩, fun j v hv => ?_⟩
  rw [List.getElem?_map] at hv
  obtain ⟨z, hz, rfl⟩ := Option.map_eq_some_iff.1 hv
  have hj : j < 256 := by rw [← hlen]; exact (List.getElem?_eq_some_iff.1 hz).1
  refine ⟨?_, by simp [hpos]⟩
  rw [Nat.zero_add, hc j hj, List.getD_eq_getElem?_getD, hz]
  rfl
end Go.Proofs.YtdgfchmfajmkiaaDoor.Am
