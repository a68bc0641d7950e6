/- Font: font.Outline as a walk that may stop. No condition. -/
import Derived.Test.YtdgfchmfajmkiaaDoorOutB
namespace Go.Proofs.YtdgfchmfajmkiaaDoor.Am
open Go Go.Am
def segsOf (p : D24) (g : D50) : List D74 := (nth p.2.2.2.1 g.1 Z47).2.2.1
def st12 (z : Int) (p : D24) (n : Int) (_ : Nat) (s : S2) (g : D50) : Option S2 := bif (f12 (segsOf p g)).2.1 != 0 then none else runI (st18 z p n g) 0 (f12 (segsOf p g)).1 s
abbrev Y12 := Int × D24 × D65 × Int × (List (List UInt8)) × Int × Int × (List D50) × Int × Unit
def y12o (z : Int) (p : D24) (a11 : D65) (n : Int) (a41 : List (List UInt8)) (a42 a43 : Int) (sp : List D50) : Y12 := (z, p, a11, n, a41, a42, a43, sp, len sp, ())
structure SpotOk (z : Int) (p : D24) (n : Int) (g : D50) : Prop where
  nums : Spot z p n g
  at0 : 0 ≤ g.1 ∧ g.1 < len p.2.2.2.1
  path : f30 (segsOf p g) = 0
section
variable {z : Int} {p : D24} {a11 : D65} {n : Int} {a41 : List (List UInt8)} {a42 a43 : Int} {sp : List D50}
abbrev e18o (z : Int) (p : D24) (a11 : D65) (n : Int) (a41 : List (List UInt8)) (a42 a43 : Int) (sp : List D50) (a : List (List D50)) (b i : Int) : List (List D50) × Int × Int × Unit :=
  loopEnd (f4_L18_g (y18o z p a11 n (nth sp i Z50) a41 a42 a43 sp (len sp) i (f12 (segsOf p (nth sp i Z50))).1)) (f4_L18_next (y18o z p a11 n (nth sp i Z50) a41 a42 a43 sp (len sp) i (f12 (segsOf p (nth sp i Z50))).1)) (a, b, 0, ())
theorem g12 (a : List (List D50)) (b i : Int) : f4_L12_g (y12o z p a11 n a41 a42 a43 sp) (a, b, i, ()) = (decide (i < len sp) && ((!((f12 (segsOf p (nth sp i Z50))).2.1 != 0)) && !decide ((e18o z p a11 n a41 a42 a43 sp a b i).2.2.1 < len (f12 (segsOf p (nth sp i Z50))).1))) := by kernel_rfl
theorem n12 (a : List (List D50)) (b i : Int) : f4_L12_next (y12o z p a11 n a41 a42 a43 sp) (a, b, i, ()) = ((e18o z p a11 n a41 a42 a43 sp a b i).1, (e18o z p a11 n a41 a42 a43 sp a b i).2.1, i + 1, ()) := by kernel_rfl
theorem stops12 (hsp : ∀ g ∈ sp, SpotOk z p n g) (hl : len sp ≤ 128) : Stops (f4_L12_g (y12o z p a11 n a41 a42 a43 sp)) (f4_L12_next (y12o z p a11 n a41 a42 a43 sp)) sp Z50 (st12 z p n) := by
  have key : ∀ (a : List (List D50)) (b : Int) (j : Nat), j < sp.length → (f12 (segsOf p (nth sp (j : Int) Z50))).2.1 = 0 ∧ ∃ k : Nat, (e18o z p a11 n a41 a42 a43 sp a b (j : Int)).2.2.1 = (k : Int) ∧ ((k = (f12 (segsOf p (nth sp (j : Int) Z50))).1.length ∧ st12 z p n j (a, b) (nth sp (j : Int) Z50) = some ((e18o z p a11 n a41 a42 a43 sp a b (j : Int)).1, (e18o z p a11 n a41 a42 a43 sp a b (j : Int)).2.1)) ∨ (k < (f12 (segsOf p (nth sp (j : Int) Z50))).1.length ∧ st12 z p n j (a, b) (nth sp (j : Int) Z50) = none)) := by
    intro a b j hj
    obtain ⟨_, h0, h1, h2⟩ := f12_all (hsp _ (nth_in (d := Z50) hj)).path
    refine ⟨h0, ?_⟩
    obtain ⟨k, k1, k2⟩ := (stops18 (z := z) (p := p) (a11 := a11) (n := n) (g := nth sp (j : Int) Z50) (a41 := a41) (a42 := a42) (a43 := a43) (a54 := sp) (a55 := len sp) (a56 := (j : Int)) h2 h1).run a b
    have hst : st12 z p n j (a, b) (nth sp (j : Int) Z50) = runI (st18 z p n (nth sp (j : Int) Z50)) 0 (f12 (segsOf p (nth sp (j : Int) Z50))).1 (a, b) := by
      unfold st12
      rw [h0]
      rfl
    refine ⟨k, k1, ?_⟩
    rw [hst]
    rcases k2 with k2 | k2
    · exact Or.inl k2
    · exact Or.inr ⟨k2.1, k2.2.1⟩
  refine ⟨by unfold len at hl; omega, fun x hx => ?_, fun a b j s hj hs => ?_, fun a b j hj hs => ?_⟩
  · obtain ⟨a, b, i, _⟩ := x
    rw [g12, Bool.and_eq_true] at hx
    exact of_decide_eq_true hx.1
  · obtain ⟨h0, k, k1, k2⟩ := key a b j hj
    rcases k2 with ⟨k2, k3⟩ | ⟨k2, k3⟩
    · rw [hs] at k3
      simp only [Option.some.injEq] at k3
      have hjl : decide ((j : Int) < len sp) = true := decide_eq_true (by unfold len; omega)
      refine ⟨?_, ?_⟩
      · rw [g12, k1, hjl, h0, k2]
        unfold len
        simp
      · rw [n12, k3]
    · rw [hs] at k3; cases k3
  · obtain ⟨h0, k, k1, k2⟩ := key a b j hj
    rcases k2 with ⟨k2, k3⟩ | ⟨k2, k3⟩
    · rw [hs] at k3; cases k3
    · rw [g12, k1]
      have : decide ((k : Int) < len (f12 (segsOf p (nth sp (j : Int) Z50))).1) = true := decide_eq_true (by unfold len; omega)
      rw [this]
      simp
theorem st12_inv (j : Nat) (s : S2) (g : D50) (s' : S2) (h : outI s) (hg : SpotOk z p n g) (hs : st12 z p n j s g = some s') : outI s' := by
  obtain ⟨_, h0, _, h2⟩ := f12_all hg.path
  unfold st12 at hs
  rw [h0] at hs
  exact runI_inv outI _ _ _ _ (fun k s e s' h he hs => st18_inv h (h2 e he) hs) h hs
theorem ends12 (hsp : ∀ g ∈ sp, SpotOk z p n g) (hl : len sp ≤ 128) {a : List (List D50)} {b : Int} (h0 : outI (a, b)) : Am.Ends (f4_L12_g (y12o z p a11 n a41 a42 a43 sp)) (f4_L12_next (y12o z p a11 n a41 a42 a43 sp)) (f4_L12_ok (y12o z p a11 n a41 a42 a43 sp)) (a, b, 0, ()) := by
  refine (stops12 hsp hl).ends outI (fun j s e s' _ hs he h => st12_inv j s e s' hs (hsp e he) h) h0 fun a b j hj h => ?_
  intro hv
  have hv : (j : Int) < len sp := of_decide_eq_true hv
  have hj' : j < sp.length := by unfold len at hv; omega
  have hg := hsp _ (nth_in (d := Z50) hj')
  obtain ⟨o1, _, o3, o4⟩ := f12_all hg.path
  exact ⟨⟨(show (0 : Int) ≤ (j : Int) by omega), hv⟩, hg.at0, o1, fun _ => ends18 hg.nums o4 o3 h, fun _ => (show InR ((j : Int) + 1) from inR (by omega) (by omega))⟩
end
def st8 (z : Int) (p : D24) (d : D65) (n : Nat) (s : S2) (line : List UInt8) : Option S2 := runI (st12 z p (n : Int)) 0 (f11 d line).1 s
def y8o (z : Int) (p : D24) (d : D65) (L : List (List UInt8)) : Int × D24 × D65 × (List (List UInt8)) × Int × Unit := (z, p, d, L, len L, ())
abbrev e12o (z : Int) (p : D24) (d : D65) (L : List (List UInt8)) (a : List (List D50)) (b i : Int) : List (List D50) × Int × Int × Unit :=
  loopEnd (f4_L12_g (y12o z p d i L (len L) i (f11 d (nth L i [])).1)) (f4_L12_next (y12o z p d i L (len L) i (f11 d (nth L i [])).1)) (a, b, 0, ())
section
variable {z : Int} {p : D24} {d : D65} {L : List (List UInt8)}
theorem g8 (a : List (List D50)) (b i : Int) : f4_L8_g (y8o z p d L) (a, b, i, ()) = (decide (i < len L) && !decide ((e12o z p d L a b i).2.2.1 < len (f11 d (nth L i [])).1)) := rfl
theorem n8 (a : List (List D50)) (b i : Int) : f4_L8_next (y8o z p d L) (a, b, i, ()) = ((e12o z p d L a b i).1, (e12o z p d L a b i).2.1, i + 1, ()) := rfl
structure LineOk (z : Int) (p : D24) (d : D65) (line : List UInt8) : Prop where
  spots : ∀ n : Int, 0 ≤ n → n ≤ 1000 → ∀ g ∈ (f11 d line).1, SpotOk z p n g
  few : len (f11 d line).1 ≤ 128
  ok : f11_ok d line
theorem stops8 (hL : ∀ l ∈ L, LineOk z p d l) (hl : len L ≤ 1000) : Stops (f4_L8_g (y8o z p d L)) (f4_L8_next (y8o z p d L)) L [] (st8 z p d) := by
  have key : ∀ (a : List (List D50)) (b : Int) (j : Nat), j < L.length → ∃ k : Nat, (e12o z p d L a b (j : Int)).2.2.1 = (k : Int) ∧ ((k = (f11 d (nth L (j : Int) [])).1.length ∧ st8 z p d j (a, b) (nth L (j : Int) []) = some ((e12o z p d L a b (j : Int)).1, (e12o z p d L a b (j : Int)).2.1)) ∨ (k < (f11 d (nth L (j : Int) [])).1.length ∧ st8 z p d j (a, b) (nth L (j : Int) []) = none)) := by
    intro a b j hj
    have hk := hL _ (nth_in (d := []) hj)
    obtain ⟨k, k1, k2⟩ := (stops12 (z := z) (p := p) (a11 := d) (n := (j : Int)) (a41 := L) (a42 := len L) (a43 := (j : Int)) (sp := (f11 d (nth L (j : Int) [])).1) (hk.spots (j : Int) (by omega) (by unfold len at hl; omega)) hk.few).run a b
    refine ⟨k, k1, ?_⟩
    rcases k2 with k2 | k2
    · exact Or.inl k2
    · exact Or.inr ⟨k2.1, k2.2.1⟩
  refine ⟨by unfold len at hl; omega, fun x hx => ?_, fun a b j s hj hs => ?_, fun a b j hj hs => ?_⟩
  · obtain ⟨a, b, i, _⟩ := x
    rw [g8, Bool.and_eq_true] at hx
    exact of_decide_eq_true hx.1
  · obtain ⟨k, k1, k2⟩ := key a b j hj
    rcases k2 with ⟨k2, k3⟩ | ⟨k2, k3⟩
    · rw [hs] at k3
      simp only [Option.some.injEq] at k3
      have hjl : decide ((j : Int) < len L) = true := decide_eq_true (by unfold len; omega)
      refine ⟨?_, ?_⟩
      · rw [g8, k1, hjl, k2]
        unfold len
        simp
      · rw [n8, k3]
    · rw [hs] at k3; cases k3
  · obtain ⟨k, k1, k2⟩ := key a b j hj
    rcases k2 with ⟨k2, k3⟩ | ⟨k2, k3⟩
    · rw [hs] at k3; cases k3
    · rw [g8, k1]
      have : decide ((k : Int) < len (f11 d (nth L (j : Int) [])).1) = true := decide_eq_true (by unfold len; omega)
      rw [this]
      simp
theorem st8_inv {j : Nat} {s : S2} {l : List UInt8} {s' : S2} (hj : j ≤ 1000) (h : outI s) (hl : LineOk z p d l) (hs : st8 z p d j s l = some s') : outI s' := by
  unfold st8 at hs
  exact runI_inv outI _ _ _ _ (fun k s e s' h he hs => st12_inv k s e s' h (hl.spots (j : Int) (by omega) (by omega) e he) hs) h hs
end
end Go.Proofs.YtdgfchmfajmkiaaDoor.Am
