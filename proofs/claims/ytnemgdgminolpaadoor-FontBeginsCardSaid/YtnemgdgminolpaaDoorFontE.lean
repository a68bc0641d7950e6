/- Font: font.Outline as a walk that may stop. No condition. -/
import Derived.Test.YtnemgdgminolpaaDoorFontB
namespace Go.Proofs.YtnemgdgminolpaaDoor.Am
open Go Go.Am
def segsOf (p : D25) (g : D48) : List D51 := (nth p.2.2.2.1 g.1 Z46).2.2.1
def st12 (z : Int) (p : D25) (n : Int) (_ : Nat) (s : S2) (g : D48) : Option S2 := bif (f43 (segsOf p g)).2.1 != 0 then none else runI (st18 z p n g) 0 (f43 (segsOf p g)).1 s
abbrev Y12 := Int × D25 × D91 × Int × (List (List UInt8)) × Int × Int × (List D48) × Int × Unit
def y12o (z : Int) (p : D25) (a11 : D91) (n : Int) (a41 : List (List UInt8)) (a42 a43 : Int) (sp : List D48) : Y12 := (z, p, a11, n, a41, a42, a43, sp, len sp, ())
structure SpotOk (z : Int) (p : D25) (n : Int) (g : D48) : Prop where
  nums : Spot z p n g
  at0 : 0 ≤ g.1 ∧ g.1 < len p.2.2.2.1
  path : f54 (segsOf p g) = 0
section
variable {z : Int} {p : D25} {a11 : D91} {n : Int} {a41 : List (List UInt8)} {a42 a43 : Int} {sp : List D48}
abbrev e18o (z : Int) (p : D25) (a11 : D91) (n : Int) (a41 : List (List UInt8)) (a42 a43 : Int) (sp : List D48) (a : List (List D48)) (b i : Int) : List (List D48) × Int × Int × Unit :=
  loopEnd (f20_L18_g (y18o z p a11 n (nth sp i Z48) a41 a42 a43 sp (len sp) i (f43 (segsOf p (nth sp i Z48))).1)) (f20_L18_next (y18o z p a11 n (nth sp i Z48) a41 a42 a43 sp (len sp) i (f43 (segsOf p (nth sp i Z48))).1)) (a, b, 0, ())
theorem g12 (a : List (List D48)) (b i : Int) : f20_L12_g (y12o z p a11 n a41 a42 a43 sp) (a, b, i, ()) = (decide (i < len sp) && ((!((f43 (segsOf p (nth sp i Z48))).2.1 != 0)) && !decide ((e18o z p a11 n a41 a42 a43 sp a b i).2.2.1 < len (f43 (segsOf p (nth sp i Z48))).1))) := rfl
theorem n12 (a : List (List D48)) (b i : Int) : f20_L12_next (y12o z p a11 n a41 a42 a43 sp) (a, b, i, ()) = ((e18o z p a11 n a41 a42 a43 sp a b i).1, (e18o z p a11 n a41 a42 a43 sp a b i).2.1, i + 1, ()) := rfl
theorem stops12 (hsp : ∀ g ∈ sp, SpotOk z p n g) (hl : len sp ≤ 128) : Stops (f20_L12_g (y12o z p a11 n a41 a42 a43 sp)) (f20_L12_next (y12o z p a11 n a41 a42 a43 sp)) sp Z48 (st12 z p n) := by
  have key : ∀ (a : List (List D48)) (b : Int) (j : Nat), j < sp.length → (f43 (segsOf p (nth sp (j : Int) Z48))).2.1 = 0 ∧ ∃ k : Nat, (e18o z p a11 n a41 a42 a43 sp a b (j : Int)).2.2.1 = (k : Int) ∧ ((k = (f43 (segsOf p (nth sp (j : Int) Z48))).1.length ∧ st12 z p n j (a, b) (nth sp (j : Int) Z48) = some ((e18o z p a11 n a41 a42 a43 sp a b (j : Int)).1, (e18o z p a11 n a41 a42 a43 sp a b (j : Int)).2.1)) ∨ (k < (f43 (segsOf p (nth sp (j : Int) Z48))).1.length ∧ st12 z p n j (a, b) (nth sp (j : Int) Z48) = none)) := by
    intro a b j hj
    obtain ⟨_, h0, h1, h2⟩ := f43_all (hsp _ (nth_in (d := Z48) hj)).path
    refine ⟨h0, ?_⟩
    obtain ⟨k, k1, k2⟩ := (stops18 (z := z) (p := p) (a11 := a11) (n := n) (g := nth sp (j : Int) Z48) (a41 := a41) (a42 := a42) (a43 := a43) (a54 := sp) (a55 := len sp) (a56 := (j : Int)) h2 h1).run a b
    have hst : st12 z p n j (a, b) (nth sp (j : Int) Z48) = runI (st18 z p n (nth sp (j : Int) Z48)) 0 (f43 (segsOf p (nth sp (j : Int) Z48))).1 (a, b) := by
      unfold st12
      rw [h0]
      rfl
    refine ⟨k, k1, ?_⟩
    rw [hst]
    rcases k2 with k2 | k2
    · exact Or.inl k2
    · exact Or.inr ⟨k2.1, k2.2.1⟩
  refine ⟨by unfold len at hl; omega, fun x hx => ?_, fun a b j s hj hs => ?_, fun a b j hj hs => ?_⟩
  · obtain ⟨a, b, i, _⟩ := x
    rw [g12, Bool.and_eq_true] at hx
    exact of_decide_eq_true hx.1
  · obtain ⟨h0, k, k1, k2⟩ := key a b j hj
    rcases k2 with ⟨k2, k3⟩ | ⟨k2, k3⟩
    · rw [hs] at k3
      simp only [Option.some.injEq] at k3
      have hjl : decide ((j : Int) < len sp) = true := decide_eq_true (by unfold len; omega)
      refine ⟨?_, ?_⟩
      · rw [g12, k1, hjl, h0, k2]
        unfold len
        simp
      · rw [n12, k3]
    · rw [hs] at k3; cases k3
  · obtain ⟨h0, k, k1, k2⟩ := key a b j hj
    rcases k2 with ⟨k2, k3⟩ | ⟨k2, k3⟩
    · rw [hs] at k3; cases k3
    · rw [g12, k1]
      have : decide ((k : Int) < len (f43 (segsOf p (nth sp (j : Int) Z48))).1) = true := decide_eq_true (by unfold len; omega)
      rw [this]
      simp
theorem st12_inv (j : Nat) (s : S2) (g : D48) (s' : S2) (h : outI s) (hg : SpotOk z p n g) (hs : st12 z p n j s g = some s') : outI s' := by
  obtain ⟨_, h0, _, h2⟩ := f43_all hg.path
  unfold st12 at hs
  rw [h0] at hs
  exact runI_inv outI _ _ _ _ (fun k s e s' h he hs => st18_inv h (h2 e he) hs) h hs
theorem ends12 (hsp : ∀ g ∈ sp, SpotOk z p n g) (hl : len sp ≤ 128) {a : List (List D48)} {b : Int} (h0 : outI (a, b)) : Am.Ends (f20_L12_g (y12o z p a11 n a41 a42 a43 sp)) (f20_L12_next (y12o z p a11 n a41 a42 a43 sp)) (f20_L12_ok (y12o z p a11 n a41 a42 a43 sp)) (a, b, 0, ()) := by
  refine (stops12 hsp hl).ends outI (fun j s e s' _ hs he h => st12_inv j s e s' hs (hsp e he) h) h0 fun a b j hj h => ?_
  intro hv
  have hv : (j : Int) < len sp := of_decide_eq_true hv
  have hj' : j < sp.length := by unfold len at hv; omega
  have hg := hsp _ (nth_in (d := Z48) hj')
  obtain ⟨o1, _, o3, o4⟩ := f43_all hg.path
  exact ⟨⟨(show (0 : Int) ≤ (j : Int) by omega), hv⟩, hg.at0, o1, fun _ => ends18 hg.nums o4 o3 h, fun _ => (show InR ((j : Int) + 1) from inR (by omega) (by omega))⟩
end
def st8 (z : Int) (p : D25) (d : D91) (n : Nat) (s : S2) (line : List UInt8) : Option S2 := runI (st12 z p (n : Int)) 0 (f42 d line).1 s
def y8o (z : Int) (p : D25) (d : D91) (L : List (List UInt8)) : Int × D25 × D91 × (List (List UInt8)) × Int × Unit := (z, p, d, L, len L, ())
abbrev e12o (z : Int) (p : D25) (d : D91) (L : List (List UInt8)) (a : List (List D48)) (b i : Int) : List (List D48) × Int × Int × Unit :=
  loopEnd (f20_L12_g (y12o z p d i L (len L) i (f42 d (nth L i [])).1)) (f20_L12_next (y12o z p d i L (len L) i (f42 d (nth L i [])).1)) (a, b, 0, ())
section
variable {z : Int} {p : D25} {d : D91} {L : List (List UInt8)}
theorem g8 (a : List (List D48)) (b i : Int) : f20_L8_g (y8o z p d L) (a, b, i, ()) = (decide (i < len L) && !decide ((e12o z p d L a b i).2.2.1 < len (f42 d (nth L i [])).1)) := rfl
theorem n8 (a : List (List D48)) (b i : Int) : f20_L8_next (y8o z p d L) (a, b, i, ()) = ((e12o z p d L a b i).1, (e12o z p d L a b i).2.1, i + 1, ()) := rfl
structure LineOk (z : Int) (p : D25) (d : D91) (line : List UInt8) : Prop where
  spots : ∀ n : Int, 0 ≤ n → n ≤ 1000 → ∀ g ∈ (f42 d line).1, SpotOk z p n g
  few : len (f42 d line).1 ≤ 128
  ok : f42_ok d line
theorem stops8 (hL : ∀ l ∈ L, LineOk z p d l) (hl : len L ≤ 1000) : Stops (f20_L8_g (y8o z p d L)) (f20_L8_next (y8o z p d L)) L [] (st8 z p d) := by
  have key : ∀ (a : List (List D48)) (b : Int) (j : Nat), j < L.length → ∃ k : Nat, (e12o z p d L a b (j : Int)).2.2.1 = (k : Int) ∧ ((k = (f42 d (nth L (j : Int) [])).1.length ∧ st8 z p d j (a, b) (nth L (j : Int) []) = some ((e12o z p d L a b (j : Int)).1, (e12o z p d L a b (j : Int)).2.1)) ∨ (k < (f42 d (nth L (j : Int) [])).1.length ∧ st8 z p d j (a, b) (nth L (j : Int) []) = none)) := by
    intro a b j hj
    have hk := hL _ (nth_in (d := []) hj)
    obtain ⟨k, k1, k2⟩ := (stops12 (z := z) (p := p) (a11 := d) (n := (j : Int)) (a41 := L) (a42 := len L) (a43 := (j : Int)) (sp := (f42 d (nth L (j : Int) [])).1) (hk.spots (j : Int) (by omega) (by unfold len at hl; omega)) hk.few).run a b
    refine ⟨k, k1, ?_⟩
    rcases k2 with k2 | k2
    · exact Or.inl k2
    · exact Or.inr ⟨k2.1, k2.2.1⟩
  refine ⟨by unfold len at hl; omega, fun x hx => ?_, fun a b j s hj hs => ?_, fun a b j hj hs => ?_⟩
  · obtain ⟨a, b, i, _⟩ := x
    rw [g8, Bool.and_eq_true] at hx
    exact of_decide_eq_true hx.1
  · obtain ⟨k, k1, k2⟩ := key a b j hj
    rcases k2 with ⟨k2, k3⟩ | ⟨k2, k3⟩
    · rw [hs] at k3
      simp only [Option.some.injEq] at k3
      have hjl : decide ((j : Int) < len L) = true := decide_eq_true (by unfold len; omega)
      refine ⟨?_, ?_⟩
      · rw [g8, k1, hjl, k2]
        unfold len
        simp
      · rw [n8, k3]
    · rw [hs] at k3; cases k3
  · obtain ⟨k, k1, k2⟩ := key a b j hj
    rcases k2 with ⟨k2, k3⟩ | ⟨k2, k3⟩
    · rw [hs] at k3; cases k3
    · rw [g8, k1]
      have : decide ((k : Int) < len (f42 d (nth L (j : Int) [])).1) = true := decide_eq_true (by unfold len; omega)
      rw [this]
      simp
theorem st8_inv {j : Nat} {s : S2} {l : List UInt8} {s' : S2} (hj : j ≤ 1000) (h : outI s) (hl : LineOk z p d l) (hs : st8 z p d j s l = some s') : outI s' := by
  unfold st8 at hs
  exact runI_inv outI _ _ _ _ (fun k s e s' h he hs => st12_inv k s e s' h (hl.spots (j : Int) (by omega) (by omega) e he) hs) h hs
end
end Go.Proofs.YtnemgdgminolpaaDoor.Am
