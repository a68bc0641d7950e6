/- Plain laws for the statements on nodes: the program's equality and the document's. No condition. -/
import Derived.Test.YtleannhgpeiooaaGreatDoorNode2
import Derived.Test.YtleannhgpeiooaaGreatDoorMach3
import Derived.Test.YtleannhgpeiooaaGreatDoorMach4
namespace Go.Proofs.YtleannhgpeiooaaGreatDoor.Am
open Go Go.Am

def ne0 (a b : List Int) (i : Int) : Bool := nth a i 0 != nth b i 0
def neT (τ : Ty) (z : τ.den) (a b : List τ.den) (i : Int) : Bool := !(Ty.eqb τ (nth a i z) (nth b i z))
def eqC (n m : Int) (c : Int → Bool) : Bool := (n == m) && !(anyI n c)

theorem eqScan {g : Int × Unit → Bool} {next : Int × Unit → Int × Unit} {n m : Int} {c : Int → Bool} (hn0 : 0 ≤ n) (hn : n < 9223372036854775808) (hg : ∀ x, g x = (decide (x.1 < n) && !(c x.1))) (hx : ∀ x, next x = (x.1 + 1, ())) :
    (bif (n != m) then false else (bif (decide ((loopEnd g next (0, ())).1 < n) && c (loopEnd g next (0, ())).1) then false else true)) = eqC n m c := by
  rw [scan_any hn0 hn hg hx]
  unfold eqC
  cases h : (n == m) <;> cases anyI n c <;> simp_all
theorem okScan {g : Int × Unit → Bool} {next : Int × Unit → Int × Unit} {ok : Int × Unit → Prop} {n m : Int} {c : Int → Bool} (hn0 : 0 ≤ n) (hn : n < 9223372036854775808) (hg : ∀ x, g x = (decide (x.1 < n) && !(c x.1))) (hx : ∀ x, next x = (x.1 + 1, ()))
    (hok : ∀ x : Int × Unit, n = m → 0 ≤ x.1 → (x.1 < n → InB x.1 n ∧ InB x.1 m ∧ InR (x.1 + 1)) → ok x) : (!(n != m)) = true → Am.Ends g next ok (0, ()) := by
  intro h
  have e : n = m := by simpa using h
  refine scan_ends hn0 hn (fun x h => ?_) hx fun x h1 h2 => hok x e h1 fun h3 => ⟨⟨h1, h3⟩, ⟨h1, by omega⟩, ?_⟩
  · rw [hg] at h; simp only [Bool.and_eq_true, decide_eq_true_eq] at h; exact h.1
  · unfold InR; omega

theorem f61_eq (a b : List Int) (ha : len a < 9223372036854775808) : f61 a b = eqC (len a) (len b) (ne0 a b) :=
  eqScan (g := f61_L4_g (a, b, ())) (next := f61_L4_next (a, b, ())) (c := ne0 a b) (len_nonneg a) ha (fun _ => rfl) (fun _ => rfl)
theorem f61_all (a b : List Int) (ha : len a < 9223372036854775808) : f61_ok a b :=
  okScan (g := f61_L4_g (a, b, ())) (next := f61_L4_next (a, b, ())) (c := ne0 a b) (len_nonneg a) ha (fun _ => rfl) (fun _ => rfl) fun x _ _ hx h => by
    have h := hx (of_decide_eq_true h)
    exact ⟨h.1, h.2.1, fun _ => h.2.2⟩

theorem f58_eq (a b : List Int) (ha : len a < 9223372036854775808) : f58 a b = eqC (len a) (len b) (ne0 a b) :=
  eqScan (g := f58_L4_g (a, b, len a, ())) (next := f58_L4_next (a, b, len a, ())) (c := ne0 a b) (len_nonneg a) ha (fun _ => rfl) (fun _ => rfl)
theorem f58_all (a b : List Int) (ha : len a < 9223372036854775808) : f58_ok a b :=
  okScan (g := f58_L4_g (a, b, len a, ())) (next := f58_L4_next (a, b, len a, ())) (c := ne0 a b) (len_nonneg a) ha (fun _ => rfl) (fun _ => rfl) fun x _ _ hx h => by
    have h := hx (of_decide_eq_true h)
    exact ⟨h.1, h.2.1, fun _ => h.2.2⟩

theorem f63_eq (a b : List D57) (ha : len a < 9223372036854775808) : f63 a b = eqC (len a) (len b) (neT T57 Z57 a b) :=
  eqScan (g := f63_L4_g (a, b, ())) (next := f63_L4_next (a, b, ())) (c := neT T57 Z57 a b) (len_nonneg a) ha (fun _ => rfl) (fun _ => rfl)
theorem f63_all (a b : List D57) (ha : len a < 9223372036854775808) : f63_ok a b :=
  okScan (g := f63_L4_g (a, b, ())) (next := f63_L4_next (a, b, ())) (c := neT T57 Z57 a b) (len_nonneg a) ha (fun _ => rfl) (fun _ => rfl) fun x _ _ hx h => by
    have h := hx (of_decide_eq_true h)
    exact ⟨h.1, h.2.1, fun _ => h.2.2⟩

theorem f100_eq (a b : List D57) (ha : len a < 9223372036854775808) : f100 a b = eqC (len a) (len b) (neT T57 Z57 a b) :=
  eqScan (g := f100_L4_g (a, b, len a, ())) (next := f100_L4_next (a, b, len a, ())) (c := neT T57 Z57 a b) (len_nonneg a) ha (fun _ => rfl) (fun _ => rfl)
theorem f100_all (a b : List D57) (ha : len a < 9223372036854775808) : f100_ok a b :=
  okScan (g := f100_L4_g (a, b, len a, ())) (next := f100_L4_next (a, b, len a, ())) (c := neT T57 Z57 a b) (len_nonneg a) ha (fun _ => rfl) (fun _ => rfl) fun x _ _ hx h => by
    have h := hx (of_decide_eq_true h)
    exact ⟨h.1, h.2.1, fun _ => h.2.2⟩

theorem f64_eq (a b : List D62) (ha : len a < 9223372036854775808) : f64 a b = eqC (len a) (len b) (neT T62 Z62 a b) :=
  eqScan (g := f64_L4_g (a, b, ())) (next := f64_L4_next (a, b, ())) (c := neT T62 Z62 a b) (len_nonneg a) ha (fun _ => rfl) (fun _ => rfl)
theorem f64_all (a b : List D62) (ha : len a < 9223372036854775808) : f64_ok a b :=
  okScan (g := f64_L4_g (a, b, ())) (next := f64_L4_next (a, b, ())) (c := neT T62 Z62 a b) (len_nonneg a) ha (fun _ => rfl) (fun _ => rfl) fun x _ _ hx h => by
    have h := hx (of_decide_eq_true h)
    exact ⟨h.1, h.2.1, fun _ => h.2.2⟩

theorem f101_eq (a b : List D62) (ha : len a < 9223372036854775808) : f101 a b = eqC (len a) (len b) (neT T62 Z62 a b) :=
  eqScan (g := f101_L4_g (a, b, len a, ())) (next := f101_L4_next (a, b, len a, ())) (c := neT T62 Z62 a b) (len_nonneg a) ha (fun _ => rfl) (fun _ => rfl)
theorem f101_all (a b : List D62) (ha : len a < 9223372036854775808) : f101_ok a b :=
  okScan (g := f101_L4_g (a, b, len a, ())) (next := f101_L4_next (a, b, len a, ())) (c := neT T62 Z62 a b) (len_nonneg a) ha (fun _ => rfl) (fun _ => rfl) fun x _ _ hx h => by
    have h := hx (of_decide_eq_true h)
    exact ⟨h.1, h.2.1, fun _ => h.2.2⟩

theorem f142_eq (a b : List D30) (ha : len a < 9223372036854775808) : f142 a b = eqC (len a) (len b) (neT T30 Z30 a b) :=
  eqScan (g := f142_L4_g (a, b, len a, ())) (next := f142_L4_next (a, b, len a, ())) (c := neT T30 Z30 a b) (len_nonneg a) ha (fun _ => rfl) (fun _ => rfl)
theorem f142_all (a b : List D30) (ha : len a < 9223372036854775808) : f142_ok a b :=
  okScan (g := f142_L4_g (a, b, len a, ())) (next := f142_L4_next (a, b, len a, ())) (c := neT T30 Z30 a b) (len_nonneg a) ha (fun _ => rfl) (fun _ => rfl) fun x _ _ hx h => by
    have h := hx (of_decide_eq_true h)
    exact ⟨h.1, h.2.1, fun _ => h.2.2⟩

theorem f102_eq (a b : List D59) (ha : len a < 9223372036854775808) : f102 a b = eqC (len a) (len b) (neT T59 Z59 a b) :=
  eqScan (g := f102_L4_g (a, b, len a, ())) (next := f102_L4_next (a, b, len a, ())) (c := neT T59 Z59 a b) (len_nonneg a) ha (fun _ => rfl) (fun _ => rfl)
theorem f102_all (a b : List D59) (ha : len a < 9223372036854775808) : f102_ok a b :=
  okScan (g := f102_L4_g (a, b, len a, ())) (next := f102_L4_next (a, b, len a, ())) (c := neT T59 Z59 a b) (len_nonneg a) ha (fun _ => rfl) (fun _ => rfl) fun x _ _ hx h => by
    have h := hx (of_decide_eq_true h)
    exact ⟨h.1, h.2.1, fun _ => h.2.2⟩


theorem f62_eq (p q : D28) (ha : len p.2.2.1 < 9223372036854775808) : f62 p q = ((p.1 == q.1) && (p.2.1 == q.2.1) && eqC (len p.2.2.1) (len q.2.2.1) (neT T30 Z30 p.2.2.1 q.2.2.1)) := by
  rw [← eqScan (g := f62_L4_g (p, q, ())) (next := f62_L4_next (p, q, ())) (c := neT T30 Z30 p.2.2.1 q.2.2.1) (len_nonneg _) ha (fun _ => rfl) (fun _ => rfl)]
  show (bif (bif (bif (p.1 != q.1) then true else (p.2.1 != q.2.1)) then true else (len p.2.2.1 != len q.2.2.1)) then false else (bif f62_L4_e1 (p, q, ()) (loopEnd (f62_L4_g (p, q, ())) (f62_L4_next (p, q, ())) (0, ())) then false else true)) = _
  generalize hB : (bif (decide ((loopEnd (f62_L4_g (p, q, ())) (f62_L4_next (p, q, ())) (0, ())).1 < len p.2.2.1) && neT T30 Z30 p.2.2.1 q.2.2.1 (loopEnd (f62_L4_g (p, q, ())) (f62_L4_next (p, q, ())) (0, ())).1) then false else true) = B
  have hB' : (bif f62_L4_e1 (p, q, ()) (loopEnd (f62_L4_g (p, q, ())) (f62_L4_next (p, q, ())) (0, ())) then false else true) = B := hB
  rw [hB']
  unfold bne
  cases (p.1 == q.1) <;> cases (p.2.1 == q.2.1) <;> cases (len p.2.2.1 == len q.2.2.1) <;> cases B <;> rfl
theorem f62_all (p q : D28) (ha : len p.2.2.1 < 9223372036854775808) : f62_ok p q := by
  intro h
  have h' : (!(len p.2.2.1 != len q.2.2.1)) = true := by
    revert h
    show (!(bif (bif (p.1 != q.1) then true else (p.2.1 != q.2.1)) then true else (len p.2.2.1 != len q.2.2.1))) = true → _
    cases (len p.2.2.1 != len q.2.2.1) <;> cases (p.1 != q.1) <;> cases (p.2.1 != q.2.1) <;> simp
  exact okScan (g := f62_L4_g (p, q, ())) (next := f62_L4_next (p, q, ())) (c := neT T30 Z30 p.2.2.1 q.2.2.1) (len_nonneg _) ha (fun _ => rfl) (fun _ => rfl) (fun x _ _ hx h => by
    have h := hx (of_decide_eq_true h)
    exact ⟨h.1, h.2.1, fun _ => h.2.2⟩) h'
theorem f65_eq (p q : D35) (ha : len p.2.2.2.1 < 9223372036854775808) : f65 p q = ((p.1 == q.1) && (p.2.1 == q.2.1) && (p.2.2.1 == q.2.2.1) && eqC (len p.2.2.2.1) (len q.2.2.2.1) (neT T59 Z59 p.2.2.2.1 q.2.2.2.1)) := by
  rw [← eqScan (g := f65_L4_g (p, q, ())) (next := f65_L4_next (p, q, ())) (c := neT T59 Z59 p.2.2.2.1 q.2.2.2.1) (len_nonneg _) ha (fun _ => rfl) (fun _ => rfl)]
  show (bif (bif (bif (bif (p.1 != q.1) then true else (p.2.1 != q.2.1)) then true else (p.2.2.1 != q.2.2.1)) then true else (len p.2.2.2.1 != len q.2.2.2.1)) then false else (bif f65_L4_e1 (p, q, ()) (loopEnd (f65_L4_g (p, q, ())) (f65_L4_next (p, q, ())) (0, ())) then false else true)) = _
  generalize hB : (bif (decide ((loopEnd (f65_L4_g (p, q, ())) (f65_L4_next (p, q, ())) (0, ())).1 < len p.2.2.2.1) && neT T59 Z59 p.2.2.2.1 q.2.2.2.1 (loopEnd (f65_L4_g (p, q, ())) (f65_L4_next (p, q, ())) (0, ())).1) then false else true) = B
  have hB' : (bif f65_L4_e1 (p, q, ()) (loopEnd (f65_L4_g (p, q, ())) (f65_L4_next (p, q, ())) (0, ())) then false else true) = B := hB
  rw [hB']
  unfold bne
  cases (p.1 == q.1) <;> cases (p.2.1 == q.2.1) <;> cases (p.2.2.1 == q.2.2.1) <;> cases (len p.2.2.2.1 == len q.2.2.2.1) <;> cases B <;> rfl
theorem f65_all (p q : D35) (ha : len p.2.2.2.1 < 9223372036854775808) : f65_ok p q := by
  intro h
  have h' : (!(len p.2.2.2.1 != len q.2.2.2.1)) = true := by
    revert h
    show (!(bif (bif (bif (p.1 != q.1) then true else (p.2.1 != q.2.1)) then true else (p.2.2.1 != q.2.2.1)) then true else (len p.2.2.2.1 != len q.2.2.2.1))) = true → _
    cases (len p.2.2.2.1 != len q.2.2.2.1) <;> cases (p.1 != q.1) <;> cases (p.2.1 != q.2.1) <;> cases (p.2.2.1 != q.2.2.1) <;> simp
  exact okScan (g := f65_L4_g (p, q, ())) (next := f65_L4_next (p, q, ())) (c := neT T59 Z59 p.2.2.2.1 q.2.2.2.1) (len_nonneg _) ha (fun _ => rfl) (fun _ => rfl) (fun x _ _ hx h => by
    have h := hx (of_decide_eq_true h)
    exact ⟨h.1, h.2.1, fun _ => h.2.2⟩) h'

/-- The lists of a node are no longer than may be. -/
structure Lens (n : D37) : Prop where
  mask : len n.2.2.2.2.2.2.2.2.2.1.2.2.1 < 9223372036854775808
  pix : len n.2.2.2.2.2.2.2.2.2.2.2.2.1.2.2.1 < 9223372036854775808
  params : len n.2.2.2.2.2.2.2.2.2.2.2.2.2.2.2.1 < 9223372036854775808
  stops : len n.2.2.2.2.2.2.2.2.2.2.2.2.2.2.2.2.2.1 < 9223372036854775808
  segs : len n.2.2.2.2.2.2.2.2.2.2.2.2.2.2.2.2.2.2.1 < 9223372036854775808
  warp : len n.2.2.2.2.2.2.2.2.2.2.2.2.2.2.2.2.2.2.2.2.2.2.2.2.2.2.2.1.2.2.2.1 < 9223372036854775808

theorem len_lt {α : Type} {l : List α} (h : l.length ≤ maxLen) : len l < 9223372036854775808 := by
  unfold len
  have : maxLen = 9223372036854775807 := rfl
  omega

theorem lens_of {n : D37} (h : Ty.wf T37 n) : Lens n := by
  obtain ⟨_, _, _, _, _, _, _, _, _, ⟨_, _, ⟨h1, _⟩, _⟩, _, _, ⟨_, _, ⟨h2, _⟩, _⟩, _, _, ⟨h3, _⟩, _, ⟨h4, _⟩, ⟨h5, _⟩, _, _, _, _, _, _, _, _, ⟨_, _, _, ⟨h6, _⟩, _⟩, _⟩ := h
  exact ⟨len_lt h1, len_lt h2, len_lt h3, len_lt h4, len_lt h5, len_lt h6⟩

theorem same_eq {a b : D37} (ha : Lens a) : f24 a b = f12 a b := by
  unfold f24 f12 f59 f32 f31 f99
  simp only [f58_eq _ _ ha.mask, f61_eq _ _ ha.mask, f62_eq _ _ ha.pix, f142_eq _ _ ha.pix, f58_eq _ _ ha.params, f61_eq _ _ ha.params, f63_eq _ _ ha.stops, f100_eq _ _ ha.stops, f64_eq _ _ ha.segs, f101_eq _ _ ha.segs, f65_eq _ _ ha.warp, f102_eq _ _ ha.warp, bne, Bool.cond_false_right, Bool.cond_true_left, Bool.cond_false_left, Bool.not_or, Bool.not_and, Bool.not_not]
  ac_rfl

theorem f24_all {a b : D37} (ha : Lens a) : f24_ok a b := by
  unfold f24_ok f59_ok f99_ok
  simp only [f58_all _ _ ha.mask, f58_all _ _ ha.params, f142_all _ _ ha.pix, f100_all _ _ ha.stops, f101_all _ _ ha.segs, f102_all _ _ ha.warp, implies_true, and_self]
theorem f12_all {a b : D37} (ha : Lens a) : f12_ok a b := by
  unfold f12_ok f32_ok f31_ok
  simp only [f61_all _ _ ha.mask, f61_all _ _ ha.params, f62_all _ _ ha.pix, f63_all _ _ ha.stops, f64_all _ _ ha.segs, f65_all _ _ ha.warp, implies_true, and_self]

theorem example_true : f16 = true := by kernel_rfl
theorem example_ok : f16_ok := of_decide_eq_true (by kernel_rfl)
theorem eqb_self (b : Bool) : Ty.eqb .bool b b = true := by cases b <;> rfl

theorem nodeSames_law : ∀ x, wfL 0 [T50] x → f8_ok x.1 ∧ f8 x.1 = true := by
  intro x hx
  obtain ⟨⟨h1, _⟩, _⟩ := hx
  have ha := lens_of h1
  refine ⟨⟨f24_all ha, f12_all ha, fun _ => example_ok⟩, ?_⟩
  show (bif Ty.eqb .bool (f24 x.1.1 x.1.2.1) (f12 x.1.1 x.1.2.1) then f16 else false) = true
  rw [same_eq ha, eqb_self, example_true]
  rfl
end Go.Proofs.YtleannhgpeiooaaGreatDoor.Am
