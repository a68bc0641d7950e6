/- Plain laws: the equality of nodes, of the program and of the document. No condition. -/
import Derived.Test.YtcjaalnbodmdgaaGreatDoorPatch2
import Derived.Test.YtcjaalnbodmdgaaGreatDoorMach4
namespace Go.Proofs.YtcjaalnbodmdgaaGreatDoor.Am
open Go Go.Am

def ne0 (a b : List Int) (i : Int) : Bool := nth a i 0 != nth b i 0
def neT (τ : Ty) (z : τ.den) (a b : List τ.den) (i : Int) : Bool := !(Ty.eqb τ (nth a i z) (nth b i z))
def eqC (n m : Int) (c : Int → Bool) : Bool := (n == m) && !(anyI n c)

theorem eqScan {g : Int × Unit → Bool} {next : Int × Unit → Int × Unit} {n m : Int} {c : Int → Bool} (hn0 : 0 ≤ n) (hn : n < 9223372036854775808) (hg : ∀ x, g x = (decide (x.1 < n) && !(c x.1))) (hx : ∀ x, next x = (x.1 + 1, ())) :
    (bif (n != m) then false else (bif (decide ((loopEnd g next (0, ())).1 < n) && c (loopEnd g next (0, ())).1) then false else true)) = eqC n m c := by
  rw [scan_any hn0 hn hg hx]
  unfold eqC
  cases h : (n == m) <;> cases anyI n c <;> simp_all
theorem okScan {g : Int × Unit → Bool} {next : Int × Unit → Int × Unit} {ok : Int × Unit → Prop} {n m : Int} {c : Int → Bool} (hn0 : 0 ≤ n) (hn : n < 9223372036854775808) (hg : ∀ x, g x = (decide (x.1 < n) && !(c x.1))) (hx : ∀ x, next x = (x.1 + 1, ()))
    (hok : ∀ x : Int × Unit, n = m → 0 ≤ x.1 → (x.1 < n → InB x.1 n ∧ InB x.1 m ∧ InR (x.1 + 1)) → ok x) : (!(n != m)) = true → Am.Ends g next ok (0, ()) := by
  intro h
  have e : n = m := by simpa using h
  refine scan_ends hn0 hn (fun x h => ?_) hx fun x h1 h2 => hok x e h1 fun h3 => ⟨⟨h1, h3⟩, ⟨h1, by omega⟩, ?_⟩
  · rw [hg] at h; simp only [Bool.and_eq_true, decide_eq_true_eq] at h; exact h.1
  · unfold InR; omega

theorem f64_eq (a b : List Int) (ha : len a < 9223372036854775808) : f64 a b = eqC (len a) (len b) (ne0 a b) :=
  eqScan (g := f64_L4_g (a, b, ())) (next := f64_L4_next (a, b, ())) (c := ne0 a b) (len_nonneg a) ha (fun _ => rfl) (fun _ => rfl)
theorem f64_all (a b : List Int) (ha : len a < 9223372036854775808) : f64_ok a b :=
  okScan (g := f64_L4_g (a, b, ())) (next := f64_L4_next (a, b, ())) (c := ne0 a b) (len_nonneg a) ha (fun _ => rfl) (fun _ => rfl) fun x _ _ hx h => by
    have h := hx (of_decide_eq_true h)
    exact ⟨h.1, h.2.1, fun _ => h.2.2⟩

theorem f35_eq (a b : List Int) (ha : len a < 9223372036854775808) : f35 a b = eqC (len a) (len b) (ne0 a b) :=
  eqScan (g := f35_L4_g (a, b, len a, ())) (next := f35_L4_next (a, b, len a, ())) (c := ne0 a b) (len_nonneg a) ha (fun _ => rfl) (fun _ => rfl)
theorem f35_all (a b : List Int) (ha : len a < 9223372036854775808) : f35_ok a b :=
  okScan (g := f35_L4_g (a, b, len a, ())) (next := f35_L4_next (a, b, len a, ())) (c := ne0 a b) (len_nonneg a) ha (fun _ => rfl) (fun _ => rfl) fun x _ _ hx h => by
    have h := hx (of_decide_eq_true h)
    exact ⟨h.1, h.2.1, fun _ => h.2.2⟩

theorem f66_eq (a b : List D88) (ha : len a < 9223372036854775808) : f66 a b = eqC (len a) (len b) (neT T88 Z88 a b) :=
  eqScan (g := f66_L4_g (a, b, ())) (next := f66_L4_next (a, b, ())) (c := neT T88 Z88 a b) (len_nonneg a) ha (fun _ => rfl) (fun _ => rfl)
theorem f66_all (a b : List D88) (ha : len a < 9223372036854775808) : f66_ok a b :=
  okScan (g := f66_L4_g (a, b, ())) (next := f66_L4_next (a, b, ())) (c := neT T88 Z88 a b) (len_nonneg a) ha (fun _ => rfl) (fun _ => rfl) fun x _ _ hx h => by
    have h := hx (of_decide_eq_true h)
    exact ⟨h.1, h.2.1, fun _ => h.2.2⟩

theorem f51_eq (a b : List D88) (ha : len a < 9223372036854775808) : f51 a b = eqC (len a) (len b) (neT T88 Z88 a b) :=
  eqScan (g := f51_L4_g (a, b, len a, ())) (next := f51_L4_next (a, b, len a, ())) (c := neT T88 Z88 a b) (len_nonneg a) ha (fun _ => rfl) (fun _ => rfl)
theorem f51_all (a b : List D88) (ha : len a < 9223372036854775808) : f51_ok a b :=
  okScan (g := f51_L4_g (a, b, len a, ())) (next := f51_L4_next (a, b, len a, ())) (c := neT T88 Z88 a b) (len_nonneg a) ha (fun _ => rfl) (fun _ => rfl) fun x _ _ hx h => by
    have h := hx (of_decide_eq_true h)
    exact ⟨h.1, h.2.1, fun _ => h.2.2⟩

theorem f67_eq (a b : List D94) (ha : len a < 9223372036854775808) : f67 a b = eqC (len a) (len b) (neT T94 Z94 a b) :=
  eqScan (g := f67_L4_g (a, b, ())) (next := f67_L4_next (a, b, ())) (c := neT T94 Z94 a b) (len_nonneg a) ha (fun _ => rfl) (fun _ => rfl)
theorem f67_all (a b : List D94) (ha : len a < 9223372036854775808) : f67_ok a b :=
  okScan (g := f67_L4_g (a, b, ())) (next := f67_L4_next (a, b, ())) (c := neT T94 Z94 a b) (len_nonneg a) ha (fun _ => rfl) (fun _ => rfl) fun x _ _ hx h => by
    have h := hx (of_decide_eq_true h)
    exact ⟨h.1, h.2.1, fun _ => h.2.2⟩

theorem f52_eq (a b : List D94) (ha : len a < 9223372036854775808) : f52 a b = eqC (len a) (len b) (neT T94 Z94 a b) :=
  eqScan (g := f52_L4_g (a, b, len a, ())) (next := f52_L4_next (a, b, len a, ())) (c := neT T94 Z94 a b) (len_nonneg a) ha (fun _ => rfl) (fun _ => rfl)
theorem f52_all (a b : List D94) (ha : len a < 9223372036854775808) : f52_ok a b :=
  okScan (g := f52_L4_g (a, b, len a, ())) (next := f52_L4_next (a, b, len a, ())) (c := neT T94 Z94 a b) (len_nonneg a) ha (fun _ => rfl) (fun _ => rfl) fun x _ _ hx h => by
    have h := hx (of_decide_eq_true h)
    exact ⟨h.1, h.2.1, fun _ => h.2.2⟩

theorem f54_eq (a b : List D22) (ha : len a < 9223372036854775808) : f54 a b = eqC (len a) (len b) (neT T22 Z22 a b) :=
  eqScan (g := f54_L4_g (a, b, len a, ())) (next := f54_L4_next (a, b, len a, ())) (c := neT T22 Z22 a b) (len_nonneg a) ha (fun _ => rfl) (fun _ => rfl)
theorem f54_all (a b : List D22) (ha : len a < 9223372036854775808) : f54_ok a b :=
  okScan (g := f54_L4_g (a, b, len a, ())) (next := f54_L4_next (a, b, len a, ())) (c := neT T22 Z22 a b) (len_nonneg a) ha (fun _ => rfl) (fun _ => rfl) fun x _ _ hx h => by
    have h := hx (of_decide_eq_true h)
    exact ⟨h.1, h.2.1, fun _ => h.2.2⟩

theorem f53_eq (a b : List D91) (ha : len a < 9223372036854775808) : f53 a b = eqC (len a) (len b) (neT T91 Z91 a b) :=
  eqScan (g := f53_L4_g (a, b, len a, ())) (next := f53_L4_next (a, b, len a, ())) (c := neT T91 Z91 a b) (len_nonneg a) ha (fun _ => rfl) (fun _ => rfl)
theorem f53_all (a b : List D91) (ha : len a < 9223372036854775808) : f53_ok a b :=
  okScan (g := f53_L4_g (a, b, len a, ())) (next := f53_L4_next (a, b, len a, ())) (c := neT T91 Z91 a b) (len_nonneg a) ha (fun _ => rfl) (fun _ => rfl) fun x _ _ hx h => by
    have h := hx (of_decide_eq_true h)
    exact ⟨h.1, h.2.1, fun _ => h.2.2⟩


theorem f65_eq (p q : D51) (ha : len p.2.2.1 < 9223372036854775808) : f65 p q = ((p.1 == q.1) && (p.2.1 == q.2.1) && eqC (len p.2.2.1) (len q.2.2.1) (neT T22 Z22 p.2.2.1 q.2.2.1)) := by
  rw [← eqScan (g := f65_L4_g (p, q, ())) (next := f65_L4_next (p, q, ())) (c := neT T22 Z22 p.2.2.1 q.2.2.1) (len_nonneg _) ha (fun _ => rfl) (fun _ => rfl)]
  show (bif (bif (bif (p.1 != q.1) then true else (p.2.1 != q.2.1)) then true else (len p.2.2.1 != len q.2.2.1)) then false else (bif f65_L4_e1 (p, q, ()) (loopEnd (f65_L4_g (p, q, ())) (f65_L4_next (p, q, ())) (0, ())) then false else true)) = _
  generalize hB : (bif (decide ((loopEnd (f65_L4_g (p, q, ())) (f65_L4_next (p, q, ())) (0, ())).1 < len p.2.2.1) && neT T22 Z22 p.2.2.1 q.2.2.1 (loopEnd (f65_L4_g (p, q, ())) (f65_L4_next (p, q, ())) (0, ())).1) then false else true) = B
  have hB' : (bif f65_L4_e1 (p, q, ()) (loopEnd (f65_L4_g (p, q, ())) (f65_L4_next (p, q, ())) (0, ())) then false else true) = B := hB
  rw [hB']
  unfold bne
  cases (p.1 == q.1) <;> cases (p.2.1 == q.2.1) <;> cases (len p.2.2.1 == len q.2.2.1) <;> cases B <;> rfl
theorem f65_all (p q : D51) (ha : len p.2.2.1 < 9223372036854775808) : f65_ok p q := by
  intro h
  have h' : (!(len p.2.2.1 != len q.2.2.1)) = true := by
    revert h
    show (!(bif (bif (p.1 != q.1) then true else (p.2.1 != q.2.1)) then true else (len p.2.2.1 != len q.2.2.1))) = true → _
    cases (len p.2.2.1 != len q.2.2.1) <;> cases (p.1 != q.1) <;> cases (p.2.1 != q.2.1) <;> simp
  exact okScan (g := f65_L4_g (p, q, ())) (next := f65_L4_next (p, q, ())) (c := neT T22 Z22 p.2.2.1 q.2.2.1) (len_nonneg _) ha (fun _ => rfl) (fun _ => rfl) (fun x _ _ hx h => by
    have h := hx (of_decide_eq_true h)
    exact ⟨h.1, h.2.1, fun _ => h.2.2⟩) h'
theorem f68_eq (p q : D58) (ha : len p.2.2.2.1 < 9223372036854775808) : f68 p q = ((p.1 == q.1) && (p.2.1 == q.2.1) && (p.2.2.1 == q.2.2.1) && eqC (len p.2.2.2.1) (len q.2.2.2.1) (neT T91 Z91 p.2.2.2.1 q.2.2.2.1)) := by
  rw [← eqScan (g := f68_L4_g (p, q, ())) (next := f68_L4_next (p, q, ())) (c := neT T91 Z91 p.2.2.2.1 q.2.2.2.1) (len_nonneg _) ha (fun _ => rfl) (fun _ => rfl)]
  show (bif (bif (bif (bif (p.1 != q.1) then true else (p.2.1 != q.2.1)) then true else (p.2.2.1 != q.2.2.1)) then true else (len p.2.2.2.1 != len q.2.2.2.1)) then false else (bif f68_L4_e1 (p, q, ()) (loopEnd (f68_L4_g (p, q, ())) (f68_L4_next (p, q, ())) (0, ())) then false else true)) = _
  generalize hB : (bif (decide ((loopEnd (f68_L4_g (p, q, ())) (f68_L4_next (p, q, ())) (0, ())).1 < len p.2.2.2.1) && neT T91 Z91 p.2.2.2.1 q.2.2.2.1 (loopEnd (f68_L4_g (p, q, ())) (f68_L4_next (p, q, ())) (0, ())).1) then false else true) = B
  have hB' : (bif f68_L4_e1 (p, q, ()) (loopEnd (f68_L4_g (p, q, ())) (f68_L4_next (p, q, ())) (0, ())) then false else true) = B := hB
  rw [hB']
  unfold bne
  cases (p.1 == q.1) <;> cases (p.2.1 == q.2.1) <;> cases (p.2.2.1 == q.2.2.1) <;> cases (len p.2.2.2.1 == len q.2.2.2.1) <;> cases B <;> rfl
theorem f68_all (p q : D58) (ha : len p.2.2.2.1 < 9223372036854775808) : f68_ok p q := by
  intro h
  have h' : (!(len p.2.2.2.1 != len q.2.2.2.1)) = true := by
    revert h
    show (!(bif (bif (bif (p.1 != q.1) then true else (p.2.1 != q.2.1)) then true else (p.2.2.1 != q.2.2.1)) then true else (len p.2.2.2.1 != len q.2.2.2.1))) = true → _
    cases (len p.2.2.2.1 != len q.2.2.2.1) <;> cases (p.1 != q.1) <;> cases (p.2.1 != q.2.1) <;> cases (p.2.2.1 != q.2.2.1) <;> simp
  exact okScan (g := f68_L4_g (p, q, ())) (next := f68_L4_next (p, q, ())) (c := neT T91 Z91 p.2.2.2.1 q.2.2.2.1) (len_nonneg _) ha (fun _ => rfl) (fun _ => rfl) (fun x _ _ hx h => by
    have h := hx (of_decide_eq_true h)
    exact ⟨h.1, h.2.1, fun _ => h.2.2⟩) h'

/-- The lists of a node are no longer than may be. -/
structure Lens (n : D60) : Prop where
  mask : len n.2.2.2.2.2.2.2.2.2.1.2.2.1 < 9223372036854775808
  pix : len n.2.2.2.2.2.2.2.2.2.2.2.2.1.2.2.1 < 9223372036854775808
  params : len n.2.2.2.2.2.2.2.2.2.2.2.2.2.2.2.1 < 9223372036854775808
  stops : len n.2.2.2.2.2.2.2.2.2.2.2.2.2.2.2.2.2.1 < 9223372036854775808
  segs : len n.2.2.2.2.2.2.2.2.2.2.2.2.2.2.2.2.2.2.1 < 9223372036854775808
  warp : len n.2.2.2.2.2.2.2.2.2.2.2.2.2.2.2.2.2.2.2.2.2.2.2.2.2.2.2.1.2.2.2.1 < 9223372036854775808

theorem len_lt {α : Type} {l : List α} (h : l.length ≤ maxLen) : len l < 9223372036854775808 := by
  unfold len
  have : maxLen = 9223372036854775807 := rfl
  omega

theorem lens_of {n : D60} (h : Ty.wf T60 n) : Lens n := by
  obtain ⟨_, _, _, _, _, _, _, _, _, ⟨_, _, ⟨h1, _⟩, _⟩, _, _, ⟨_, _, ⟨h2, _⟩, _⟩, _, _, ⟨h3, _⟩, _, ⟨h4, _⟩, ⟨h5, _⟩, _, _, _, _, _, _, _, _, ⟨_, _, _, ⟨h6, _⟩, _⟩, _⟩ := h
  exact ⟨len_lt h1, len_lt h2, len_lt h3, len_lt h4, len_lt h5, len_lt h6⟩

theorem same_eq {a b : D60} (ha : Lens a) : f21 a b = f34 a b := by
  unfold f21 f21t f34 f34t f36 f36t f50 f50t f49 f49t f39 f39t
  simp only [f35_eq _ _ ha.mask, f64_eq _ _ ha.mask, f65_eq _ _ ha.pix, f54_eq _ _ ha.pix, f35_eq _ _ ha.params, f64_eq _ _ ha.params, f66_eq _ _ ha.stops, f51_eq _ _ ha.stops, f67_eq _ _ ha.segs, f52_eq _ _ ha.segs, f68_eq _ _ ha.warp, f53_eq _ _ ha.warp, bne, Bool.cond_false_right, Bool.cond_true_left, Bool.cond_false_left, Bool.not_or, Bool.not_and, Bool.not_not]
  ac_rfl

theorem f21_all {a b : D60} (ha : Lens a) : f21_ok a b := by
  unfold f21_ok f21t f36_ok f36t f39_ok f39t
  simp only [f35_all _ _ ha.mask, f35_all _ _ ha.params, f54_all _ _ ha.pix, f51_all _ _ ha.stops, f52_all _ _ ha.segs, f53_all _ _ ha.warp, implies_true, and_self]
theorem f34_all {a b : D60} (ha : Lens a) : f34_ok a b := by
  unfold f34_ok f34t f50_ok f50t f49_ok f49t
  simp only [f64_all _ _ ha.mask, f64_all _ _ ha.params, f65_all _ _ ha.pix, f66_all _ _ ha.stops, f67_all _ _ ha.segs, f68_all _ _ ha.warp, implies_true, and_self]

theorem eqb_self (b : Bool) : Ty.eqb .bool b b = true := by cases b <;> rfl
end Go.Proofs.YtcjaalnbodmdgaaGreatDoor.Am
