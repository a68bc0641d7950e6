/- Plain law of NodeWiths: a node with the content of another one. No condition but the bound of the second form. -/
import Derived.Test.YtleannhgpeiooaaGreatDoorNodeP
import Derived.Test.YtleannhgpeiooaaGreatDoorMach4
namespace Go.Proofs.YtleannhgpeiooaaGreatDoor.Am
open Go Go.Am

theorem anyI_none {n : Int} {c : Int → Bool} (h : ∀ i, c i = false) : anyI n c = false := by
  unfold anyI
  rw [List.any_eq_false]
  intro x _
  simp [h]
theorem eqb_refl : ∀ (τ : Ty), τ.cmp = true → ∀ x : τ.den, τ.eqb x x = true := by
  intro τ
  induction τ with
  | int k => intro _ x; simp [Ty.eqb]
  | bool => intro _ x; simp [Ty.eqb]
  | str => intro _ x; simp [Ty.eqb]
  | nl => intro _ x; simp [Ty.eqb]
  | cons a b iha ihb => intro h x; simp only [Ty.cmp, Bool.and_eq_true] at h; simp [Ty.eqb, iha h.1, ihb h.2]
  | st f ih => intro h x; simp only [Ty.cmp] at h; simp only [Ty.eqb]; exact ih h x
  | arr n t ih => intro h x; simp only [Ty.cmp] at h; simp only [Ty.eqb]; rw [List.all_eq_true]; intro i _; exact ih h _
  | sl t _ => intro h; simp [Ty.cmp] at h
  | ptr t _ => intro h; simp [Ty.cmp] at h
theorem eqC_self {n : Int} {c : Int → Bool} (h : ∀ i, c i = false) : eqC n n c = true := by simp [eqC, anyI_none h]
theorem ne0_self (a : List Int) (i : Int) : ne0 a a i = false := by simp [ne0]
theorem neT_self {τ : Ty} {z : τ.den} (h : τ.cmp = true) (a : List τ.den) (i : Int) : neT τ z a a i = false := by simp [neT, eqb_refl τ h]

theorem f12_self {a : D37} (ha : Lens a) : f12 a a = true := by
  unfold f12 f32 f31
  simp only [f61_eq _ _ ha.mask, f62_eq _ _ ha.pix, f61_eq _ _ ha.params, f63_eq _ _ ha.stops, f64_eq _ _ ha.segs, f65_eq _ _ ha.warp, eqC_self (ne0_self _), eqC_self (neT_self (τ := T30) (by rfl) _), eqC_self (neT_self (τ := T57) (by rfl) _), eqC_self (neT_self (τ := T62) (by rfl) _), eqC_self (neT_self (τ := T59) (by rfl) _), eqb_self, eqb_refl T25 rfl, eqb_refl T30 rfl, beq_self_eq_true, cond_true, Bool.and_true]

theorem with_eq (a b : D37) : f22 a b = f23 a b := by
  unfold f22 f23 f53 f54 f55 f56 f57
  cases h : (a.2.1 != b.2.1) with
  | true => rfl
  | false =>
    have e : a.2.1 = b.2.1 := by simpa using h
    simp only [h, cond_false]
    rw [e]

/-- A list that is read whole is no longer than what is read. -/
theorem sum_len {τ : Ty} (hb : ∀ x : τ.den, 1 ≤ τ.bulk x) : ∀ l : List τ.den, l.length ≤ (l.map τ.bulk).sum := by
  intro l
  induction l with
  | nil => simp
  | cons x l ih => have := hb x; simp only [List.length_cons, List.map_cons, List.sum_cons]; omega

structure Short (n : D37) : Prop where
  mask : n.2.2.2.2.2.2.2.2.2.1.2.2.1.length ≤ 1048576
  pix : n.2.2.2.2.2.2.2.2.2.2.2.2.1.2.2.1.length ≤ 1048576
  params : n.2.2.2.2.2.2.2.2.2.2.2.2.2.2.2.1.length ≤ 1048576
  stops : n.2.2.2.2.2.2.2.2.2.2.2.2.2.2.2.2.2.1.length ≤ 1048576
  segs : n.2.2.2.2.2.2.2.2.2.2.2.2.2.2.2.2.2.2.1.length ≤ 1048576
  warp : n.2.2.2.2.2.2.2.2.2.2.2.2.2.2.2.2.2.2.2.2.2.2.2.2.2.2.2.1.2.2.2.1.length ≤ 1048576

theorem fb (f : Ty) : ∀ (k : Nat) (x : f.den), (f.fty k).bulk (f.fget k x) ≤ f.bulk x := by
  induction f with
  | cons h t _ iht =>
    intro k x
    cases k with
    | zero => simp only [Ty.fty, Ty.fget, Ty.bulk]; omega
    | succ k => simp only [Ty.fty, Ty.fget, Ty.bulk]; have := iht k x.2; omega
  | _ => intro k x; simp [Ty.fty, Ty.fget, Ty.bulk]
theorem sb (f : Ty) (k : Nat) (x : f.den) : (f.fty k).bulk (f.fget k x) ≤ (Ty.st f).bulk x := by
  have := fb f k x
  have e : (Ty.st f).bulk x = f.bulk x + 1 := rfl
  omega
def fieldsOf : Ty → Ty
  | .st f => f
  | τ => τ
theorem sl_len {τ : Ty} (hb : ∀ x : τ.den, 1 ≤ τ.bulk x) {l : List τ.den} {N : Nat} (h : (Ty.sl τ).bulk l ≤ N) : l.length ≤ N := by
  have := sum_len hb l
  have e : (Ty.sl τ).bulk l = (l.map τ.bulk).sum + 1 := rfl
  omega
theorem st_pos (f : Ty) (x : (Ty.st f).den) : 1 ≤ (Ty.st f).bulk x := by
  have e : (Ty.st f).bulk x = f.bulk x + 1 := rfl
  omega
theorem short_of {n : D37} (h : Ty.bulk T37 n ≤ 1048576) : Short n := by
  refine ⟨?_, ?_, ?_, ?_, ?_, ?_⟩
  · exact sl_len (τ := .int .i64) (fun _ => Nat.le_refl _) (Nat.le_trans (sb (fieldsOf ((fieldsOf T37).fty 9)) 2 n.2.2.2.2.2.2.2.2.2.1) (Nat.le_trans (sb (fieldsOf T37) 9 n) h))
  · exact sl_len (τ := T30) (st_pos _) (Nat.le_trans (sb (fieldsOf ((fieldsOf T37).fty 12)) 2 n.2.2.2.2.2.2.2.2.2.2.2.2.1) (Nat.le_trans (sb (fieldsOf T37) 12 n) h))
  · exact sl_len (τ := .int .i64) (fun _ => Nat.le_refl _) (Nat.le_trans (sb (fieldsOf T37) 15 n) h)
  · exact sl_len (τ := T57) (st_pos _) (Nat.le_trans (sb (fieldsOf T37) 17 n) h)
  · exact sl_len (τ := T62) (st_pos _) (Nat.le_trans (sb (fieldsOf T37) 18 n) h)
  · exact sl_len (τ := T59) (st_pos _) (Nat.le_trans (sb (fieldsOf ((fieldsOf T37).fty 27)) 3 n.2.2.2.2.2.2.2.2.2.2.2.2.2.2.2.2.2.2.2.2.2.2.2.2.2.2.2.1) (Nat.le_trans (sb (fieldsOf T37) 27 n) h))

theorem zero_lt : (0 : Int) < 9223372036854775808 := by decide
theorem clone_ok {α : Type} {l : List α} (h : l.length ≤ 1048576) : (l.length : Int) ≤ 4294967296 := by omega

theorem f22_all {a b : D37} (ha : Short a) (hb : Short b) : f22_ok a b := by
  intro _
  exact ⟨clone_ok ha.mask, clone_ok hb.pix, clone_ok hb.params, clone_ok hb.stops, clone_ok hb.segs, clone_ok hb.warp⟩

theorem nodeWiths_law : ∀ x, wfL 0 [T50] x → bulkL 0 [T50] x ≤ 1048576 → f6_ok x.1 ∧ f6 x.1 = true := by
  intro x hx hN
  obtain ⟨⟨h1, h2, _⟩, _⟩ := hx
  have hN1 : Ty.bulk T50 x.1 ≤ 1048576 := Nat.le_trans (Nat.le_add_right _ _) hN
  have hb1 : Ty.bulk T37 x.1.1 ≤ 1048576 := Nat.le_trans (sb (fieldsOf T50) 0 x.1) hN1
  have hb2 : Ty.bulk T37 x.1.2.1 ≤ 1048576 := Nat.le_trans (sb (fieldsOf T50) 1 x.1) hN1
  have s1 := short_of hb1
  have s2 := short_of hb2
  have la := lens_of h1
  have lb := lens_of h2
  have hl : Lens (f23 x.1.1 x.1.2.1).1 := by
    unfold f23
    cases h : (x.1.1.2.1 != x.1.2.1.2.1) with
    | true => exact ⟨zero_lt, zero_lt, zero_lt, zero_lt, zero_lt, zero_lt⟩
    | false => exact ⟨la.mask, lb.pix, lb.params, lb.stops, lb.segs, lb.warp⟩
  have hf : f6 x.1 = (bif (bif ((f22 x.1.1 x.1.2.1).2.1 == (f23 x.1.1 x.1.2.1).2.1) then f12 (f22 x.1.1 x.1.2.1).1 (f23 x.1.1 x.1.2.1).1 else false) then f16 else false) := rfl
  refine ⟨⟨f22_all s1 s2, trivial, fun _ => by show f12_ok (f22 x.1.1 x.1.2.1).1 (f23 x.1.1 x.1.2.1).1; rw [with_eq]; exact f12_all hl, fun _ => example_ok⟩, ?_⟩
  rw [hf, with_eq, beq_self_eq_true, cond_true, f12_self hl, cond_true, example_true]
end Go.Proofs.YtleannhgpeiooaaGreatDoor.Am
