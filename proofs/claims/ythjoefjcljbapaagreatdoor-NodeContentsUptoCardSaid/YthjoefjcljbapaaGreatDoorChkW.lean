/- Plain law of NodeContents. No condition but the bound of the second form. -/
import Derived.Test.YthjoefjcljbapaaGreatDoorChkQ
import Derived.Test.YthjoefjcljbapaaGreatDoorChkE1
import Derived.Test.YthjoefjcljbapaaGreatDoorChkE2
import Derived.Test.YthjoefjcljbapaaGreatDoorMach4
namespace Go.Proofs.YthjoefjcljbapaaGreatDoor.Am
open Go Go.Am
theorem sum_len {τ : Ty} (hb : ∀ x : τ.den, 1 ≤ τ.bulk x) : ∀ l : List τ.den, l.length ≤ (l.map τ.bulk).sum := by
  intro l
  induction l with
  | nil => simp
  | cons x l ih => have := hb x; simp only [List.length_cons, List.map_cons, List.sum_cons]; omega
structure Short (n : D37) : Prop where
  mask : n.2.2.2.2.2.2.2.2.2.1.2.2.1.length ≤ 1048576
  pix : n.2.2.2.2.2.2.2.2.2.2.2.2.1.2.2.1.length ≤ 1048576
  params : n.2.2.2.2.2.2.2.2.2.2.2.2.2.2.2.1.length ≤ 1048576
  stops : n.2.2.2.2.2.2.2.2.2.2.2.2.2.2.2.2.2.1.length ≤ 1048576
  segs : n.2.2.2.2.2.2.2.2.2.2.2.2.2.2.2.2.2.2.1.length ≤ 1048576
  warp : n.2.2.2.2.2.2.2.2.2.2.2.2.2.2.2.2.2.2.2.2.2.2.2.2.2.2.2.1.2.2.2.1.length ≤ 1048576
theorem fb (f : Ty) : ∀ (k : Nat) (x : f.den), (f.fty k).bulk (f.fget k x) ≤ f.bulk x := by
  induction f with
  | cons h t _ iht =>
    intro k x
    cases k with
    | zero => simp only [Ty.fty, Ty.fget, Ty.bulk]; omega
    | succ k => simp only [Ty.fty, Ty.fget, Ty.bulk]; have := iht k x.2; omega
  | _ => intro k x; simp [Ty.fty, Ty.fget, Ty.bulk]
theorem sb (f : Ty) (k : Nat) (x : f.den) : (f.fty k).bulk (f.fget k x) ≤ (Ty.st f).bulk x := by
  have := fb f k x
  have e : (Ty.st f).bulk x = f.bulk x + 1 := rfl
  omega
def fieldsOf : Ty → Ty
  | .st f => f
  | τ => τ
theorem sl_len {τ : Ty} (hb : ∀ x : τ.den, 1 ≤ τ.bulk x) {l : List τ.den} {N : Nat} (h : (Ty.sl τ).bulk l ≤ N) : l.length ≤ N := by
  have := sum_len hb l
  have e : (Ty.sl τ).bulk l = (l.map τ.bulk).sum + 1 := rfl
  omega
theorem st_pos (f : Ty) (x : (Ty.st f).den) : 1 ≤ (Ty.st f).bulk x := by
  have e : (Ty.st f).bulk x = f.bulk x + 1 := rfl
  omega
theorem short_of {n : D37} (h : Ty.bulk T37 n ≤ 1048576) : Short n := by
  refine ⟨?_, ?_, ?_, ?_, ?_, ?_⟩
  · exact sl_len (τ := .int .i64) (fun _ => Nat.le_refl _) (Nat.le_trans (sb (fieldsOf ((fieldsOf T37).fty 9)) 2 n.2.2.2.2.2.2.2.2.2.1) (Nat.le_trans (sb (fieldsOf T37) 9 n) h))
  · exact sl_len (τ := T30) (st_pos _) (Nat.le_trans (sb (fieldsOf ((fieldsOf T37).fty 12)) 2 n.2.2.2.2.2.2.2.2.2.2.2.2.1) (Nat.le_trans (sb (fieldsOf T37) 12 n) h))
  · exact sl_len (τ := .int .i64) (fun _ => Nat.le_refl _) (Nat.le_trans (sb (fieldsOf T37) 15 n) h)
  · exact sl_len (τ := T53) (st_pos _) (Nat.le_trans (sb (fieldsOf T37) 17 n) h)
  · exact sl_len (τ := T58) (st_pos _) (Nat.le_trans (sb (fieldsOf T37) 18 n) h)
  · exact sl_len (τ := T55) (st_pos _) (Nat.le_trans (sb (fieldsOf ((fieldsOf T37).fty 27)) 3 n.2.2.2.2.2.2.2.2.2.2.2.2.2.2.2.2.2.2.2.2.2.2.2.2.2.2.2.1) (Nat.le_trans (sb (fieldsOf T37) 27 n) h))
theorem zero_lt : (0 : Int) < 9223372036854775808 := by decide
theorem clone_ok {α : Type} {l : List α} (h : l.length ≤ 1048576) : (l.length : Int) ≤ 4294967296 := by omega
theorem f13_all {a b : D37} (ha : Short a) (hb : Short b) : f13_ok a b := by
  intro _
  exact ⟨clone_ok ha.mask, clone_ok hb.pix, clone_ok hb.params, clone_ok hb.stops, clone_ok hb.segs, clone_ok hb.warp⟩
def mix (a b : D37) : D37 := (a.1, a.2.1, a.2.2.1, a.2.2.2.1, a.2.2.2.2.1, a.2.2.2.2.2.1, a.2.2.2.2.2.2.1, a.2.2.2.2.2.2.2.1, a.2.2.2.2.2.2.2.2.1, a.2.2.2.2.2.2.2.2.2.1, a.2.2.2.2.2.2.2.2.2.2.1, a.2.2.2.2.2.2.2.2.2.2.2.1, b.2.2.2.2.2.2.2.2.2.2.2.2.1, b.2.2.2.2.2.2.2.2.2.2.2.2.2.1, b.2.2.2.2.2.2.2.2.2.2.2.2.2.2.1, b.2.2.2.2.2.2.2.2.2.2.2.2.2.2.2.1, b.2.2.2.2.2.2.2.2.2.2.2.2.2.2.2.2.1, b.2.2.2.2.2.2.2.2.2.2.2.2.2.2.2.2.2.1, b.2.2.2.2.2.2.2.2.2.2.2.2.2.2.2.2.2.2.1, b.2.2.2.2.2.2.2.2.2.2.2.2.2.2.2.2.2.2.2.1, b.2.2.2.2.2.2.2.2.2.2.2.2.2.2.2.2.2.2.2.2.1, b.2.2.2.2.2.2.2.2.2.2.2.2.2.2.2.2.2.2.2.2.2.1, b.2.2.2.2.2.2.2.2.2.2.2.2.2.2.2.2.2.2.2.2.2.2.1, b.2.2.2.2.2.2.2.2.2.2.2.2.2.2.2.2.2.2.2.2.2.2.2.1, b.2.2.2.2.2.2.2.2.2.2.2.2.2.2.2.2.2.2.2.2.2.2.2.2.1, b.2.2.2.2.2.2.2.2.2.2.2.2.2.2.2.2.2.2.2.2.2.2.2.2.2.1, b.2.2.2.2.2.2.2.2.2.2.2.2.2.2.2.2.2.2.2.2.2.2.2.2.2.2.1, b.2.2.2.2.2.2.2.2.2.2.2.2.2.2.2.2.2.2.2.2.2.2.2.2.2.2.2.1, ())
def put (a b : D37) : D37 := (b.1, b.2.1, b.2.2.1, b.2.2.2.1, b.2.2.2.2.1, b.2.2.2.2.2.1, b.2.2.2.2.2.2.1, b.2.2.2.2.2.2.2.1, b.2.2.2.2.2.2.2.2.1, b.2.2.2.2.2.2.2.2.2.1, a.2.2.2.2.2.2.2.2.2.2.1, a.2.2.2.2.2.2.2.2.2.2.2.1, b.2.2.2.2.2.2.2.2.2.2.2.2.1, b.2.2.2.2.2.2.2.2.2.2.2.2.2.1, b.2.2.2.2.2.2.2.2.2.2.2.2.2.2.1, b.2.2.2.2.2.2.2.2.2.2.2.2.2.2.2.1, b.2.2.2.2.2.2.2.2.2.2.2.2.2.2.2.2.1, b.2.2.2.2.2.2.2.2.2.2.2.2.2.2.2.2.2.1, b.2.2.2.2.2.2.2.2.2.2.2.2.2.2.2.2.2.2.1, b.2.2.2.2.2.2.2.2.2.2.2.2.2.2.2.2.2.2.2.1, b.2.2.2.2.2.2.2.2.2.2.2.2.2.2.2.2.2.2.2.2.1, b.2.2.2.2.2.2.2.2.2.2.2.2.2.2.2.2.2.2.2.2.2.1, b.2.2.2.2.2.2.2.2.2.2.2.2.2.2.2.2.2.2.2.2.2.2.1, b.2.2.2.2.2.2.2.2.2.2.2.2.2.2.2.2.2.2.2.2.2.2.2.1, b.2.2.2.2.2.2.2.2.2.2.2.2.2.2.2.2.2.2.2.2.2.2.2.2.1, b.2.2.2.2.2.2.2.2.2.2.2.2.2.2.2.2.2.2.2.2.2.2.2.2.2.1, b.2.2.2.2.2.2.2.2.2.2.2.2.2.2.2.2.2.2.2.2.2.2.2.2.2.2.1, b.2.2.2.2.2.2.2.2.2.2.2.2.2.2.2.2.2.2.2.2.2.2.2.2.2.2.2.1, ())
def put2 (v b : D37) : D37 := (b.1, v.2.1, b.2.2.1, b.2.2.2.1, b.2.2.2.2.1, b.2.2.2.2.2.1, b.2.2.2.2.2.2.1, b.2.2.2.2.2.2.2.1, b.2.2.2.2.2.2.2.2.1, b.2.2.2.2.2.2.2.2.2.1, v.2.2.2.2.2.2.2.2.2.2.1, v.2.2.2.2.2.2.2.2.2.2.2.1, v.2.2.2.2.2.2.2.2.2.2.2.2.1, v.2.2.2.2.2.2.2.2.2.2.2.2.2.1, v.2.2.2.2.2.2.2.2.2.2.2.2.2.2.1, v.2.2.2.2.2.2.2.2.2.2.2.2.2.2.2.1, v.2.2.2.2.2.2.2.2.2.2.2.2.2.2.2.2.1, v.2.2.2.2.2.2.2.2.2.2.2.2.2.2.2.2.2.1, v.2.2.2.2.2.2.2.2.2.2.2.2.2.2.2.2.2.2.1, v.2.2.2.2.2.2.2.2.2.2.2.2.2.2.2.2.2.2.2.1, v.2.2.2.2.2.2.2.2.2.2.2.2.2.2.2.2.2.2.2.2.1, v.2.2.2.2.2.2.2.2.2.2.2.2.2.2.2.2.2.2.2.2.2.1, v.2.2.2.2.2.2.2.2.2.2.2.2.2.2.2.2.2.2.2.2.2.2.1, v.2.2.2.2.2.2.2.2.2.2.2.2.2.2.2.2.2.2.2.2.2.2.2.1, v.2.2.2.2.2.2.2.2.2.2.2.2.2.2.2.2.2.2.2.2.2.2.2.2.1, v.2.2.2.2.2.2.2.2.2.2.2.2.2.2.2.2.2.2.2.2.2.2.2.2.2.1, v.2.2.2.2.2.2.2.2.2.2.2.2.2.2.2.2.2.2.2.2.2.2.2.2.2.2.1, v.2.2.2.2.2.2.2.2.2.2.2.2.2.2.2.2.2.2.2.2.2.2.2.2.2.2.2.1, ())
def cut (p : D37) : D37 := (0, p.2.1, 0, [], false, false, false, 0, 0, Z23, Z25, 0, p.2.2.2.2.2.2.2.2.2.2.2.2.1, p.2.2.2.2.2.2.2.2.2.2.2.2.2.1, p.2.2.2.2.2.2.2.2.2.2.2.2.2.2.1, p.2.2.2.2.2.2.2.2.2.2.2.2.2.2.2.1, p.2.2.2.2.2.2.2.2.2.2.2.2.2.2.2.2.1, p.2.2.2.2.2.2.2.2.2.2.2.2.2.2.2.2.2.1, p.2.2.2.2.2.2.2.2.2.2.2.2.2.2.2.2.2.2.1, p.2.2.2.2.2.2.2.2.2.2.2.2.2.2.2.2.2.2.2.1, p.2.2.2.2.2.2.2.2.2.2.2.2.2.2.2.2.2.2.2.2.1, p.2.2.2.2.2.2.2.2.2.2.2.2.2.2.2.2.2.2.2.2.2.1, p.2.2.2.2.2.2.2.2.2.2.2.2.2.2.2.2.2.2.2.2.2.2.1, p.2.2.2.2.2.2.2.2.2.2.2.2.2.2.2.2.2.2.2.2.2.2.2.1, p.2.2.2.2.2.2.2.2.2.2.2.2.2.2.2.2.2.2.2.2.2.2.2.2.1, p.2.2.2.2.2.2.2.2.2.2.2.2.2.2.2.2.2.2.2.2.2.2.2.2.2.1, p.2.2.2.2.2.2.2.2.2.2.2.2.2.2.2.2.2.2.2.2.2.2.2.2.2.2.1, p.2.2.2.2.2.2.2.2.2.2.2.2.2.2.2.2.2.2.2.2.2.2.2.2.2.2.2.1, ())
theorem f13_mix {a b : D37} (h : (a.2.1 != b.2.1) = false) : f13 a b = (mix a b, 0, ()) := by
  simp only [f13, f13t, h, cond_false]
  rfl
theorem mix_self (a : D37) : mix a a = a := rfl
theorem put_eq {a b : D37} (h : a.2.1 = b.2.1) : put2 (mix a b) b = put a b := by
  simp only [put2, mix, put, h]
theorem bare_split (q : D37) : f28 q = (Ty.eqb T25 q.2.2.2.2.2.2.2.2.2.2.1 Z25 && (q.2.2.2.2.2.2.2.2.2.2.2.1 == 0) && f28 (cut q)) := by
  simp only [f28, f28t, cut, bne]
  have e1 : Ty.eqb T25 Z25 Z25 = true := by decide
  have e2 : ((0 : Int) == 0) = true := by decide
  have e3 : Ty.eqb T25 q.2.2.2.2.2.2.2.2.2.2.1 ((0 : Int), (0 : Int), (0 : Int), (0 : Int), (0 : Int), (0 : Int), ()) = Ty.eqb T25 q.2.2.2.2.2.2.2.2.2.2.1 Z25 := rfl
  have e4 : Ty.eqb T25 Z25 ((0 : Int), (0 : Int), (0 : Int), (0 : Int), (0 : Int), (0 : Int), ()) = true := e1
  simp only [e3, e4, e2, Bool.not_true, cond_false, Bool.cond_true_left]
  cases Ty.eqb T25 q.2.2.2.2.2.2.2.2.2.2.1 Z25 <;> cases (q.2.2.2.2.2.2.2.2.2.2.2.1 == 0) <;> simp
def kindN (k : Int) : Prop := k = 1 ∨ k = 2 ∨ k = 3 ∨ k = 4 ∨ k = 5 ∨ k = 6 ∨ k = 7 ∨ k = 8 ∨ k = 9 ∨ k = 10 ∨ k = 11
theorem kind_of {k : Int} (h : (f9 k == ([] : List UInt8)) = false) : kindN k := by
  by_cases hk : kindN k
  · exact hk
  · exfalso
    unfold kindN at hk
    have e : f9 k = [] := by
      have ne : ∀ j : Int, k ≠ j → (k == j) = false := fun j h => by simpa using h
      simp only [f9, f9t, ne 1 (by omega), ne 2 (by omega), ne 3 (by omega), ne 4 (by omega), ne 5 (by omega), ne 6 (by omega), ne 7 (by omega), ne 8 (by omega), ne 9 (by omega), ne 10 (by omega), ne 11 (by omega), cond_false]
    rw [e] at h
    exact absurd h (by decide)
theorem rest_at (p : D37) (h : kindN p.2.1) : (f29 p).2.2.2.2.2.2.2.2.2.2.1 = (bif f15 p.2.1 then Z25 else p.2.2.2.2.2.2.2.2.2.2.1) ∧ (f29 p).2.2.2.2.2.2.2.2.2.2.2.1 = (bif f17 p.2.1 then 0 else p.2.2.2.2.2.2.2.2.2.2.2.1) ∧ cut (f29 p) = cut (f29 (cut p)) := by
  obtain ⟨p0, p1, p2, p3, p4, p5, p6, p7, p8, p9, p10, p11, p12, p13, p14, p15, p16, p17, p18, p19, p20, p21, p22, p23, p24, p25, p26, p27, ⟨⟩⟩ := p
  rcases h with h | h | h | h | h | h | h | h | h | h | h <;> (simp only at h; subst h; exact ⟨rfl, rfl, by kernel_rfl⟩)
theorem f11_zero (p : D37) (w h : Int) : f11 p w h = 0 ↔ f23 p w h = 0 ∧ (f15 p.2.1 = true → f24 p.2.2.2.2.2.2.2.2.2.2.1 = 0 ∧ (f25 p.2.2.2.2.2.2.2.2.2.2.1).2.1 = 0) ∧ (bif f17 p.2.1 then (!(f26 p.2.2.2.2.2.2.2.2.2.2.2.1)) else false) = false ∧ f27 p = 0 ∧ f28 (f29 p) = true := by
  simp only [f11, f11t]
  generalize f23 p w h = x1
  generalize f15 p.2.1 = x2
  generalize f24 p.2.2.2.2.2.2.2.2.2.2.1 = x3
  generalize (f25 p.2.2.2.2.2.2.2.2.2.2.1).2.1 = x4
  generalize (bif f17 p.2.1 then (!(f26 p.2.2.2.2.2.2.2.2.2.2.2.1)) else false) = x5
  generalize f27 p = x6
  generalize f28 (f29 p) = x7
  by_cases h1 : x1 = 0
  · by_cases h6 : x6 = 0
    · by_cases h3 : x3 = 0
      · by_cases h4 : x4 = 0
        · cases x2 <;> cases x5 <;> cases x7 <;> simp [Bool.cond_eq_ite, h1, h6, h3, h4]
        · cases x2 <;> cases x5 <;> cases x7 <;> simp [Bool.cond_eq_ite, h1, h6, h3, h4]
      · cases x2 <;> cases x5 <;> cases x7 <;> simp [Bool.cond_eq_ite, h1, h6, h3]
    · by_cases h3 : x3 = 0
      · by_cases h4 : x4 = 0
        · cases x2 <;> cases x5 <;> cases x7 <;> simp [Bool.cond_eq_ite, h1, h6, h3, h4]
        · cases x2 <;> cases x5 <;> cases x7 <;> simp [Bool.cond_eq_ite, h1, h6, h3, h4]
      · cases x2 <;> cases x5 <;> cases x7 <;> simp [Bool.cond_eq_ite, h1, h6, h3]
  · simp [Bool.cond_eq_ite, h1]
theorem mix_check {a b : D37} {w h : Int} (hk : a.2.1 = b.2.1) (h10 : a.2.2.2.2.2.2.2.2.2.2.1 = b.2.2.2.2.2.2.2.2.2.2.1) (ha : f11 a w h = 0) (hb : f11 b w h = 0) : f11 (mix a b) w h = 0 := by
  have za := (f11_zero a w h).1 ha
  have zb := (f11_zero b w h).1 hb
  obtain ⟨a1, a2, a3, a4, a5⟩ := za
  obtain ⟨b1, b2, b3, b4, b5⟩ := zb
  have e23 : f23 (mix a b) w h = f23 a w h := rfl
  have e27 : f27 (mix a b) = f27 b := by
    have e : mix a b = put2 (mix a b) (mix a b) := rfl
    simp only [f27, f27t, f57, f57t, f58, f58t, mix, hk, h10]
  have kn : kindN a.2.1 := by
    apply kind_of
    cases hq : (f9 a.2.1 == ([] : List UInt8)) with
    | false => rfl
    | true =>
      exfalso
      simp only [f23, f23t, hq, cond_true] at a1
      generalize (bif (bif (bif decide (w < 1) then true else decide (w > 256)) then true else decide (h < 1)) then true else decide (h > 256)) = c at a1
      cases c <;> simp at a1
  have knv : kindN (mix a b).2.1 := kn
  have knb : kindN b.2.1 := hk ▸ kn
  have ra := rest_at a kn
  have rv := rest_at (mix a b) knv
  have rb := rest_at b knb
  have ec : cut (mix a b) = cut b := by simp only [cut, mix, hk]
  rw [f11_zero]
  refine ⟨by rw [e23]; exact a1, a2, a3, by rw [e27]; exact b4, ?_⟩
  rw [bare_split] at a5 b5 ⊢
  rw [rv.2.2, ec, ← rb.2.2, rv.1, rv.2.1]
  rw [ra.1, ra.2.1] at a5
  simp only [Bool.and_eq_true] at a5 b5 ⊢
  exact ⟨⟨a5.1.1, a5.1.2⟩, b5.2⟩
theorem f4_at (a b : D37) (w h : Int) : f4 (a, b, ()) w h = (bif (bif ((f13 a a).2.1 != 0) then true else (!(f8 (f13 a a).1 a))) then false else (bif ((f13 a b).2.1 != 0) then (bif (a.2.1 != b.2.1) then f12 else false) else (bif (bif (bif (bif (bif (!(f8 (put a b) (put2 (f13 a b).1 b))) then true else ((f13 a b).1.1 != a.1)) then true else (!((f13 a b).1.2.2.2.1 == a.2.2.2.1))) then true else ((f13 a b).1.2.2.2.2.2.2.2.1 != a.2.2.2.2.2.2.2.1)) then true else (!(Ty.eqb T25 (f13 a b).1.2.2.2.2.2.2.2.2.2.2.1 a.2.2.2.2.2.2.2.2.2.2.1))) then false else (bif (bif (bif (bif (Ty.eqb T25 a.2.2.2.2.2.2.2.2.2.2.1 b.2.2.2.2.2.2.2.2.2.2.1) then ((f11 a w h) == 0) else false) then ((f11 b w h) == 0) else false) then ((f11 (f13 a b).1 w h) != 0) else false) then false else f12)))) := rfl
theorem wf10 {p : D37} (h : Ty.wf T37 p) : Ty.wf T25 p.2.2.2.2.2.2.2.2.2.2.1 := h.2.2.2.2.2.2.2.2.2.2.1
theorem lens_mix {a b : D37} (ha : Lens a) (hb : Lens b) : Lens (mix a b) := ⟨ha.mask, hb.pix, hb.params, hb.stops, hb.segs, hb.warp⟩
theorem lens_put {a b : D37} (hb : Lens b) : Lens (put a b) := ⟨hb.mask, hb.pix, hb.params, hb.stops, hb.segs, hb.warp⟩
theorem fit_mix {a b : D37} (ha : NodeFit a) (hb : NodeFit b) : NodeFit (mix a b) := ⟨ha.1, ha.2.1, hb.2.2.1, hb.2.2.2.1, hb.2.2.2.2.1, hb.2.2.2.2.2.1, hb.2.2.2.2.2.2.1, hb.2.2.2.2.2.2.2⟩
theorem nodeContents_at (a b : D37) (w h : Int) (wa : Ty.wf T37 a) (wb : Ty.wf T37 b) (sa : Short a) (sb : Short b) : f4_ok (a, b, ()) w h ∧ f4 (a, b, ()) w h = true := by
  have la := lens_of wa
  have lb := lens_of wb
  have fa := fit_of wa
  have fb := fit_of wb
  have haa : f13 a a = (a, 0, ()) := by rw [f13_mix (by simp), mix_self]
  have hl : Lens (f13 a a).1 := by rw [haa]; exact la
  have hz : ((0 : Int) != 0) = false := by decide
  cases hk : (a.2.1 != b.2.1) with
  | true =>
    have e8 : (f13 a b).2.1 = 8 := by simp only [f13, f13t, hk, cond_true]
    have h8 : ((8 : Int) != 0) = true := by decide
    have n8 : (!((f13 a b).2.1 != 0)) = false := by rw [e8]; rfl
    refine ⟨⟨f13_all sa sa, fun _ => f8_all hl, fun _ => ⟨f13_all sa sb, fun _ _ => f12_okd, fun hf => ?_⟩⟩, ?_⟩
    · exact absurd (hf : (!((f13 a b).2.1 != 0)) = true) (by rw [n8]; decide)
    · rw [f4_at, haa, e8]
      simp only [hz, h8, hk, f8_self la, f12_true, cond_true, cond_false, Bool.not_true]
  | false =>
    have ek : a.2.1 = b.2.1 := by simpa using hk
    have e0 := f13_mix hk
    have hfit : NodeFit (f13 a b).1 := by rw [e0]; exact fit_mix fa fb
    refine ⟨⟨f13_all sa sa, fun _ => f8_all hl, fun _ => ⟨f13_all sa sb, fun _ _ => f12_okd, fun _ => ⟨f8_all (lens_put (a := a) lb), fun _ => ⟨fun _ => f11_all _ _ _ fa, fun _ => f11_all _ _ _ fb, fun _ => f11_all _ _ _ hfit, fun _ => f12_okd⟩⟩⟩⟩, ?_⟩
    rw [f4_at, haa, e0]
    have q1 : ((mix a b).1 != a.1) = false := by show (a.1 != a.1) = false; simp
    have q2 : ((mix a b).2.2.2.1 == a.2.2.2.1) = true := by show (a.2.2.2.1 == a.2.2.2.1) = true; simp
    have q3 : ((mix a b).2.2.2.2.2.2.2.1 != a.2.2.2.2.2.2.2.1) = false := by show (a.2.2.2.2.2.2.2.1 != a.2.2.2.2.2.2.2.1) = false; simp
    have q4 : Ty.eqb T25 (mix a b).2.2.2.2.2.2.2.2.2.2.1 a.2.2.2.2.2.2.2.2.2.2.1 = true := eqb_refl T25 rfl _
    simp only [hz, f8_self la, put_eq ek, f8_self (lens_put (a := a) lb), q1, q2, q3, q4, f12_true, cond_true, cond_false, Bool.not_true]
    cases h10 : Ty.eqb T25 a.2.2.2.2.2.2.2.2.2.2.1 b.2.2.2.2.2.2.2.2.2.2.1 with
    | false => rfl
    | true =>
      have e10 := eqb_eq T25 rfl _ _ (wf10 wa) (wf10 wb) h10
      cases ha : (f11 a w h == 0) with
      | false => rfl
      | true =>
        cases hb : (f11 b w h == 0) with
        | false => rfl
        | true =>
          rw [mix_check ek e10 (by simpa using ha) (by simpa using hb)]
          rfl
theorem nodeContents_law : ∀ x, wfL 0 [T47, .int .i64, .int .i64] x → bulkL 0 [T47, .int .i64, .int .i64] x ≤ 1048576 → f4_ok x.1 x.2.1 x.2.2.1 ∧ f4 x.1 x.2.1 x.2.2.1 = true := by
  intro x hx hN
  have hN1 : Ty.bulk T47 x.1 ≤ 1048576 := Nat.le_trans (Nat.le_add_right _ _) hN
  have hb1 : Ty.bulk T37 x.1.1 ≤ 1048576 := Nat.le_trans (sb (fieldsOf T47) 0 x.1) hN1
  have hb2 : Ty.bulk T37 x.1.2.1 ≤ 1048576 := Nat.le_trans (sb (fieldsOf T47) 1 x.1) hN1
  exact nodeContents_at x.1.1 x.1.2.1 x.2.1 x.2.2.1 hx.1.1 hx.1.2.1 (short_of hb1) (short_of hb2)
end Go.Proofs.YthjoefjcljbapaaGreatDoor.Am
