/- Plain laws: copies are what was copied; a node is equal to itself. No condition. -/
import Derived.Test.YtcjaalnbodmdgaaGreatDoorPatchP
import Derived.Test.YtcjaalnbodmdgaaGreatDoorPatchA
import Derived.Test.YtcjaalnbodmdgaaGreatDoorMach4
namespace Go.Proofs.YtcjaalnbodmdgaaGreatDoor.Am
open Go Go.Am

theorem with_self (n : D60) : f30 n n = (n, 0, ()) := by
  unfold f30 f30t
  dsimp only
  rw [show (n.2.1 != n.2.1) = false by simp]
  rfl

theorem set_self {α : Type} (l : List α) (i : Int) (z : α) : List.set l i.toNat (nth l i z) = l := by
  unfold nth
  by_cases h : i.toNat < l.length
  · rw [List.getD_eq_getElem?_getD, List.getElem?_eq_getElem h, Option.getD_some]
    exact List.set_getElem_self h
  · exact List.set_eq_of_length_le (by omega)

theorem set_fold {α : Type} (z : α) (l : List α) (g : Int → α) (hg : ∀ i : Nat, g i = l.getD i z) : ∀ k, k ≤ l.length → foldI (fun a i => List.set a i.toNat (g i)) k (List.replicate l.length z) = l.take k ++ List.replicate (l.length - k) z := by
  intro k
  induction k with
  | zero => intro _; simp [foldI]
  | succ k ih =>
    intro hk
    simp only [foldI]
    rw [ih (by omega), hg k]
    have hlen : (l.take k).length = k := by rw [List.length_take]; omega
    have e : l.length - k = (l.length - (k + 1)) + 1 := by omega
    have hget : l.getD k z = l[k]'(by omega) := by rw [List.getD_eq_getElem?_getD, List.getElem?_eq_getElem (by omega : k < l.length), Option.getD_some]
    rw [show (Int.toNat (k : Int)) = k by omega, e, List.set_append, if_neg (by omega), hlen, Nat.sub_self, List.replicate_succ, List.set_cons_zero, hget, List.take_succ_eq_append_getElem (by omega), List.append_assoc]
    rfl

theorem nodes_copy (l : List D60) (h : len l < 9223372036854775808) : f12 l = l := by
  have h1 := fold_loop (g := f12_L3_g (l, len l, ())) (next := f12_L3_next (l, len l, ())) (step := fun a i => List.set a i.toNat (f30 (nth l i Z60) (nth l i Z60)).1) (n := len l) (len_nonneg l) h (fun _ => rfl) (fun _ => rfl) (List.replicate (len l).toNat Z60)
  show (loopEnd (f12_L3_g (l, len l, ())) (f12_L3_next (l, len l, ())) (List.replicate (Int.toNat (len l)) Z60, 0, ())).1 = l
  rw [h1]
  have hn : (len l).toNat = l.length := by simp [len]
  show foldI _ (len l).toNat (List.replicate (len l).toNat Z60) = l
  rw [hn, set_fold Z60 l (fun i => (f30 (nth l i Z60) (nth l i Z60)).1) (fun i => by simp only [with_self]; unfold nth; rw [show (Int.toNat (i : Int)) = i by omega]) l.length (Nat.le_refl _)]
  simp

theorem links_copy (l : List D76) (h : len l < 9223372036854775808) : f15 l = l := by
  have h1 := fold_loop (g := f15_L3_g (l, len l, ())) (next := f15_L3_next (l, len l, ())) (step := fun a i => List.set a i.toNat ((nth a i Z76).1, (nth a i Z76).2.1, (nth a i Z76).2.2.1, (nth a i Z76).2.2.2.1, ((nth a i Z76).2.2.2.2.1.1, (nth a i Z76).2.2.2.2.1.2.1, (nth l i Z76).2.2.2.2.1.2.2.1, ()), ())) (n := len l) (len_nonneg l) h (fun _ => rfl) (fun _ => rfl) l
  show (loopEnd (f15_L3_g (l, len l, ())) (f15_L3_next (l, len l, ())) (l, 0, ())).1 = l
  rw [h1]
  exact foldI_inv (inv := fun a => a = l) (n := (len l).toNat) (fun a i _ _ ha => by subst ha; exact set_self a i Z76) rfl _ (Nat.le_refl _)

/-- What is asked of a patch: no list is too long for a machine's number. -/
def NodesOk (l : List D60) : Prop := len l < 9223372036854775808 ∧ ∀ i, Lens (nth l i Z60)
theorem lens_zero : Lens Z60 := ⟨by decide, by decide, by decide, by decide, by decide, by decide⟩
theorem nodesOk_of {l : List D60} (h : Ty.wf (.sl T60) l) : NodesOk l := by
  refine ⟨len_lt h.1, fun i => ?_⟩
  unfold nth
  rw [List.getD_eq_getElem?_getD]
  cases hx : l[i.toNat]? with
  | none => exact lens_zero
  | some x => exact lens_of (h.2 x (List.mem_of_getElem? hx))

theorem anyI_none {n : Int} {c : Int → Bool} (h : ∀ i, c i = false) : anyI n c = false := by
  unfold anyI
  rw [List.any_eq_false]
  intro x _
  simp [h]
theorem eqb_refl : ∀ (τ : Ty), τ.cmp = true → ∀ x : τ.den, τ.eqb x x = true := by
  intro τ
  induction τ with
  | int k => intro _ x; simp [Ty.eqb]
  | bool => intro _ x; simp [Ty.eqb]
  | str => intro _ x; simp [Ty.eqb]
  | nl => intro _ x; simp [Ty.eqb]
  | cons a b iha ihb => intro h x; simp only [Ty.cmp, Bool.and_eq_true] at h; simp [Ty.eqb, iha h.1, ihb h.2]
  | st f ih => intro h x; simp only [Ty.cmp] at h; simp only [Ty.eqb]; exact ih h x
  | arr n t ih => intro h x; simp only [Ty.cmp] at h; simp only [Ty.eqb]; rw [List.all_eq_true]; intro i _; exact ih h _
  | sl t _ => intro h; simp [Ty.cmp] at h
  | ptr t _ => intro h; simp [Ty.cmp] at h
theorem eqb_comm : ∀ (τ : Ty), ∀ x y : τ.den, τ.eqb x y = τ.eqb y x := by
  intro τ
  induction τ with
  | int k => intro x y; simp only [Ty.eqb]; exact Bool.beq_comm
  | bool => intro x y; simp only [Ty.eqb]; exact Bool.beq_comm
  | str => intro x y; simp only [Ty.eqb]; exact Bool.beq_comm
  | nl => intro x y; rfl
  | cons a b iha ihb => intro x y; simp only [Ty.eqb]; rw [iha, ihb]
  | st f ih => intro x y; simp only [Ty.eqb]; exact ih x y
  | arr n t ih => intro x y; simp only [Ty.eqb]; congr 1; funext i; exact ih _ _
  | sl t _ => intro x y; rfl
  | ptr t _ => intro x y; rfl
theorem eqC_self {n : Int} {c : Int → Bool} (h : ∀ i, c i = false) : eqC n n c = true := by simp [eqC, anyI_none h]
theorem eqC_comm {n m : Int} {c d : Int → Bool} (h : ∀ i, c i = d i) : eqC n m c = eqC m n d := by
  have e : c = d := funext h
  subst e
  unfold eqC
  by_cases hnm : n = m
  · subst hnm; rfl
  · have h1 : (n == m) = false := by simpa using hnm
    have h2 : (m == n) = false := by simpa using fun h => hnm h.symm
    rw [h1, h2]; rfl
theorem ne0_self (a : List Int) (i : Int) : ne0 a a i = false := by simp [ne0]
theorem neT_self {τ : Ty} {z : τ.den} (h : τ.cmp = true) (a : List τ.den) (i : Int) : neT τ z a a i = false := by simp [neT, eqb_refl τ h]
theorem ne0_comm (a b : List Int) (i : Int) : ne0 a b i = ne0 b a i := by unfold ne0 bne; rw [Bool.beq_comm]
theorem neT_comm {τ : Ty} {z : τ.den} (a b : List τ.den) (i : Int) : neT τ z a b i = neT τ z b a i := by unfold neT; rw [eqb_comm]

theorem f34_self {a : D60} (ha : Lens a) : f34 a a = true := by
  unfold f34 f34t f50 f50t f49 f49t
  simp only [f64_eq _ _ ha.mask, f65_eq _ _ ha.pix, f64_eq _ _ ha.params, f66_eq _ _ ha.stops, f67_eq _ _ ha.segs, f68_eq _ _ ha.warp, eqC_self (ne0_self _), eqC_self (neT_self (τ := T22) (by rfl) _), eqC_self (neT_self (τ := T88) (by rfl) _), eqC_self (neT_self (τ := T94) (by rfl) _), eqC_self (neT_self (τ := T91) (by rfl) _), eqb_self, eqb_refl T48 rfl, eqb_refl T22 rfl, beq_self_eq_true, cond_true, Bool.and_true]
end Go.Proofs.YtcjaalnbodmdgaaGreatDoor.Am
