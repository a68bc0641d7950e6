/- Font: how the lines lie in a text. No condition. -/
import Derived.Test.YtdgfchmfajmkiaaDoorOutQ
namespace Go.Proofs.YtdgfchmfajmkiaaDoor.Am
open Go Go.Am
def sepOk (wrap : Int) (c : UInt8) : Prop := c = 10 ∨ (c = 32 ∧ wrap ≠ 0)
def okL (f : List UInt8 → Bool) (l : List UInt8) : Prop := (10 : UInt8) ∉ l ∧ ((32 : UInt8) ∈ l → f l = true)
def Acc (wrap : Int) (f : List UInt8 → Bool) : List (List UInt8) → List UInt8 → Prop
  | [], t => t = []
  | l :: r, t => ∃ c t', t = l ++ c :: t' ∧ sepOk wrap c ∧ okL f l ∧ Acc wrap f r t'
def Seg (wrap : Int) (f : List UInt8 → Bool) : List (List UInt8) → List UInt8 → Prop
  | [], _ => False
  | [l], s => s = l ∧ okL f l
  | l :: m :: r, s => ∃ c t, s = l ++ c :: t ∧ sepOk wrap c ∧ okL f l ∧ Seg wrap f (m :: r) t
section
variable {wrap : Int} {f : List UInt8 → Bool}
theorem Acc_snoc {l : List UInt8} {c : UInt8} (hl : okL f l) (hc : sepOk wrap c) : ∀ {a : List (List UInt8)} {t : List UInt8}, Acc wrap f a t → Acc wrap f (a ++ [l]) (t ++ l ++ [c])
  | [], t, h => by
    have h : t = [] := h
    subst h
    exact ⟨c, [], by simp, hc, hl, rfl⟩
  | x :: r, t, ⟨c', t', e, h1, h2, h3⟩ => ⟨c', t' ++ l ++ [c], by rw [e]; simp, h1, h2, Acc_snoc hl hc h3⟩
theorem Seg_cons {l : List UInt8} {R : List (List UInt8)} {s : List UInt8} (hR : R ≠ []) (h : ∃ c t, s = l ++ c :: t ∧ sepOk wrap c ∧ okL f l ∧ Seg wrap f R t) : Seg wrap f (l :: R) s := by
  cases R with
  | nil => exact absurd rfl hR
  | cons m r => exact h
theorem Seg_of {l : List UInt8} (hl : okL f l) : ∀ {a : List (List UInt8)} {t : List UInt8}, Acc wrap f a t → Seg wrap f (a ++ [l]) (t ++ l)
  | [], t, h => by
    have h : t = [] := h
    subst h
    exact ⟨rfl, hl⟩
  | x :: r, t, ⟨c', t', e, h1, h2, h3⟩ => by
    rw [List.cons_append]
    exact Seg_cons (by simp) ⟨c', t' ++ l, by rw [e]; simp, h1, h2, Seg_of hl h3⟩
theorem words_acc (hf : ∀ s, f s = false → wrap ≠ 0) : ∀ (ws a : List (List UInt8)) (b t : List UInt8), Acc wrap f a t → okL f b → (∀ w ∈ ws, (32 : UInt8) ∉ w ∧ (10 : UInt8) ∉ w) →
    ∃ t', Acc wrap f (ws.foldl (word f) (a, b)).1 t' ∧ okL f (ws.foldl (word f) (a, b)).2 ∧ t' ++ (ws.foldl (word f) (a, b)).2 = t ++ b ++ ws.flatMap (fun w => 32 :: w)
  | [], a, b, t, h1, h2, _ => ⟨t, h1, h2, by simp⟩
  | w :: r, a, b, t, h1, h2, hw => by
    have hw1 := hw w (List.mem_cons_self ..)
    have hr : ∀ x ∈ r, (32 : UInt8) ∉ x ∧ (10 : UInt8) ∉ x := fun x hx => hw x (List.mem_cons_of_mem _ hx)
    rw [List.foldl_cons]
    cases hfit : f (b ++ [32] ++ w) with
    | true =>
      have e : word f (a, b) w = (a, b ++ [32] ++ w) := by unfold word; simp only [hfit, cond_true]
      rw [e]
      have ho : okL f (b ++ [32] ++ w) := ⟨by
        simp only [List.mem_append, List.mem_cons, List.not_mem_nil, or_false]
        intro h
        rcases h with (h | h) | h
        · exact h2.1 h
        · exact absurd h (by decide)
        · exact hw1.2 h, fun _ => hfit⟩
      obtain ⟨t', k1, k2, k3⟩ := words_acc hf r a (b ++ [32] ++ w) t h1 ho hr
      exact ⟨t', k1, k2, by rw [k3]; simp⟩
    | false =>
      have e : word f (a, b) w = (a ++ [b], w) := by unfold word; simp only [hfit, cond_false]
      rw [e]
      obtain ⟨t', k1, k2, k3⟩ := words_acc hf r (a ++ [b]) w (t ++ b ++ [32]) (Acc_snoc h2 (Or.inr ⟨rfl, hf _ hfit⟩) h1) ⟨hw1.2, fun h => absurd h hw1.1⟩ hr
      exact ⟨t', k1, k2, by rw [k3]; simp⟩
theorem split_cat (c : UInt8) : ∀ s : List UInt8, ∃ w r, splitB c s = w :: r ∧ s = w ++ r.flatMap (fun x => c :: x)
  | [] => ⟨[], [], rfl, rfl⟩
  | b :: l => by
    obtain ⟨w, r, e, h⟩ := split_cat c l
    rw [splitB_cons, e]
    by_cases hb : b == c
    · rw [if_pos hb]
      have : b = c := by simpa using hb
      exact ⟨[], w :: r, rfl, by rw [this, h]; simp⟩
    · rw [if_neg hb]
      exact ⟨b :: w, r, rfl, by rw [h]; simp⟩
theorem split_no (c : UInt8) : ∀ (s : List UInt8), ∀ x ∈ splitB c s, c ∉ x
  | [], x, hx => by
    have : x = [] := by simpa [splitB] using hx
    rw [this]; simp
  | b :: l, x, hx => by
    have ih := split_no c l
    rw [splitB_cons] at hx
    by_cases hb : b == c
    · rw [if_pos hb] at hx
      rcases List.mem_cons.1 hx with h | h
      · rw [h]; simp
      · exact ih x h
    · rw [if_neg hb] at hx
      obtain ⟨w, r, e, _⟩ := split_cat c l
      rw [e] at hx ih
      rcases List.mem_cons.1 (show x ∈ ([b] ++ w) :: r from hx) with h | h
      · rw [h]
        intro hc
        rcases List.mem_append.1 hc with hc | hc
        · have : c = b := by simpa using hc
          exact hb (by rw [this]; simp)
        · exact ih w (List.mem_cons_self ..) hc
      · exact ih x (List.mem_cons_of_mem _ h)
theorem split_in (c d : UInt8) (s : List UInt8) (hd : d ∉ s) : ∀ x ∈ splitB c s, d ∉ x := by
  obtain ⟨w, r, e, h⟩ := split_cat c s
  rw [e]
  intro x hx hm
  refine hd ?_
  rw [h, List.mem_append, List.mem_flatMap]
  rcases List.mem_cons.1 hx with h' | h'
  · exact Or.inl (h' ▸ hm)
  · exact Or.inr ⟨x, h', List.mem_cons_of_mem _ hm⟩
theorem part_acc (hf : ∀ s, f s = false → wrap ≠ 0) {a : List (List UInt8)} {t q : List UInt8} (h : Acc wrap f a t) (hq : (10 : UInt8) ∉ q) : ∃ a' l' t', partL f a q = a' ++ [l'] ∧ Acc wrap f a' t' ∧ okL f l' ∧ t' ++ l' = t ++ q := by
  obtain ⟨w, r, e, hc⟩ := split_cat 32 q
  have h1 := split_no 32 q
  have h2 := split_in 32 10 q hq
  rw [e] at h1 h2
  obtain ⟨t', k1, k2, k3⟩ := words_acc hf r a w t h ⟨h2 w (List.mem_cons_self ..), fun k => absurd k (h1 w (List.mem_cons_self ..))⟩ fun x hx => ⟨h1 x (List.mem_cons_of_mem _ hx), h2 x (List.mem_cons_of_mem _ hx)⟩
  refine ⟨_, _, t', ?_, k1, k2, by rw [k3, List.append_assoc, ← hc]⟩
  unfold partL
  rw [e]
  rfl
theorem parts_acc (hf : ∀ s, f s = false → wrap ≠ 0) : ∀ (rs a : List (List UInt8)) (t q : List UInt8), Acc wrap f a t → (10 : UInt8) ∉ q → (∀ x ∈ rs, (10 : UInt8) ∉ x) →
    ∃ a' l' t', (q :: rs).foldl (partL f) a = a' ++ [l'] ∧ Acc wrap f a' t' ∧ okL f l' ∧ t' ++ l' = t ++ q ++ rs.flatMap (fun x => 10 :: x)
  | [], a, t, q, h, hq, _ => by
    obtain ⟨a', l', t', h1, h2, h3, h4⟩ := part_acc hf h hq
    exact ⟨a', l', t', h1, h2, h3, by rw [h4]; simp⟩
  | p :: rs, a, t, q, h, hq, hr => by
    obtain ⟨a', l', t', h1, h2, h3, h4⟩ := part_acc hf h hq
    rw [List.foldl_cons, h1]
    have hA := Acc_snoc (c := 10) h3 (Or.inl rfl) h2
    rw [h4] at hA
    obtain ⟨a2, l2, t2, k1, k2, k3, k4⟩ := parts_acc hf rs _ _ p hA (hr p (List.mem_cons_self ..)) fun x hx => hr x (List.mem_cons_of_mem _ hx)
    exact ⟨a2, l2, t2, k1, k2, k3, by rw [k4]; simp⟩
theorem lines_seg (hf : ∀ s, f s = false → wrap ≠ 0) (s : List UInt8) : Seg wrap f (linesOf f s) s := by
  obtain ⟨w, r, e, hc⟩ := split_cat 10 s
  have h1 := split_no 10 s
  rw [e] at h1
  obtain ⟨a', l', t', k1, k2, k3, k4⟩ := parts_acc hf r [] [] w rfl (h1 w (List.mem_cons_self ..)) fun x hx => h1 x (List.mem_cons_of_mem _ hx)
  have hs := Seg_of k3 k2
  rw [k4, List.nil_append, ← hc, ← k1, ← e] at hs
  exact hs
end
end Go.Proofs.YtdgfchmfajmkiaaDoor.Am
