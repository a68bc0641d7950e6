/- Font: loops that may stop, and the loops of font.Outline. No condition. -/
import Derived.Test.YtdgfchmfajmkiaaDoorOutG
import Derived.Test.YtdgfchmfajmkiaaDoorOutQ
namespace Go.Proofs.YtdgfchmfajmkiaaDoor.Am
open Go Go.Am
def runI {S E : Type} (st : Nat → S → E → Option S) : Nat → List E → S → Option S
  | _, [], s => some s
  | k, e :: r, s => (st k s e).bind (runI st (k + 1) r)
section
variable {A B E : Type} {g : A × B × Int × Unit → Bool} {next : A × B × Int × Unit → A × B × Int × Unit} {l : List E} {d : E} {st : Nat → A × B → E → Option (A × B)}
theorem stop_step (hg : ∀ x : A × B × Int × Unit, g x = true → x.2.2.1 < len l) (hx : ∀ (a : A) (b : B) (j : Nat) (s : A × B), j < l.length → st j (a, b) (nth l (j : Int) d) = some s → g (a, b, (j : Int), ()) = true ∧ next (a, b, (j : Int), ()) = (s.1, s.2, (j : Int) + 1, ()))
    (hno : ∀ (a : A) (b : B) (j : Nat), j < l.length → st j (a, b) (nth l (j : Int) d) = none → g (a, b, (j : Int), ()) = false) (R : Option (A × B)) (inv : A × B → Prop) (hinv : ∀ j s e s', j < l.length → inv s → e ∈ l → st j s e = some s' → inv s') (x : A × B × Int × Unit) (hi : ∃ j : Nat, x.2.2.1 = (j : Int) ∧ j ≤ l.length ∧ runI st j (l.drop j) (x.1, x.2.1) = R ∧ inv (x.1, x.2.1)) (hgx : g x = true) :
    (∃ j : Nat, (next x).2.2.1 = (j : Int) ∧ j ≤ l.length ∧ runI st j (l.drop j) ((next x).1, (next x).2.1) = R ∧ inv ((next x).1, (next x).2.1)) ∧ (len l - (next x).2.2.1).toNat < (len l - x.2.2.1).toNat := by
  have hlt := hg x hgx
  obtain ⟨a, b, i, _⟩ := x
  obtain ⟨j, h1, h2, h3, h4⟩ := hi
  simp only at h1 h3 h4 hlt
  subst h1
  have hll : len l = (l.length : Int) := rfl
  have hj : j < l.length := by omega
  rw [nth_drop (d := d) hj, runI] at h3
  cases hs : st j (a, b) (nth l (j : Int) d) with
  | none => rw [hno a b j hj hs] at hgx; cases hgx
  | some s =>
    rw [hs] at h3
    obtain ⟨_, e⟩ := hx a b j s hj hs
    have hmem : nth l (j : Int) d ∈ l := by
      have := nth_drop (d := d) hj
      exact List.mem_of_mem_drop (i := j) (by rw [this]; exact List.mem_cons_self ..)
    rw [e]
    exact ⟨⟨j + 1, by simp only; omega, by omega, h3, hinv j _ _ _ hj h4 hmem hs⟩, by simp only; omega⟩
theorem stop_loop (hn : l.length < 9223372036854775808) (hg : ∀ x : A × B × Int × Unit, g x = true → x.2.2.1 < len l) (hx : ∀ (a : A) (b : B) (j : Nat) (s : A × B), j < l.length → st j (a, b) (nth l (j : Int) d) = some s → g (a, b, (j : Int), ()) = true ∧ next (a, b, (j : Int), ()) = (s.1, s.2, (j : Int) + 1, ()))
    (hno : ∀ (a : A) (b : B) (j : Nat), j < l.length → st j (a, b) (nth l (j : Int) d) = none → g (a, b, (j : Int), ()) = false) (inv : A × B → Prop) (hinv : ∀ j s e s', j < l.length → inv s → e ∈ l → st j s e = some s' → inv s') (a : A) (b : B) (h0 : inv (a, b)) :
    (∃ j : Nat, j ≤ l.length ∧ inv ((loopEnd g next (a, b, 0, ())).1, (loopEnd g next (a, b, 0, ())).2.1) ∧ (loopEnd g next (a, b, 0, ())).2.2.1 = (j : Int) ∧ ((j = l.length ∧ runI st 0 l (a, b) = some ((loopEnd g next (a, b, 0, ())).1, (loopEnd g next (a, b, 0, ())).2.1)) ∨ (j < l.length ∧ runI st 0 l (a, b) = none ∧ st j ((loopEnd g next (a, b, 0, ())).1, (loopEnd g next (a, b, 0, ())).2.1) (nth l (j : Int) d) = none))) ∧
    ∀ ok : A × B × Int × Unit → Prop, (∀ a b (j : Nat), j ≤ l.length → inv (a, b) → ok (a, b, (j : Int), ())) → Am.Ends g next ok (a, b, 0, ()) := by
  have hll : len l = (l.length : Int) := rfl
  have hstep := stop_step hg hx hno (runI st 0 l (a, b)) inv hinv
  have hstart : ∃ j : Nat, ((a, b, 0, ()) : A × B × Int × Unit).2.2.1 = (j : Int) ∧ j ≤ l.length ∧ runI st j (l.drop j) (((a, b, 0, ()) : A × B × Int × Unit).1, ((a, b, 0, ()) : A × B × Int × Unit).2.1) = runI st 0 l (a, b) ∧ inv (((a, b, 0, ()) : A × B × Int × Unit).1, ((a, b, 0, ()) : A × B × Int × Unit).2.1) := ⟨0, rfl, by omega, rfl, h0⟩
  refine ⟨?_, fun ok hok => ?_⟩
  · have h := loop_ind (g := g) (next := next) _ (fun x => (len l - x.2.2.1).toNat) hstep hstart (by simp only [fuel]; omega)
    generalize loopEnd g next (a, b, 0, ()) = e at h
    obtain ⟨⟨j, h1, h2, h3, h4⟩, h5⟩ := h
    obtain ⟨a', b', i, _⟩ := e
    simp only at h1 h3 h4
    subst h1
    refine ⟨j, h2, h4, rfl, ?_⟩
    by_cases hj : j < l.length
    · right
      have hs : st j (a', b') (nth l (j : Int) d) = none := by
        cases hs : st j (a', b') (nth l (j : Int) d) with
        | none => rfl
        | some s => rw [(hx a' b' j s hj hs).1] at h5; cases h5
      rw [nth_drop (d := d) hj, runI, hs] at h3
      exact ⟨hj, h3.symm, hs⟩
    · left
      have hj : j = l.length := by omega
      subst hj
      rw [List.drop_length, runI] at h3
      exact ⟨rfl, h3.symm⟩
  · refine ends_ind _ (fun x => (len l - x.2.2.1).toNat) (fun x hi => ?_) hstep hstart (by simp only [fuel]; omega)
    obtain ⟨j, h1, h2, _, h4⟩ := hi
    obtain ⟨a', b', i, _⟩ := x
    simp only at h1 h4
    subst h1
    exact hok a' b' j h2 h4
end
structure Stops {A B E : Type} (g : A × B × Int × Unit → Bool) (next : A × B × Int × Unit → A × B × Int × Unit) (l : List E) (d : E) (st : Nat → A × B → E → Option (A × B)) : Prop where
  few : l.length < 9223372036854775808
  lt : ∀ x : A × B × Int × Unit, g x = true → x.2.2.1 < len l
  go : ∀ (a : A) (b : B) (j : Nat) (s : A × B), j < l.length → st j (a, b) (nth l (j : Int) d) = some s → g (a, b, (j : Int), ()) = true ∧ next (a, b, (j : Int), ()) = (s.1, s.2, (j : Int) + 1, ())
  no : ∀ (a : A) (b : B) (j : Nat), j < l.length → st j (a, b) (nth l (j : Int) d) = none → g (a, b, (j : Int), ()) = false
theorem Stops.run {A B E : Type} {g : A × B × Int × Unit → Bool} {next : A × B × Int × Unit → A × B × Int × Unit} {l : List E} {d : E} {st : Nat → A × B → E → Option (A × B)} (h : Stops g next l d st) (a : A) (b : B) :
    ∃ j : Nat, (loopEnd g next (a, b, 0, ())).2.2.1 = (j : Int) ∧ ((j = l.length ∧ runI st 0 l (a, b) = some ((loopEnd g next (a, b, 0, ())).1, (loopEnd g next (a, b, 0, ())).2.1)) ∨ (j < l.length ∧ runI st 0 l (a, b) = none ∧ g (loopEnd g next (a, b, 0, ())) = false ∧ st j ((loopEnd g next (a, b, 0, ())).1, (loopEnd g next (a, b, 0, ())).2.1) (nth l (j : Int) d) = none)) := by
  obtain ⟨j, _, _, h3, h4⟩ := (stop_loop h.few h.lt h.go h.no (fun _ => True) (fun _ _ _ _ _ _ _ _ => trivial) a b trivial).1
  refine ⟨j, h3, ?_⟩
  rcases h4 with h4 | ⟨h5, h6, h7⟩
  · exact Or.inl h4
  · refine Or.inr ⟨h5, h6, ?_, h7⟩
    generalize loopEnd g next (a, b, 0, ()) = e at h3 h7
    obtain ⟨a', b', i, _⟩ := e
    simp only at h3 h7
    subst h3
    exact h.no a' b' j h5 h7
theorem Stops.ends {A B E : Type} {g : A × B × Int × Unit → Bool} {next : A × B × Int × Unit → A × B × Int × Unit} {l : List E} {d : E} {st : Nat → A × B → E → Option (A × B)} (h : Stops g next l d st) (inv : A × B → Prop) (hinv : ∀ j s e s', j < l.length → inv s → e ∈ l → st j s e = some s' → inv s') {a : A} {b : B} (h0 : inv (a, b)) {ok : A × B × Int × Unit → Prop} (hok : ∀ a b (j : Nat), j ≤ l.length → inv (a, b) → ok (a, b, (j : Int), ())) : Am.Ends g next ok (a, b, 0, ()) :=
  (stop_loop h.few h.lt h.go h.no inv hinv a b h0).2 ok hok
theorem nth_in {E : Type} {l : List E} {d : E} {j : Nat} (hj : j < l.length) : nth l (j : Int) d ∈ l := List.mem_of_mem_drop (i := j) (by rw [nth_drop (d := d) hj]; exact List.mem_cons_self ..)
theorem runI_inv {S E : Type} {st : Nat → S → E → Option S} (inv : S → Prop) : ∀ (l : List E) (k : Nat) (s s' : S), (∀ k s e s', inv s → e ∈ l → st k s e = some s' → inv s') → inv s → runI st k l s = some s' → inv s'
  | [], _, s, s', _, hi, h => by
    simp only [runI, Option.some.injEq] at h
    rw [← h]; exact hi
  | e :: r, k, s, s', hs, hi, h => by
    simp only [runI, Option.bind_eq_some_iff] at h
    obtain ⟨s1, h1, h2⟩ := h
    exact runI_inv inv r _ _ _ (fun k s x s' h hx => hs k s x s' h (List.mem_cons_of_mem _ hx)) (hs _ _ _ _ hi (List.mem_cons_self ..) h1) h2
end Go.Proofs.YtdgfchmfajmkiaaDoor.Am
