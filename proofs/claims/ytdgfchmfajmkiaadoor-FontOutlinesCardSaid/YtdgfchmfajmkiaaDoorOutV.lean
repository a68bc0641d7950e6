/- Font: the width of a text, by the program and by the reference. No condition. -/
import Derived.Test.YtdgfchmfajmkiaaDoorOutW
namespace Go.Proofs.YtdgfchmfajmkiaaDoor.Am
open Go Go.Am
def foldP {A B : Type} (step : A → B → Int → A × B) : Nat → A × B → A × B
  | 0, a => a
  | k + 1, a => step (foldP step k a).1 (foldP step k a).2 (k : Int)
theorem foldP_loop {A B : Type} {g : A × B × Int × Unit → Bool} {next : A × B × Int × Unit → A × B × Int × Unit} {n : Int} {step : A → B → Int → A × B} (hn0 : 0 ≤ n) (hn : n < 9223372036854775808) (hg : ∀ x, g x = decide (x.2.2.1 < n)) (hx : ∀ x, next x = ((step x.1 x.2.1 x.2.2.1).1, (step x.1 x.2.1 x.2.2.1).2, x.2.2.1 + 1, ())) (a : A) (b : B) :
    loopEnd g next (a, b, 0, ()) = ((foldP step n.toNat (a, b)).1, (foldP step n.toNat (a, b)).2, n, ()) := by
  have h := loop_ind (g := g) (next := next) (fun x => 0 ≤ x.2.2.1 ∧ x.2.2.1 ≤ n ∧ (x.1, x.2.1) = foldP step x.2.2.1.toNat (a, b)) (fun x => (n - x.2.2.1).toNat) (fun x hi hgx => by
    rw [hg] at hgx
    have hgx := of_decide_eq_true hgx
    rw [hx]
    refine ⟨⟨by simp only; omega, by simp only; omega, ?_⟩, by simp only; omega⟩
    simp only
    have e : (x.2.2.1 + 1).toNat = x.2.2.1.toNat + 1 := by omega
    rw [e, foldP, ← hi.2.2, Int.toNat_of_nonneg hi.1]) (x := (a, b, 0, ())) ⟨by simp, hn0, rfl⟩ (by simp only [fuel]; omega)
  generalize loopEnd g next (a, b, 0, ()) = e at h
  obtain ⟨⟨h1, h2, h3⟩, h4⟩ := h
  rw [hg] at h4
  have h4 := of_decide_eq_false h4
  obtain ⟨e1, e2, e3, e4⟩ := e
  simp only at h1 h2 h3 h4
  have : e3 = n := by omega
  subst this
  rw [← h3]
theorem foldP_ends {A B : Type} {g : A × B × Int × Unit → Bool} {next : A × B × Int × Unit → A × B × Int × Unit} {ok : A × B × Int × Unit → Prop} {n : Int} {step : A → B → Int → A × B} (hn0 : 0 ≤ n) (hn : n < 9223372036854775808) (hg : ∀ x, g x = decide (x.2.2.1 < n)) (hx : ∀ x, next x = ((step x.1 x.2.1 x.2.2.1).1, (step x.1 x.2.1 x.2.2.1).2, x.2.2.1 + 1, ())) (a : A) (b : B)
    (hok : ∀ i : Int, 0 ≤ i → i ≤ n → ok ((foldP step i.toNat (a, b)).1, (foldP step i.toNat (a, b)).2, i, ())) : Am.Ends g next ok (a, b, 0, ()) :=
  ends_ind (fun x => 0 ≤ x.2.2.1 ∧ x.2.2.1 ≤ n ∧ (x.1, x.2.1) = foldP step x.2.2.1.toNat (a, b)) (fun x => (n - x.2.2.1).toNat) (fun x h => by
    have := hok x.2.2.1 h.1 h.2.1
    rw [← h.2.2] at this
    exact this) (fun x hi hgx => by
    rw [hg] at hgx
    have hgx := of_decide_eq_true hgx
    rw [hx]
    refine ⟨⟨by simp only; omega, by simp only; omega, ?_⟩, by simp only; omega⟩
    simp only
    have e : (x.2.2.1 + 1).toNat = x.2.2.1.toNat + 1 := by omega
    rw [e, foldP, ← hi.2.2, Int.toNat_of_nonneg hi.1]) ⟨by simp, hn0, rfl⟩ (by simp only [fuel]; omega)
def lastI (P : Int → Bool) (d : Int) : Nat → Int
  | 0 => d
  | k + 1 => bif P (k : Int) then (k : Int) else lastI P d k
theorem lastI_hit {P : Int → Bool} {d j : Int} : ∀ (k : Nat), 0 ≤ j → j < k → P j = true → (∀ t : Int, j < t → t < k → P t = false) → lastI P d k = j := by
  intro k
  induction k with
  | zero => intro h1 h2; omega
  | succ k ih =>
    intro h1 h2 h3 h4
    rw [lastI]
    by_cases hj : j = k
    · subst hj; rw [h3]; rfl
    · rw [h4 k (by omega) (by omega)]
      exact ih h1 (by omega) h3 fun t t1 t2 => h4 t t1 (by omega)
theorem lastI_none {P : Int → Bool} {d : Int} : ∀ (k : Nat), (∀ t : Int, 0 ≤ t → t < k → P t = false) → lastI P d k = d := by
  intro k
  induction k with
  | zero => intro _; rfl
  | succ k ih => intro h; rw [lastI, h k (by omega) (by omega)]; exact ih fun t t1 t2 => h t t1 (by omega)
def chr (p : D24) (i : Int) : Int := (nth p.2.2.2.1 i Z47).1
def other (p : D24) : Int := lastI (fun i => chr p i == 63) (-1) (len p.2.2.2.1).toNat
def glyphOf (p : D24) (c : Int) : Int := lastI (fun i => chr p i == c) (other p) (len p.2.2.2.1).toNat
theorem foldI_last {P : Int → Bool} {d : Int} : ∀ k, foldI (fun a i => bif P i then i else a) k d = lastI P d k := by
  intro k
  induction k with
  | zero => rfl
  | succ k ih => rw [foldI, lastI, ih]
structure Right (p : D24) : Prop where
  em : 1 ≤ p.1 ∧ p.1 ≤ 65536
  gs : len p.2.2.2.1 ≤ 256
  ks : len p.2.2.2.2.1 ≤ 256
  glyphs : ∀ i, 0 ≤ i → i < len p.2.2.2.1 → eG p i = 0
  kerns : ∀ i, 0 ≤ i → i < len p.2.2.2.2.1 → eK p i = 0
theorem firstE_zero2 {e : Int → Int} {d : Int} : ∀ (k : Nat) (i : Int), firstE e d k i = 0 → d = 0 ∧ ∀ t, i ≤ t → t < i + k → e t = 0 := by
  intro k
  induction k with
  | zero => intro i h; exact ⟨h, fun t h1 h2 => by omega⟩
  | succ k ih =>
    intro i h
    rw [firstE] at h
    by_cases hi : e i = 0
    · rw [hi] at h
      simp only [beq_self_eq_true, cond_true] at h
      obtain ⟨h1, h2⟩ := ih (i + 1) h
      refine ⟨h1, fun t t1 t2 => ?_⟩
      by_cases ht : t = i
      · subst ht; exact hi
      · exact h2 t (by omega) (by omega)
    · have : (e i == 0) = false := by simpa using hi
      rw [this, cond_false] at h
      exact absurd h hi
theorem right_of {p : D24} (h : f24 p = 0) (hG : len p.2.2.2.1 < 9223372036854775808) (hK : len p.2.2.2.2.1 < 9223372036854775808) : Right p := by
  rw [f24_eq p hG hK] at h
  cases hh : head p with
  | true => rw [hh] at h; simp at h
  | false =>
    rw [hh] at h
    cases hm : many p with
    | true => rw [hm] at h; simp at h
    | false =>
      rw [hm] at h
      simp only [cond_false] at h
      obtain ⟨h1, h2⟩ := firstE_zero2 _ _ h
      obtain ⟨_, h3⟩ := firstE_zero2 _ _ h1
      have hf := few (p := p) (by rw [hm]; rfl)
      have := len_nonneg p.2.2.2.1
      have := len_nonneg p.2.2.2.2.1
      refine ⟨?_, hf.1, hf.2, fun i i1 i2 => h2 i i1 (by omega), fun i i1 i2 => h3 i i1 (by omega)⟩
      simp only [head, f25, f25t] at hh
      by_cases a1 : p.1 ≥ 1 <;> by_cases a2 : p.1 ≤ 65536 <;> simp [a1, a2] at hh <;> exact ⟨by omega, by omega⟩
theorem Right.glyph {p : D24} (h : Right p) {i : Int} (i1 : 0 ≤ i) (i2 : i < len p.2.2.2.1) : (0 < i → chr p (i - 1) < chr p i) ∧ 0 ≤ (nth p.2.2.2.1 i Z47).2.1 ∧ (nth p.2.2.2.1 i Z47).2.1 ≤ 65536 := by
  have h0 := h.glyphs i i1 i2
  unfold eG at h0
  have h28 : ∀ q, f47 q = 0 → 0 ≤ q.2.1 ∧ q.2.1 ≤ 65536 := by
    intro q hq
    have : f47 q = bif !(f25 q.2.1 0 65536) then 2 else _ := rfl
    rw [this] at hq
    simp only [f25, f25t] at hq
    by_cases a : q.2.1 ≥ 0 <;> by_cases b : q.2.1 ≤ 65536 <;> simp [a, b] at hq <;> exact ⟨by omega, by omega⟩
  by_cases hi : i > 0
  · simp only [hi, decide_true, cond_true] at h0
    by_cases hc : (nth p.2.2.2.1 i Z47).1 ≤ (nth p.2.2.2.1 (i - 1) Z47).1
    · simp [hc] at h0
    · simp only [hc, decide_false, cond_false] at h0
      exact ⟨fun _ => by unfold chr; omega, h28 _ h0⟩
  · simp only [hi, decide_false, cond_false] at h0
    exact ⟨fun hh => absurd hh hi, h28 _ h0⟩
theorem Right.mono {p : D24} (h : Right p) : ∀ (k : Nat) (i : Int), 0 ≤ i → i + k + 1 < len p.2.2.2.1 → chr p i < chr p (i + k + 1) := by
  intro k
  induction k with
  | zero => intro i h1 h2; have := (h.glyph (i := i + 1) (by omega) (by simpa using h2)).1 (by omega); simpa using this
  | succ k ih =>
    intro i h1 h2
    have a := ih i h1 (by omega)
    have b := (h.glyph (i := i + (k + 1 : Nat) + 1) (by omega) h2).1 (by omega)
    have e : i + (k + 1 : Nat) + 1 - 1 = i + k + 1 := by omega
    rw [e] at b
    omega
theorem Right.inj {p : D24} (h : Right p) {i j : Int} (i1 : 0 ≤ i) (ij : i < j) (j2 : j < len p.2.2.2.1) : chr p i < chr p j := by
  have := h.mono (j - i - 1).toNat i i1 (by omega)
  have e : i + ((j - i - 1).toNat : Int) + 1 = j := by omega
  rwa [e] at this
theorem Right.kern {p : D24} (h : Right p) {i : Int} (i1 : 0 ≤ i) (i2 : i < len p.2.2.2.2.1) : -65536 ≤ (nth p.2.2.2.2.1 i Z87).2.2.1 ∧ (nth p.2.2.2.2.1 i Z87).2.2.1 ≤ 65536 := by
  have h0 := h.kerns i i1 i2
  unfold eK at h0
  revert h0
  generalize (bif decide (i > 0) then !(f48 (nth p.2.2.2.2.1 i Z87) (nth p.2.2.2.2.1 (i - 1) Z87)) else false) = A
  simp only [f25, f25t]
  by_cases a : (nth p.2.2.2.2.1 i Z87).2.2.1 ≥ -65536 <;> by_cases b : (nth p.2.2.2.2.1 i Z87).2.2.1 ≤ 65536 <;> cases A <;> simp [a, b]
theorem nth_set {l : List Int} {i j v : Int} (hi : 0 ≤ i) (hj : 0 ≤ j) (hl : i < len l) : nth (List.set l i.toNat v) j 0 = bif j == i then v else nth l j 0 := by
  unfold nth
  by_cases e : j = i
  · subst e
    have : j.toNat < l.length := by unfold len at hl; omega
    simp [List.getD_eq_getElem?_getD, this]
  · have : i.toNat ≠ j.toNat := by omega
    have e' : (j == i) = false := by simpa using e
    rw [e', cond_false, List.getD_eq_getElem?_getD, List.getElem?_set_ne this, List.getD_eq_getElem?_getD]
theorem len_set {l : List Int} {i : Nat} {v : Int} : len (List.set l i v) = len l := by simp [len]
def tab10 (o : Int) (a : D65) (i : Int) : D65 := (a.1, List.set a.2.1 i.toNat o, ())
def tab15 (p : D24) (a : D65) (i : Int) : D65 := (a.1, List.set a.2.1 (Int.toNat (chr p i)) i, ())
theorem f9_other (p : D24) (hG : len p.2.2.2.1 < 9223372036854775808) (s : D65) : f9_L4_x2_0 (p, (), s, p.2.2.2.1, len p.2.2.2.1, ()) (loopEnd (f9_L4_g (p, (), s, p.2.2.2.1, len p.2.2.2.1, ())) (f9_L4_next (p, (), s, p.2.2.2.1, len p.2.2.2.1, ())) (-1, 0, ())) = other p := by
  rw [fold_loop (g := f9_L4_g (p, (), s, p.2.2.2.1, len p.2.2.2.1, ())) (next := f9_L4_next (p, (), s, p.2.2.2.1, len p.2.2.2.1, ())) (step := fun a i => bif chr p i == 63 then i else a) (len_nonneg p.2.2.2.1) hG (fun _ => rfl) (fun _ => rfl)]
  show foldI (fun a i => bif chr p i == 63 then i else a) (len p.2.2.2.1).toNat (-1) = _
  rw [foldI_last]
  rfl
theorem eta91 (a : D65) : (a.1, a.2.1, ()) = a := rfl
theorem f9_eq (p : D24) (hG : len p.2.2.2.1 < 9223372036854775808) : f9 p = foldI (tab15 p) (len p.2.2.2.1).toNat (foldI (tab10 (other p)) 256 (p, List.replicate 256 0, ())) := by
  have h10 : ∀ s : D65, f9_L10_x4_0 (p, (), other p, ()) (loopEnd (f9_L10_g (p, (), other p, ())) (f9_L10_next (p, (), other p, ())) (s, 0, ())) = foldI (tab10 (other p)) 256 s := fun s => by
    rw [fold_loop (g := f9_L10_g (p, (), other p, ())) (next := f9_L10_next (p, (), other p, ())) (n := 256) (step := tab10 (other p)) (by omega) (by omega) (fun _ => rfl) (fun _ => rfl) s, show (256 : Int).toNat = 256 from rfl]
    generalize foldI (tab10 (other p)) 256 s = X
    exact eta91 X
  have h15 : ∀ s : D65, f9_L15_x6_0 ((), p.2.2.2.1, len p.2.2.2.1, ()) (loopEnd (f9_L15_g ((), p.2.2.2.1, len p.2.2.2.1, ())) (f9_L15_next ((), p.2.2.2.1, len p.2.2.2.1, ())) (s, 0, ())) = foldI (tab15 p) (len p.2.2.2.1).toNat s := fun s => by
    rw [fold_loop (g := f9_L15_g ((), p.2.2.2.1, len p.2.2.2.1, ())) (next := f9_L15_next ((), p.2.2.2.1, len p.2.2.2.1, ())) (step := tab15 p) (len_nonneg p.2.2.2.1) hG (fun _ => rfl) (fun _ => rfl) s]
    generalize foldI (tab15 p) (len p.2.2.2.1).toNat s = X
    exact eta91 X
  unfold f9 f9t
  dsimp only
  rw [f9_other p hG, eta91, h10, h15]
theorem tab10_at (o : Int) (a : D65) (ha : len a.2.1 = 256) : ∀ k : Nat, k ≤ 256 → (foldI (tab10 o) k a).1 = a.1 ∧ len (foldI (tab10 o) k a).2.1 = 256 ∧ ∀ c : Int, 0 ≤ c → c < k → nth (foldI (tab10 o) k a).2.1 c 0 = o := by
  intro k
  induction k with
  | zero => intro _; exact ⟨rfl, ha, fun c h1 h2 => by omega⟩
  | succ k ih =>
    intro hk
    obtain ⟨h1, h2, h3⟩ := ih (by omega)
    refine ⟨h1, ?_, fun c c1 c2 => ?_⟩
    · show len (List.set _ _ _) = 256
      rw [len_set]; exact h2
    · show nth (List.set (foldI (tab10 o) k a).2.1 (Int.toNat (k : Int)) o) c 0 = o
      rw [nth_set (by omega) c1 (by rw [h2]; omega)]
      by_cases e : c = k
      · subst e; simp
      · have e' : (c == (k : Int)) = false := by simpa using e
        rw [e', cond_false]
        exact h3 c c1 (by omega)
theorem tab15_at {p : D24} (hc : ∀ i, 0 ≤ i → i < len p.2.2.2.1 → 0 ≤ chr p i ∧ chr p i < 256) (a : D65) (d : Int) (ha : len a.2.1 = 256) (h0 : ∀ c, 0 ≤ c → c < 256 → nth a.2.1 c 0 = d) : ∀ k : Nat, (k : Int) ≤ len p.2.2.2.1 →
    (foldI (tab15 p) k a).1 = a.1 ∧ len (foldI (tab15 p) k a).2.1 = 256 ∧ ∀ c, 0 ≤ c → c < 256 → nth (foldI (tab15 p) k a).2.1 c 0 = lastI (fun i => chr p i == c) d k := by
  intro k
  induction k with
  | zero => intro _; exact ⟨rfl, ha, h0⟩
  | succ k ih =>
    intro hk
    obtain ⟨h1, h2, h3⟩ := ih (by omega)
    have hck := hc k (by omega) (by omega)
    refine ⟨h1, ?_, fun c c1 c2 => ?_⟩
    · show len (List.set _ _ _) = 256
      rw [len_set]; exact h2
    · show nth (List.set (foldI (tab15 p) k a).2.1 (Int.toNat (chr p k)) (k : Int)) c 0 = _
      rw [nth_set hck.1 c1 (by rw [h2]; exact hck.2), lastI, h3 c c1 c2]
      by_cases e : c = chr p k
      · subst e; simp
      · have e1 : (c == chr p k) = false := by simpa using e
        have e2 : (chr p k == c) = false := by simpa using Ne.symm e
        rw [e1, e2]
theorem f9_at {p : D24} (h : Right p) (hc : ∀ i, 0 ≤ i → i < len p.2.2.2.1 → 0 ≤ chr p i ∧ chr p i < 256) : (f9 p).1 = p ∧ len (f9 p).2.1 = 256 ∧ ∀ c, 0 ≤ c → c < 256 → nth (f9 p).2.1 c 0 = glyphOf p c := by
  have hg := h.gs
  have hn := len_nonneg p.2.2.2.1
  rw [f9_eq p (by omega)]
  obtain ⟨a1, a2, a3⟩ := tab10_at (other p) (p, List.replicate 256 0, ()) (by unfold len; rw [List.length_replicate]; rfl) 256 (by omega)
  obtain ⟨b1, b2, b3⟩ := tab15_at hc (foldI (tab10 (other p)) 256 (p, List.replicate 256 0, ())) (other p) a2 (fun c c1 c2 => a3 c c1 (by omega)) (len p.2.2.2.1).toNat (by omega)
  exact ⟨b1.trans a1, b2, b3⟩
theorem f36_eq {p : D24} (h : Right p) (c : Int) : f36 p c = glyphOf p c := by
  have hg := h.gs
  have hn := len_nonneg p.2.2.2.1
  have hl := loop_ind (g := f36_L3_g (c, p, ())) (next := f36_L3_next (c, p, ())) (fun x => 0 ≤ x.2.1 ∧ x.2.1 ≤ len p.2.2.2.1 ∧ x.1 = lastI (fun i => chr p i == 63) (-1) x.2.1.toNat ∧ ∀ t, 0 ≤ t → t < x.2.1 → chr p t ≠ c) (fun x => (len p.2.2.2.1 - x.2.1).toNat)
    (fun x hi hgx => by
      simp only [f36_L3_g, f36_L3t, Bool.and_eq_true, decide_eq_true_eq, Bool.not_eq_true', beq_eq_false_iff_ne] at hgx
      obtain ⟨g1, g2⟩ := hgx
      obtain ⟨i1, i2, i3, i4⟩ := hi
      have e : (x.2.1 + 1).toNat = x.2.1.toNat + 1 := by omega
      refine ⟨⟨by show 0 ≤ x.2.1 + 1; omega, by show x.2.1 + 1 ≤ _; omega, ?_, fun t t1 t2 => ?_⟩, by show (len p.2.2.2.1 - (x.2.1 + 1)).toNat < _; omega⟩
      · show (bif chr p x.2.1 == 63 then x.2.1 else x.1) = lastI _ _ (x.2.1 + 1).toNat
        rw [e, lastI, Int.toNat_of_nonneg i1, i3]
      · have t2 : t < x.2.1 + 1 := t2
        by_cases ht : t = x.2.1
        · subst ht; exact g2
        · exact i4 t t1 (by omega)) (x := (-1, 0, ())) ⟨by simp, by simpa using hn, rfl, fun t t1 t2 => by simp only at t2; omega⟩ (by simp only [fuel]; omega)
  have hval : f36 p c = bif f36_L3_e1 (c, p, ()) (loopEnd (f36_L3_g (c, p, ())) (f36_L3_next (c, p, ())) (-1, 0, ())) then (loopEnd (f36_L3_g (c, p, ())) (f36_L3_next (c, p, ())) (-1, 0, ())).2.1 else (loopEnd (f36_L3_g (c, p, ())) (f36_L3_next (c, p, ())) (-1, 0, ())).1 := rfl
  rw [hval]
  generalize loopEnd (f36_L3_g (c, p, ())) (f36_L3_next (c, p, ())) (-1, 0, ()) = e at hl
  obtain ⟨⟨i1, i2, i3, i4⟩, hgf⟩ := hl
  unfold glyphOf
  by_cases hlt : e.2.1 < len p.2.2.2.1
  · have hm : chr p e.2.1 = c := by
      have : (decide (e.2.1 < len p.2.2.2.1) && !(chr p e.2.1 == c)) = false := hgf
      simp only [hlt, decide_true, Bool.true_and, Bool.not_eq_false', beq_iff_eq] at this
      exact this
    have he : f36_L3_e1 (c, p, ()) e = true := by
      show (decide (e.2.1 < len p.2.2.2.1) && (chr p e.2.1 == c)) = true
      simp [hlt, hm]
    rw [he, cond_true]
    refine (lastI_hit _ i1 (by omega) (by simp [hm]) fun t t1 t2 => ?_).symm
    have := h.inj i1 t1 (by omega)
    simp; omega
  · have he : f36_L3_e1 (c, p, ()) e = false := by
      show (decide (e.2.1 < len p.2.2.2.1) && (chr p e.2.1 == c)) = false
      simp [hlt]
    rw [he, cond_false, lastI_none _ fun t t1 t2 => by simpa using i4 t t1 (by omega), i3]
    unfold other
    have : e.2.1 = len p.2.2.2.1 := by omega
    rw [this]
theorem glyphOf_range {p : D24} (c : Int) : -1 ≤ glyphOf p c ∧ (glyphOf p c < len p.2.2.2.1 ∨ glyphOf p c = -1) := by
  have hn := len_nonneg p.2.2.2.1
  have key : ∀ (P : Int → Bool) (d : Int), -1 ≤ d ∧ (d < len p.2.2.2.1 ∨ d = -1) → ∀ k : Nat, (k : Int) ≤ len p.2.2.2.1 → -1 ≤ lastI P d k ∧ (lastI P d k < len p.2.2.2.1 ∨ lastI P d k = -1) := by
    intro P d hd k
    induction k with
    | zero => intro _; exact hd
    | succ k ih =>
      intro hk
      rw [lastI]
      cases P (k : Int) with
      | true => simp only [cond_true]; omega
      | false => exact ih (by omega)
  exact key _ _ (key _ _ ⟨by omega, .inr rfl⟩ _ (by omega)) _ (by omega)
end Go.Proofs.YtdgfchmfajmkiaaDoor.Am
