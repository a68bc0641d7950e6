/- Font: the outlines of both as one list of polygons: the program's walk that may stop, the reference's loops. No condition. -/
import Derived.Test.YtdgfchmfajmkiaaDoorOutOB
import Derived.Test.YtdgfchmfajmkiaaDoorOutK
namespace Go.Proofs.YtdgfchmfajmkiaaDoor.Am
open Go Go.Am
def catI {A : Type} (F : Int → List A) : Nat → List A
  | 0 => []
  | k + 1 => catI F k ++ F (k : Int)
theorem catI_congr {A : Type} {F G : Int → List A} : ∀ {k : Nat}, (∀ i : Int, 0 ≤ i → i < k → F i = G i) → catI F k = catI G k := by
  intro k
  induction k with
  | zero => intro _; rfl
  | succ k ih => intro h; rw [catI, catI, ih fun i h1 h2 => h i h1 (by omega), h (k : Int) (by omega) (by omega)]
theorem catI_front {A : Type} {F : Int → List A} : ∀ {k : Nat}, catI F (k + 1) = F 0 ++ catI (fun i => F (i + 1)) k := by
  intro k
  induction k with
  | zero => simp [catI]
  | succ k ih =>
    rw [catI, ih, catI, List.append_assoc]
    congr 2
theorem catI_one {A B : Type} (l : List A) (d : A) (f : A → B) : ∀ k : Nat, k ≤ l.length → catI (fun i => [f (nth l i d)]) k = (l.take k).map f := by
  intro k
  induction k with
  | zero => intro _; simp [catI]
  | succ k ih =>
    intro hk
    have hlt : k < l.length := by omega
    have : nth l (k : Int) d = l[k] := by unfold nth; rw [List.getD_eq_getElem?_getD, show ((k : Int)).toNat = k by omega, List.getElem?_eq_getElem hlt]; rfl
    rw [catI, ih (by omega), List.take_add_one, List.getElem?_eq_getElem hlt, List.map_append, this]
    rfl
theorem catI_map {A B : Type} (l : List A) (d : A) (f : A → B) : catI (fun i => [f (nth l i d)]) l.length = l.map f := by
  rw [catI_one l d f l.length (Nat.le_refl _), List.take_length]
theorem foldI_cat {A : Type} {step : List A → Int → List A} {F : Int → List A} {n : Nat} (h : ∀ a i, 0 ≤ i → i < (n : Int) → step a i = a ++ F i) (a : List A) : ∀ k : Nat, k ≤ n → foldI step k a = a ++ catI F k := by
  intro k
  induction k with
  | zero => intro _; simp [catI, foldI]
  | succ k ih => intro hk; rw [foldI, ih (by omega), h _ _ (by omega) (by omega), catI, List.append_assoc]
def flat {A E : Type} (F : Nat → E → List A) : Nat → List E → List A
  | _, [] => []
  | k, e :: r => F k e ++ flat F (k + 1) r
theorem flat_cat {A E : Type} {F : Nat → E → List A} {d : E} : ∀ (l : List E) (k : Nat), flat F k l = catI (fun i => F (k + i.toNat) (nth l i d)) l.length := by
  intro l
  induction l with
  | nil => intro k; rfl
  | cons e r ih =>
    intro k
    rw [flat, ih (k + 1), List.length_cons, catI_front]
    congr 1
    refine catI_congr fun i h1 h2 => ?_
    have e1 : k + 1 + i.toNat = k + (i + 1).toNat := by omega
    have e2 : nth (e :: r) (i + 1) d = nth r i d := by
      unfold nth
      rw [show (i + 1).toNat = i.toNat + 1 by omega]
      rfl
    rw [e1, e2]
def pts : List (List D50) → Int
  | [] => 0
  | q :: r => len q + pts r
theorem pts_app : ∀ a b : List (List D50), pts (a ++ b) = pts a + pts b
  | [], b => by simp [pts]
  | q :: r, b => by simp only [List.cons_append, pts, pts_app r b]; omega
theorem pts_nn : ∀ a : List (List D50), 0 ≤ pts a
  | [] => by simp [pts]
  | q :: r => by have := pts_nn r; have := len_nonneg q; simp only [pts]; omega
theorem run_flat {E : Type} {st : Nat → S2 → E → Option S2} {F : Nat → E → List (List D50)} : ∀ (l : List E) (k : Nat) (s : S2), (∀ k s e, s.2 ≤ 4096 → e ∈ l → st k s e = bif decide (s.2 + pts (F k e) > 4096) then none else some (s.1 ++ F k e, s.2 + pts (F k e))) → s.2 ≤ 4096 →
    runI st k l s = bif decide (s.2 + pts (flat F k l) > 4096) then none else some (s.1 ++ flat F k l, s.2 + pts (flat F k l))
  | [], k, s, _, hs => by
    have : decide (s.2 + pts (flat F k ([] : List E)) > 4096) = false := by simp [flat, pts]; omega
    rw [this]
    simp [runI, flat, pts]
  | e :: r, k, s, h, hs => by
    have h1 := h k s e hs (List.mem_cons_self ..)
    have ht := pts_nn (flat F (k + 1) r)
    rw [runI, h1, flat, pts_app]
    by_cases hd : s.2 + pts (F k e) > 4096
    · have h2 : s.2 + (pts (F k e) + pts (flat F (k + 1) r)) > 4096 := by omega
      simp [hd, h2]
    · simp only [hd, decide_false, cond_false, Option.bind_some]
      rw [run_flat r (k + 1) _ (fun k s e hs he => h k s e hs (List.mem_cons_of_mem _ he)) (by simp only; omega)]
      simp only [List.append_assoc, Int.add_assoc]
theorem placeS_at {z : Int} {p : D24} {n : Int} {g : D50} {poly : List D50} : ∀ k : Nat, k ≤ poly.length → foldI (placeS z p n g poly) k (List.replicate poly.length Z50) = (poly.take k).map (placeP z p n g) ++ List.replicate (poly.length - k) Z50 := by
  intro k
  induction k with
  | zero => intro _; simp [foldI]
  | succ k ih =>
    intro hk
    have hlt : k < poly.length := by omega
    rw [foldI, ih (by omega)]
    unfold placeS
    have hn : nth poly (k : Int) Z50 = poly[k] := by unfold nth; rw [List.getD_eq_getElem?_getD, show ((k : Int)).toNat = k by omega, List.getElem?_eq_getElem hlt]; rfl
    rw [hn, show Int.toNat (k : Int) = k by omega, List.set_append]
    have hl : ((poly.take k).map (placeP z p n g)).length = k := by simp; omega
    rw [if_neg (by omega), hl, Nat.sub_self, show poly.length - k = (poly.length - (k + 1)) + 1 by omega, List.replicate_succ, List.set_cons_zero, List.take_add_one, List.getElem?_eq_getElem hlt, List.map_append, List.append_assoc]
    rfl
theorem placed_map (z : Int) (p : D24) (n : Int) (g : D50) (poly : List D50) : placed z p n g poly = poly.map (placeP z p n g) := by
  unfold placed
  have e : (len poly).toNat = poly.length := by unfold len; omega
  rw [e, placeS_at poly.length (Nat.le_refl _), List.take_length]
  simp
def F12 (z : Int) (p : D24) (n : Int) (_ : Nat) (g : D50) : List (List D50) := (f12 (segsOf p g)).1.map (fun poly => poly.map (placeP z p n g))
def F8 (z : Int) (p : D24) (d : D65) (n : Nat) (line : List UInt8) : List (List D50) := flat (F12 z p (n : Int)) 0 (f11 d line).1
theorem flat_one {A E : Type} (f : E → A) : ∀ (l : List E) (k : Nat), flat (fun _ e => [f e]) k l = l.map f
  | [], _ => rfl
  | e :: r, k => by rw [flat, flat_one f r]; rfl
theorem st18_flat (z : Int) (p : D24) (n : Int) (g : D50) (l : List (List D50)) (k : Nat) (s : S2) (hs : s.2 ≤ 4096) : runI (st18 z p n g) k l s = bif decide (s.2 + pts (l.map (placed z p n g)) > 4096) then none else some (s.1 ++ l.map (placed z p n g), s.2 + pts (l.map (placed z p n g))) := by
  rw [run_flat (F := fun _ poly => [placed z p n g poly]) l k s (fun k s e _ _ => by
    have : pts [placed z p n g e] = len e := by simp only [pts, placed_len]; omega
    rw [this]
    rfl) hs, flat_one]
theorem st12_flat {z : Int} {p : D24} {n : Int} {g : D50} (hg : SpotOk z p n g) (k : Nat) (s : S2) (hs : s.2 ≤ 4096) : st12 z p n k s g = bif decide (s.2 + pts (F12 z p n k g) > 4096) then none else some (s.1 ++ F12 z p n k g, s.2 + pts (F12 z p n k g)) := by
  obtain ⟨_, h0, _, _⟩ := f12_all hg.path
  have e : F12 z p n k g = (f12 (segsOf p g)).1.map (placed z p n g) := by
    unfold F12
    congr 1
    funext poly
    rw [placed_map]
  unfold st12
  rw [h0, e, ← st18_flat z p n g _ 0 s hs]
  rfl
theorem st8_flat {z : Int} {p : D24} {d : D65} {n : Nat} (hn : n ≤ 1000) {line : List UInt8} (hl : LineOk z p d line) (s : S2) (hs : s.2 ≤ 4096) : st8 z p d n s line = bif decide (s.2 + pts (F8 z p d n line) > 4096) then none else some (s.1 ++ F8 z p d n line, s.2 + pts (F8 z p d n line)) := by
  unfold st8 F8
  exact run_flat _ 0 s (fun k s g hs hg => st12_flat (hl.spots (n : Int) (by omega) (by omega) g hg) k s hs) hs
theorem run8_flat {z : Int} {p : D24} {d : D65} : ∀ (L : List (List UInt8)) (k : Nat) (s : S2), k + L.length ≤ 1000 → (∀ l ∈ L, LineOk z p d l) → s.2 ≤ 4096 →
    runI (st8 z p d) k L s = bif decide (s.2 + pts (flat (F8 z p d) k L) > 4096) then none else some (s.1 ++ flat (F8 z p d) k L, s.2 + pts (flat (F8 z p d) k L))
  | [], k, s, _, _, hs => by
    have : decide (s.2 + pts (flat (F8 z p d) k []) > 4096) = false := by simp [flat, pts]; omega
    rw [this]
    simp [runI, flat, pts]
  | e :: r, k, s, hk, h, hs => by
    simp only [List.length_cons] at hk
    have h1 := st8_flat (n := k) (by omega) (h e (List.mem_cons_self ..)) s hs
    have ht := pts_nn (flat (F8 z p d) (k + 1) r)
    rw [runI, h1, flat, pts_app]
    by_cases hd : s.2 + pts (F8 z p d k e) > 4096
    · have h2 : s.2 + (pts (F8 z p d k e) + pts (flat (F8 z p d) (k + 1) r)) > 4096 := by omega
      simp [hd, h2]
    · simp only [hd, decide_false, cond_false, Option.bind_some]
      rw [run8_flat r (k + 1) _ (by omega) (fun l hl => h l (List.mem_cons_of_mem _ hl)) (by simp only; omega)]
      simp only [List.append_assoc, Int.add_assoc]
def mpen (p : D24) (l : List Int) (j : Nat) : Int := bif decide ((j : Int) > 0) then pen p l j + f37 p (chr p (nth l ((j : Int) - 1) 0)) (chr p (nth l (j : Int) 0)) else pen p l j
theorem mpen_left (p : D24) (l r : List Int) {j : Nat} (h : (j : Int) < len l) : mpen p (l ++ r) j = mpen p l j := by
  unfold mpen
  rw [pen_left p l r j (by omega), nth_left (i := (j : Int)) (by omega) h]
  by_cases h0 : (j : Int) > 0
  · rw [nth_left (i := (j : Int) - 1) (by omega) (by omega)]
  · simp only [h0, decide_false, cond_false]
theorem mpens_ref (p : D24) (l : List Int) : ∀ k : Nat, (foldP (ref35 p l) k ([], 0)).1 = (List.range k).map (mpen p l) := by
  intro k
  induction k with
  | zero => rfl
  | succ k ih =>
    have h2 := (ref35_pen p l k).1
    rw [foldP, List.range_succ, List.map_append, ← ih]
    generalize foldP (ref35 p l) k ([], 0) = x at h2
    obtain ⟨a, b⟩ := x
    simp only at h2
    subst h2
    rfl
theorem f16_at {p : D24} {l : List Int} (hl : len l < 9223372036854775808) {j : Nat} (hj : (j : Int) < len l) : nth (f16 p l) (j : Int) 0 = mpen p l j := by
  have := foldP_loop (g := f16_L4_g (l, p, ())) (next := f16_L4_next (l, p, ())) (n := len l) (step := ref35 p l) (len_nonneg l) hl (fun _ => rfl) (fun _ => rfl) [] 0
  have hn : (len l).toNat = l.length := by unfold len; omega
  have hjl : j < l.length := by unfold len at hj; omega
  have e : f16 p l = (foldP (ref35 p l) l.length ([], 0)).1 ++ [(foldP (ref35 p l) l.length ([], 0)).2] := by
    show f16_L4_x2_0 (l, p, ()) (loopEnd (f16_L4_g (l, p, ())) (f16_L4_next (l, p, ())) ([], 0, 0, ())) ++ [f16_L4_x2_1 (l, p, ()) (loopEnd (f16_L4_g (l, p, ())) (f16_L4_next (l, p, ())) ([], 0, 0, ()))] = _
    rw [this, hn]
    rfl
  rw [e, mpens_ref]
  unfold nth
  rw [List.getD_eq_getElem?_getD, show ((j : Int)).toNat = j by omega, List.getElem?_append_left (by simp; omega)]
  simp [hjl]
theorem mpens_prog {p : D24} {d : D65} (hd : d.1 = p) (ht : ∀ c, 0 ≤ c → c < 256 → nth d.2.1 c 0 = glyphOf p c) (s : List UInt8) : ∀ k, (foldP (prog42 d s) k ([], 0)).1 = (List.range (idx p s k).length).map (fun j : Nat => (nth (idx p s k) (j : Int) 0, mpen p (idx p s k) j, ())) := by
  obtain ⟨d1, d2, _⟩ := d
  simp only at hd ht
  subst hd
  intro k
  induction k with
  | zero => rfl
  | succ k ih =>
    have hpen := prog42_pen (p := d1) (d := (d1, d2, ())) rfl ht s k
    rw [foldP, idx]
    generalize foldP (prog42 (d1, d2, ()) s) k ([], 0) = x at ih hpen
    obtain ⟨a, b⟩ := x
    obtain ⟨h1, h2⟩ := hpen
    simp only at h1 h2 ih
    have hb := byteAt_range s (k : Int)
    have hla : len a = len (idx d1 s k) := by rw [← h1]; simp [len]
    unfold prog42
    simp only
    rw [ht _ hb.1 hb.2]
    by_cases h0 : glyphOf d1 (byteAt s (k : Int)) < 0
    · simp only [h0, decide_true, cond_true]
      exact ih
    · simp only [h0, decide_false, cond_false]
      generalize glyphOf d1 (byteAt s (k : Int)) = g at h0 ⊢
      generalize idx d1 s k = l at *
      have hll : len l = (l.length : Int) := rfl
      rw [List.length_append, List.length_singleton, List.range_succ, List.map_append]
      have e1 : (List.range l.length).map (fun j : Nat => ((nth (l ++ [g]) (j : Int) 0, mpen d1 (l ++ [g]) j, ()) : D50)) = a := by
        rw [ih]
        refine List.map_congr_left fun j hj => ?_
        have hj := List.mem_range.1 hj
        rw [nth_left (i := (j : Int)) (by omega) (by omega), mpen_left d1 l [g] (by omega)]
      rw [e1]
      congr 1
      simp only [List.map_cons, List.map_nil, List.cons.injEq, and_true, Prod.mk.injEq]
      have e2 : nth (l ++ [g]) ((l.length : Nat) : Int) 0 = g := nth_right
      refine ⟨e2.symm, ?_⟩
      unfold mpen
      rw [e2, pen_left _ _ _ _ (by omega), ← h2]
      by_cases hp : len a > 0
      · have hp' : ((l.length : Nat) : Int) > 0 := by omega
        simp only [hp, hp', decide_true, cond_true]
        rw [kern_eq, nth_fst (by omega) (by omega), h1, hla]
        have e3 : nth (l ++ [g]) (((l.length : Nat) : Int) - 1) 0 = nth l (len l - 1) 0 := nth_left (i := len l - 1) (by omega) (by omega)
        rw [e3]
      · have hp' : ¬ ((l.length : Nat) : Int) > 0 := by omega
        simp only [hp, hp', decide_false, cond_false]
end Go.Proofs.YtdgfchmfajmkiaaDoor.Am
