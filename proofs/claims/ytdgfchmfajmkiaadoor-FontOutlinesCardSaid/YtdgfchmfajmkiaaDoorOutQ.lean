/- Font: the lines of any text in any font. No condition. -/
import Derived.Test.YtdgfchmfajmkiaaDoorOutM
namespace Go.Proofs.YtdgfchmfajmkiaaDoor.Am
open Go Go.Am
theorem ref_step (p : D24) (z wrap : Int) (ps : List (List UInt8)) (a : List (List UInt8)) (i : Int) (hs : (nth ps i []).length ≤ 128) : (f14_L16_next (z, wrap, p, ps, ()) (a, i, ())).1 = partL (fitR p z wrap) a (nth ps i []) := by
  obtain ⟨w, r, e, ht⟩ := split_head 32 (nth ps i [])
  have hr := length_tot r
  have e41 : f34 (nth ps i []) 32 = w :: r := by
    have := f34_eq 32 (nth ps i []) (by unfold len; omega)
    rw [e] at this
    exact this
  have hw := walk_loop (g := f14_L21_g (z, wrap, p, ps, i, w :: r, ())) (next := f14_L21_next (z, wrap, p, ps, i, w :: r, ())) (l := w :: r) (d := []) (step := word (fitR p z wrap)) (by simp only [List.length_cons]; omega) (fun _ => rfl) (fun _ => rfl) 1 (by simp) a w
  simp only [f14_L16_next, f14_L16t, e41]
  show f14_L21_x6_0 (z, wrap, p, ps, i, w :: r, ()) (loopEnd (f14_L21_g (z, wrap, p, ps, i, w :: r, ())) (f14_L21_next (z, wrap, p, ps, i, w :: r, ())) (a, w, ((1 : Nat) : Int), ())) ++ [f14_L21_x6_1 (z, wrap, p, ps, i, w :: r, ()) (loopEnd (f14_L21_g (z, wrap, p, ps, i, w :: r, ())) (f14_L21_next (z, wrap, p, ps, i, w :: r, ())) (a, w, ((1 : Nat) : Int), ()))] = _
  rw [hw]
  unfold partL
  rw [e]
  rfl
theorem ref_round {p : D24} {z wrap : Int} (hd : ∀ s : List UInt8, s.length ≤ 128 → f35_ok p s z) (ps : List (List UInt8)) (a : List (List UInt8)) (i : Int) (hi : 0 ≤ i) (hp : ps.length ≤ 1000) (hs : (nth ps i []).length ≤ 128) (ha : a.length ≤ 1000) : f14_L16_ok (z, wrap, p, ps, ()) (a, i, ()) := by
  obtain ⟨w, r, e, ht⟩ := split_head 32 (nth ps i [])
  have hr := length_tot r
  have e41 : f34 (nth ps i []) 32 = w :: r := by
    have := f34_eq 32 (nth ps i []) (by unfold len; omega)
    rw [e] at this
    exact this
  have hlw : len (w :: r) = (r.length : Int) + 1 := by unfold len; simp
  have hw := walk_loop (g := f14_L21_g (z, wrap, p, ps, i, w :: r, ())) (next := f14_L21_next (z, wrap, p, ps, i, w :: r, ())) (l := w :: r) (d := []) (step := word (fitR p z wrap)) (by simp only [List.length_cons]; omega) (fun _ => rfl) (fun _ => rfl) 1 (by simp) a w
  have hI := walk_inv (step := word (fitR p z wrap)) (wordI (a.length + r.length)) (wordI_step _) r a w ⟨by omega, by omega⟩
  have hlp : len ps = (ps.length : Int) := rfl
  intro hv
  have hv : i < len ps := of_decide_eq_true hv
  refine ⟨⟨hi, hv⟩, (show f34_ok (nth ps i []) 32 from f34_all 32 _ (by unfold len; omega)), ?_⟩
  simp only [e41]
  refine ⟨⟨by omega, by omega⟩, ?_, ?_, (show InR (i + 1) from inR (by omega) (by omega))⟩
  · show Am.Ends (f14_L21_g (z, wrap, p, ps, i, w :: r, ())) (f14_L21_next (z, wrap, p, ps, i, w :: r, ())) (f14_L21_ok (z, wrap, p, ps, i, w :: r, ())) (a, w, ((1 : Nat) : Int), ())
    refine walk_ends (l := w :: r) (d := []) (step := word (fitR p z wrap)) (by simp only [List.length_cons]; omega) (fun _ => rfl) (fun _ => rfl) (wordI (a.length + r.length)) (wordI_step _) (fun j a' b hj h => ?_) 1 (by simp) a w ⟨by simp only [List.drop_succ_cons, List.drop_zero]; omega, by simp only [List.drop_succ_cons, List.drop_zero]; omega⟩
    intro hv
    have hv : (j : Int) < len (w :: r) := of_decide_eq_true hv
    have hj' : j < (w :: r).length := by simp only [List.length_cons]; omega
    rw [nth_drop (d := []) hj'] at h
    obtain ⟨h1, h2⟩ := h
    simp only [tot, List.length_cons] at h1 h2
    have hlen : (b ++ [32] ++ nth (w :: r) (j : Int) []).length ≤ 128 := by simp only [List.length_append, List.length_cons, List.length_nil]; omega
    refine ⟨?_, ⟨(show (0 : Int) ≤ (j : Int) by omega), hv⟩, ?_, fun _ => hd _ hlen, fun _ => ⟨?_, ⟨(show (0 : Int) ≤ (j : Int) by omega), hv⟩⟩, (show InR ((j : Int) + 1) from inR (by omega) (by omega))⟩
    · show ((b.length + 1 : Nat) : Int) ≤ 9223372036854775807
      omega
    · show (((b ++ [32]).length + (nth (w :: r) (j : Int) []).length : Nat) : Int) ≤ 9223372036854775807
      simp only [List.length_append] at hlen ⊢
      omega
    · show ((a'.length + 1 : Nat) : Int) ≤ 4294967296
      omega
  · show (((f14_L21_x6_0 (z, wrap, p, ps, i, w :: r, ()) (loopEnd (f14_L21_g (z, wrap, p, ps, i, w :: r, ())) (f14_L21_next (z, wrap, p, ps, i, w :: r, ())) (a, w, ((1 : Nat) : Int), ()))).length + 1 : Nat) : Int) ≤ 4294967296
    rw [hw]
    show (((r.foldl (word (fitR p z wrap)) (a, w)).1.length + 1 : Nat) : Int) ≤ 4294967296
    have h2 := hI.2
    simp only [List.length_nil, Nat.add_zero] at h2
    omega
def refS (p : D24) (z wrap : Int) (ps : List (List UInt8)) (a : List (List UInt8)) (i : Int) : List (List UInt8) := (f14_L16_next (z, wrap, p, ps, ()) (a, i, ())).1
theorem nth_le {ps : List (List UInt8)} (hp : ∀ x ∈ ps, List.length x ≤ 128) (i : Int) : (nth ps i []).length ≤ 128 := by
  rcases nth_cases ps i [] with e | e
  · rw [e]; simp
  · exact hp _ e
theorem ref_fold (p : D24) (z wrap : Int) {ps : List (List UInt8)} (hp : ∀ x ∈ ps, List.length x ≤ 128) : ∀ k : Nat, k ≤ ps.length → foldI (refS p z wrap ps) k [] = (ps.take k).foldl (partL (fitR p z wrap)) []
  | 0, _ => rfl
  | k + 1, hk => by
    have hl : k < ps.length := by omega
    rw [foldI, ref_fold p z wrap hp k (by omega), List.take_succ_eq_append_getElem hl, List.foldl_append, List.foldl_cons, List.foldl_nil]
    have en : nth ps (k : Int) [] = ps[k] := by
      unfold nth
      rw [List.getD_eq_getElem?_getD, show ((k : Int)).toNat = k from by omega, List.getElem?_eq_getElem hl, Option.getD_some]
    rw [← en]
    exact ref_step p z wrap ps _ k (nth_le hp _)
theorem parts_len (f : List UInt8 → Bool) : ∀ (ps : List (List UInt8)) (l : List (List UInt8)), (∀ x ∈ ps, List.length x ≤ 128) → (ps.foldl (partL f) l).length ≤ l.length + tot ps
  | [], _, _ => by simp [tot]
  | x :: r, l, hp => by
    have h1 := partL_len f l x (hp x (List.mem_cons_self ..))
    have h2 := parts_len f r (partL f l x) fun y hy => hp y (List.mem_cons_of_mem _ hy)
    rw [List.foldl_cons]
    simp only [tot]
    omega
theorem tot_take : ∀ (ps : List (List UInt8)) (k : Nat), tot (ps.take k) ≤ tot ps
  | [], k => by simp [tot]
  | x :: r, 0 => by simp [tot]
  | x :: r, k + 1 => by
    have := tot_take r k
    simp only [List.take_succ_cons, tot]
    omega
def linesOf (f : List UInt8 → Bool) (s : List UInt8) : List (List UInt8) := (splitB 10 s).foldl (partL f) []
theorem linesOf_len (f : List UInt8 → Bool) {s : List UInt8} (hs : s.length ≤ 128) : (linesOf f s).length ≤ 129 := by
  have := parts_len f (splitB 10 s) [] (split_le hs)
  rw [tot_split] at this
  unfold linesOf
  simp only [List.length_nil] at this
  omega
theorem ref_all (p : D24) (z wrap : Int) {s : List UInt8} (hs : s.length ≤ 128) : (loopEnd (f14_L16_g (z, wrap, p, splitB 10 s, ())) (f14_L16_next (z, wrap, p, splitB 10 s, ())) ([], 0, ())).1 = linesOf (fitR p z wrap) s := by
  have hl := length_tot (splitB 10 s)
  rw [tot_split] at hl
  have hll : len (splitB 10 s) = ((splitB 10 s).length : Int) := rfl
  rw [fold_loop (g := f14_L16_g (z, wrap, p, splitB 10 s, ())) (next := f14_L16_next (z, wrap, p, splitB 10 s, ())) (n := len (splitB 10 s)) (step := refS p z wrap (splitB 10 s)) (len_nonneg _) (by omega) (fun _ => rfl) (fun _ => rfl) []]
  show foldI (refS p z wrap (splitB 10 s)) (len (splitB 10 s)).toNat [] = _
  rw [hll, Int.toNat_natCast, ref_fold p z wrap (split_le hs) _ (Nat.le_refl _), List.take_length]
  rfl
theorem ref_ends {p : D24} {z wrap : Int} (hd : ∀ s : List UInt8, s.length ≤ 128 → f35_ok p s z) {s : List UInt8} (hs : s.length ≤ 128) : Am.Ends (f14_L16_g (z, wrap, p, splitB 10 s, ())) (f14_L16_next (z, wrap, p, splitB 10 s, ())) (f14_L16_ok (z, wrap, p, splitB 10 s, ())) ([], 0, ()) := by
  have hl := length_tot (splitB 10 s)
  rw [tot_split] at hl
  have hll : len (splitB 10 s) = ((splitB 10 s).length : Int) := rfl
  refine fold_ends (n := len (splitB 10 s)) (step := refS p z wrap (splitB 10 s)) (len_nonneg _) (by omega) (fun _ => rfl) (fun _ => rfl) [] (fun i i1 i2 => ?_)
  refine ref_round hd _ _ i i1 (by omega) (nth_le (split_le hs) _) ?_
  rw [ref_fold p z wrap (split_le hs) _ (by omega)]
  have h1 := parts_len (fitR p z wrap) ((splitB 10 s).take i.toNat) [] fun x hx => split_le hs x (List.mem_of_mem_take hx)
  have h2 := tot_take (splitB 10 s) i.toNat
  rw [tot_split] at h2
  simp only [List.length_nil] at h1
  omega
def badB (s : List UInt8) (i : Int) : Bool := bif byteAt s i != 10 then (bif decide (byteAt s i < 32) then true else decide (byteAt s i > 126)) else false
def errT (p : D24) (s : List UInt8) (z wrap : Int) : Int :=
  bif f24 p != 0 then f24 p else bif anyI (len s) (badB s) then 4 else bif decide (len s > 128) then 3 else bif (bif !(f25 z 1 1048576) then true else !(f25 wrap 0 1048576)) then 2 else 0
theorem f8_eq (p : D24) (s : List UInt8) (z wrap : Int) (hs : len s < 9223372036854775808) : f8 p s z wrap = errT p s z wrap := by
  have h := scan_any (g := f8_L5_g (s, z, wrap, len s, ())) (next := f8_L5_next (s, z, wrap, len s, ())) (n := len s) (c := badB s) (len_nonneg s) hs (fun x => by
    simp only [f8_L5_g, f8_L5t, badB]
    cases decide (byteAt s x.1 < 32) <;> cases decide (byteAt s x.1 > 126) <;> cases (byteAt s x.1 != 10) <;> rfl) (fun _ => rfl)
  have h1 : f8_L5_e1 (s, z, wrap, len s, ()) (loopEnd (f8_L5_g (s, z, wrap, len s, ())) (f8_L5_next (s, z, wrap, len s, ())) (0, ())) = anyI (len s) (badB s) := by
    rw [← h]
    generalize loopEnd (f8_L5_g (s, z, wrap, len s, ())) (f8_L5_next (s, z, wrap, len s, ())) (0, ()) = x
    simp only [f8_L5_e1, f8_L5t, badB]
    cases decide (byteAt s x.1 < 32) <;> cases decide (byteAt s x.1 > 126) <;> cases (byteAt s x.1 != 10) <;> rfl
  simp only [f8, f8t, h1]
  rfl
theorem f8_all (p : D24) (s : List UInt8) (z wrap : Int) (hs : len s < 9223372036854775808) : f8_ok p s z wrap := by
  refine ⟨f24_all p, fun _ => ⟨?_, fun _ _ => ⟨trivial, fun _ => trivial⟩⟩⟩
  refine scan_ends (n := len s) (len_nonneg _) hs (fun x hx => ?_) (fun _ => rfl) (fun x h1 h2 => ?_)
  · simp only [f8_L5_g, f8_L5t, Bool.and_eq_true, decide_eq_true_eq] at hx; exact hx.1
  · intro hv
    have hv : x.1 < len s := of_decide_eq_true hv
    exact ⟨⟨h1, hv⟩, fun _ => ⟨h1, hv⟩, fun _ => ⟨h1, hv⟩, fun _ => inR (by omega) (by omega)⟩
theorem range_eq (z wrap : Int) : (bif (bif (bif decide (z < 1) then true else decide (z > 1048576)) then true else decide (wrap < 0)) then true else decide (wrap > 1048576)) = (bif !(f25 z 1 1048576) then true else !(f25 wrap 0 1048576)) := by
  have e1 : decide (z ≥ 1) = !decide (z < 1) := by rw [Bool.eq_iff_iff]; simp
  have e2 : decide (z ≤ 1048576) = !decide (z > 1048576) := by rw [Bool.eq_iff_iff]; simp
  have e3 : decide (wrap ≥ 0) = !decide (wrap < 0) := by rw [Bool.eq_iff_iff]; simp
  have e4 : decide (wrap ≤ 1048576) = !decide (wrap > 1048576) := by rw [Bool.eq_iff_iff]; simp
  simp only [f25, f25t, e1, e2, e3, e4]
  cases decide (z < 1) <;> cases decide (z > 1048576) <;> cases decide (wrap < 0) <;> cases decide (wrap > 1048576) <;> rfl
theorem f14_scan (p : D24) (s : List UInt8) (z wrap : Int) (hs : len s < 9223372036854775808) : f14_L5_e1 (s, z, wrap, p, ()) (loopEnd (f14_L5_g (s, z, wrap, p, ())) (f14_L5_next (s, z, wrap, p, ())) (0, ())) = anyI (len s) (badB s) := by
  rw [← scan_any (g := f14_L5_g (s, z, wrap, p, ())) (next := f14_L5_next (s, z, wrap, p, ())) (n := len s) (c := badB s) (len_nonneg s) hs (fun _ => rfl) (fun _ => rfl)]
  rfl
theorem small {s : List UInt8} (h : decide (len s > 128) = false) : s.length ≤ 128 := by
  have := of_decide_eq_false h
  unfold len at this
  omega
theorem f14_eq {p : D24} (hck : f24 p = f33 p) (s : List UInt8) (z wrap : Int) (hs : len s < 9223372036854775808) : f14 p s z wrap = (bif errT p s z wrap != 0 then [] else linesOf (fitR p z wrap) s, errT p s z wrap, ()) := by
  have h1 := f14_scan p s z wrap hs
  simp only [f14, f14t, h1, range_eq, errT, ← hck]
  cases h0 : f24 p != 0 with
  | true => simp only [cond_true, h0]
  | false =>
    simp only [cond_false]
    cases anyI (len s) (badB s) with
    | true => rfl
    | false =>
      simp only [cond_false]
      cases hb : decide (len s > 128) with
      | true => rfl
      | false =>
        simp only [cond_false]
        cases (bif !(f25 z 1 1048576) then true else !(f25 wrap 0 1048576)) with
        | true => rfl
        | false =>
          have hl := small hb
          have e : f34 s 10 = splitB 10 s := f34_eq 10 s (by unfold len; omega)
          simp only [cond_false, e]
          rw [← ref_all p z wrap hl]
          rfl
structure Fine (p : D24) (s : List UInt8) (z wrap : Int) : Prop where
  font : f24 p = 0
  short : s.length ≤ 128
  size : 1 ≤ z ∧ z ≤ 1048576
  wraps : 0 ≤ wrap ∧ wrap ≤ 1048576
theorem fine_of {p : D24} {s : List UInt8} {z wrap : Int} (h : errT p s z wrap = 0) : Fine p s z wrap := by
  unfold errT at h
  cases h0 : f24 p != 0 with
  | true =>
    rw [h0] at h
    simp only [cond_true] at h
    rw [h] at h0
    exact absurd h0 (by decide)
  | false =>
    rw [h0] at h
    simp only [cond_false] at h
    cases ha : anyI (len s) (badB s) with
    | true => rw [ha] at h; simp only [cond_true] at h; exact absurd h (by decide)
    | false =>
      rw [ha] at h
      simp only [cond_false] at h
      cases hb : decide (len s > 128) with
      | true => rw [hb] at h; simp only [cond_true] at h; exact absurd h (by decide)
      | false =>
        rw [hb] at h
        simp only [cond_false] at h
        cases hc : (bif !(f25 z 1 1048576) then true else !(f25 wrap 0 1048576)) with
        | true => rw [hc] at h; simp only [cond_true] at h; exact absurd h (by decide)
        | false =>
          have hz : f25 z 1 1048576 = true := by
            cases hz : f25 z 1 1048576 with
            | true => rfl
            | false => rw [hz] at hc; simp at hc
          rw [hz] at hc
          have hw : f25 wrap 0 1048576 = true := by
            cases hw : f25 wrap 0 1048576 with
            | true => rfl
            | false => rw [hw] at hc; exact absurd hc (by decide)
          have key : ∀ a b c : Int, f25 a b c = true → b ≤ a ∧ a ≤ c := fun a b c h => by
            simp only [f25, f25t] at h
            cases h1 : decide (a ≥ b) with
            | false => rw [h1] at h; simp at h
            | true => rw [h1] at h; exact ⟨of_decide_eq_true h1, of_decide_eq_true h⟩
          exact ⟨by simpa using h0, small hb, key _ _ _ hz, key _ _ _ hw⟩
theorem fits_eq {p : D24} (hp : Known p) {z : Int} (h0 : f24 p = 0) (hz : 1 ≤ z ∧ z ≤ 1048576) (s : List UInt8) (hs : s.length ≤ 128) : f28 (f9 p) s z = f35 p s z ∧ f28_ok (f9 p) s z ∧ f35_ok p s z ∧ f28 (f9 p) s z = f23 p s z ∧ f23_ok p s z := by
  obtain ⟨he, o1, o2⟩ := width_eq hp s z
  have hf : (f24 p != 0) = false := by rw [h0]; rfl
  have hl : decide (len s > 128) = false := by simp only [decide_eq_false_iff_not]; unfold len; omega
  have hzz : f46 z 1 1048576 = z := by
    simp only [f46, f46t, imin, imax]
    repeat' split
    all_goals omega
  have e15 : f23 p s z = f28 (f9 p) s z := by
    simp only [f23, f23t, hf, hl, hzz, cond_false]
  have k := o1
  simp only [f23_ok, f23t, hf, hl, hzz, cond_false] at k
  exact ⟨e15.symm.trans he, (k.2 rfl).2.2.2, o2, e15.symm, o1⟩
theorem f21_eq {p : D24} (hp : Known p) (s : List UInt8) (z wrap : Int) (hs : len s < 9223372036854775808) : f21 p s z wrap = (bif errT p s z wrap != 0 then [] else linesOf (fitR p z wrap) s, errT p s z wrap, ()) ∧ f21_ok p s z wrap ∧ f14_ok p s z wrap := by
  have h39 := f8_eq p s z wrap hs
  have hck := check_eq p hp.gs hp.ks hp.segs
  have h18 := f14_scan p s z wrap hs
  have hE5 : Am.Ends (f14_L5_g (s, z, wrap, p, ())) (f14_L5_next (s, z, wrap, p, ())) (f14_L5_ok (s, z, wrap, p, ())) (0, ()) := by
    refine scan_ends (n := len s) (len_nonneg _) hs (fun x hx => ?_) (fun _ => rfl) (fun x h1 h2 => ?_)
    · simp only [f14_L5_g, f14_L5t, Bool.and_eq_true, decide_eq_true_eq] at hx; exact hx.1
    · intro hv
      have hv : x.1 < len s := of_decide_eq_true hv
      exact ⟨⟨h1, hv⟩, fun _ => ⟨h1, hv⟩, fun _ => ⟨h1, hv⟩, fun _ => inR (by omega) (by omega)⟩
  by_cases h : errT p s z wrap = 0
  · have hF := fine_of h
    have hR := right_of hF.font hp.gs hp.ks
    have hfit := fun t ht => fits_eq hp hF.font hF.size t ht
    have hn : (errT p s z wrap != 0) = false := by rw [h]; rfl
    have e40 : f10 (f9 p) s z wrap = linesOf (fitR p z wrap) s := by
      unfold f10 linesOf
      rw [f10_eq (f9 p) z wrap _ _ (split_le hF.short)]
      refine parts_congr (fun t ht => ?_) _ _ (split_le hF.short)
      unfold fitP fitR
      rw [(hfit t ht).1]
    refine ⟨?_, ?_, ?_⟩
    · simp only [f21, f21t, h39, hn, cond_false, e40]
      rw [h]
    · simp only [f21_ok, f21t]
      refine ⟨f8_all p s z wrap hs, fun _ => ⟨f9_all hR hp.chars, ?_, rounds_all (fun t ht => (hfit t ht).2.1) _ _ ?_ (split_le hF.short)⟩⟩
      · have := hF.short; omega
      · rw [tot_split]; have := hF.short; simp only [List.length_nil]; omega
    · have e : f34 s 10 = splitB 10 s := f34_eq 10 s hs
      simp only [f14_ok, f14t, e]
      exact ⟨f33_all p, fun _ => ⟨hE5, fun _ _ _ => ⟨f34_all 10 s (by have := hF.short; unfold len; omega), ref_ends (fun t ht => (hfit t ht).2.2.1) hF.short⟩⟩⟩
  · have hn : (errT p s z wrap != 0) = true := by simpa using h
    refine ⟨?_, ?_, ?_⟩
    · simp only [f21, f21t, h39, hn, cond_true]
    · simp only [f21_ok, f21t, h39, hn]
      exact ⟨f8_all p s z wrap hs, fun g => absurd g (by decide)⟩
    · refine ⟨f33_all p, fun g0 => ⟨hE5, fun g1 g2 g3 => absurd ?_ h⟩⟩
      have g0 : (!(f33 p != 0)) = true := g0
      rw [← hck] at g0
      have g2 : (!decide (len s > 128)) = true := g2
      have g3 : (!(bif (bif (bif decide (z < 1) then true else decide (z > 1048576)) then true else decide (wrap < 0)) then true else decide (wrap > 1048576))) = true := g3
      rw [range_eq] at g3
      have g1 : (!anyI (len s) (badB s)) = true := by
        rw [← scan_both (g := f14_L5_g (s, z, wrap, p, ())) (next := f14_L5_next (s, z, wrap, p, ())) (n := len s) (c := badB s) (len_nonneg s) hs (fun _ => rfl) (fun _ => rfl)]
        exact g1
      rw [Bool.not_eq_true'] at g0 g1 g2 g3
      unfold errT
      rw [g0, g1, g2, g3]
      rfl
end Go.Proofs.YtdgfchmfajmkiaaDoor.Am
