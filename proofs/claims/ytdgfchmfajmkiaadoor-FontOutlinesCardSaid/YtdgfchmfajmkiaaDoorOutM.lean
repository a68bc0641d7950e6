/- Font: the lines of a text, by the program and by the reference. No condition. -/
import Derived.Test.YtdgfchmfajmkiaaDoorOutN
namespace Go.Proofs.YtdgfchmfajmkiaaDoor.Am
open Go Go.Am
theorem nth_drop {E : Type} {l : List E} {d : E} {j : Nat} (h : j < l.length) : l.drop j = nth l (j : Int) d :: l.drop (j + 1) := by
  unfold nth
  rw [List.drop_eq_getElem_cons h, List.getD_eq_getElem?_getD, show ((j : Int)).toNat = j from by omega, List.getElem?_eq_getElem h, Option.getD_some]
theorem walk_loop {A B E : Type} {g : A × B × Int × Unit → Bool} {next : A × B × Int × Unit → A × B × Int × Unit} {l : List E} {d : E} {step : A × B → E → A × B} (hn : l.length < 9223372036854775808) (hg : ∀ x, g x = decide (x.2.2.1 < len l)) (hx : ∀ x, next x = ((step (x.1, x.2.1) (nth l x.2.2.1 d)).1, (step (x.1, x.2.1) (nth l x.2.2.1 d)).2, x.2.2.1 + 1, ()))
    (k : Nat) (hk : k ≤ l.length) (a : A) (b : B) : loopEnd g next (a, b, (k : Int), ()) = (((l.drop k).foldl step (a, b)).1, ((l.drop k).foldl step (a, b)).2, len l, ()) := by
  have hll : len l = (l.length : Int) := rfl
  have h := loop_ind (g := g) (next := next) (fun x : A × B × Int × Unit => ∃ j : Nat, x.2.2.1 = (j : Int) ∧ j ≤ l.length ∧ (l.drop j).foldl step (x.1, x.2.1) = (l.drop k).foldl step (a, b)) (fun x => (len l - x.2.2.1).toNat) (fun x hi hgx => by
    rw [hg] at hgx
    have hgx := of_decide_eq_true hgx
    obtain ⟨j, h1, h2, h3⟩ := hi
    have hj : j < l.length := by omega
    rw [hx]
    refine ⟨⟨j + 1, by simp only; omega, by omega, ?_⟩, by simp only; omega⟩
    rw [← h3, nth_drop (d := d) hj, List.foldl_cons, h1]) (x := (a, b, (k : Int), ())) ⟨k, rfl, hk, rfl⟩ (by simp only [fuel]; omega)
  generalize loopEnd g next (a, b, (k : Int), ()) = e at h
  obtain ⟨⟨j, h1, h2, h3⟩, h4⟩ := h
  rw [hg] at h4
  have h4 := of_decide_eq_false h4
  have hj : j = l.length := by omega
  subst hj
  rw [List.drop_length, List.foldl_nil] at h3
  obtain ⟨e1, e2, e3, _⟩ := e
  simp only at h1 h3
  rw [← h3, h1]
  rfl
theorem walk_ends {A B E : Type} {g : A × B × Int × Unit → Bool} {next : A × B × Int × Unit → A × B × Int × Unit} {ok : A × B × Int × Unit → Prop} {l : List E} {d : E} {step : A × B → E → A × B} (hn : l.length < 9223372036854775808) (hg : ∀ x, g x = decide (x.2.2.1 < len l)) (hx : ∀ x, next x = ((step (x.1, x.2.1) (nth l x.2.2.1 d)).1, (step (x.1, x.2.1) (nth l x.2.2.1 d)).2, x.2.2.1 + 1, ()))
    (inv : List E → A → B → Prop) (hstep : ∀ w r a b, inv (w :: r) a b → inv r (step (a, b) w).1 (step (a, b) w).2) (hok : ∀ (j : Nat) a b, j ≤ l.length → inv (l.drop j) a b → ok (a, b, (j : Int), ()))
    (k : Nat) (hk : k ≤ l.length) (a : A) (b : B) (h0 : inv (l.drop k) a b) : Am.Ends g next ok (a, b, (k : Int), ()) := by
  have hll : len l = (l.length : Int) := rfl
  refine ends_ind (fun x : A × B × Int × Unit => ∃ j : Nat, x.2.2.1 = (j : Int) ∧ j ≤ l.length ∧ inv (l.drop j) x.1 x.2.1) (fun x : A × B × Int × Unit => (len l - x.2.2.1).toNat) (fun x hi => ?_) (fun x hi hgx => ?_) ⟨k, rfl, hk, h0⟩ (by simp only [fuel]; omega)
  · obtain ⟨j, h1, h2, h3⟩ := hi
    obtain ⟨e1, e2, e3, _⟩ := x
    simp only at h1 h3
    rw [h1]
    exact hok j e1 e2 h2 h3
  · rw [hg] at hgx
    have hgx := of_decide_eq_true hgx
    obtain ⟨j, h1, h2, h3⟩ := hi
    have hj : j < l.length := by omega
    rw [hx]
    refine ⟨⟨j + 1, by simp only; omega, by omega, ?_⟩, by simp only; omega⟩
    rw [nth_drop (d := d) hj] at h3
    rw [h1]
    exact hstep _ _ _ _ h3
theorem walk_inv {A B E : Type} {step : A × B → E → A × B} (inv : List E → A → B → Prop) (hstep : ∀ w r a b, inv (w :: r) a b → inv r (step (a, b) w).1 (step (a, b) w).2) : ∀ (l : List E) (a : A) (b : B), inv l a b → inv [] (l.foldl step (a, b)).1 (l.foldl step (a, b)).2
  | [], _, _, h => h
  | w :: r, a, b, h => walk_inv inv hstep r _ _ (hstep w r a b h)
def word (fits : List UInt8 → Bool) (x : List (List UInt8) × List UInt8) (w : List UInt8) : List (List UInt8) × List UInt8 :=
  (bif fits (x.2 ++ [32] ++ w) then x.1 else x.1 ++ [x.2], bif fits (x.2 ++ [32] ++ w) then x.2 ++ [32] ++ w else w)
def partL (fits : List UInt8 → Bool) (l : List (List UInt8)) (s : List UInt8) : List (List UInt8) :=
  ((splitB 32 s).tail.foldl (word fits) (l, (splitB 32 s).headD [])).1 ++ [((splitB 32 s).tail.foldl (word fits) (l, (splitB 32 s).headD [])).2]
def fitP (d : D65) (z wrap : Int) (s : List UInt8) : Bool := bif wrap == 0 then true else decide (f28 d s z ≤ wrap)
def fitR (p : D24) (z wrap : Int) (s : List UInt8) : Bool := bif wrap == 0 then true else decide (f35 p s z ≤ wrap)
def wordI (M : Nat) (ws : List (List UInt8)) (a : List (List UInt8)) (b : List UInt8) : Prop := b.length + tot ws ≤ 128 ∧ a.length + ws.length ≤ M
theorem wordI_step {M : Nat} (fits : List UInt8 → Bool) (w : List UInt8) (r : List (List UInt8)) (a : List (List UInt8)) (b : List UInt8) (h : wordI M (w :: r) a b) : wordI M r (word fits (a, b) w).1 (word fits (a, b) w).2 := by
  obtain ⟨h1, h2⟩ := h
  simp only [tot, List.length_cons] at h1 h2
  unfold word wordI
  cases fits ((a, b).2 ++ [32] ++ w) <;> simp only [cond_true, cond_false, List.length_append, List.length_cons, List.length_nil] <;> omega
theorem split_head (c : UInt8) (s : List UInt8) : ∃ w r, splitB c s = w :: r ∧ w.length + tot r = s.length := by
  have ht := tot_split c s
  cases hs : splitB c s with
  | nil => exact absurd hs (splitB_ne c s)
  | cons w r =>
    rw [hs] at ht
    simp only [tot] at ht
    exact ⟨w, r, rfl, by omega⟩
theorem partL_len (fits : List UInt8 → Bool) (l : List (List UInt8)) (s : List UInt8) (hs : s.length ≤ 128) : (partL fits l s).length ≤ l.length + s.length + 1 := by
  obtain ⟨w, r, e, ht⟩ := split_head 32 s
  have hr := length_tot r
  have h := walk_inv (step := word fits) (wordI (l.length + r.length)) (wordI_step fits) r l w ⟨by omega, by omega⟩
  unfold partL
  rw [e, List.length_append]
  have h2 := h.2
  simp only [List.length_nil, Nat.add_zero] at h2
  simp only [List.tail_cons, List.headD_cons, List.length_cons, List.length_nil]
  omega
theorem word_congr {f g : List UInt8 → Bool} (h : ∀ s : List UInt8, s.length ≤ 128 → f s = g s) (M : Nat) : ∀ (ws : List (List UInt8)) (a : List (List UInt8)) (b : List UInt8), wordI M ws a b → ws.foldl (word f) (a, b) = ws.foldl (word g) (a, b)
  | [], _, _, _ => rfl
  | w :: r, a, b, hi => by
    have hs := wordI_step f w r a b hi
    have h1 := hi.1
    simp only [tot] at h1
    have e : word f (a, b) w = word g (a, b) w := by
      unfold word
      rw [h _ (by simp only [List.length_append, List.length_cons, List.length_nil]; omega)]
    rw [List.foldl_cons, List.foldl_cons, ← e]
    exact word_congr h M r _ _ hs
theorem partL_congr {f g : List UInt8 → Bool} (h : ∀ s : List UInt8, s.length ≤ 128 → f s = g s) (l : List (List UInt8)) (s : List UInt8) (hs : s.length ≤ 128) : partL f l s = partL g l s := by
  obtain ⟨w, r, e, ht⟩ := split_head 32 s
  unfold partL
  rw [e, List.tail_cons, List.headD_cons, word_congr h (l.length + r.length) r l w ⟨by omega, by omega⟩]
theorem f10_part (d : D65) (z wrap : Int) (l : List (List UInt8)) (s : List UInt8) (hs : s.length ≤ 128) : f10_next d z wrap l s = partL (fitP d z wrap) l s := by
  obtain ⟨w, r, e, ht⟩ := split_head 32 s
  have hr := length_tot r
  have e62 : f27 s [32] = w :: r := by rw [f27_eq 32 s (by unfold len; omega), e]
  have hw := walk_loop (g := f10r_L7_g (d, z, wrap, r, len r, ())) (next := f10r_L7_next (d, z, wrap, r, len r, ())) (l := r) (d := []) (step := word (fitP d z wrap)) (by omega) (fun _ => rfl) (fun _ => rfl) 0 (by omega) l w
  simp only [f10_next, f10r_o, f10rt, e62]
  show f10r_L7_x4_0 (d, z, wrap, r, len r, ()) (loopEnd (f10r_L7_g (d, z, wrap, r, len r, ())) (f10r_L7_next (d, z, wrap, r, len r, ())) (l, w, ((0 : Nat) : Int), ())) ++ [f10r_L7_x4_1 (d, z, wrap, r, len r, ()) (loopEnd (f10r_L7_g (d, z, wrap, r, len r, ())) (f10r_L7_next (d, z, wrap, r, len r, ())) (l, w, ((0 : Nat) : Int), ()))] = _
  rw [hw]
  unfold partL
  rw [e]
  rfl
theorem f10_round {d : D65} {z wrap : Int} (hd : ∀ s : List UInt8, s.length ≤ 128 → f28_ok d s z) (l : List (List UInt8)) (s : List UInt8) (hs : s.length ≤ 128) (hl : l.length ≤ 1000) : f10r_ok d z wrap l s := by
  obtain ⟨w, r, e, ht⟩ := split_head 32 s
  have hr := length_tot r
  have hlr : len r = (r.length : Int) := rfl
  have e62 : f27 s [32] = w :: r := by rw [f27_eq 32 s (by unfold len; omega), e]
  have hlw : len (w :: r) = (r.length : Int) + 1 := by unfold len; simp
  have hw := walk_loop (g := f10r_L7_g (d, z, wrap, r, len r, ())) (next := f10r_L7_next (d, z, wrap, r, len r, ())) (l := r) (d := []) (step := word (fitP d z wrap)) (by omega) (fun _ => rfl) (fun _ => rfl) 0 (by omega) l w
  have hi := walk_inv (step := word (fitP d z wrap)) (wordI (l.length + r.length)) (wordI_step _) r l w ⟨by omega, by omega⟩
  refine ⟨f27_all 32 s (by unfold len; omega), ?_⟩
  simp only [e62]
  refine ⟨⟨by omega, by omega⟩, ⟨by omega, by omega⟩, ?_, ?_⟩
  · show Am.Ends (f10r_L7_g (d, z, wrap, r, len r, ())) (f10r_L7_next (d, z, wrap, r, len r, ())) (f10r_L7_ok (d, z, wrap, r, len r, ())) (l, w, ((0 : Nat) : Int), ())
    refine walk_ends (l := r) (d := []) (step := word (fitP d z wrap)) (by omega) (fun _ => rfl) (fun _ => rfl) (wordI (l.length + r.length)) (wordI_step _) (fun j a b hj h => ?_) 0 (by omega) l w ⟨by simp only [List.drop_zero]; omega, by simp only [List.drop_zero]; omega⟩
    intro hv
    have hv : (j : Int) < len r := of_decide_eq_true hv
    have hj' : j < r.length := by omega
    rw [nth_drop (d := []) hj'] at h
    obtain ⟨h1, h2⟩ := h
    simp only [tot, List.length_cons] at h1 h2
    have hlen : (b ++ [32] ++ nth r (j : Int) []).length ≤ 128 := by simp only [List.length_append, List.length_cons, List.length_nil]; omega
    refine ⟨⟨(show (0 : Int) ≤ (j : Int) by omega), hv⟩, ?_, ?_, fun _ => hd _ hlen, fun _ => ?_, (show InR ((j : Int) + 1) from inR (by omega) (by omega))⟩
    · show ((b.length + 1 : Nat) : Int) ≤ 9223372036854775807
      omega
    · show (((b ++ [32]).length + (nth r (j : Int) []).length : Nat) : Int) ≤ 9223372036854775807
      simp only [List.length_append] at hlen ⊢
      omega
    · show ((a.length + 1 : Nat) : Int) ≤ 4294967296
      omega
  · show (((f10r_L7_x4_0 (d, z, wrap, r, len r, ()) (loopEnd (f10r_L7_g (d, z, wrap, r, len r, ())) (f10r_L7_next (d, z, wrap, r, len r, ())) (l, w, ((0 : Nat) : Int), ()))).length + 1 : Nat) : Int) ≤ 4294967296
    rw [hw]
    show (((r.foldl (word (fitP d z wrap)) (l, w)).1.length + 1 : Nat) : Int) ≤ 4294967296
    have h2 := hi.2
    simp only [List.length_nil, Nat.add_zero] at h2
    omega
theorem parts_congr {f g : List UInt8 → Bool} (h : ∀ s : List UInt8, s.length ≤ 128 → f s = g s) : ∀ (ps : List (List UInt8)) (l : List (List UInt8)), (∀ x ∈ ps, List.length x ≤ 128) → ps.foldl (partL f) l = ps.foldl (partL g) l
  | [], _, _ => rfl
  | x :: r, l, hp => by
    rw [List.foldl_cons, List.foldl_cons, partL_congr h l x (hp x (List.mem_cons_self ..))]
    exact parts_congr h r _ fun y hy => hp y (List.mem_cons_of_mem _ hy)
theorem tot_mem : ∀ {ps : List (List UInt8)} {x : List UInt8}, x ∈ ps → x.length + 1 ≤ tot ps
  | y :: r, x, h => by
    simp only [tot]
    rcases List.mem_cons.1 h with rfl | h
    · omega
    · have := tot_mem h; omega
theorem rounds_all {d : D65} {z wrap : Int} (hd : ∀ s : List UInt8, s.length ≤ 128 → f28_ok d s z) : ∀ (ps : List (List UInt8)) (l : List (List UInt8)), l.length + tot ps ≤ 1000 → (∀ x ∈ ps, List.length x ≤ 128) → Rounds (f10r_ok d z wrap) (f10_next d z wrap) ps l
  | [], _, _, _ => trivial
  | x :: r, l, ht, hp => by
    have hx := hp x (List.mem_cons_self ..)
    simp only [tot] at ht
    refine ⟨f10_round hd l x hx (by omega), ?_⟩
    refine rounds_all hd r _ ?_ fun y hy => hp y (List.mem_cons_of_mem _ hy)
    rw [f10_part d z wrap l x hx]
    have := partL_len (fitP d z wrap) l x hx
    omega
theorem f10_eq (d : D65) (z wrap : Int) : ∀ (ps : List (List UInt8)) (l : List (List UInt8)), (∀ x ∈ ps, List.length x ≤ 128) → ps.foldl (f10_next d z wrap) l = ps.foldl (partL (fitP d z wrap)) l
  | [], _, _ => rfl
  | x :: r, l, hp => by
    rw [List.foldl_cons, List.foldl_cons, f10_part d z wrap l x (hp x (List.mem_cons_self ..))]
    exact f10_eq d z wrap r _ fun y hy => hp y (List.mem_cons_of_mem _ hy)
theorem split_le {c : UInt8} {s : List UInt8} (hs : s.length ≤ 128) : ∀ x ∈ splitB c s, List.length x ≤ 128 := fun x hx => by
  have := tot_mem hx
  rw [tot_split] at this
  omega
end Go.Proofs.YtdgfchmfajmkiaaDoor.Am
