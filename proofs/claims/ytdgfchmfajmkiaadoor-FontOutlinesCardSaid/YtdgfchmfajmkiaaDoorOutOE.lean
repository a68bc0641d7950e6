/- Font: the polygons of any text in any font are the document's, or the error. No condition. -/
import Derived.Test.YtdgfchmfajmkiaaDoorOutOD
namespace Go.Proofs.YtdgfchmfajmkiaaDoor.Am
open Go Go.Am
theorem line_pens {p : D24} (hp : Known p) (h0 : f24 p = 0) {s : List UInt8} (hs : s.length ≤ 128) : (f11 (f9 p) s).1 = (List.range (f15 p s).length).map (fun j : Nat => ((nth (f15 p s) (j : Int) 0, nth (f16 p (f15 p s)) (j : Int) 0, ()) : D50)) ∧ len (f15 p s) ≤ 128 ∧ len (f16 p (f15 p s)) = len (f15 p s) + 1 ∧ (∀ g ∈ f15 p s, 0 ≤ g ∧ g < len p.2.2.2.1) := by
  have hR := right_of h0 hp.gs hp.ks
  obtain ⟨t1, t2, t3⟩ := f9_at hR hp.chars
  have hsl : len s = (s.length : Int) := rfl
  have hcap : (cap s).toNat = (len s).toNat := by unfold cap imin; split <;> omega
  have e15 : f15 p s = idx p s (len s).toNat := by rw [f15_eq hR, hcap]
  have hil := idx_len p s (len s).toNat
  have hlen : len (f15 p s) ≤ 128 := by rw [e15]; unfold len at *; omega
  have hll : len (f15 p s) = ((f15 p s).length : Int) := rfl
  refine ⟨?_, hlen, ?_, fun g hg => ?_⟩
  · rw [f11_eq (f9 p) s (by omega)]
    show (foldP (prog42 (f9 p) s) (len s).toNat ([], 0)).1 = _
    rw [mpens_prog t1 t3 s, ← e15]
    refine List.map_congr_left fun j hj => ?_
    have hj := List.mem_range.1 hj
    rw [f16_at (by omega) (by omega)]
  · obtain ⟨a, h1, h2⟩ := f16_eq p (f15 p s) (by omega)
    rw [h1]
    unfold len
    rw [List.length_append, h2]
    simp
  · rw [e15] at hg
    exact idx_in (p := p) (s := s) (len s).toNat g hg
theorem pen_ok {p : D24} (hp : Known p) (h0 : f24 p = 0) {z : Int} (hz : 1 ≤ z ∧ z ≤ 1048576) {s : List UInt8} (hs : s.length ≤ 128) {n : Int} (hn : 0 ≤ n ∧ n ≤ 1000) : ∀ i, 0 ≤ i → i < len (f15 p s) → PenOk z p n (f15 p s) (f16 p (f15 p s)) i := by
  intro i i1 i2
  obtain ⟨l1, l2, l3, l4⟩ := line_pens hp h0 hs
  have hL := line_ok hp h0 hz hs
  have hm : ((nth (f15 p s) i 0, nth (f16 p (f15 p s)) i 0, ()) : D50) ∈ (f11 (f9 p) s).1 := by
    rw [l1]
    refine List.mem_map.2 ⟨i.toNat, List.mem_range.2 (by unfold len at i2; omega), ?_⟩
    rw [show ((i.toNat : Nat) : Int) = i by omega]
  have hsp := hL.spots n hn.1 hn.2 _ hm
  exact ⟨hsp.nums, ⟨i1, i2⟩, by omega, hsp.at0, hsp.path⟩
def F6 (z : Int) (p : D24) (L : List (List UInt8)) (n : Int) : List (List D50) := catI (F11 z p n (f15 p (nth L n [])) (f16 p (f15 p (nth L n [])))) (f15 p (nth L n [])).length
theorem line_same {p : D24} (hp : Known p) (h0 : f24 p = 0) {z : Int} (hz : 1 ≤ z ∧ z ≤ 1048576) {s : List UInt8} (hs : s.length ≤ 128) {n : Nat} (hn : n ≤ 1000) : catI (F11 z p (n : Int) (f15 p s) (f16 p (f15 p s))) (f15 p s).length = F8 z p (f9 p) n s := by
  obtain ⟨l1, l2, l3, l4⟩ := line_pens hp h0 hs
  have hlen : (f11 (f9 p) s).1.length = (f15 p s).length := by rw [l1]; simp
  unfold F8
  rw [flat_cat (d := Z50), hlen]
  refine catI_congr fun i i1 i2 => ?_
  have hpen := pen_ok hp h0 hz hs (n := (n : Int)) ⟨by omega, by omega⟩ i i1 (by unfold len; omega)
  have hg : nth (f11 (f9 p) s).1 i Z50 = (nth (f15 p s) i 0, nth (f16 p (f15 p s)) i 0, ()) := by
    rw [l1]
    unfold nth
    rw [List.getD_eq_getElem?_getD, List.getElem?_map, List.getElem?_range (by omega)]
    simp only [Option.map_some, Option.getD_some]
    rw [show ((i.toNat : Nat) : Int).toNat = i.toNat by omega]
  rw [hg]
  obtain ⟨_, _, _, h4⟩ := f12_all hpen.path
  show (f12 (segsG p (nth (f15 p s) i 0))).1.map (fun poly => poly.map (placeQ z p (n : Int) (nth (f16 p (f15 p s)) i 0))) = (f12 (segsG p (nth (f15 p s) i 0))).1.map (fun poly => poly.map (placeP z p (n : Int) (nth (f15 p s) i 0, nth (f16 p (f15 p s)) i 0, ())))
  refine List.map_congr_left fun poly hpoly => List.map_congr_left fun q hq => ?_
  exact (near_range hpen.spot ((h4 poly hpoly).2.2 q hq)).2.2.2.2.2.2.2.2
abbrev Y6 := Int × D24 × (List (List UInt8)) × Unit
section
variable {z : Int} {p : D24} {L : List (List UInt8)}
theorem r6 (hp : Known p) (h0 : f24 p = 0) (hz : 1 ≤ z ∧ z ≤ 1048576) (hL : ∀ s ∈ L, s.length ≤ 128) (hl : L.length ≤ 129) :
    (loopEnd (f5_L6_g ((z, p, L, ()) : Y6)) (f5_L6_next ((z, p, L, ()) : Y6)) ([], 0, ())).1 = flat (F8 z p (f9 p)) 0 L ∧ Am.Ends (f5_L6_g ((z, p, L, ()) : Y6)) (f5_L6_next ((z, p, L, ()) : Y6)) (f5_L6_ok ((z, p, L, ()) : Y6)) ([], 0, ()) ∧ len (flat (F8 z p (f9 p)) 0 L) ≤ 16384 * (L.length : Int) := by
  have hll : len L = (L.length : Int) := rfl
  have hnl : ∀ n : Int, 0 ≤ n → n < (L.length : Int) → (nth L n []).length ≤ 128 := fun n n1 n2 => by
    have := hL _ (nth_in (l := L) (d := []) (j := n.toNat) (by omega))
    rwa [show ((n.toNat : Nat) : Int) = n by omega] at this
  have hstep : ∀ (b : List (List D50)) (n : Int), 0 ≤ n → n < (L.length : Int) → (loopEnd (f5_L11_g (y11r z p L n (f15 p (nth L n [])) (f16 p (f15 p (nth L n []))))) (f5_L11_next (y11r z p L n (f15 p (nth L n [])) (f16 p (f15 p (nth L n []))))) (b, 0, ())).1 = b ++ F6 z p L n := fun b n n1 n2 => by
    have h1 := hnl n n1 n2
    have h2 := (line_pens hp h0 h1).2.1
    rw [r11 (pen_ok hp h0 hz h1 ⟨n1, by omega⟩) (by omega)]
    rfl
  have hfew : ∀ n : Int, 0 ≤ n → n < (L.length : Int) → len (F6 z p L n) ≤ 16384 := fun n n1 n2 => by
    have h1 := hnl n n1 n2
    have h2 := (line_pens hp h0 h1).2.1
    have h3 := catI_len (F := F11 z p n (f15 p (nth L n [])) (f16 p (f15 p (nth L n [])))) (B := 128) (k := (f15 p (nth L n [])).length) fun i i1 i2 => F11_few (pen_ok hp h0 hz h1 ⟨n1, by omega⟩) i1 (by unfold len; omega)
    have h4 : len (f15 p (nth L n [])) = ((f15 p (nth L n [])).length : Int) := rfl
    unfold F6
    omega
  have hsame : catI (F6 z p L) L.length = flat (F8 z p (f9 p)) 0 L := by
    rw [flat_cat (d := [])]
    refine catI_congr fun i i1 i2 => ?_
    have := line_same hp h0 hz (hnl i i1 i2) (n := i.toNat) (by omega)
    rw [show ((i.toNat : Nat) : Int) = i by omega] at this
    rw [Nat.zero_add]
    exact this
  have hcat := fun (k : Nat) (hk : k ≤ L.length) => foldI_cat (step := fun b n => (loopEnd (f5_L11_g (y11r z p L n (f15 p (nth L n [])) (f16 p (f15 p (nth L n []))))) (f5_L11_next (y11r z p L n (f15 p (nth L n [])) (f16 p (f15 p (nth L n []))))) (b, 0, ())).1) (F := F6 z p L) (n := L.length) (fun b j j1 j2 => hstep b j j1 j2) [] k hk
  refine ⟨?_, ?_, ?_⟩
  · have h := fold_loop (g := f5_L6_g ((z, p, L, ()) : Y6)) (next := f5_L6_next ((z, p, L, ()) : Y6)) (n := len L) (step := fun b n => (loopEnd (f5_L11_g (y11r z p L n (f15 p (nth L n [])) (f16 p (f15 p (nth L n []))))) (f5_L11_next (y11r z p L n (f15 p (nth L n [])) (f16 p (f15 p (nth L n []))))) (b, 0, ())).1) (len_nonneg _) (by omega) (fun _ => rfl) (fun _ => rfl) []
    rw [h]
    have e : (len L).toNat = L.length := by omega
    rw [e, hcat _ (Nat.le_refl _), List.nil_append, hsame]
  · refine fold_ends (n := len L) (step := fun b n => (loopEnd (f5_L11_g (y11r z p L n (f15 p (nth L n [])) (f16 p (f15 p (nth L n []))))) (f5_L11_next (y11r z p L n (f15 p (nth L n [])) (f16 p (f15 p (nth L n []))))) (b, 0, ())).1) (len_nonneg _) (by omega) (fun _ => rfl) (fun _ => rfl) [] (fun m m1 m2 => ?_)
    have hb := hcat m.toNat (by omega)
    have hc := catI_len (F := F6 z p L) (B := 16384) (k := m.toNat) fun i i1 i2 => hfew i i1 (by omega)
    generalize foldI (fun b n => (loopEnd (f5_L11_g (y11r z p L n (f15 p (nth L n [])) (f16 p (f15 p (nth L n []))))) (f5_L11_next (y11r z p L n (f15 p (nth L n [])) (f16 p (f15 p (nth L n []))))) (b, 0, ())).1) m.toNat [] = b at hb
    rw [List.nil_append] at hb
    subst hb
    intro hv
    have hv : m < len L := of_decide_eq_true hv
    have hR := right_of h0 hp.gs hp.ks
    have h1 := hnl m m1 (by omega)
    have hm : m ≤ 1000 := by omega
    have hcl : len (catI (F6 z p L) m.toNat) ≤ 3000000 := by
      have hk : (m.toNat : Int) ≤ 129 := by omega
      omega
    obtain ⟨_, l2, l3, l4⟩ := line_pens hp h0 h1
    exact ⟨⟨m1, hv⟩, f15_all hR _, f16_all hR l4 l2, ends11 (pen_ok hp h0 hz h1 ⟨m1, hm⟩) l2 hcl, (show InR (m + 1) from inR (by omega) (by omega))⟩
  · rw [← hsame]
    exact catI_len fun i i1 i2 => hfew i i1 i2
end
theorem pts_take (P : List (List D50)) : ∀ k : Nat, k ≤ P.length → foldI (fun a i => a + len (nth P i [])) k 0 = pts (P.take k) := by
  intro k
  induction k with
  | zero => intro _; simp [foldI, pts]
  | succ k ih =>
    intro hk
    have hlt : k < P.length := by omega
    have hn : nth P (k : Int) [] = P[k] := by unfold nth; rw [List.getD_eq_getElem?_getD, show ((k : Int)).toNat = k by omega, List.getElem?_eq_getElem hlt]; rfl
    rw [foldI, ih (by omega), List.take_add_one, List.getElem?_eq_getElem hlt, pts_app, hn]
    simp [pts]
theorem pts_le {P : List (List D50)} (h : ∀ q ∈ P, len q ≤ 4000) : pts P ≤ 4000 * (P.length : Int) := by
  induction P with
  | nil => simp [pts]
  | cons q r ih =>
    have h1 := ih fun x hx => h x (List.mem_cons_of_mem _ hx)
    have h2 := h q (List.mem_cons_self ..)
    simp only [pts, List.length_cons]
    push_cast
    omega
theorem f19_eq {P : List (List D50)} (h : ∀ q ∈ P, len q ≤ 4000) (hl : len P ≤ 1000000000) : f19 P = pts P ∧ f19_ok P := by
  have hll : len P = (P.length : Int) := rfl
  have hf := fold_loop (g := f19_L3_g (P, ())) (next := f19_L3_next (P, ())) (n := len P) (step := fun a i => a + len (nth P i [])) (len_nonneg _) (by omega) (fun _ => rfl) (fun _ => rfl) 0
  have e : (len P).toNat = P.length := by omega
  refine ⟨?_, ?_⟩
  · show (loopEnd (f19_L3_g (P, ())) (f19_L3_next (P, ())) (0, 0, ())).1 = _
    rw [hf, e]
    show foldI _ P.length 0 = _
    rw [pts_take P _ (Nat.le_refl _), List.take_length]
  · refine fold_ends (n := len P) (step := fun a i => a + len (nth P i [])) (len_nonneg _) (by omega) (fun _ => rfl) (fun _ => rfl) 0 (fun m m1 m2 => ?_)
    have hb := pts_take P m.toNat (by omega)
    generalize foldI (fun a i => a + len (nth P i [])) m.toNat 0 = b at hb
    subst hb
    intro hv
    have hv : m < len P := of_decide_eq_true hv
    have h1 := pts_le (P := P.take m.toNat) fun q hq => h q (List.mem_of_mem_take hq)
    have h2 := pts_nn (P.take m.toNat)
    have h3 : (P.take m.toNat).length ≤ P.length := by rw [List.length_take]; omega
    have h4 := h _ (nth_in (l := P) (d := []) (j := m.toNat) (by omega))
    rw [show ((m.toNat : Nat) : Int) = m by omega] at h4
    have h5 := len_nonneg (nth P m [])
    exact ⟨⟨m1, hv⟩, (show InR (pts (P.take m.toNat) + len (nth P m [])) from inR (by omega) (by omega)), (show InR (m + 1) from inR (by omega) (by omega))⟩
theorem mem_flat {A E : Type} {F : Nat → E → List A} {x : A} : ∀ {l : List E} {k : Nat}, x ∈ flat F k l → ∃ k e, e ∈ l ∧ x ∈ F k e
  | [], _, h => by cases h
  | e :: r, k, h => by
    rcases List.mem_append.1 h with h | h
    · exact ⟨k, e, List.mem_cons_self .., h⟩
    · obtain ⟨k', e', h1, h2⟩ := mem_flat h
      exact ⟨k', e', List.mem_cons_of_mem _ h1, h2⟩
theorem flat_poly {z : Int} {p : D24} {d : D65} {L : List (List UInt8)} (hL : ∀ l ∈ L, LineOk z p d l) : ∀ q ∈ flat (F8 z p d) 0 L, len q ≤ 4000 := by
  intro q hq
  obtain ⟨n, line, h1, h2⟩ := mem_flat hq
  obtain ⟨_, g, h3, h4⟩ := mem_flat h2
  have hg := (hL line h1).spots 0 (by omega) (by omega) g h3
  obtain ⟨poly, h5, rfl⟩ := List.mem_map.1 h4
  obtain ⟨_, _, _, h6⟩ := f12_all hg.path
  have := (h6 poly h5).2.1
  unfold len at *
  rw [List.length_map]
  exact this
theorem x8_nil (y : f4_L8_Y) (x : f4_L8_X) : f4_L8_x1_0 y x = [] := by
  show (bif _ then ([] : List (List D50)) else []) = []
  generalize ((_ : Int) != 0) = b
  cases b <;> rfl
theorem f4_eq {p : D24} (hp : Known p) (s : List UInt8) (z wrap : Int) (hs : len s < 9223372036854775808) (h : errT p s z wrap = 0) :
    f4 p s z wrap = bif decide (pts (flat (F8 z p (f9 p)) 0 (linesOf (fitR p z wrap) s)) > 4096) then ([], 3, ()) else (flat (F8 z p (f9 p)) 0 (linesOf (fitR p z wrap) s), 0, ()) := by
  have h39 := f8_eq p s z wrap hs
  have hF := fine_of h
  have hn : (errT p s z wrap != 0) = false := by rw [h]; rfl
  have e40 := f10_lines hp h
  have hlen := linesOf_len (fitR p z wrap) hF.short
  have hseg := lines_seg (wrap := wrap) (f := fitR p z wrap) (fun s hs => fitR_no s hs) s
  have hL : ∀ l ∈ linesOf (fitR p z wrap) s, LineOk z p (f9 p) l := fun l hl => line_ok hp hF.font hF.size (Nat.le_trans (Seg_le hseg l hl) hF.short)
  have hr := run8 hL (by unfold len; omega)
  have hrun := run8_flat (linesOf (fitR p z wrap) s) 0 ([], 0) (by omega) hL (by decide)
  simp only [Int.zero_add, List.nil_append] at hrun
  cases hd : decide (pts (flat (F8 z p (f9 p)) 0 (linesOf (fitR p z wrap) s)) > 4096) with
  | false =>
    rw [hd] at hrun
    obtain ⟨q1, q2⟩ := hr.1 _ hrun
    unfold y8o at q1 q2
    simp only [f4, f4t, h39, hn, e40, cond_false, q1]
    show ((loopEnd (f4_L8_g (z, p, f9 p, linesOf (fitR p z wrap) s, len (linesOf (fitR p z wrap) s), ())) (f4_L8_next (z, p, f9 p, linesOf (fitR p z wrap) s, len (linesOf (fitR p z wrap) s), ())) ([], 0, 0, ())).1, (0 : Int), ()) = _
    rw [q2]
  | true =>
    rw [hd] at hrun
    obtain ⟨q1, q2⟩ := hr.2 hrun
    unfold y8o at q1 q2
    simp only [f4, f4t, h39, hn, e40, cond_false, q1, cond_true, x8_nil, q2]
theorem f5_eq {p : D24} (hp : Known p) (s : List UInt8) (z wrap : Int) (hs : len s < 9223372036854775808) (h : errT p s z wrap = 0) :
    f5 p s z wrap = (bif decide (pts (flat (F8 z p (f9 p)) 0 (linesOf (fitR p z wrap) s)) > 4096) then ([], 3, ()) else (flat (F8 z p (f9 p)) 0 (linesOf (fitR p z wrap) s), 0, ())) ∧ f5_ok p s z wrap := by
  have hck := check_eq p hp.gs hp.ks hp.segs
  have e14 := f14_eq hck s z wrap hs
  have o14 := (f21_eq hp s z wrap hs).2.2
  have hF := fine_of h
  have hn : (errT p s z wrap != 0) = false := by rw [h]; rfl
  rw [hn, h] at e14
  have e14 : f14 p s z wrap = (linesOf (fitR p z wrap) s, 0, ()) := e14
  have hlen := linesOf_len (fitR p z wrap) hF.short
  have hseg := lines_seg (wrap := wrap) (f := fitR p z wrap) (fun s hs => fitR_no s hs) s
  have hle : ∀ l ∈ linesOf (fitR p z wrap) s, l.length ≤ 128 := fun l hl => Nat.le_trans (Seg_le hseg l hl) hF.short
  have hL : ∀ l ∈ linesOf (fitR p z wrap) s, LineOk z p (f9 p) l := fun l hl => line_ok hp hF.font hF.size (hle l hl)
  obtain ⟨r1, r2, r3⟩ := r6 hp hF.font hF.size hle (by omega)
  obtain ⟨t1, t2⟩ := f19_eq (flat_poly hL) (by omega)
  generalize linesOf (fitR p z wrap) s = LL at *
  have hz : ((0 : Int) != 0) = false := rfl
  refine ⟨?_, ?_⟩
  · simp only [f5, f5t, e14, hz, cond_false]
    show (bif decide (f19 (loopEnd (f5_L6_g ((z, p, LL, ()) : Y6)) (f5_L6_next ((z, p, LL, ()) : Y6)) ([], 0, ())).1 > 4096) then [] else (loopEnd (f5_L6_g ((z, p, LL, ()) : Y6)) (f5_L6_next ((z, p, LL, ()) : Y6)) ([], 0, ())).1, bif decide (f19 (loopEnd (f5_L6_g ((z, p, LL, ()) : Y6)) (f5_L6_next ((z, p, LL, ()) : Y6)) ([], 0, ())).1 > 4096) then 3 else 0, ()) = _
    rw [r1, t1]
    cases decide (pts (flat (F8 z p (f9 p)) 0 LL) > 4096) <;> rfl
  · simp only [f5_ok, f5t, e14, hz]
    refine ⟨o14, fun _ => ⟨r2, ?_⟩⟩
    show f19_ok (loopEnd (f5_L6_g ((z, p, LL, ()) : Y6)) (f5_L6_next ((z, p, LL, ()) : Y6)) ([], 0, ())).1
    rw [r1]
    exact t2
theorem fontOutlines_law : ∀ x, wfL 0 [T26] x → f3_ok x.1 ∧ f3 x.1 = true := by
  intro x hx
  obtain ⟨⟨h1, h2, _⟩, _⟩ := hx
  obtain ⟨⟨p, s, z, wrap, _⟩, _⟩ := x
  have hp := known_of h1
  have hs := len_lt h2
  have ho4 := (f4_all hp s z wrap hs).1
  have key : f5_ok p s z wrap ∧ f5 p s z wrap = f4 p s z wrap ∧ f6 (f4 p s z wrap).1 (f4 p s z wrap).1 = true ∧ f6_ok (f4 p s z wrap).1 (f4 p s z wrap).1 := by
    by_cases h : errT p s z wrap = 0
    · obtain ⟨k1, k2⟩ := f5_eq hp s z wrap hs h
      have k3 := f4_eq hp s z wrap hs h
      refine ⟨k2, k1.trans k3.symm, ?_⟩
      rw [k3]
      have hF := fine_of h
      have hlen := linesOf_len (fitR p z wrap) hF.short
      have hseg := lines_seg (wrap := wrap) (f := fitR p z wrap) (fun s hs => fitR_no s hs) s
      have hL : ∀ l ∈ linesOf (fitR p z wrap) s, LineOk z p (f9 p) l := fun l hl => line_ok hp hF.font hF.size (Nat.le_trans (Seg_le hseg l hl) hF.short)
      have hrun := run8_flat (linesOf (fitR p z wrap) s) 0 ([], 0) (by omega) hL (by decide)
      simp only [Int.zero_add, List.nil_append] at hrun
      cases hd : decide (pts (flat (F8 z p (f9 p)) 0 (linesOf (fitR p z wrap) s)) > 4096) with
      | true => exact polys_self [] (by decide) (fun q hq => by cases hq)
      | false =>
        rw [hd] at hrun
        have hinv : outI (flat (F8 z p (f9 p)) 0 (linesOf (fitR p z wrap) s), pts (flat (F8 z p (f9 p)) 0 (linesOf (fitR p z wrap) s))) := by
          have aux : ∀ (l : List (List UInt8)) (k : Nat) (s s' : S2), k + l.length ≤ 1000 → (∀ x ∈ l, LineOk z p (f9 p) x) → outI s → runI (st8 z p (f9 p)) k l s = some s' → outI s' := by
            intro l
            induction l with
            | nil => intro k s s' _ _ hi h; simp only [runI, Option.some.injEq] at h; subst h; exact hi
            | cons e r ih =>
              intro k s s' hk hx hi h
              simp only [List.length_cons] at hk
              rw [runI] at h
              cases hst : st8 z p (f9 p) k s e with
              | none => rw [hst] at h; cases h
              | some s1 =>
                rw [hst] at h
                exact ih (k + 1) s1 s' (by omega) (fun x hx' => hx x (List.mem_cons_of_mem _ hx')) (st8_inv (by omega) hi (hx e (List.mem_cons_self ..)) hst) h
          exact aux _ 0 ([], 0) _ (by omega) hL ⟨Int.le_refl _, by decide, fun q hq => by cases hq⟩ hrun
        exact polys_self (flat (F8 z p (f9 p)) 0 (linesOf (fitR p z wrap) s)) (Int.le_trans hinv.1 hinv.2.1) hinv.2.2
    · have hn : (errT p s z wrap != 0) = true := by simpa using h
      have h39 := f8_eq p s z wrap hs
      have hck := check_eq p hp.gs hp.ks hp.segs
      have e14 := f14_eq hck s z wrap hs
      rw [hn] at e14
      have e14 : f14 p s z wrap = ([], errT p s z wrap, ()) := e14
      have o14 := (f21_eq hp s z wrap hs).2.2
      have e4 : f4 p s z wrap = ([], errT p s z wrap, ()) := by simp only [f4, f4t, h39, hn, cond_true]
      have e5 : f5 p s z wrap = ([], errT p s z wrap, ()) := by simp only [f5, f5t, e14, hn, cond_true]
      refine ⟨?_, e5.trans e4.symm, ?_⟩
      · simp only [f5_ok, f5t, e14, hn]
        exact ⟨o14, fun g => absurd g (by decide)⟩
      · rw [e4]
        exact polys_self [] (by decide) (fun q hq => by cases hq)
  obtain ⟨k1, k2, k3, k4⟩ := key
  have hb : ((f4 p s z wrap).2.1 == (f4 p s z wrap).2.1) = true := by simp
  refine ⟨?_, ?_⟩
  · simp only [f3_ok, f3t]
    rw [k2]
    exact ⟨ho4, k1, fun _ => k4, fun _ => f7_isok⟩
  · simp only [f3, f3t]
    rw [k2, hb, k3, f7_true]
    rfl
end Go.Proofs.YtdgfchmfajmkiaaDoor.Am
