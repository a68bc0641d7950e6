/- Font: what font.Outline answers. No condition. -/
import Derived.Test.YtdgfchmfajmkiaaDoorOutE
import Derived.Test.YtdgfchmfajmkiaaDoorOutR
namespace Go.Proofs.YtdgfchmfajmkiaaDoor.Am
open Go Go.Am
section
variable {z : Int} {p : D24} {d : D65} {L : List (List UInt8)}
theorem ends8 (hL : ∀ l ∈ L, LineOk z p d l) (hl : len L ≤ 1000) : Am.Ends (f4_L8_g (y8o z p d L)) (f4_L8_next (y8o z p d L)) (f4_L8_ok (y8o z p d L)) ([], 0, 0, ()) := by
  have hll : len L = (L.length : Int) := rfl
  refine (stops8 hL hl).ends outI (fun j s e s' hj hs he h => st8_inv (by omega) hs (hL e he) h) ⟨Int.le_refl _, by decide, fun q hq => by cases hq⟩ fun a b j hj h => ?_
  intro hv
  have hv : (j : Int) < len L := of_decide_eq_true hv
  have hj' : j < L.length := by omega
  have hk := hL _ (nth_in (d := []) hj')
  exact ⟨⟨(show (0 : Int) ≤ (j : Int) by omega), hv⟩, hk.ok, ends12 (hk.spots (j : Int) (by omega) (by omega)) hk.few h, fun _ => (show InR ((j : Int) + 1) from inR (by omega) (by omega))⟩
theorem e8_1 (a : List (List D50)) (b i : Int) : f4_L8_e1 (y8o z p d L) (a, b, i, ()) = (decide (i < len L) && f4_L12_e1 (y12o z p d i L (len L) i (f11 d (nth L i [])).1) (e12o z p d L a b i)) := rfl
theorem e12_1 {a11 : D65} {n : Int} {a41 : List (List UInt8)} {a42 a43 : Int} {sp : List D50} (a : List (List D50)) (b i : Int) : f4_L12_e1 (y12o z p a11 n a41 a42 a43 sp) (a, b, i, ()) = (decide (i < len sp) && (((f12 (segsOf p (nth sp i Z50))).2.1 != 0) || ((!((f12 (segsOf p (nth sp i Z50))).2.1 != 0)) && f4_L18_e1 (y18o z p a11 n (nth sp i Z50) a41 a42 a43 sp (len sp) i (f12 (segsOf p (nth sp i Z50))).1) (e18o z p a11 n a41 a42 a43 sp a b i)))) := rfl
theorem x8_1 (a : List (List D50)) (b i : Int) : f4_L8_x1_1 (y8o z p d L) (a, b, i, ()) = f4_L12_x1_1 (y12o z p d i L (len L) i (f11 d (nth L i [])).1) (e12o z p d L a b i) := rfl
theorem x12_1 {a11 : D65} {n : Int} {a41 : List (List UInt8)} {a42 a43 : Int} {sp : List D50} (a : List (List D50)) (b i : Int) : f4_L12_x1_1 (y12o z p a11 n a41 a42 a43 sp) (a, b, i, ()) = (bif (f12 (segsOf p (nth sp i Z50))).2.1 != 0 then (f12 (segsOf p (nth sp i Z50))).2.1 else 3) := rfl
theorem stop12 {a11 : D65} {n : Int} {a41 : List (List UInt8)} {a42 a43 : Int} {sp : List D50} (hsp : ∀ g ∈ sp, SpotOk z p n g) {a : List (List D50)} {b : Int} {k : Nat} (hk : k < sp.length) (hs : st12 z p n k (a, b) (nth sp (k : Int) Z50) = none) :
    f4_L12_e1 (y12o z p a11 n a41 a42 a43 sp) (a, b, (k : Int), ()) = true ∧ f4_L12_x1_1 (y12o z p a11 n a41 a42 a43 sp) (a, b, (k : Int), ()) = 3 := by
  obtain ⟨_, h0, h1, h2⟩ := f12_all (hsp _ (nth_in (d := Z50) hk)).path
  have hS := stops18 (z := z) (p := p) (a11 := a11) (n := n) (g := nth sp (k : Int) Z50) (a41 := a41) (a42 := a42) (a43 := a43) (a54 := sp) (a55 := len sp) (a56 := (k : Int)) h2 h1
  obtain ⟨j, j1, j2⟩ := hS.run a b
  have hkl : decide ((k : Int) < len sp) = true := decide_eq_true (by unfold len; omega)
  rw [e12_1, x12_1, h0, hkl]
  refine ⟨?_, rfl⟩
  have hst : st12 z p n k (a, b) (nth sp (k : Int) Z50) = runI (st18 z p n (nth sp (k : Int) Z50)) 0 (f12 (segsOf p (nth sp (k : Int) Z50))).1 (a, b) := by
    unfold st12
    rw [h0]
    rfl
  rw [hst] at hs
  rcases j2 with j2 | ⟨j2, _, j3, _⟩
  · rw [hs] at j2; cases j2.2
  · show (true && (((0 : Int) != 0) || ((!((0 : Int) != 0)) && f4_L18_e1 _ (e18o z p a11 n a41 a42 a43 sp a b (k : Int))))) = true
    have j3 : f4_L18_g (y18o z p a11 n (nth sp (k : Int) Z50) a41 a42 a43 sp (len sp) (k : Int) (f12 (segsOf p (nth sp (k : Int) Z50))).1) (e18o z p a11 n a41 a42 a43 sp a b (k : Int)) = false := j3
    have j1 : (e18o z p a11 n a41 a42 a43 sp a b (k : Int)).2.2.1 = (j : Int) := j1
    generalize e18o z p a11 n a41 a42 a43 sp a b (k : Int) = e at j1 j3
    have j3 : (decide (e.2.2.1 < len (f12 (segsOf p (nth sp (k : Int) Z50))).1) && !decide (e.2.1 + len (nth (f12 (segsOf p (nth sp (k : Int) Z50))).1 e.2.2.1 []) > 4096)) = false := j3
    show (true && (false || (true && (decide (e.2.2.1 < len (f12 (segsOf p (nth sp (k : Int) Z50))).1) && decide (e.2.1 + len (nth (f12 (segsOf p (nth sp (k : Int) Z50))).1 e.2.2.1 []) > 4096))))) = true
    have hd : decide (e.2.2.1 < len (f12 (segsOf p (nth sp (k : Int) Z50))).1) = true := decide_eq_true (by rw [j1]; unfold len; omega)
    rw [hd] at j3 ⊢
    revert j3
    cases decide (e.2.1 + len (nth (f12 (segsOf p (nth sp (k : Int) Z50))).1 e.2.2.1 []) > 4096) <;> decide
theorem run8 (hL : ∀ l ∈ L, LineOk z p d l) (hl : len L ≤ 1000) :
    (∀ s, runI (st8 z p d) 0 L ([], 0) = some s → f4_L8_e1 (y8o z p d L) (loopEnd (f4_L8_g (y8o z p d L)) (f4_L8_next (y8o z p d L)) ([], 0, 0, ())) = false ∧ (loopEnd (f4_L8_g (y8o z p d L)) (f4_L8_next (y8o z p d L)) ([], 0, 0, ())).1 = s.1) ∧
    (runI (st8 z p d) 0 L ([], 0) = none → f4_L8_e1 (y8o z p d L) (loopEnd (f4_L8_g (y8o z p d L)) (f4_L8_next (y8o z p d L)) ([], 0, 0, ())) = true ∧ f4_L8_x1_1 (y8o z p d L) (loopEnd (f4_L8_g (y8o z p d L)) (f4_L8_next (y8o z p d L)) ([], 0, 0, ())) = 3) := by
  have hll : len L = (L.length : Int) := rfl
  obtain ⟨j, j1, j2⟩ := (stops8 hL hl).run [] 0
  generalize loopEnd (f4_L8_g (y8o z p d L)) (f4_L8_next (y8o z p d L)) ([], 0, 0, ()) = e at j1 j2
  obtain ⟨a, b, i, _⟩ := e
  simp only at j1 j2
  subst j1
  rcases j2 with ⟨j2, j3⟩ | ⟨j2, j3, _, j5⟩
  · refine ⟨fun s hs => ?_, fun hn => ?_⟩
    · rw [hs] at j3
      simp only [Option.some.injEq] at j3
      refine ⟨?_, by rw [j3]⟩
      rw [e8_1, j2]
      have : decide ((L.length : Int) < len L) = false := by simp [hll]
      rw [this]
      rfl
    · rw [hn] at j3; cases j3
  · refine ⟨fun s hs => ?_, fun _ => ?_⟩
    · rw [hs] at j3; cases j3
    · have hk := hL _ (nth_in (d := []) j2)
      have hsp := hk.spots (j : Int) (by omega) (by omega)
      obtain ⟨k, k1, k2⟩ := (stops12 (z := z) (p := p) (a11 := d) (n := (j : Int)) (a41 := L) (a42 := len L) (a43 := (j : Int)) (sp := (f11 d (nth L (j : Int) [])).1) hsp hk.few).run a b
      rcases k2 with k2 | ⟨k2, _, _, k5⟩
      · have j5 : runI (st12 z p (j : Int)) 0 (f11 d (nth L (j : Int) [])).1 (a, b) = none := j5
        rw [j5] at k2; cases k2.2
      · have hjl : decide ((j : Int) < len L) = true := decide_eq_true (by omega)
        rw [e8_1, x8_1, hjl]
        have k1 : (e12o z p d L a b (j : Int)).2.2.1 = (k : Int) := k1
        have k5 : st12 z p (j : Int) k ((e12o z p d L a b (j : Int)).1, (e12o z p d L a b (j : Int)).2.1) (nth (f11 d (nth L (j : Int) [])).1 (k : Int) Z50) = none := k5
        generalize e12o z p d L a b (j : Int) = e at k1 k5
        obtain ⟨a', b', i', _⟩ := e
        simp only at k1 k5
        subst k1
        have := stop12 (a11 := d) (a41 := L) (a42 := len L) (a43 := (j : Int)) hsp k2 k5
        rw [this.1, this.2]
        exact ⟨rfl, rfl⟩
end
theorem f24_head {p : D24} (h : f24 p = 0) (hG : len p.2.2.2.1 < 9223372036854775808) (hK : len p.2.2.2.2.1 < 9223372036854775808) : (0 ≤ p.2.1 ∧ p.2.1 ≤ 65536) ∧ (0 ≤ p.2.2.1 ∧ p.2.2.1 ≤ 65536) := by
  rw [f24_eq p hG hK] at h
  cases hh : head p with
  | true => rw [hh] at h; simp at h
  | false =>
    have key : ∀ a b c : Int, f25 a b c = true → b ≤ a ∧ a ≤ c := fun a b c h => by
      simp only [f25, f25t] at h
      cases h1 : decide (a ≥ b) with
      | false => rw [h1] at h; simp at h
      | true => rw [h1] at h; exact ⟨of_decide_eq_true h1, of_decide_eq_true h⟩
    unfold head at hh
    cases h1 : f25 p.1 1 65536 <;> cases h2 : f25 p.2.1 0 65536 <;> cases h3 : f25 p.2.2.1 0 65536 <;> rw [h1, h2, h3] at hh <;> first | exact ⟨key _ _ _ h2, key _ _ _ h3⟩ | (simp at hh)
theorem glyph_path {p : D24} (hp : Known p) (h : Right p) {i : Int} (h1 : 0 ≤ i) (h2 : i < len p.2.2.2.1) : f30 (nth p.2.2.2.1 i Z47).2.2.1 = 0 := by
  have h0 := h.glyphs i h1 h2
  have h28 : f47 (nth p.2.2.2.1 i Z47) = 0 := by
    unfold eG at h0
    revert h0
    generalize (bif decide (i > 0) then decide ((nth p.2.2.2.1 i Z47).1 ≤ (nth p.2.2.2.1 (i - 1) Z47).1) else false) = A
    cases A <;> simp
  rw [f47_eq _ (hp.segs i)] at h28
  by_cases e : f30 (nth p.2.2.2.1 i Z47).2.2.1 = 0
  · exact e
  · have en : (f30 (nth p.2.2.2.1 i Z47).2.2.1 != 0) = true := by simpa using e
    rw [en] at h28
    revert h28
    cases !(f25 (nth p.2.2.2.1 i Z47).2.1 0 65536) <;> simp [e]
theorem spots_pen {p : D24} (h : Right p) {d : D65} (hd : d.1 = p) (ht : ∀ c, 0 ≤ c → c < 256 → nth d.2.1 c 0 = glyphOf p c) (s : List UInt8) : ∀ k : Nat, k ≤ 128 → ∀ g ∈ (foldP (prog42 d s) k ([], 0)).1, (0 ≤ g.1 ∧ g.1 < len p.2.2.2.1) ∧ -17000000 ≤ g.2.1 ∧ g.2.1 ≤ 17000000 := by
  obtain ⟨d1, d2, _⟩ := d
  simp only at hd ht
  subst hd
  intro k
  induction k with
  | zero => intro _ g hg; cases hg
  | succ k ih =>
    intro hk g hg
    have ih := ih (by omega)
    obtain ⟨hx1, hx2⟩ := prog42_pen (p := d1) (d := (d1, d2, ())) rfl ht s k
    have hil := idx_len d1 s k
    have hin := idx_in (p := d1) s k
    have hr := pen_range h hin (idx d1 s k).length (by unfold len; omega)
    rw [foldP] at hg
    generalize foldP (prog42 (d1, d2, ()) s) k ([], 0) = x at hg ih hx1 hx2
    obtain ⟨a, b⟩ := x
    simp only at hg ih hx1 hx2
    have hb := byteAt_range s (k : Int)
    have hgr := glyphOf_range (p := d1) (byteAt s (k : Int))
    have hg : g ∈ (bif decide (nth d2 (byteAt s (k : Int)) 0 < 0) then a else a ++ [(nth d2 (byteAt s (k : Int)) 0, (bif decide (len a > 0) then b + f29 (d1, d2, ()) (nth a (len a - 1) Z50).1 (nth d2 (byteAt s (k : Int)) 0) else b), ())]) := hg
    rw [ht _ hb.1 hb.2] at hg
    cases hn : decide (glyphOf d1 (byteAt s (k : Int)) < 0) with
    | true => rw [hn] at hg; exact ih g hg
    | false =>
      rw [hn] at hg
      have hn := of_decide_eq_false hn
      rcases List.mem_append.1 hg with hg | hg
      · exact ih g hg
      · rw [List.mem_singleton.1 hg]
        have hkn := f37_range h (chr d1 (nth a (len a - 1) Z50).1) (chr d1 (glyphOf d1 (byteAt s (k : Int))))
        refine ⟨⟨(show 0 ≤ glyphOf d1 (byteAt s (k : Int)) by omega), (show glyphOf d1 (byteAt s (k : Int)) < len d1.2.2.2.1 by omega)⟩, ?_⟩
        show -17000000 ≤ (bif decide (len a > 0) then b + f29 (d1, d2, ()) (nth a (len a - 1) Z50).1 (glyphOf d1 (byteAt s (k : Int))) else b) ∧ (bif decide (len a > 0) then b + f29 (d1, d2, ()) (nth a (len a - 1) Z50).1 (glyphOf d1 (byteAt s (k : Int))) else b) ≤ 17000000
        rw [kern_eq, hx2]
        cases decide (len a > 0) <;> simp only [cond_true, cond_false] <;> omega
theorem line_ok {p : D24} (hp : Known p) (h0 : f24 p = 0) {z : Int} (hz : 1 ≤ z ∧ z ≤ 1048576) {s : List UInt8} (hs : s.length ≤ 128) : LineOk z p (f9 p) s := by
  have hR := right_of h0 hp.gs hp.ks
  obtain ⟨t1, t2, t3⟩ := f9_at hR hp.chars
  have hsl : len s = (s.length : Int) := rfl
  have hh := f24_head h0 hp.gs hp.ks
  have e42 := f11_eq (f9 p) s (by omega)
  have hpen := prog42_pen t1 t3 s (len s).toNat
  refine ⟨fun n n1 n2 g hg => ?_, ?_, f11_all hR t1 t2 t3 (by omega)⟩
  · rw [e42] at hg
    obtain ⟨g1, g2⟩ := spots_pen hR t1 t3 s (len s).toNat (by omega) g hg
    exact ⟨⟨⟨by omega, by omega⟩, hR.em, hh.1, hh.2, ⟨n1, n2⟩, g2⟩, g1, glyph_path hp hR g1.1 g1.2⟩
  · rw [e42]
    have h1 := congrArg List.length hpen.1
    rw [List.length_map] at h1
    have h2 := idx_len p s (len s).toNat
    show len (foldP (prog42 (f9 p) s) (len s).toNat ([], 0)).1 ≤ 128
    unfold len at *
    omega
theorem Seg_le {wrap : Int} {f : List UInt8 → Bool} : ∀ {L : List (List UInt8)} {s : List UInt8}, Seg wrap f L s → ∀ l ∈ L, List.length l ≤ s.length
  | [l], s, h, x, hx => by rw [List.mem_singleton.1 hx, h.1]; exact Nat.le_refl _
  | l :: m :: r, s, ⟨c, t, e, _, _, h⟩, x, hx => by
    have hl := congrArg List.length e
    rw [List.length_append, List.length_cons] at hl
    rcases List.mem_cons.1 hx with hx | hx
    · rw [hx]; omega
    · have := Seg_le h x hx
      omega
theorem fitR_no {p : D24} {z wrap : Int} (s : List UInt8) (h : fitR p z wrap s = false) : wrap ≠ 0 := by
  intro h0
  unfold fitR at h
  rw [h0] at h
  exact absurd h (by simp)
theorem f10_lines {p : D24} (hp : Known p) {s : List UInt8} {z wrap : Int} (h : errT p s z wrap = 0) : f10 (f9 p) s z wrap = linesOf (fitR p z wrap) s := by
  have hF := fine_of h
  unfold f10 linesOf
  rw [f10_eq (f9 p) z wrap _ _ (split_le hF.short)]
  refine parts_congr (fun t ht => ?_) _ _ (split_le hF.short)
  unfold fitP fitR
  rw [(fits_eq hp hF.font hF.size t ht).1]
theorem f4_all {p : D24} (hp : Known p) (s : List UInt8) (z wrap : Int) (hs : len s < 9223372036854775808) :
    f4_ok p s z wrap ∧ (errT p s z wrap ≠ 0 → (f4 p s z wrap).2.1 ≠ 0) ∧ (errT p s z wrap = 0 → (∀ r, runI (st8 z p (f9 p)) 0 (linesOf (fitR p z wrap) s) ([], 0) = some r → f4 p s z wrap = (r.1, 0, ())) ∧ (runI (st8 z p (f9 p)) 0 (linesOf (fitR p z wrap) s) ([], 0) = none → (f4 p s z wrap).2.1 = 3)) := by
  have h39 := f8_eq p s z wrap hs
  by_cases h : errT p s z wrap = 0
  · have hF := fine_of h
    have hR := right_of hF.font hp.gs hp.ks
    have hn : (errT p s z wrap != 0) = false := by rw [h]; rfl
    have e40 := f10_lines hp h
    have hlen := linesOf_len (fitR p z wrap) hF.short
    have hseg := lines_seg (wrap := wrap) (f := fitR p z wrap) (fun s hs => fitR_no s hs) s
    have hL : ∀ l ∈ linesOf (fitR p z wrap) s, LineOk z p (f9 p) l := fun l hl => line_ok hp hF.font hF.size (Nat.le_trans (Seg_le hseg l hl) hF.short)
    have h17 := (f21_eq hp s z wrap hs).2.1
    simp only [f21_ok, f21t, h39, hn] at h17
    have h17 := h17.2 rfl
    have hr := run8 hL (by unfold len; omega)
    refine ⟨?_, fun hne => absurd h hne, fun _ => ⟨fun r hrun => ?_, fun hrun => ?_⟩⟩
    · simp only [f4_ok, f4t, h39, hn, e40]
      rw [e40] at *
      exact ⟨f8_all p s z wrap hs, fun _ => ⟨h17.1, h17.2, ends8 hL (by unfold len; omega)⟩⟩
    · obtain ⟨q1, q2⟩ := hr.1 r hrun
      unfold y8o at q1 q2
      simp only [f4, f4t, h39, hn, e40, cond_false, q1]
      rw [← q2]
      rfl
    · obtain ⟨q1, q2⟩ := hr.2 hrun
      unfold y8o at q1 q2
      simp only [f4, f4t, h39, hn, e40, cond_false, q1, cond_true]
      exact q2
  · have hn : (errT p s z wrap != 0) = true := by simpa using h
    refine ⟨?_, fun _ => ?_, fun h0 => absurd h0 h⟩
    · simp only [f4_ok, f4t, h39, hn]
      exact ⟨f8_all p s z wrap hs, fun g => absurd g (by decide)⟩
    · simp only [f4, f4t, h39, hn, cond_true]
      exact h
end Go.Proofs.YtdgfchmfajmkiaaDoor.Am
