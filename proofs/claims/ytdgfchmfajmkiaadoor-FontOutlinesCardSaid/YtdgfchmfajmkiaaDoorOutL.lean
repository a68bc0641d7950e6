/- font.lines: a loop over the parts of a text: the function's contract. No condition beside the rounds' own. -/
import Derived.Test.YtdgfchmfajmkiaaDoorOutP1
namespace Go.Proofs.YtdgfchmfajmkiaaDoor.Am
open Go Go.Am Go.Proofs Go.RowKit Go.Shelf
def f10_next (p0 : D65) (p2 p3 : Int) (l : List (List UInt8)) (x : List UInt8) : List (List UInt8) := (f10r_o p0 p2 p3 l x).2.2.2.1
def f10 (p0 : D65) (p1 : List UInt8) (p2 p3 : Int) : List (List UInt8) := (splitB 10 p1).foldl (f10_next p0 p2 p3) []
def f10_ok (p0 : D65) (p1 : List UInt8) (p2 p3 : Int) : Prop := (List.length p1 : Int) ≤ 9223372036854775807 ∧ Rounds (f10r_ok p0 p2 p3) (f10_next p0 p2 p3) (splitB 10 p1) []
instance (p0 : D65) (p1 : List UInt8) (p2 p3 : Int) : Decidable (f10_ok p0 p1 p2 p3) := by
  unfold f10_ok
  exact @instDecidableAnd _ _ inferInstance (decRounds (fun l x => inferInstance) _ _)
def linesE (n : Nat) (p0 : D65) (p2 p3 : Int) (l : List (List UInt8)) : List (Nat × Nat × AVal) :=
  [(4, n, .box (.ptr T65) (.val (.ptr T65) p0)), (6, n + 1, .box (.int .i64) (.val (.int .i64) p2)), (7, n + 2, .box (.int .i64) (.val (.int .i64) p3)), (9, n + 3, .box (.sl .str) (.own .str l 400900 false))]
theorem linesE_next (p0 : D65) (p2 p3 : Int) (l : List (List UInt8)) (x : List UInt8) : f10r_o p0 p2 p3 l x = (p0, p2, p3, f10_next p0 p2 p3 l x, ()) := rfl
theorem round_rel {χ0 : Nat → Nat → Nat} {w0 : World} {lo hi n : Nat} {p0 : D65} {p2 p3 : Int} {l : List (List UInt8)} {G : Gh} {W : World} (h : JB χ0 w0 lo hi (linesE n p0 p2 p3 l) G W) (x : List UInt8) (tm : Array Value) (hlen : tm.size = 57)
    (h4 : tm.getD 4 undef = .pointer (some ⟨n, 0, none⟩)) (h6 : tm.getD 6 undef = .pointer (some ⟨n + 1, 0, none⟩)) (h7 : tm.getD 7 undef = .pointer (some ⟨n + 2, 0, none⟩)) (h9 : tm.getD 9 undef = .pointer (some ⟨n + 3, 0, none⟩)) (h10 : tm.getD 10 undef = .string ⟨x.toArray⟩) :
    Rel 57 G.χ W (startSt f10r_ps (p0, p2, p3, l, x, ())) { tmps := tm, defers := [] } W G := by
  refine ⟨hlen, rfl, fun s => ?_, frame0_refl, h.glob⟩
  have hr := h.reps
  have key : ∀ (A : AVal) (v : Value), A.hasOpt = false → ARep G W #[] (some s) A v → ARep G W tm (some s) A v := fun A v ho hA => ARep_tm (fun d hd => by rw [noOpt_hung ho] at hd; cases hd) hA
  show ARep G W tm (some s) (St.get (startSt f10r_ps (p0, p2, p3, l, x, ())) s) (tm.getD s undef)
  simp only [startSt, f10r_ps, mkSt, cutSt, List.cons_append, List.nil_append, St.get]
  by_cases e4 : s = 4
  · subst e4; rw [h4]; exact key _ _ rfl (hr _ (List.mem_cons_self ..))
  by_cases e6 : s = 6
  · subst e6; rw [h6]; exact key _ _ rfl (hr _ (List.mem_cons_of_mem _ (List.mem_cons_self ..)))
  by_cases e7 : s = 7
  · subst e7; rw [h7]; exact key _ _ rfl (hr _ (List.mem_cons_of_mem _ (List.mem_cons_of_mem _ (List.mem_cons_self ..))))
  by_cases e9 : s = 9
  · subst e9; rw [h9]; exact key _ _ rfl (hr _ (List.mem_cons_of_mem _ (List.mem_cons_of_mem _ (List.mem_cons_of_mem _ (List.mem_cons_self ..)))))
  by_cases e10 : s = 10
  · subst e10
    rw [h10]
    show ARep G W tm (some 10) (.val .str x) _
    simp only [ARep]
    exact VRep_str.2 rfl
  have nb : ∀ k, s ≠ k → Nat.beq k s = false := fun k hk => by cases hb : Nat.beq k s with
    | false => rfl
    | true => exact absurd (Nat.eq_of_beq_eq_true hb).symm hk
  rw [nb 4 e4, nb 6 e6, nb 7 e7, nb 9 e9, nb 10 e10]
  cases Nat.beq cutNo s <;> simp [ARep, cutNo, Nat.beq]
theorem round_post {χ0 : Nat → Nat → Nat} {w0 : World} {lo hi n : Nat} {p0 : D65} {p2 p3 : Int} {l : List (List UInt8)} {x : List UInt8} {G G' : Gh} {W W' : World} {a a' : Act} {S : St} (h : JB χ0 w0 lo hi (linesE n p0 p2 p3 l) G W) (hR : Rel 57 G.χ W S a' W' G')
    (hk : ∀ i ∈ [4, 6, 7, 9], a'.tmps.getD i undef = a.tmps.getD i undef) (hz : parseO f10r_os S = some (f10r_o p0 p2 p3 l x))
    (h4 : a.tmps.getD 4 undef = .pointer (some ⟨n, 0, none⟩)) (h6 : a.tmps.getD 6 undef = .pointer (some ⟨n + 1, 0, none⟩)) (h7 : a.tmps.getD 7 undef = .pointer (some ⟨n + 2, 0, none⟩)) (h9 : a.tmps.getD 9 undef = .pointer (some ⟨n + 3, 0, none⟩)) :
    JB χ0 w0 lo hi (linesE n p0 p2 p3 (f10_next p0 p2 p3 l x)) G' W' ∧ ∀ b, lo ≤ b → b ≤ hi → W'.heap[b]? = W.heap[b]? := by
  refine h.step hR.frame hR.glob ?_
  have hm : mkO f10r_os (f10r_o p0 p2 p3 l x) = [(4, .val (.ptr T65) p0), (6, .val (.int .i64) p2), (7, .val (.int .i64) p3), (9, .own .str (f10_next p0 p2 p3 l x) 400900 false)] := rfl
  have get : ∀ i k, (i, k) ∈ mkO f10r_os (f10r_o p0 p2 p3 l x) → ∃ s y, (i, s) ∈ f10r_os ∧ k = outV s y ∧ s.parse (S.get i) = some y := fun i k hik => parseO_at hz hik
  have key : ∀ {i : Nat} {s : Sh} {y : s.den}, s.parse (S.get i) = some y → i ∈ [4, 6, 7, 9] → ARep G' W' #[] (some i) (s.mk y) (a.tmps.getD i undef) := by
    intro i s y hp hi
    have := ARep_parse hp (hR.reps i)
    rw [hk i hi] at this
    exact ARep_tm (fun d hd => by rw [noOpt_hung mk_noOpt] at hd; cases hd) this
  have hp : ∃ y4 y6 y7 y9, (Sh.box (.ptr T65) (.val (.ptr T65))).parse (S.get 4) = some y4 ∧ (Sh.box (.int .i64) (.val (.int .i64))).parse (S.get 6) = some y6 ∧ (Sh.box (.int .i64) (.val (.int .i64))).parse (S.get 7) = some y7 ∧
      (Sh.box (.sl .str) (.own .str 400900 false)).parse (S.get 9) = some y9 ∧ (y4, y6, y7, y9, ()) = f10r_o p0 p2 p3 l x := by
    unfold f10r_os parseO at hz
    split at hz
    · rename_i y4 r4 e4 hz4
      injection hz with hz
      unfold parseO at hz4
      split at hz4
      · rename_i y6 r6 e6 hz6
        injection hz4 with hz4
        unfold parseO at hz6
        split at hz6
        · rename_i y7 r7 e7 hz7
          injection hz6 with hz6
          unfold parseO at hz7
          split at hz7
          · rename_i y9 r9 e9 hz9
            injection hz7 with hz7
            exact ⟨y4, y6, y7, y9, e4, e6, e7, e9, by rw [← hz, ← hz4, ← hz6, ← hz7]⟩
          · cases hz7
        · cases hz6
      · cases hz4
    · cases hz
  obtain ⟨y4, y6, y7, y9, q4, q6, q7, q9, e⟩ := hp
  rw [linesE_next] at e
  simp only [Prod.mk.injEq, and_true] at e
  obtain ⟨rfl, rfl, rfl, rfl⟩ := e
  intro e he
  simp only [linesE, List.mem_cons, List.not_mem_nil, or_false] at he
  rcases he with rfl | rfl | rfl | rfl
  · have := key q4 (by simp); rw [h4] at this; exact this
  · have := key q6 (by simp); rw [h6] at this; exact this
  · have := key q7 (by simp); rw [h7] at this; exact this
  · have := key q9 (by simp); rw [h9] at this; exact this
theorem lines_range {Q : Exit → Act → World → Prop} {χ0 : Nat → Nat → Nat} {w0 : World} {assign body : Code} (hbody : body = f10r_code) (a : Act) (n m : Nat) (W0 : World) (p0 : D65) (p1 : List UInt8) (p2 p3 : Int) (hok : f10_ok p0 p1 p2 p3)
    (hassign : ∀ (l : Nat) (tm : Array Value) (W : World) (K : Act → World → Prop), K { tmps := tm.setIfInBounds 10 (tm.getD 18 undef), defers := [] } W → assign.wpIn (Fence.wide.inRound l) 0 Tryd.prog (Exit.then K (fun _ _ _ => False)) { tmps := tm, defers := [] } W)
    (hlen : a.tmps.size = 57) (h17 : a.eval (.tmp 17) = .func (.func 64) #[] #[.pointer (some ⟨m + 1, 0, none⟩), .pointer (some ⟨m, 0, none⟩), .pointer (some ⟨m + 2, 0, none⟩)])
    (h4 : a.tmps.getD 4 undef = .pointer (some ⟨n, 0, none⟩)) (h6 : a.tmps.getD 6 undef = .pointer (some ⟨n + 1, 0, none⟩)) (h7 : a.tmps.getD 7 undef = .pointer (some ⟨n + 2, 0, none⟩)) (h9 : a.tmps.getD 9 undef = .pointer (some ⟨n + 3, 0, none⟩))
    (hm : W0.heap.size = m + 3) (s : ByteArray) (hs : s = ⟨p1.toArray⟩) (hIt : It W0 (m + 1) m (m + 2) 10 s)
    (hJ : ∀ L, ∃ G, JB χ0 w0 m (m + 4) (linesE n p0 p2 p3 []) G ((W0.alloc (.deferred (some []))).alloc (.loop L)))
    (hQ : ∀ W G, JB χ0 w0 m (m + 4) (linesE n p0 p2 p3 (f10 p0 p1 p2 p3)) G W → W.heap[m + 3]? = some (.deferred (some [])) → Q .normal { a with defers := [{ target := .collected (m + 3), args := #[] }] ++ a.defers } W) :
    (Code.rangeFunc (.tmp 17) #[18] assign body).wpIn Fence.wide 2 Tryd.prog Q a W0 := by
  subst hbody
  refine wpIn_rangeFunc ?_
  intro fn hfn
  obtain ⟨rec, hrec⟩ : ∃ rec : LoopState → Option Code → Loop, rec = fun st pe => { state := st, pending := pe, fn, tmps := a.tmps, params := #[18], assign, body := f10r_code, defers := W0.heap.size } := ⟨_, rfl⟩
  obtain ⟨W1, hW1⟩ : ∃ W1, (W0.alloc (.deferred (some []))).alloc (.loop (rec .ready none)) = W1 := ⟨_, rfl⟩
  have hL1 : W1.heap[m + 4]? = some (.loop (rec .ready none)) := by
    rw [← hW1]; have := World.alloc_heap_new (W0.alloc (.deferred (some []))) (.loop (rec .ready none)); rw [World.size_alloc, hm] at this; exact this
  have hK1 : W1.heap[m + 3]? = some (.deferred (some [])) := by
    rw [← hW1, Below.heap_alloc _ _ _ (by rw [World.size_alloc, hm]; omega)]; have := World.alloc_heap_new W0 (.deferred (some [])); rwa [hm] at this
  have hold : ∀ k, k < m + 3 → W1.heap[k]? = W0.heap[k]? := fun k hk => by
    rw [← hW1, Below.heap_alloc _ _ _ (by rw [World.size_alloc, hm]; omega), Below.heap_alloc _ _ _ (by rw [hm]; omega)]
  have hItmono : ∀ {A B : World} {s : ByteArray}, (∀ k, m ≤ k → k ≤ m + 2 → B.heap[k]? = A.heap[k]?) → It A (m + 1) m (m + 2) 10 s → It B (m + 1) m (m + 2) 10 s := by
    intro A B s hAB h
    unfold It World.cell? World.frozen? at h ⊢
    simp only at h ⊢
    rw [hAB (m + 1) (by omega) (by omega), hAB m (by omega) (by omega), hAB (m + 2) (by omega) (by omega)]
    exact h
  refine ⟨m + 4, [{ target := .collected (m + 3), args := #[] }], W1, { target := .fn (.func 64) #[.pointer (some ⟨m + 1, 0, none⟩), .pointer (some ⟨m, 0, none⟩), .pointer (some ⟨m + 2, 0, none⟩)], args := #[.func (.yield (m + 4)) #[] #[]] }, W1, 64,
    #[.func (.yield (m + 4)) #[] #[]] ++ #[.pointer (some ⟨m + 1, 0, none⟩), .pointer (some ⟨m, 0, none⟩), .pointer (some ⟨m + 2, 0, none⟩)], W1, ?_, ?_, ?_, ?_, fun _ => by omega, ?_⟩
  · have := run_enterLoop_outer (P := Tryd.prog) (w := W0) fn a.tmps #[18] assign f10r_code
    rw [← hW1, hrec]
    rw [hm] at this ⊢
    exact this
  · simp only [resolve, h17]
    simp [go_sem]
  · intro f' _; trivial
  · simp [invoke, go_sem]
  · have hxs : splitB 10 p1 = splitB 10 s.data.toList := by rw [hs]
    have hs0 : s.size ≤ maxLen := by
      have := hok.1
      rw [hs]
      show p1.toArray.size ≤ maxLen
      unfold maxLen
      simp only [List.size_toArray]
      omega
    obtain ⟨G1, hG1⟩ := hJ (rec .ready none)
    rw [hW1] at hG1
    refine (splitSeq_iter (m + 4) (m + 1) m (m + 2) (by omega) (by omega) 10
      (fun pre W => (∃ G, JB χ0 w0 m (m + 4) (linesE n p0 p2 p3 (pre.foldl (f10_next p0 p2 p3) [])) G W) ∧ W.heap[m + 4]? = some (.loop (rec .ready none)) ∧ W.heap[m + 3]? = some (.deferred (some [])))
      (splitB 10 p1) ?_ ?_ s hs0 hxs W1 ⟨⟨G1, hG1⟩, hL1, hK1⟩ (hItmono (fun k _ hk => hold k (by omega)) hIt)).mono ?_
    · rintro pre W v ⟨⟨G, hG⟩, hl, hk⟩
      exact ⟨⟨G, hG.setCell (Nat.le_refl _) (by omega) v⟩, (Below.heap_setCell W ⟨m, 0, none⟩ v (m + 4) (show m + 4 ≠ m by omega)).trans hl, (Below.heap_setCell W ⟨m, 0, none⟩ v (m + 3) (show m + 3 ≠ m by omega)).trans hk⟩
    · rintro pre x rest W s' hx ⟨⟨G, hG⟩, hl, hk⟩ hI
      have hlt : m + 4 < W.heap.size := (Array.getElem?_eq_some_iff.1 hl).1
      have hy := run_yield (P := Tryd.prog) (args := #[.string ⟨x.toArray⟩]) hl (by rw [hrec]; rfl)
      rw [hrec] at hy
      have hy : (Instr.yield (m + 4) #[.string ⟨x.toArray⟩]).run Tryd.prog W = .ok (.round (m + 4) fn (a.tmps.setIfInBounds 18 (.string ⟨x.toArray⟩)) assign f10r_code) W := by
        rw [hy]
        simp
      refine ⟨fn, _, assign, f10r_code, hy, roundIn_of_wpIn hfn (hassign _ _ W _ ⟨_, run_beginRound hl (by rw [hrec]), ?_⟩)⟩
      have hG2 := hG.putObj (b := m + 4) (by omega) (Nat.le_refl _) (.loop { rec .ready none with state := .busy })
      have hl2 : (W.putObj (m + 4) (.loop { rec .ready none with state := .busy })).heap[m + 4]? = some (.loop { rec .ready none with state := .busy }) := World.putObj_heap_same hlt
      have htm : ∀ i, i ≠ 18 → i ≠ 10 → ((a.tmps.setIfInBounds 18 (.string ⟨x.toArray⟩)).setIfInBounds 10 ((a.tmps.setIfInBounds 18 (.string ⟨x.toArray⟩)).getD 18 undef)).getD i undef = a.tmps.getD i undef := by
        intro i h1 h2
        simp only [Array.getD_eq_getD_getElem?]
        rw [Array.getElem?_setIfInBounds_ne (Ne.symm h2), Array.getElem?_setIfInBounds_ne (Ne.symm h1)]
      have ht10 : ((a.tmps.setIfInBounds 18 (.string ⟨x.toArray⟩)).setIfInBounds 10 ((a.tmps.setIfInBounds 18 (.string ⟨x.toArray⟩)).getD 18 undef)).getD 10 undef = .string ⟨x.toArray⟩ := by
        simp only [Array.getD_eq_getD_getElem?]
        rw [Array.getElem?_setIfInBounds_self_of_lt (by simp [hlen]), Array.getElem?_setIfInBounds_self_of_lt (by simp [hlen])]
        rfl
      have hokr : f10r_ok p0 p2 p3 (pre.foldl (f10_next p0 p2 p3) []) x := Rounds_at (by have := hok.2; rw [hx] at this; exact this)
      have hRel := round_rel hG2 x ((a.tmps.setIfInBounds 18 (.string ⟨x.toArray⟩)).setIfInBounds 10 ((a.tmps.setIfInBounds 18 (.string ⟨x.toArray⟩)).getD 18 undef)) (by simp [hlen])
        ((htm 4 (by omega) (by omega)).trans h4) ((htm 6 (by omega) (by omega)).trans h6) ((htm 7 (by omega) (by omega)).trans h7) ((htm 9 (by omega) (by omega)).trans h9) ht10
      refine wpIn_mono (f10r_is (p0, p2, p3, pre.foldl (f10_next p0 p2 p3) [], x, ()) hokr (some (m + 4)) _ _ _ _ _ hRel) ?_
      rintro e a' W' ⟨rfl, hkeep, G', d, hR', hz⟩
      obtain ⟨hG3, hsame⟩ := round_post (x := x) hG2 hR' hkeep hz ((htm 4 (by omega) (by omega)).trans h4) ((htm 6 (by omega) (by omega)).trans h6) ((htm 7 (by omega) (by omega)).trans h7) ((htm 9 (by omega) (by omega)).trans h9)
      have hl3 : W'.heap[m + 4]? = some (.loop { rec .ready none with state := .busy }) := (hsame (m + 4) (by omega) (Nat.le_refl _)).trans hl2
      have hk3 : W'.heap[m + 3]? = some (.deferred (some [])) := (hsame (m + 3) (by omega) (by omega)).trans ((World.putObj_heap_other (by omega)).trans hk)
      have hend := run_endRound (P := Tryd.prog) none hl3
      refine ⟨_, _, hend, rfl, ⟨⟨G', ?_⟩, ?_, (World.putObj_heap_other (by omega)).trans hk3⟩, ?_⟩
      · rw [List.foldl_append]
        exact hG3.putObj (by omega) (Nat.le_refl _) _
      · rw [World.putObj_heap_same (Array.getElem?_eq_some_iff.1 hl3).1, hrec]
        rfl
      · refine hItmono (fun k h1 h2 => ?_) hI
        rw [World.putObj_heap_other (by omega), hsame k h1 (by omega), World.putObj_heap_other (by omega)]
    · rintro e W ⟨⟨v, rfl⟩, ⟨G, hG⟩, hl, hk⟩
      refine ⟨none, _, by have := run_endLoop (P := Tryd.prog) hl (by rw [hrec]; simp); rw [hrec] at this; exact this, ?_⟩
      exact hQ _ G (hG.putObj (by omega) (Nat.le_refl _) _) ((World.putObj_heap_other (by omega)).trans hk)
theorem lines_start {G0 : Gh} {w W : World} {p0 : D65} {p2 p3 : Int} {v1 : Value} (hglob : GlobOk G0.χ w) (hC : CRep G0.χ w (.ptr T65) p0 [v1]) (hold : ∀ k, k < w.heap.size → W.heap[k]? = w.heap[k]?) (h4 : W.heap[w.heap.size]? = some (.cells #[v1] 36 (0, 0)))
    (h6 : W.heap[w.heap.size + 1]? = some (.cells #[.int .i64 p2] 3 (0, 0))) (h7 : W.heap[w.heap.size + 2]? = some (.cells #[.int .i64 p3] 3 (0, 0))) (h9 : W.heap[w.heap.size + 3]? = some (.cells #[.slice none 0 0] 38 (0, 0))) (hsz : w.heap.size + 8 < W.heap.size)
    (hst : W.os = w.os ∧ W.tape = w.tape ∧ W.output = w.output) : ∃ G, JB G0.χ w (w.heap.size + 4) (w.heap.size + 4 + 4) (linesE w.heap.size p0 p2 p3 []) G W := by
  obtain ⟨n, hn⟩ : ∃ n, w.heap.size = n := ⟨_, rfl⟩
  rw [hn] at hold h4 h6 h7 h9 hsz ⊢
  let G : Gh := { χ := fun b o => if b = n then cBox 4 else if b = n + 1 then cBox 6 else if b = n + 2 then cBox 7 else if b = n + 3 then cBox 9 else if n ≤ b then 1 else G0.χ b o,
                  β := fun s => if s = 4 then n else if s = 6 then n + 1 else if s = 7 then n + 2 else n + 3, γ := G0.γ }
  have hχ : ∀ b o, b < n → G.χ b o = G0.χ b o := fun b o hb => by
    show (if b = n then cBox 4 else if b = n + 1 then cBox 6 else if b = n + 2 then cBox 7 else if b = n + 3 then cBox 9 else if n ≤ b then 1 else G0.χ b o) = _
    rw [if_neg (by omega), if_neg (by omega), if_neg (by omega), if_neg (by omega), if_neg (by omega)]
  have hc : ∀ b o, b < n → W.cell? ⟨b, o, none⟩ = w.cell? ⟨b, o, none⟩ := fun b o hb => by simp only [World.cell?, hold b hb]
  have hprot : ∀ b o, b < w.heap.size → G0.χ b o = 0 → G.χ b o = 0 ∧ W.cell? ⟨b, o, none⟩ = w.cell? ⟨b, o, none⟩ := fun b o hb h0 => ⟨by rw [hχ b o (by omega)]; exact h0, hc b o (by omega)⟩
  refine ⟨G, ⟨hst.1, hst.2.1, hst.2.2, by omega, fun b hb _ => hold b (by omega), fun b o hb _ => ⟨hχ b o (by omega), hc b o (by omega)⟩⟩, GlobOk_mono hprot hglob, ?_, ?_, by omega, by omega⟩
  · intro e he
    simp only [linesE, List.mem_cons, List.not_mem_nil, or_false] at he
    rcases he with rfl | rfl | rfl | rfl
    · refine ⟨rfl, ⟨by kernel_rfl, rfl⟩, #[v1], 36, h4, ?_, fun o => if_pos rfl⟩
      exact ⟨rfl, rfl, CRep_mono hprot hC⟩
    · refine ⟨rfl, ⟨rfl, rfl⟩, _, 3, h6, ?_, fun o => ?_⟩
      · refine ⟨rfl, rfl, ?_⟩
        show [Value.int .i64 p2] = [.int .i64 p2]
        rfl
      · show (if n + 1 = n then cBox 4 else if n + 1 = n + 1 then cBox 6 else _) = _
        rw [if_neg (by omega), if_pos rfl]
    · refine ⟨rfl, ⟨rfl, rfl⟩, _, 3, h7, ?_, fun o => ?_⟩
      · refine ⟨rfl, rfl, ?_⟩
        show [Value.int .i64 p3] = [.int .i64 p3]
        rfl
      · show (if n + 2 = n then cBox 4 else if n + 2 = n + 1 then cBox 6 else if n + 2 = n + 2 then cBox 7 else _) = _
        rw [if_neg (by omega), if_neg (by omega), if_pos rfl]
    · refine ⟨rfl, ⟨rfl, rfl⟩, _, 38, h9, ?_, fun o => ?_⟩
      · exact ⟨rfl, _, rfl, .inl ⟨⟨rfl, rfl⟩, .inl ⟨rfl, rfl⟩⟩⟩
      · show (if n + 3 = n then cBox 4 else if n + 3 = n + 1 then cBox 6 else if n + 3 = n + 2 then cBox 7 else if n + 3 = n + 3 then cBox 9 else _) = _
        rw [if_neg (by omega), if_neg (by omega), if_neg (by omega), if_pos rfl]
  · intro b h1 h2 o
    show (if b = n then cBox 4 else if b = n + 1 then cBox 6 else if b = n + 2 then cBox 7 else if b = n + 3 then cBox 9 else if n ≤ b then 1 else G0.χ b o) = _
    rw [if_neg (by omega), if_neg (by omega), if_neg (by omega), if_neg (by omega), if_pos (by omega)]
theorem lines_end {χ0 : Nat → Nat → Nat} {w0 W : World} {lo hi n : Nat} {p0 : D65} {p2 p3 : Int} {l : List (List UInt8)} {G : Gh} (h : JB χ0 w0 lo hi (linesE n p0 p2 p3 l) G W) : ∃ v, W.cell? ⟨n + 3, 0, none⟩ = some v ∧ ARep G W #[] none (.val (.sl .str) l) v := by
  have := h.reps (9, n + 3, .box (.sl .str) (.own .str l 400900 false)) (by simp [linesE])
  simp only [ARep] at this
  obtain ⟨hp, _, cur, e, h1, h2, _⟩ := this
  simp only [Value.pointer.injEq, Option.some.injEq, Addr.mk.injEq] at hp
  simp only [TRep] at h2
  obtain ⟨_, v, hv, ho⟩ := h2
  refine ⟨v, ?_, ?_⟩
  · simp only [World.cell?]
    rw [hp.1, h1]
    have : cur = #[v] := by rw [← hv]
    subst this
    rfl
  · simp only [ARep]
    rw [VRep_one rfl]
    exact ORep_CRep ho
set_option maxHeartbeats 4000000 in
set_option maxRecDepth 100000 in
theorem lines_any (p0 : D65) (p1 : List UInt8) (p2 p3 : Int) (hok : f10_ok p0 p1 p2 p3) (G0 : Gh) (w : World) (v1 : Value) (hglob : GlobOk G0.χ w) (h1 : VRep G0.χ w (.ptr T65) p0 v1) :
    Calls Tryd.prog 10 #[v1, .string ⟨p1.toArray⟩, .int .i64 p2, .int .i64 p3] w fun e w' => ∃ r G', e = .returned r ∧ Frame0 G0.χ w G'.χ w' ∧ ARep G' w' #[] none (.val (.sl .str) (f10 p0 p1 p2 p3)) r := by
  refine (callsIn_wide (n := 2)).1 ?_
  rw [VRep_one rfl] at h1
  have hC := h1
  unfold CRep at h1
  obtain ⟨b0, o0, us, hv, _, _⟩ := h1
  injection hv with hv _
  subst hv
  have Hok := Lib.hid hok
  have HC := Lib.hid hC
  clear hok hC
  obtain ⟨s, hs⟩ : ∃ s : ByteArray, (⟨p1.toArray⟩ : ByteArray) = s := ⟨_, rfl⟩
  rw [hs]
  have Hs := Lib.hid hs
  clear hs
  refine callsIn_of_wp_marks Tryd.func10 rfl trivial ?_ rfl
  simp only [Tryd.ntmps10, List.size_toArray, List.length_cons, List.length_nil, Nat.reduceAdd, Nat.reduceSub, Array.replicate_succ, Array.replicate_zero, List.push_toArray, List.append_toArray, List.nil_append, List.cons_append]
  gi_wp2_with (refine ⟨trivial, ?_⟩; gi_at_call 26; refine (callsIn_wide.2 (SplitSeq_any _ _ _)).mono ?_; rintro e w' ⟨rfl, rfl⟩)
  have hsz4 : ((((w.alloc (.cells #[.pointer (some ⟨b0, o0, none⟩)] 36)).alloc (.cells #[.int .i64 p2] 3)).alloc (.cells #[.int .i64 p3] 3)).alloc (.cells #[.slice none 0 0] 38)).heap.size = w.heap.size + 4 := by simp only [World.size_alloc]
  refine lines_range (χ0 := G0.χ) (w0 := w) (by kernel_rfl) _ w.heap.size (w.heap.size + 4) _ p0 p1 p2 p3 Hok.out ?assign (by simp) (by simp [Act.eval]) (by simp) (by simp) (by simp) (by simp) ?size s Hs.out.symm ?it ?start ?done
  case assign =>
    intro l tm W K hK
    refine wpIn_region ?_
    simp only [List.size_toArray, List.length_cons, List.length_nil, Nat.reduceAdd, List.range_succ, List.range_zero, List.nil_append, wpOpsIn]
    simp [Region.wanted, Oper.wpIn, Oper.uponIn, go_sem, Oper.semAt_some, execOp, Act.put, Act.eval, Exit.then]
    simpa using hK
  case size => simp only [seqWorld, World.size_alloc]
  case it =>
    have := seqWorld_It ((((w.alloc (.cells #[.pointer (some ⟨b0, o0, none⟩)] 36)).alloc (.cells #[.int .i64 p2] 3)).alloc (.cells #[.int .i64 p3] 3)).alloc (.cells #[.slice none 0 0] 38)) s 10
    rw [hsz4] at this
    exact this
  case start =>
    intro L
    have hz : ∀ k, k < w.heap.size + 4 → (((seqWorld ((((w.alloc (.cells #[.pointer (some ⟨b0, o0, none⟩)] 36)).alloc (.cells #[.int .i64 p2] 3)).alloc (.cells #[.int .i64 p3] 3)).alloc (.cells #[.slice none 0 0] 38)) s ⟨#[10]⟩).alloc (.deferred (some []))).alloc (.loop L)).heap[k]? =
        ((((w.alloc (.cells #[.pointer (some ⟨b0, o0, none⟩)] 36)).alloc (.cells #[.int .i64 p2] 3)).alloc (.cells #[.int .i64 p3] 3)).alloc (.cells #[.slice none 0 0] 38)).heap[k]? := by
      intro k hk
      unfold seqWorld
      rw [Below.heap_alloc _ _ _ (by simp only [World.size_alloc]; omega), Below.heap_alloc _ _ _ (by simp only [World.size_alloc]; omega), Below.heap_alloc _ _ _ (by simp only [World.size_alloc]; omega), Below.heap_alloc _ _ _ (by simp only [World.size_alloc]; omega), Below.heap_alloc _ _ _ (by simp only [World.size_alloc]; omega)]
    refine lines_start (W := ((seqWorld ((((w.alloc (.cells #[.pointer (some ⟨b0, o0, none⟩)] 36)).alloc (.cells #[.int .i64 p2] 3)).alloc (.cells #[.int .i64 p3] 3)).alloc (.cells #[.slice none 0 0] 38)) s ⟨#[10]⟩).alloc (.deferred (some []))).alloc (.loop L)) hglob HC.out (fun k hk => ?_) ?_ ?_ ?_ ?_ ?_ ⟨rfl, rfl, rfl⟩
    · rw [hz k (by omega), Below.heap_alloc _ _ _ (by simp only [World.size_alloc]; omega), Below.heap_alloc _ _ _ (by simp only [World.size_alloc]; omega), Below.heap_alloc _ _ _ (by simp only [World.size_alloc]; omega), Below.heap_alloc _ _ _ hk]
    · rw [hz _ (by omega), Below.heap_alloc _ _ _ (by simp only [World.size_alloc]; omega), Below.heap_alloc _ _ _ (by simp only [World.size_alloc]; omega), Below.heap_alloc _ _ _ (by simp only [World.size_alloc]; omega)]
      exact World.alloc_heap_new _ _
    · rw [hz _ (by omega), Below.heap_alloc _ _ _ (by simp only [World.size_alloc]; omega), Below.heap_alloc _ _ _ (by simp only [World.size_alloc]; omega)]
      have := World.alloc_heap_new (w.alloc (.cells #[.pointer (some ⟨b0, o0, none⟩)] 36)) (.cells #[.int .i64 p2] 3)
      simp only [World.size_alloc] at this
      exact this
    · rw [hz _ (by omega), Below.heap_alloc _ _ _ (by simp only [World.size_alloc]; omega)]
      have := World.alloc_heap_new ((w.alloc (.cells #[.pointer (some ⟨b0, o0, none⟩)] 36)).alloc (.cells #[.int .i64 p2] 3)) (.cells #[.int .i64 p3] 3)
      simp only [World.size_alloc] at this
      exact this
    · rw [hz _ (by omega)]
      have := World.alloc_heap_new (((w.alloc (.cells #[.pointer (some ⟨b0, o0, none⟩)] 36)).alloc (.cells #[.int .i64 p2] 3)).alloc (.cells #[.int .i64 p3] 3)) (.cells #[.slice none 0 0] 38)
      simp only [World.size_alloc] at this
      exact this
    · simp only [seqWorld, World.size_alloc]; omega
  case done =>
    intro W G hJ hK
    obtain ⟨v, hc9, hA⟩ := lines_end hJ
    have HJ := Lib.hid hJ
    have HA := Lib.hid hA
    clear hJ hA
    gi_wp2
    refine ⟨by simp, .inl ⟨_, _, rfl, run_takeDeferred hK, ?_⟩⟩
    have hJ2 := HJ.out.putObj (b := w.heap.size + 4 + 3) (by omega) (by omega) (.deferred none)
    obtain ⟨v', hv', hA'⟩ := lines_end hJ2
    have hsame : v' = v := by
      have : (W.putObj (w.heap.size + 4 + 3) (.deferred none)).cell? ⟨w.heap.size + 3, 0, none⟩ = W.cell? ⟨w.heap.size + 3, 0, none⟩ := by
        unfold World.cell?
        rw [World.putObj_heap_other (show (⟨w.heap.size + 3, 0, none⟩ : Addr).block ≠ w.heap.size + 4 + 3 by show w.heap.size + 3 ≠ _; omega)]
      rw [hv', hc9] at this
      injection this
    subst hsame
    exact ⟨_, results_tmp rfl _ _ _, _, G, rfl, hJ2.frame, by simpa using hA'⟩
def f10_ps : List (Nat × Sh) := [(0, (.val (.ptr T65))), (1, (.val .str)), (2, (.val (.int .i64))), (3, (.val (.int .i64)))]
def f10_rs : Sh := (.val (.sl .str))
def f10_os : List (Nat × Sh) := []
def f10_spec : Am.Spec := fnSpec f10_ps f10_rs f10_os (fun x => f10_ok x.1 x.2.1 x.2.2.1 x.2.2.2.1) (fun x => f10 x.1 x.2.1 x.2.2.1 x.2.2.2.1) (fun _ => ())
theorem f10_is : SpecOk Tryd.prog 10 f10_spec := spec_hand4 (τ := .ptr T65) (σ := .str) (υ := .int .i64) (ω := .int .i64) (rs := .val (.sl .str)) (ok := f10_ok) (F := f10) ⟨_, Tryd.func10, by kernel_rfl, by decide⟩ fun p0 p1 p2 p3 hok G w v1 v2 v3 v4 hg h1 h2 h3 h4 => by
  have e2 := VRep_str.1 h2
  have e3 := VRep_int.1 h3
  have e4 := VRep_int.1 h4
  subst e2 e3 e4
  exact lines_any p0 p1 p2 p3 hok G w v1 hg h1
end Go.Proofs.YtdgfchmfajmkiaaDoor.Am
