/- The abstract machine, part 4: a typed interpreter for the program's code, and that it is sound. No condition. -/
import Derived.Test.YtleannhgpeiooaaGreatDoorMach3
/- Plain laws on counted loops. No condition. -/
namespace Go.Am
open Go

theorem loopN_end {X : Type} {g : X → Bool} {next : X → X} {x : X} (h : g x = false) : ∀ F, loopN g next F x = x := by
  intro F
  cases F with
  | zero => rfl
  | succ F => simp [loopN, h]

/-- A loop by a measure: what holds at the end, and that it ends. -/
theorem loop_ind {X : Type} {g : X → Bool} {next : X → X} (inv : X → Prop) (m : X → Nat) (hstep : ∀ x, inv x → g x = true → inv (next x) ∧ m (next x) < m x) :
    ∀ {x : X}, inv x → m x < fuel → inv (loopEnd g next x) ∧ g (loopEnd g next x) = false := by
  have key : ∀ (F : Nat) (x : X), inv x → m x < F → inv (loopN g next F x) ∧ g (loopN g next F x) = false := by
    intro F
    induction F with
    | zero => intro x _ h; omega
    | succ F ih =>
      intro x hx hm
      simp only [loopN]
      cases hg : g x with
      | false => simp only [cond_false]; exact ⟨hx, hg⟩
      | true =>
        simp only [cond_true]
        have := hstep x hx hg
        exact ih _ this.1 (by omega)
  intro x hx hm
  exact key fuel x hx hm

theorem ends_ind {X : Type} {g : X → Bool} {next : X → X} {ok : X → Prop} (inv : X → Prop) (m : X → Nat) (hok : ∀ x, inv x → ok x) (hstep : ∀ x, inv x → g x = true → inv (next x) ∧ m (next x) < m x) :
    ∀ {x : X}, inv x → m x < fuel → Am.Ends g next ok x := by
  have key : ∀ (F : Nat) (x : X), inv x → m x < F → ∃ k, k < F ∧ Runs g next ok k x := by
    intro F
    induction F with
    | zero => intro x _ h; omega
    | succ F ih =>
      intro x hx hm
      cases hg : g x with
      | false => exact ⟨0, by omega, hok x hx, hg⟩
      | true =>
        have := hstep x hx hg
        obtain ⟨k, hk, hr⟩ := ih _ this.1 (by omega)
        exact ⟨k + 1, by omega, hok x hx, hg, hr⟩
  intro x hx hm
  exact key fuel x hx hm

/-- The loop that looks for the first place at which something is so. -/
theorem scan {g : Int × Unit → Bool} {next : Int × Unit → Int × Unit} {n : Int} {c : Int → Bool} (hn0 : 0 ≤ n) (hn : n < 9223372036854775808) (hg : ∀ x, g x = (decide (x.1 < n) && !(c x.1))) (hx : ∀ x, next x = (x.1 + 1, ())) :
    ∃ j, 0 ≤ j ∧ j ≤ n ∧ loopEnd g next (0, ()) = (j, ()) ∧ (∀ k, 0 ≤ k → k < j → c k = false) ∧ (j < n → c j = true) := by
  have h := loop_ind (g := g) (next := next) (fun x => 0 ≤ x.1 ∧ x.1 ≤ n ∧ ∀ k, 0 ≤ k → k < x.1 → c k = false) (fun x => (n - x.1).toNat) (fun x hi hgx => by
    rw [hg] at hgx
    simp only [Bool.and_eq_true, decide_eq_true_eq, Bool.not_eq_true'] at hgx
    rw [hx]
    refine ⟨⟨by omega, by omega, fun k h1 h2 => ?_⟩, by simp only; omega⟩
    by_cases e : k = x.1
    · rw [e]; exact hgx.2
    · exact hi.2.2 k h1 (by simp only at h2; omega)) (x := (0, ())) ⟨by simp, hn0, fun k h1 h2 => by simp only at h2; omega⟩ (by simp only [fuel]; omega)
  generalize hj : loopEnd g next (0, ()) = e at h
  obtain ⟨⟨h1, h2, h3⟩, h4⟩ := h
  refine ⟨e.1, h1, h2, rfl, h3, fun hlt => ?_⟩
  rw [hg] at h4
  simp only [Bool.and_eq_false_iff, decide_eq_false_iff_not, Bool.not_eq_false'] at h4
  rcases h4 with h4 | h4
  · exact absurd hlt h4
  · exact h4

theorem scan_ends {g : Int × Unit → Bool} {next : Int × Unit → Int × Unit} {ok : Int × Unit → Prop} {n : Int} (hn0 : 0 ≤ n) (hn : n < 9223372036854775808) (hg : ∀ x, g x = true → x.1 < n) (hx : ∀ x, next x = (x.1 + 1, ()))
    (hok : ∀ x : Int × Unit, 0 ≤ x.1 → x.1 ≤ n → ok x) : Am.Ends g next ok (0, ()) :=
  ends_ind (fun x => 0 ≤ x.1 ∧ x.1 ≤ n) (fun x => (n - x.1).toNat) (fun x h => hok x h.1 h.2) (fun x hi hgx => by
    have := hg x hgx
    rw [hx]
    refine ⟨⟨by simp only; omega, by simp only; omega⟩, by simp only; omega⟩) ⟨by simp, hn0⟩ (by simp only [fuel]; omega)

/-- Is something so at some place ahead of n? -/
def anyI (n : Int) (c : Int → Bool) : Bool := (List.range n.toNat).any fun i => c (i : Int)

theorem scan_any {g : Int × Unit → Bool} {next : Int × Unit → Int × Unit} {n : Int} {c : Int → Bool} (hn0 : 0 ≤ n) (hn : n < 9223372036854775808) (hg : ∀ x, g x = (decide (x.1 < n) && !(c x.1))) (hx : ∀ x, next x = (x.1 + 1, ())) :
    (decide ((loopEnd g next (0, ())).1 < n) && c (loopEnd g next (0, ())).1) = anyI n c := by
  obtain ⟨j, h1, h2, h3, h4, h5⟩ := scan hn0 hn hg hx
  rw [h3]
  rw [Bool.eq_iff_iff]
  simp only [Bool.and_eq_true, decide_eq_true_eq, anyI, List.any_eq_true, List.mem_range]
  constructor
  · rintro ⟨h, h'⟩; exact ⟨j.toNat, by omega, by rw [Int.toNat_of_nonneg h1]; exact h'⟩
  · rintro ⟨i, hi, hc⟩
    by_cases hj : j < n
    · exact ⟨hj, h5 hj⟩
    · have := h4 (i : Int) (by omega) (by omega)
      rw [this] at hc; cases hc

theorem anyI_congr {n m : Int} {c d : Int → Bool} (h : n = m) (h' : ∀ i, 0 ≤ i → i < n → c i = d i) : anyI n c = anyI m d := by
  subst h
  unfold anyI
  rw [Bool.eq_iff_iff]
  simp only [List.any_eq_true, List.mem_range]
  constructor
  · rintro ⟨i, hi, hc⟩; exact ⟨i, hi, by rw [← h' i (by omega) (by omega)]; exact hc⟩
  · rintro ⟨i, hi, hc⟩; exact ⟨i, hi, by rw [h' i (by omega) (by omega)]; exact hc⟩

theorem len_nonneg {α : Type} (l : List α) : 0 ≤ len l := by simp [len]

/-- A counted loop that carries a value along. -/
def foldI {A : Type} (step : A → Int → A) : Nat → A → A
  | 0, a => a
  | k + 1, a => step (foldI step k a) (k : Int)

theorem fold_loop {A : Type} {g : A × Int × Unit → Bool} {next : A × Int × Unit → A × Int × Unit} {n : Int} {step : A → Int → A} (hn0 : 0 ≤ n) (hn : n < 9223372036854775808) (hg : ∀ x, g x = decide (x.2.1 < n)) (hx : ∀ x, next x = (step x.1 x.2.1, x.2.1 + 1, ())) (a : A) :
    loopEnd g next (a, 0, ()) = (foldI step n.toNat a, n, ()) := by
  have h := loop_ind (g := g) (next := next) (fun x => 0 ≤ x.2.1 ∧ x.2.1 ≤ n ∧ x.1 = foldI step x.2.1.toNat a) (fun x => (n - x.2.1).toNat) (fun x hi hgx => by
    rw [hg] at hgx
    have hgx := of_decide_eq_true hgx
    rw [hx]
    refine ⟨⟨by simp only; omega, by simp only; omega, ?_⟩, by simp only; omega⟩
    simp only
    have e : (x.2.1 + 1).toNat = x.2.1.toNat + 1 := by omega
    rw [e, foldI, ← hi.2.2, Int.toNat_of_nonneg hi.1]) (x := (a, 0, ())) ⟨by simp, hn0, rfl⟩ (by simp only [fuel]; omega)
  generalize loopEnd g next (a, 0, ()) = e at h
  obtain ⟨⟨h1, h2, h3⟩, h4⟩ := h
  rw [hg] at h4
  have h4 := of_decide_eq_false h4
  obtain ⟨e1, e2, e3⟩ := e
  simp only at h1 h2 h3 h4
  have : e2 = n := by omega
  subst this
  rw [h3]

theorem fold_ends {A : Type} {g : A × Int × Unit → Bool} {next : A × Int × Unit → A × Int × Unit} {ok : A × Int × Unit → Prop} {n : Int} {step : A → Int → A} (hn0 : 0 ≤ n) (hn : n < 9223372036854775808) (hg : ∀ x, g x = decide (x.2.1 < n)) (hx : ∀ x, next x = (step x.1 x.2.1, x.2.1 + 1, ())) (a : A)
    (hok : ∀ i : Int, 0 ≤ i → i ≤ n → ok (foldI step i.toNat a, i, ())) : Am.Ends g next ok (a, 0, ()) :=
  ends_ind (fun x => 0 ≤ x.2.1 ∧ x.2.1 ≤ n ∧ x.1 = foldI step x.2.1.toNat a) (fun x => (n - x.2.1).toNat) (fun x h => by
    have := hok x.2.1 h.1 h.2.1
    rw [← h.2.2] at this
    exact this) (fun x hi hgx => by
    rw [hg] at hgx
    have hgx := of_decide_eq_true hgx
    rw [hx]
    refine ⟨⟨by simp only; omega, by simp only; omega, ?_⟩, by simp only; omega⟩
    simp only
    have e : (x.2.1 + 1).toNat = x.2.1.toNat + 1 := by omega
    rw [e, foldI, ← hi.2.2, Int.toNat_of_nonneg hi.1]) ⟨by simp, hn0, rfl⟩ (by simp only [fuel]; omega)

theorem foldI_inv {A : Type} {step : A → Int → A} (inv : A → Prop) {n : Nat} (hs : ∀ a i, 0 ≤ i → i < (n : Int) → inv a → inv (step a i)) {a : A} (h : inv a) : ∀ k, k ≤ n → inv (foldI step k a) := by
  intro k
  induction k with
  | zero => intro _; exact h
  | succ k ih => intro hk; exact hs _ _ (by omega) (by omega) (ih (by omega))

end Go.Am

/- The abstract machine: a contract at every slice, out of those at nil, at an empty one and at one that is not empty. No condition. -/
namespace Go.Am
open Go Go.RowKit
variable {gtab : GlobTab} {P : Program}

/-- Three ways under one: the parameter is nil; it is empty, but not nil; it is not empty. -/
theorem nil_cases {f : Nat} {t : Ty} {rs : Sh} {o0 : denL [(0, Sh.nn true)] → denO []} {o1 : denL [(0, Sh.nn false)] → denO []} {o2 : denL [(0, Sh.val (.sl t))] → denO []} {ok0 : denL [(0, Sh.nn true)] → Prop} {ok1 : denL [(0, Sh.nn false)] → Prop} {ok2 : denL [(0, Sh.val (.sl t))] → Prop}
    {F0 : denL [(0, Sh.nn true)] → rs.den} {F1 : denL [(0, Sh.nn false)] → rs.den} {F2 : denL [(0, Sh.val (.sl t))] → rs.den} (h0 : SpecOk P f (fnSpec [(0, .nn true)] rs [] ok0 F0 o0)) (h1 : SpecOk P f (fnSpec [(0, .nn false)] rs [] ok1 F1 o1))
    (h2 : SpecOk P f (fnSpec [(0, .val (.sl t))] rs [] ok2 F2 o2)) {F : List t.den → rs.den} {ok : List t.den → Prop} {o : denL [(0, Sh.val (.sl t))] → denO []} (hok0 : ok0 ((), ())) (hok1 : ok1 ((), ())) (hok2 : ∀ l : List t.den, ok l → 0 < l.length → ok2 (l, ()))
    (e0 : F [] = F0 ((), ())) (e1 : F [] = F1 ((), ())) (e2 : ∀ l : List t.den, F l = F2 (l, ())) :
    SpecOk P f (fnSpec [(0, .val (.sl t))] rs [] (fun x => ok x.1) (fun x => F x.1) o) := by
  refine ⟨h0.1, fun args co hsp hok G w vals hlen hglob hreps => ?_⟩
  unfold fnSpec at hsp
  generalize hal : Nat.beq args.length _ = b at hsp
  cases b with
  | false => cases hsp
  | true =>
    simp only [cond_true] at hsp
    split at hsp
    · rename_i x hx
      injection hsp with hsp
      subst hsp
      have hl : args.length = 1 := Nat.eq_of_beq_eq_true hal
      obtain ⟨A, rfl⟩ : ∃ A, args = [A] := by
        match args, hl with
        | [A], _ => exact ⟨A, rfl⟩
      obtain ⟨v, rfl⟩ : ∃ v, vals = [v] := by
        match vals, hlen with
        | [v], _ => exact ⟨v, rfl⟩
      obtain ⟨l, _⟩ := x
      have hp : (Sh.val (.sl t)).parse A = some l := by
        simp only [parseSt, argSt, St.get] at hx
        split at hx
        · rename_i y z hy _
          simp only [Option.some.injEq, Prod.mk.injEq] at hx
          rw [← hx.1]
          simpa using hy
        · cases hx
      have hokl : ok l := hok _ (List.mem_singleton.2 rfl)
      have hA := ARep_parse hp (hreps 0 A v rfl rfl)
      simp only [Sh.mk, ARep] at hA
      rw [VRep_one rfl] at hA
      have hC := hA
      simp only [CRep] at hA
      obtain ⟨a, cap, hv, hA⟩ := hA
      injection hv with hv _
      have run : ∀ {s : Sh} {y : s.den} {ok' : denL [(0, s)] → Prop} {F' : denL [(0, s)] → rs.den} {o' : denL [(0, s)] → denO []}, SpecOk P f (fnSpec [(0, s)] rs [] ok' F' o') → (∀ S : St, s.parse (s.mk y) = some y) → ok' (y, ()) → F l = F' (y, ()) → ARep G w #[] (some 0) (s.mk y) v →
          Calls P f [v].toArray w fun e w' => ∃ v' G', e = .returned v' ∧ Frame0 G.χ w G'.χ w' ∧ ARep G' w' #[] none (rs.mk (F l)) v' ∧
            (∀ (i : Nat) k A' u, (i, k) ∈ mkO [] (o (l, ())) → [A][i]? = some A' → [v][i]? = some u → (∀ τ k0, A' = .box τ k0 → ARep G' w' #[] (some i) (.box τ k) u ∧ G'.β i = G.β i) ∧ (isBoxA A' = false → ARep G' w' #[] none k u)) := by
        intro s y ok' F' o' hs hpar hok' hF' hrep
        have hsp : fnSpec [(0, s)] rs [] ok' F' o' [s.mk y] = some ⟨[ok' (y, ())], rs.mk (F' (y, ())), mkO [] (o' (y, ())), []⟩ := by
          have : parseSt [(0, s)] (argSt 0 [s.mk y]) = some (y, ()) := by simp [parseSt, argSt, St.get, hpar []]
          unfold fnSpec
          rw [this]
          rfl
        refine (hs.2 _ _ hsp (fun q hq => by simp only [List.mem_singleton] at hq; subst hq; exact hok') G w [v] rfl hglob (fun i A' v' h1 h2 => ?_)).mono ?_
        · match i, h1, h2 with
          | 0, h1, h2 => simp only [List.getElem?_cons_zero, Option.some.injEq] at h1 h2; subst h1; subst h2; exact hrep
          | i + 1, h1, _ => simp at h1
        · rintro e w' ⟨v', G', rfl, q1, q2, _⟩
          exact ⟨v', G', rfl, q1, by rw [hF']; exact q2, fun i k A' u h => by cases h⟩
      rcases hA with hA | ⟨b, o2', us, ha, _⟩
      · have hl0 : l = [] := hA
        subst hl0
        cases a with
        | none => exact run (s := .nn true) (y := ()) h0 (fun _ => rfl) hok0 e0 (by simp only [Sh.mk, ARep]; exact ⟨none, cap, hv, rfl⟩)
        | some ad => exact run (s := .nn false) (y := ()) h1 (fun _ => rfl) hok1 e1 (by simp only [Sh.mk, ARep]; exact ⟨some ad, cap, hv, rfl⟩)
      · have hpos : 0 < List.length (α := t.den) l ∨ l = [] := by
          cases l with
          | nil => exact .inr rfl
          | cons _ _ => exact .inl (by simp)
        rcases hpos with hpos | hl0
        · refine run (s := .val (.sl t)) (y := l) h2 (fun _ => ?_) (hok2 l hokl hpos) (e2 l) (by simp only [Sh.mk, ARep]; exact (VRep_one rfl).2 hC)
          simp only [Sh.parse, Sh.mk, Ty.isL, cond_false, AVal.as, AVal.asT]
          exact cast_self
        · subst hl0
          subst ha
          exact run (s := .nn false) (y := ()) h1 (fun _ => rfl) hok1 e1 (by simp only [Sh.mk, ARep]; exact ⟨_, cap, hv, rfl⟩)
    · cases hsp

end Go.Am

/- The abstract machine: how much a claim's arguments hold. No condition. -/
namespace Go.Am
open Go Go.RowKit
variable {gtab : GlobTab} {P : Program} {w : World} {χ : Nat → Nat → Nat}

/-- How many values and letters. -/
def Ty.bulk : (τ : Ty) → τ.den → Nat
  | .int _, _ => 1
  | .bool, _ => 1
  | .str, s => List.length (α := UInt8) s + 1
  | .nl, _ => 0
  | .cons h t, x => h.bulk x.1 + t.bulk x.2
  | .st f, x => f.bulk x + 1
  | .arr _ t, l => (List.map t.bulk l).sum + 1
  | .sl t, l => (List.map t.bulk l).sum + 1
  | .ptr _, _ => 0
/-- A count of data, as a given text counts. -/
structure BulkFn (H : Type) where
  B : DataW H → Nat
  BA : List (DataW H) → Nat
  str : ∀ s, s.length + 1 ≤ B (.lit (.string s))
  lit : ∀ l, 1 ≤ B (.lit l)
  slice : ∀ e s, BA e + 1 ≤ B (.slice e s)
  agg : ∀ p, BA p + 1 ≤ B (.agg p)
  nil' : 1 ≤ B .nil
  cons : ∀ d r, B d + BA r ≤ BA (d :: r)

theorem mapM_bulk {H α γ : Type} {K : BulkFn H} {f : α → Option (DataW H × List MemPlace)} {R : γ → List Value → Prop} {g : α → List Value} {wf : γ → Prop} {bk : γ → Nat} : ∀ {l : List α} {ys : List (DataW H × List MemPlace)}, l.mapM f = some ys → (∀ x y, x ∈ l → f x = some y → ∃ z, R z (g x) ∧ wf z ∧ bk z ≤ K.B y.1) →
    ∃ zs : List γ, zs.length = l.length ∧ LRep R zs (l.flatMap g) ∧ (∀ z ∈ zs, wf z) ∧ (zs.map bk).sum ≤ K.BA (ys.map (·.1)) := by
  intro l
  induction l with
  | nil => intro ys _ _; exact ⟨[], rfl, rfl, fun z h => (by cases h), by simp⟩
  | cons x l ih =>
    intro ys h hf
    simp only [List.mapM_cons, Option.bind_eq_bind, Option.bind_eq_some_iff, Option.pure_def, Option.some.injEq] at h
    obtain ⟨y, hy, ys', hys, rfl⟩ := h
    obtain ⟨z, h1, h2, h6⟩ := hf x y (List.mem_cons_self ..) hy
    obtain ⟨zs, h3, h4, h5, h7⟩ := ih hys fun x y hx => hf x y (List.mem_cons_of_mem _ hx)
    refine ⟨z :: zs, by simp [h3], ⟨g x, l.flatMap g, rfl, h1, h4⟩, fun z' hz => ?_, ?_⟩
    · rcases List.mem_cons.1 hz with rfl | hz
      · exact h2
      · exact h5 z' hz
    · simp only [List.map_cons, List.sum_cons]
      have := K.cons y.1 (ys'.map (·.1))
      omega

section
variable {H : Type} {enc : TypeId × Value → H} {sp : Nat → Bool} {held : Bool}

theorem trod_bulk (K : BulkFn H) (hχ : ∀ b o, b < w.heap.size → χ b o = 0) : ∀ τ : Ty,
    (∀ (T fuel : Nat) (cs : List Value) (d : DataW H) (ps : List MemPlace), tyOk P τ (.inl T) = true → τ.deep = true → DataW.trod enc P w 0 sp held fuel T cs = some (d, ps) → ∃ x, CRep χ w τ x cs ∧ τ.wf x ∧ τ.bulk x ≤ K.B d) ∧
    (∀ (fs : List Field) (o : Nat) (cs : List Value) (fuel : Nat) (xs : List (DataW H × List MemPlace)), tyOk P τ (.inr (fs, o)) = true → τ.deep = true → fs.mapM (fun f => DataW.trod enc P w 0 sp held fuel f.type ((cs.drop f.offset).take (P.cellsOf f.type))) = some xs → cs.length = o + τ.size →
      ∃ x, CRep χ w τ x (cs.drop o) ∧ τ.wf x ∧ τ.bulk x ≤ K.BA (xs.map (·.1))) := by
  intro τ
  induction τ with
  | int k =>
    refine ⟨fun T fuel cs d ps hT _ h => ?_, fun fs o cs fuel xs hT => by simp [tyOk] at hT⟩
    have hu : P.underlying T = some (.int k) := by
      simp only [tyOk, Bool.and_eq_true] at hT
      cases hu : P.underlying T with
      | none => simp [hu] at hT
      | some d => rw [hu] at hT; cases d <;> simp at hT; rw [kindNo_inj hT.1]
    cases fuel with
    | zero => simp [DataW.trod] at h
    | succ fuel =>
      unfold DataW.trod at h
      rw [hu] at h
      match cs, h with
      | [.int k' n], h =>
        simp only at h
        split at h
        · rename_i hc
          obtain ⟨rfl, hw⟩ := hc
          simp only [Lit.wf, Bool.and_eq_true, decide_eq_true_eq] at hw
          simp only [Option.some.injEq, Prod.mk.injEq] at h
          exact ⟨n, by simp only [CRep], hw, by rw [← h.1]; exact K.lit _⟩
        · cases h
  | bool =>
    refine ⟨fun T fuel cs d ps hT _ h => ?_, fun fs o cs fuel xs hT => by simp [tyOk] at hT⟩
    have hu : P.underlying T = some .bool := by
      simp only [tyOk, Bool.and_eq_true] at hT
      cases hu : P.underlying T with
      | none => simp [hu] at hT
      | some d => rw [hu] at hT; cases d <;> simp at hT; rfl
    cases fuel with
    | zero => simp [DataW.trod] at h
    | succ fuel =>
      unfold DataW.trod at h
      rw [hu] at h
      match cs, h with
      | [.bool b], h =>
        simp only [Option.some.injEq, Prod.mk.injEq] at h
        exact ⟨b, by simp only [CRep], trivial, by rw [← h.1]; exact K.lit _⟩
  | str =>
    refine ⟨fun T fuel cs d ps hT _ h => ?_, fun fs o cs fuel xs hT => by simp [tyOk] at hT⟩
    have hu := tyOk_str hT
    cases fuel with
    | zero => simp [DataW.trod] at h
    | succ fuel =>
      unfold DataW.trod at h
      rw [hu] at h
      match cs, h with
      | [.string b], h =>
        simp only at h
        split at h
        · rename_i hs
          simp only [Option.some.injEq, Prod.mk.injEq] at h
          refine ⟨b.data.toList, by simp only [CRep], ?_, by rw [← h.1]; exact K.str _⟩
          show b.data.toList.length ≤ maxLen
          rw [Array.length_toList]
          exact hs
        · cases h
  | nl =>
    refine ⟨fun T fuel cs d ps hT => by simp [tyOk] at hT, fun fs o cs fuel xs hT _ h hl => ?_⟩
    refine ⟨(), ?_, trivial, Nat.zero_le _⟩
    simp only [CRep, Ty.size, Nat.add_zero] at hl ⊢
    simp [hl]
  | cons a b iha ihb =>
    refine ⟨fun T fuel cs d ps hT => by simp [tyOk] at hT, fun fs o cs fuel xs hT hd h hl => ?_⟩
    cases fs with
    | nil => simp [tyOk] at hT
    | cons fd r =>
      simp only [tyOk, Bool.and_eq_true] at hT
      obtain ⟨⟨⟨h1, _⟩, h2⟩, h3⟩ := hT
      have ho := Nat.eq_of_beq_eq_true h1
      simp only [Ty.deep, Bool.and_eq_true] at hd
      simp only [Ty.size] at hl
      simp only [List.mapM_cons, Option.bind_eq_bind, Option.bind_eq_some_iff, Option.pure_def, Option.some.injEq] at h
      obtain ⟨y, hy, ys, hys, rfl⟩ := h
      obtain ⟨x, q1, q2, q5⟩ := iha.1 _ _ _ _ _ h2 hd.1 (show _ = some (y.1, y.2) from hy)
      rw [cellsOf_ty h2, ho] at q1
      obtain ⟨z, q3, q4, q6⟩ := ihb.2 r (o + a.size) cs fuel ys h3 hd.2 hys (by omega)
      refine ⟨(x, z), ?_, ⟨q2, q4⟩, by simp only [Ty.bulk, List.map_cons]; have := K.cons y.1 (ys.map (·.1)); omega⟩
      simp only [CRep]
      refine ⟨_, _, ?_, q1, q3⟩
      rw [← List.drop_drop, List.take_append_drop]
  | st f ih =>
    refine ⟨fun T fuel cs d ps hT hd h => ?_, fun fs o cs fuel xs hT => by simp [tyOk] at hT⟩
    obtain ⟨fs, hu, hf⟩ := tyOk_st hT
    have hsz := cellsOf_ty hT
    cases fuel with
    | zero => simp [DataW.trod] at h
    | succ fuel =>
      unfold DataW.trod at h
      rw [hu] at h
      simp only at h
      split at h
      · rename_i hl
        simp only [Option.map_eq_some_iff] at h
        obtain ⟨xs, hxs, he⟩ := h
        obtain ⟨x, h1, h2, h3⟩ := ih.2 fs.toList 0 cs fuel xs hf (by simpa only [Ty.deep] using hd) hxs (by rw [hl, hsz]; simp [Ty.size])
        simp only [Prod.mk.injEq] at he
        exact ⟨x, by simpa only [CRep, List.drop_zero] using h1, h2, by rw [← he.1]; have := K.agg (xs.map (·.1)); simp only [Ty.bulk]; omega⟩
      · cases h
  | arr n t ih =>
    refine ⟨fun T fuel cs d ps hT hd h => ?_, fun fs o cs fuel xs hT => by simp [tyOk] at hT⟩
    obtain ⟨e, hu, hf⟩ := tyOk_arr hT
    have hsz := cellsOf_ty hT
    have hse := cellsOf_ty hf
    cases fuel with
    | zero => simp [DataW.trod] at h
    | succ fuel =>
      unfold DataW.trod at h
      rw [hu] at h
      simp only at h
      split at h
      · rename_i hl
        simp only [Option.map_eq_some_iff] at h
        obtain ⟨xs, hxs, he⟩ := h
        obtain ⟨zs, h1, h2, h3, h4⟩ := mapM_bulk (K := K) (R := CRep χ w t) (g := fun i => (cs.drop (i * t.size)).take t.size) (wf := t.wf) (bk := t.bulk) hxs (fun i y _ hy => by
          rw [hse] at hy
          exact ih.1 _ _ _ _ _ hf (by simpa only [Ty.deep] using hd) (show _ = some (y.1, y.2) from hy))
        rw [flat_take] at h2
        simp only [List.length_range] at h1
        rw [List.take_of_length_le (by rw [hl, hsz]; simp [Ty.size])] at h2
        simp only [Prod.mk.injEq] at he
        exact ⟨zs, by simp only [CRep]; exact ⟨h1, h2⟩, ⟨h1, h3⟩, by rw [← he.1]; have := K.agg (xs.map (·.1)); simp only [Ty.bulk]; omega⟩
      · cases h
  | sl t ih =>
    refine ⟨fun T fuel cs d ps hT hd h => ?_, fun fs o cs fuel xs hT => by simp [tyOk] at hT⟩
    obtain ⟨e, hu, hf⟩ := tyOk_sl hT
    have hse := cellsOf_ty hf
    cases fuel with
    | zero => simp [DataW.trod] at h
    | succ fuel =>
      unfold DataW.trod at h
      rw [hu] at h
      match cs, h with
      | [.slice none 0 0], h =>
        simp only [Option.some.injEq, Prod.mk.injEq] at h
        exact ⟨[], by simp only [CRep]; exact ⟨none, 0, rfl, .inl trivial⟩, by simp [Ty.wf], by rw [← h.1]; simpa [Ty.bulk] using K.nil'⟩
      | [.slice (some a) ln cap], h =>
        simp only at h
        split at h
        · rename_i hc
          simp only [Option.bind_eq_some_iff] at h
          obtain ⟨els, hels, hrest⟩ := h
          simp only [Option.map_eq_some_iff] at hrest
          obtain ⟨rest, _, he⟩ := hrest
          simp only [Prod.mk.injEq] at he
          rw [hse] at hels
          obtain ⟨zs, h1, h2, h3, hbk⟩ := mapM_bulk (K := K) (R := CRep χ w t) (g := fun i => (List.range t.size).map fun k => (w.cell? (a.add (i * t.size + k))).getD undef) (wf := t.wf) (bk := t.bulk) hels (fun i y _ hy => by
            simp only [Option.bind_eq_some_iff] at hy
            obtain ⟨cs', hcs, hy⟩ := hy
            obtain ⟨z, q1, q2, q3⟩ := ih.1 _ _ _ _ _ hf (by simp only [Ty.deep, Bool.and_eq_true] at hd; exact hd.2) (show _ = some (y.1, y.2) from hy)
            refine ⟨z, ?_, q2, q3⟩
            have := (cells?_is hcs).1
            rw [this] at q1
            simpa only [add_add] using q1)
          rw [flat_range (f := fun j => (w.cell? (a.add j)).getD undef)] at h2
          simp only [List.length_range] at h1
          refine ⟨zs, ?_, by simp only [Ty.wf]; exact ⟨by omega, h3⟩, by rw [← he.1]; have := K.slice (els.map (·.1)) (rest.map (·.1)); simp only [Ty.bulk]; omega⟩
          simp only [CRep]
          refine ⟨some a, cap, by rw [h1], ?_⟩
          by_cases hz : zs = []
          · exact .inl hz
          · have hcell : ∀ j, j < ln * t.size → ∃ v, w.cell? (a.add j) = some v := by
              intro j hj
              have hpos : 0 < t.size := by rcases Nat.eq_zero_or_pos t.size with h0 | h0; rw [h0] at hj; simp at hj; exact h0
              have hi : j / t.size < ln := Nat.div_lt_of_lt_mul (by rw [Nat.mul_comm]; exact hj)
              have hmem : ∀ i, i < ln → ∃ y, (w.cells? 0 (a.add (i * t.size)) t.size).bind (DataW.trod enc P w 0 sp held fuel e) = some y := by
                intro i hi
                have key : ∀ (l : List Nat) els, l.mapM (fun i => (w.cells? 0 (a.add (i * t.size)) t.size).bind (DataW.trod enc P w 0 sp held fuel e)) = some els → ∀ i ∈ l, ∃ y, (w.cells? 0 (a.add (i * t.size)) t.size).bind (DataW.trod enc P w 0 sp held fuel e) = some y := by
                  intro l
                  induction l with
                  | nil => intro els _ i h; cases h
                  | cons x l ihl =>
                    intro els h i hi
                    simp only [List.mapM_cons, Option.bind_eq_bind, Option.bind_eq_some_iff, Option.pure_def, Option.some.injEq] at h
                    obtain ⟨y, hy, ys, hys, rfl⟩ := h
                    rcases List.mem_cons.1 hi with rfl | hi
                    · exact ⟨y, by simpa only [Option.bind_eq_some_iff] using hy⟩
                    · exact ihl ys hys i hi
                exact key _ _ hels i (List.mem_range.2 hi)
              obtain ⟨y, hy⟩ := hmem _ hi
              simp only [Option.bind_eq_some_iff] at hy
              obtain ⟨cs', hcs, _⟩ := hy
              obtain ⟨v, hv⟩ := (cells?_is hcs).2 (j % t.size) (Nat.mod_lt _ hpos)
              refine ⟨v, ?_⟩
              have e1 : (a.add (j / t.size * t.size)).add (j % t.size) = a.add j := by
                rw [add_add, Nat.div_add_mod']
              rwa [e1] at hv
            obtain ⟨b, o, s⟩ := a
            simp only [Ty.deep, Bool.and_eq_true] at hd
            have hs1 : 0 < t.size := Nat.le_of_ble_eq_true hd.1
            by_cases hs0 : ln = 0
            · exact .inl (List.length_eq_zero_iff.1 (by omega))
            · have hpos : 0 < ln * t.size := Nat.mul_pos (by omega) (by omega)
              obtain ⟨v, hv⟩ := hcell 0 hpos
              have hsp := (cell_spot hv).1
              have hsp : s = none := by simpa [Addr.add] using hsp
              subst hsp
              refine .inr ⟨b, o, _, rfl, by omega, h2, fun j v hj => ?_⟩
              rw [List.getElem?_map] at hj
              have hjl : j < ln * t.size := by
                rcases Nat.lt_or_ge j (ln * t.size) with h' | h'
                · exact h'
                · rw [List.getElem?_eq_none (by simpa using h')] at hj; simp at hj
              obtain ⟨v', hv'⟩ := hcell j hjl
              rw [List.getElem?_range hjl] at hj
              simp only [Option.map_some, Option.some.injEq] at hj
              rw [hv'] at hj
              simp only [Option.getD_some] at hj
              subst hj
              have e2 : (⟨b, o, none⟩ : Addr).add j = ⟨b, o + j, none⟩ := by
                by_cases hj0 : j = 0
                · subst hj0; simp [Addr.add]
                · simp [Addr.add, hj0]
              rw [e2] at hv'
              exact ⟨hv', hχ b (o + j) (cell_spot hv').2⟩
        · cases h
  | ptr t _ => exact ⟨fun T fuel cs d ps _ hd => by simp [Ty.deep] at hd, fun fs o cs fuel xs _ hd => by simp [Ty.deep] at hd⟩
def bulkL : (i : Nat) → (τs : List Ty) → denL (enumSh i τs) → Nat
  | _, [], _ => 0
  | i, τ :: r, x => τ.bulk x.1 + bulkL (i + 1) r x.2

theorem args_rep3 (K : BulkFn H) {G : Gh} (hχ : ∀ b o, b < w.heap.size → G.χ b o = 0) : ∀ {τs : List Ty} {Ts : List TypeId} {vs : List Value} {ds : List (DataW H)} {ps : List MemPlace} {i base : Nat}, tysAre P τs Ts = true →
    DataW.TrodAll enc P w 0 (fun _ => true) true Ts vs ds ps → (∀ (j : Nat) t v, Ts[j]? = some t → vs[j]? = some v → Value.okWide P w .any base t v) →
    ∃ x : denL (enumSh i τs), vs.length = τs.length ∧ wfL i τs x ∧ bulkL i τs x ≤ K.BA ds ∧ ∀ (k : Nat) A v, (mkA i τs x)[k]? = some A → vs[k]? = some v → ARep G w #[] (some (i + k)) A v := by
  intro τs
  induction τs with
  | nil =>
    intro Ts vs ds ps i base ht h _
    cases Ts with
    | cons T s => simp [tysAre] at ht
    | nil =>
      cases vs with
      | nil => exact ⟨(), rfl, trivial, by simp [bulkL], fun k A v h => by simp [mkA] at h⟩
      | cons v vs => cases ds <;> simp [DataW.TrodAll] at h
  | cons τ r ih =>
    intro Ts vs ds ps i base ht h hok
    cases Ts with
    | nil => simp [tysAre] at ht
    | cons T s =>
      cases vs with
      | nil => simp [DataW.TrodAll] at h
      | cons v vs =>
        cases ds with
        | nil => simp [DataW.TrodAll] at h
        | cons d ds =>
          simp only [tysAre, Bool.and_eq_true] at ht
          obtain ⟨⟨h1, h2⟩, h3⟩ := ht
          simp only [DataW.TrodAll] at h
          obtain ⟨p, q, ⟨fl, hd⟩, hr, _⟩ := h
          obtain ⟨x, hx, hwf, hbk⟩ := (trod_bulk K hχ τ).1 T fl _ d p h1 h2 hd
          obtain ⟨y, hy1, hy2, hy4, hy3⟩ := ih (i := i + 1) h3 hr fun j t v ht hv => hok (j + 1) t v (by simpa using ht) (by simpa using hv)
          refine ⟨(x, y), by simp [hy1], ⟨hwf, hy2⟩, by simp only [bulkL]; have := K.cons d ds; omega, fun k A u hA hu => ?_⟩
          cases k with
          | zero =>
            simp only [mkA, List.getElem?_cons_zero, Option.some.injEq] at hA hu
            subst hA; subst hu
            simp only [ARep]
            refine ⟨_, hx, ?_⟩
            have hv := hok 0 T v rfl rfl
            cases ha : τ.isAgg with
            | true =>
              obtain ⟨cs, rfl⟩ := is_agg h1 ha hv
              simp [Value.cells]
            | false =>
              have := not_agg h1 ha h2 hv
              cases v with
              | agg cs => exact absurd rfl (this cs)
              | _ => rfl
          | succ k =>
            simp only [mkA, List.getElem?_cons_succ] at hA hu
            have := hy3 k A u hA hu
            rwa [show i + 1 + k = i + (k + 1) by omega] at this

theorem law_callsU (K : BulkFn H) {N : Nat} {τs : List Ty} {Ts : List TypeId} {f : Nat} {ok : denL (enumSh 0 τs) → Prop} {F : denL (enumSh 0 τs) → Bool} {o : denL (enumSh 0 τs) → denO []} (hs : SpecOk P f (fnSpec (enumSh 0 τs) (.val .bool) [] ok F o))
    (hty : tysAre P τs Ts = true) (hn : Nat.ble τs.length cutNo = true) (hlaw : ∀ x, wfL 0 τs x → bulkL 0 τs x ≤ N → ok x ∧ F x = true) {args : Array Value} {ds : List (DataW H)} {ps : List MemPlace} {base : Nat} (hA : DataW.TrodAll enc P w 0 (fun _ => true) true Ts args.toList ds ps)
    (hok : ∀ (j : Nat) t v, Ts[j]? = some t → args.toList[j]? = some v → Value.okWide P w .any base t v) (hN : K.BA ds ≤ N) (hglob : GlobOk (fun b _ => if b < w.heap.size then 0 else 2) w) :
    Calls P f args w fun e w' => e = .returned (.bool true) ∧ Below w.heap.size w w' := by
  let G : Gh := ⟨fun b _ => if b < w.heap.size then 0 else 2, fun _ => 0, fun _ => 0⟩
  have hχ : ∀ b o, b < w.heap.size → G.χ b o = 0 := fun b o hb => by simp [G, hb]
  obtain ⟨x, h1, h2, h4, h3⟩ := args_rep3 K (G := G) hχ (i := 0) hty hA hok
  obtain ⟨hokx, hFx⟩ := hlaw x h2 (Nat.le_trans h4 hN)
  have hlen := mkA_length (τs := τs) (i := 0) (x := x)
  have hn : τs.length ≤ cutNo := Nat.le_of_ble_eq_true hn
  have hpar : parseSt (enumSh 0 τs) (argSt 0 (mkA 0 τs x)) = some x := parse_mkA (fun k => by
    by_cases hk : k < τs.length
    · right
      have := argSt_get (s := k) (args := mkA 0 τs x) (i := 0) (by omega) (by omega) (by omega)
      simp only [Nat.sub_zero] at this
      rw [Nat.zero_add]; exact this.symm
    · left; exact List.getElem?_eq_none (by omega)) (tysAre_notL hty)
  have hsp : fnSpec (enumSh 0 τs) (.val .bool) [] ok F o (mkA 0 τs x) = some ⟨[ok x], .val .bool (F x), [], []⟩ := by
    unfold fnSpec
    rw [hlen.1, hlen.2, Nat.beq_refl, cond_true, hpar]
    rfl
  have hcall := hs.2 _ _ hsp (fun q hq => by simp only [List.mem_singleton] at hq; subst hq; exact hokx) G w args.toList (by rw [h1, hlen.1]) hglob (fun i A v hA hv => by
    have := h3 i A v hA hv
    rwa [Nat.zero_add] at this)
  have : args.toList.toArray = args := by simp
  rw [this] at hcall
  refine hcall.mono ?_
  rintro e w' ⟨v, G', rfl, hfr, hres, _⟩
  simp only [ARep] at hres
  have hv := (VRep_one rfl).1 hres
  simp only [CRep, List.cons.injEq, and_true] at hv
  rw [hv, hFx]
  refine ⟨rfl, hfr.os, hfr.tape, hfr.output, hfr.size, fun k hk => hfr.block k hk fun o => ?_⟩
  rw [hχ k o hk]; omega
end
end Go.Am
