/- The abstract machine, part 4: a typed interpreter for the program's code, and that it is sound. No condition. -/
import Derived.Test.YtnemgdgminolpaaDoorMach3
import Derived.ChangeSame
namespace Go.Am
open Go Go.RowKit Go.ChangeShapes
variable {gtab : GlobTab} {P : Program} {w : World}
def enumSh : Nat → List Ty → List (Nat × Sh)
  | _, [] => []
  | i, τ :: r => (i, .val τ) :: enumSh (i + 1) r
def mkA : (i : Nat) → (τs : List Ty) → denL (enumSh i τs) → List AVal
  | _, [], _ => []
  | i, τ :: r, x => .val τ x.1 :: mkA (i + 1) r x.2
def wfL : (i : Nat) → (τs : List Ty) → denL (enumSh i τs) → Prop
  | _, [], _ => True
  | i, τ :: r, x => τ.wf x.1 ∧ wfL (i + 1) r x.2
def tysAre (P : Program) : List Ty → List TypeId → Bool
  | [], [] => true
  | τ :: r, T :: s => tyOk P τ (.inl T) && τ.deep && tysAre P r s
  | _, _ => false
theorem beq_refl : ∀ τ : Ty, Ty.beq τ τ = true := by
  intro τ
  induction τ with
  | int k => simp [Ty.beq]
  | cons a b ha hb => simp [Ty.beq, ha, hb]
  | st f h => simpa [Ty.beq] using h
  | arr n t h => simpa [Ty.beq] using h
  | sl t h => simpa [Ty.beq] using h
  | ptr t h => simpa [Ty.beq] using h
  | _ => rfl
theorem cast_self {τ : Ty} {x : τ.den} : Ty.cast τ x = some x := by
  unfold Ty.cast
  split
  · rfl
  · rename_i h; rw [beq_refl] at h; cases h
theorem parse_mkA : ∀ {τs : List Ty} {i : Nat} {x : denL (enumSh i τs)} {S : St}, (∀ k, (mkA i τs x)[k]? = none ∨ (mkA i τs x)[k]? = some (S.get (i + k))) → (∀ τ ∈ τs, τ.isL = false) → parseSt (enumSh i τs) S = some x := by
  intro τs
  induction τs with
  | nil => intro i x S _ _; rfl
  | cons τ r ih =>
    intro i x S h hl
    simp only [enumSh, parseSt]
    have h0 := h 0
    simp only [mkA, List.getElem?_cons_zero, Nat.add_zero] at h0
    rcases h0 with h0 | h0
    · cases h0
    · injection h0 with h0
      rw [← h0]
      have hx : (Sh.val τ).parse (.val τ x.1) = some x.1 := by
        simp only [Sh.parse, hl τ (List.mem_cons_self ..), cond_false, AVal.as, AVal.asT, cast_self]
      have hr := ih (i := i + 1) (x := x.2) (S := S) (fun k => by
        have := h (k + 1)
        simp only [mkA, List.getElem?_cons_succ] at this
        rw [show i + 1 + k = i + (k + 1) by omega]; exact this) fun τ hτ => hl τ (List.mem_cons_of_mem _ hτ)
      rw [hx, hr]
      rfl
theorem mkA_length : ∀ {τs : List Ty} {i : Nat} {x : denL (enumSh i τs)}, (mkA i τs x).length = τs.length ∧ (enumSh i τs).length = τs.length := by
  intro τs
  induction τs with
  | nil => intro i x; exact ⟨rfl, rfl⟩
  | cons τ r ih => intro i x; simp [mkA, enumSh, (ih (i := i + 1) (x := x.2)).1, (ih (i := i + 1) (x := x.2)).2]
theorem tysAre_notL : ∀ {τs : List Ty} {Ts : List TypeId}, tysAre P τs Ts = true → ∀ τ ∈ τs, τ.isL = false := by
  intro τs
  induction τs with
  | nil => intro Ts _ τ h; cases h
  | cons σ r ih =>
    intro Ts h τ hτ
    cases Ts with
    | nil => simp [tysAre] at h
    | cons T s =>
      simp only [tysAre, Bool.and_eq_true] at h
      rcases List.mem_cons.1 hτ with rfl | hτ
      · exact tyOk_notL h.1.1
      · exact ih h.2 τ hτ
section
variable {H : Type} {enc : TypeId × Value → H}
theorem not_agg {τ : Ty} {T : TypeId} {v : Value} (hT : tyOk P τ (.inl T) = true) (ha : τ.isAgg = false) (hd : τ.deep = true) {base : Nat} (h : Value.okWide P w .any base T v) : ∀ cs, v ≠ .agg cs := by
  intro cs e
  subst e
  obtain ⟨_, hu⟩ := tyOk_is hT
  unfold Value.okWide at h
  cases τ with
  | st f => simp [Ty.isAgg] at ha
  | arr n t => simp [Ty.isAgg] at ha
  | ptr t => simp [Ty.deep] at hd
  | nl => simp [tyOk] at hT
  | cons a b => simp [tyOk] at hT
  | int k =>
    have hu : P.underlying T = some (.int k) := by
      simp only [tyOk, Bool.and_eq_true] at hT
      cases hu : P.underlying T with
      | none => simp [hu] at hT
      | some d => rw [hu] at hT; cases d <;> simp at hT; rw [kindNo_inj hT.1]
    rw [hu] at h
    simp [Cell.okWide, Cell.ok, hu] at h
  | bool =>
    have hu : P.underlying T = some .bool := by
      simp only [tyOk, Bool.and_eq_true] at hT
      cases hu : P.underlying T with
      | none => simp [hu] at hT
      | some d => rw [hu] at hT; cases d <;> simp at hT; rfl
    rw [hu] at h
    simp [Cell.okWide, Cell.ok, hu] at h
  | str =>
    have hu := tyOk_str hT
    rw [hu] at h
    simp [Cell.okWide, Cell.ok, hu] at h
  | sl t =>
    obtain ⟨e, hu, _⟩ := tyOk_sl hT
    rw [hu] at h
    simp [Cell.okWide, Cell.ok, hu] at h
theorem is_agg {τ : Ty} {T : TypeId} {v : Value} (hT : tyOk P τ (.inl T) = true) (ha : τ.isAgg = true) {base : Nat} (h : Value.okWide P w .any base T v) : ∃ cs, v = .agg cs := by
  unfold Value.okWide at h
  cases τ with
  | st f => obtain ⟨fs, hu, _⟩ := tyOk_st hT; rw [hu] at h; obtain ⟨cs, h, _⟩ := h; exact ⟨cs, h⟩
  | arr n t => obtain ⟨e, hu, _⟩ := tyOk_arr hT; rw [hu] at h; obtain ⟨cs, h, _⟩ := h; exact ⟨cs, h⟩
  | _ => simp [Ty.isAgg] at ha
theorem args_rep2 {G : Gh} (hχ : ∀ b o, b < w.heap.size → G.χ b o = 0) : ∀ {τs : List Ty} {Ts : List TypeId} {vs : List Value} {ds : List (DataW H)} {ps : List MemPlace} {i base : Nat}, tysAre P τs Ts = true →
    DataW.TrodAll enc P w 0 (fun _ => true) true Ts vs ds ps → (∀ (j : Nat) t v, Ts[j]? = some t → vs[j]? = some v → Value.okWide P w .any base t v) →
    ∃ x : denL (enumSh i τs), vs.length = τs.length ∧ wfL i τs x ∧ ∀ (k : Nat) A v, (mkA i τs x)[k]? = some A → vs[k]? = some v → ARep G w #[] (some (i + k)) A v := by
  intro τs
  induction τs with
  | nil =>
    intro Ts vs ds ps i base ht h _
    cases Ts with
    | cons T s => simp [tysAre] at ht
    | nil =>
      cases vs with
      | nil => exact ⟨(), rfl, trivial, fun k A v h => by simp [mkA] at h⟩
      | cons v vs => cases ds <;> simp [DataW.TrodAll] at h
  | cons τ r ih =>
    intro Ts vs ds ps i base ht h hok
    cases Ts with
    | nil => simp [tysAre] at ht
    | cons T s =>
      cases vs with
      | nil => simp [DataW.TrodAll] at h
      | cons v vs =>
        cases ds with
        | nil => simp [DataW.TrodAll] at h
        | cons d ds =>
          simp only [tysAre, Bool.and_eq_true] at ht
          obtain ⟨⟨h1, h2⟩, h3⟩ := ht
          simp only [DataW.TrodAll] at h
          obtain ⟨p, q, ⟨fl, hd⟩, hr, _⟩ := h
          obtain ⟨x, hx, hwf⟩ := (trod_rep hχ τ).1 T fl _ d p h1 h2 hd
          obtain ⟨y, hy1, hy2, hy3⟩ := ih (i := i + 1) h3 hr fun j t v ht hv => hok (j + 1) t v (by simpa using ht) (by simpa using hv)
          refine ⟨(x, y), by simp [hy1], ⟨hwf, hy2⟩, fun k A u hA hu => ?_⟩
          cases k with
          | zero =>
            simp only [mkA, List.getElem?_cons_zero, Option.some.injEq] at hA hu
            subst hA; subst hu
            simp only [ARep]
            refine ⟨_, hx, ?_⟩
            have hv := hok 0 T v rfl rfl
            cases ha : τ.isAgg with
            | true =>
              obtain ⟨cs, rfl⟩ := is_agg h1 ha hv
              simp [Value.cells]
            | false =>
              have := not_agg h1 ha h2 hv
              cases v with
              | agg cs => exact absurd rfl (this cs)
              | _ => rfl
          | succ k =>
            simp only [mkA, List.getElem?_cons_succ] at hA hu
            have := hy3 k A u hA hu
            rwa [show i + 1 + k = i + (k + 1) by omega] at this
theorem law_calls {τs : List Ty} {Ts : List TypeId} {f : Nat} {ok : denL (enumSh 0 τs) → Prop} {F : denL (enumSh 0 τs) → Bool} {o : denL (enumSh 0 τs) → denO []} (hs : SpecOk P f (fnSpec (enumSh 0 τs) (.val .bool) [] ok F o))
    (hty : tysAre P τs Ts = true) (hn : Nat.ble τs.length cutNo = true) (hlaw : ∀ x, wfL 0 τs x → ok x ∧ F x = true) {args : Array Value} {ds : List (DataW H)} {ps : List MemPlace} {base : Nat} (hA : DataW.TrodAll enc P w 0 (fun _ => true) true Ts args.toList ds ps)
    (hok : ∀ (j : Nat) t v, Ts[j]? = some t → args.toList[j]? = some v → Value.okWide P w .any base t v) (hglob : GlobOk (fun b _ => if b < w.heap.size then 0 else 2) w) :
    Calls P f args w fun e w' => e = .returned (.bool true) ∧ Below w.heap.size w w' := by
  let G : Gh := ⟨fun b _ => if b < w.heap.size then 0 else 2, fun _ => 0, fun _ => 0⟩
  have hχ : ∀ b o, b < w.heap.size → G.χ b o = 0 := fun b o hb => by simp [G, hb]
  obtain ⟨x, h1, h2, h3⟩ := args_rep2 (G := G) hχ (i := 0) hty hA hok
  obtain ⟨hokx, hFx⟩ := hlaw x h2
  have hlen := mkA_length (τs := τs) (i := 0) (x := x)
  have hn : τs.length ≤ cutNo := Nat.le_of_ble_eq_true hn
  have hpar : parseSt (enumSh 0 τs) (argSt 0 (mkA 0 τs x)) = some x := parse_mkA (fun k => by
    by_cases hk : k < τs.length
    · right
      have := argSt_get (s := k) (args := mkA 0 τs x) (i := 0) (by omega) (by omega) (by omega)
      simp only [Nat.sub_zero] at this
      rw [Nat.zero_add]; exact this.symm
    · left; exact List.getElem?_eq_none (by omega)) (tysAre_notL hty)
  have hsp : fnSpec (enumSh 0 τs) (.val .bool) [] ok F o (mkA 0 τs x) = some ⟨[ok x], .val .bool (F x), [], []⟩ := by
    unfold fnSpec
    rw [hlen.1, hlen.2, Nat.beq_refl, cond_true, hpar]
    rfl
  have hcall := hs.2 _ _ hsp (fun q hq => by simp only [List.mem_singleton] at hq; subst hq; exact hokx) G w args.toList (by rw [h1, hlen.1]) hglob (fun i A v hA hv => by
    have := h3 i A v hA hv
    rwa [Nat.zero_add] at this)
  have : args.toList.toArray = args := by simp
  rw [this] at hcall
  refine hcall.mono ?_
  rintro e w' ⟨v, G', rfl, hfr, hres, _⟩
  simp only [ARep] at hres
  have hv := (VRep_one rfl).1 hres
  simp only [CRep, List.cons.injEq, and_true] at hv
  rw [hv, hFx]
  refine ⟨rfl, hfr.os, hfr.tape, hfr.output, hfr.size, fun k hk => hfr.block k hk fun o => ?_⟩
  rw [hχ k o hk]; omega
end
theorem below_trods {H : Type} {enc : TypeId × Value → H} (hl : laidOutB P = true) : ∀ {Ts : List TypeId} {vs : List Value} {ds : List (DataW H)} {ps : List MemPlace} {W W' : World} {sp : Nat → Bool}, Ts.all (fun t => P.readableRec t && Nat.blt t P.types.size) = true →
    DataW.TrodAll enc P W 0 (fun _ => true) true Ts vs ds ps → Below W.heap.size W W' → (∀ x ∈ ps, x.block < W.heap.size) → (∀ p ∈ ps, sp p.block = true) → DataW.TrodAll enc P W' 0 sp true Ts vs ds ps := by
  intro Ts
  induction Ts with
  | nil => intro vs ds ps W W' sp _ h _ _ _; cases vs <;> cases ds <;> simp_all [DataW.TrodAll]
  | cons T s ih =>
    intro vs ds ps W W' sp ht h hb hlt hsp
    cases vs with
    | nil => simp [DataW.TrodAll] at h
    | cons v vs =>
      cases ds with
      | nil => simp [DataW.TrodAll] at h
      | cons d ds =>
        simp only [List.all_cons, Bool.and_eq_true] at ht
        simp only [DataW.TrodAll] at h ⊢
        obtain ⟨p, q, h1, h2, rfl⟩ := h
        refine ⟨p, q, WideElems.Trod_stays hl ht.1.1 (Nat.blt_eq.mp ht.1.2) h1 (fun x hx => hb.same (hlt x (List.mem_append_left _ hx))) (fun x hx => hsp x (List.mem_append_left _ hx)), ?_, rfl⟩
        exact ih ht.2 h2 hb (fun x hx => hlt x (List.mem_append_right _ hx)) (fun x hx => hsp x (List.mem_append_right _ hx))
theorem trod_len1 {H : Type} {enc : TypeId × Value → H} {T0 : TypeId} {vs : List Value} {ds : List (DataW H)} {ps : List MemPlace} {sp : Nat → Bool} {hd : Bool} (h : DataW.TrodAll enc P w 0 sp hd [T0] vs ds ps) : ∃ d0, ds = [d0] := by
  match vs, ds, h with
  | [_], [d0], _ => exact ⟨d0, rfl⟩
  | [], [], h => simp [DataW.TrodAll] at h
  | [], _ :: _, h => simp [DataW.TrodAll] at h
  | _ :: _, [], h => simp [DataW.TrodAll] at h
  | [_], _ :: _ :: _, h => simp [DataW.TrodAll] at h
  | _ :: _ :: _, _ :: _, h => simp [DataW.TrodAll] at h
theorem trod_len3 {H : Type} {enc : TypeId × Value → H} {T0 T1 T2 : TypeId} {vs : List Value} {ds : List (DataW H)} {ps : List MemPlace} {sp : Nat → Bool} {hd : Bool} (h : DataW.TrodAll enc P w 0 sp hd [T0, T1, T2] vs ds ps) : ∃ d0 d1 d2, ds = [d0, d1, d2] := by
  obtain ⟨v, vs1, d, ds1, a, b, rfl, rfl, rfl, h1, h2⟩ := trodAll_cons h
  obtain ⟨v, vs1, d', ds1, a, b, rfl, rfl, rfl, h1, h2⟩ := trodAll_cons h2
  obtain ⟨v, vs1, d'', ds1, a, b, rfl, rfl, rfl, h1, h2⟩ := trodAll_cons h2
  obtain ⟨rfl, rfl, rfl⟩ := trodAll_nil h2
  exact ⟨d, d', d'', rfl⟩
theorem post_law {H : Type} {enc : TypeId × Value → H} {f : Func} {s : ChangeSpec} {W W' : World} {args : Array Value} {v : Value} {ds gs : List (DataW H)} {before pa pv : List MemPlace}
    (hW : DataW.Whole enc P f.params.toList s.vars false W args.toList ds gs before)
    (hres : ∀ (b : Nat) (sp : Nat → Bool) (hd : Bool), DataW.TrodAll enc P W' b sp hd f.resultTypes.toList (v.resultList f.resultTypes.size) (s.fn H (ds ++ gs)).results [])
    (hargs : ∀ sp : Nat → Bool, (∀ p ∈ before, sp p.block = true) → DataW.TrodAll enc P W' 0 sp true f.params.toList args.toList (s.fn H (ds ++ gs)).args pa)
    (hvars : ∀ sp : Nat → Bool, (∀ p ∈ before, sp p.block = true) → DataW.TrodVars enc P W' sp s.vars (s.fn H (ds ++ gs)).vars pv)
    (hps : before = pa ++ pv) (hk : W.keptBut W' (· ∈ before)) : s.post enc P f false true false false W args v W' := by
  have hold : ∀ p ∈ before, (fun b => decide (b < W.heap.size)) p.block = true := fun p hp => by simpa using hW.lt p hp
  refine ⟨ds, gs, before, [], pa, pv, hW, hres _ _ _, hargs _ hold, hvars _ hold, World.keptBut_mono (fun p hp => ⟨hp, ?_⟩) hk, fun h => by cases h⟩
  rw [hps, List.mem_append] at hp
  exact Or.inr hp
def zeroV (P : Program) (T : TypeId) : Value := ((P.info? T).bind (·.zero)).getD undef
def lit1 : DataW Unit → Value
  | .lit (.int k n) => .int k n
  | _ => undef
def flat1 : DataW Unit → List Value
  | .agg l => l.map lit1
  | .lit (.int k n) => [.int k n]
  | _ => []
def flat2 : DataW Unit → List Value
  | .agg l => l.flatMap flat1
  | _ => []
def putG (h : Array Obj) (g : Nat) (cs : List Value) : Array Obj := h.modify g fun
  | .cells _ t frozen => .cells cs.toArray t frozen
  | o => o
def rangeLen : DataW Unit → Nat
  | .ptr (.agg (.slice l _ :: _)) => l.length
  | _ => 0
def rangeLatin : DataW Unit → Value
  | .ptr (.agg [_, _, d]) => lit1 d
  | _ => undef
def rangeCells : DataW Unit → List Value
  | .ptr (.agg (.slice l _ :: _)) => l.flatMap flat1
  | _ => []
end Go.Am
namespace Go.Am
open Go
theorem loopN_end {X : Type} {g : X → Bool} {next : X → X} {x : X} (h : g x = false) : ∀ F, loopN g next F x = x := by
  intro F
  cases F with
  | zero => rfl
  | succ F => simp [loopN, h]
theorem loop_ind {X : Type} {g : X → Bool} {next : X → X} (inv : X → Prop) (m : X → Nat) (hstep : ∀ x, inv x → g x = true → inv (next x) ∧ m (next x) < m x) :
    ∀ {x : X}, inv x → m x < fuel → inv (loopEnd g next x) ∧ g (loopEnd g next x) = false := by
  have key : ∀ (F : Nat) (x : X), inv x → m x < F → inv (loopN g next F x) ∧ g (loopN g next F x) = false := by
    intro F
    induction F with
    | zero => intro x _ h; omega
    | succ F ih =>
      intro x hx hm
      simp only [loopN]
      cases hg : g x with
      | false => simp only [cond_false]; exact ⟨hx, hg⟩
      | true =>
        simp only [cond_true]
        have := hstep x hx hg
        exact ih _ this.1 (by omega)
  intro x hx hm
  exact key fuel x hx hm
theorem ends_ind {X : Type} {g : X → Bool} {next : X → X} {ok : X → Prop} (inv : X → Prop) (m : X → Nat) (hok : ∀ x, inv x → ok x) (hstep : ∀ x, inv x → g x = true → inv (next x) ∧ m (next x) < m x) :
    ∀ {x : X}, inv x → m x < fuel → Am.Ends g next ok x := by
  have key : ∀ (F : Nat) (x : X), inv x → m x < F → ∃ k, k < F ∧ Runs g next ok k x := by
    intro F
    induction F with
    | zero => intro x _ h; omega
    | succ F ih =>
      intro x hx hm
      cases hg : g x with
      | false => exact ⟨0, by omega, hok x hx, hg⟩
      | true =>
        have := hstep x hx hg
        obtain ⟨k, hk, hr⟩ := ih _ this.1 (by omega)
        exact ⟨k + 1, by omega, hok x hx, hg, hr⟩
  intro x hx hm
  exact key fuel x hx hm
theorem scan {g : Int × Unit → Bool} {next : Int × Unit → Int × Unit} {n : Int} {c : Int → Bool} (hn0 : 0 ≤ n) (hn : n < 9223372036854775808) (hg : ∀ x, g x = (decide (x.1 < n) && !(c x.1))) (hx : ∀ x, next x = (x.1 + 1, ())) :
    ∃ j, 0 ≤ j ∧ j ≤ n ∧ loopEnd g next (0, ()) = (j, ()) ∧ (∀ k, 0 ≤ k → k < j → c k = false) ∧ (j < n → c j = true) := by
  have h := loop_ind (g := g) (next := next) (fun x => 0 ≤ x.1 ∧ x.1 ≤ n ∧ ∀ k, 0 ≤ k → k < x.1 → c k = false) (fun x => (n - x.1).toNat) (fun x hi hgx => by
    rw [hg] at hgx
    simp only [Bool.and_eq_true, decide_eq_true_eq, Bool.not_eq_true'] at hgx
    rw [hx]
    refine ⟨⟨by omega, by omega, fun k h1 h2 => ?_⟩, by simp only; omega⟩
    by_cases e : k = x.1
    · rw [e]; exact hgx.2
    · exact hi.2.2 k h1 (by simp only at h2; omega)) (x := (0, ())) ⟨by simp, hn0, fun k h1 h2 => by simp only at h2; omega⟩ (by simp only [fuel]; omega)
  generalize hj : loopEnd g next (0, ()) = e at h
  obtain ⟨⟨h1, h2, h3⟩, h4⟩ := h
  refine ⟨e.1, h1, h2, rfl, h3, fun hlt => ?_⟩
  rw [hg] at h4
  simp only [Bool.and_eq_false_iff, decide_eq_false_iff_not, Bool.not_eq_false'] at h4
  rcases h4 with h4 | h4
  · exact absurd hlt h4
  · exact h4
theorem scan_ends {g : Int × Unit → Bool} {next : Int × Unit → Int × Unit} {ok : Int × Unit → Prop} {n : Int} (hn0 : 0 ≤ n) (hn : n < 9223372036854775808) (hg : ∀ x, g x = true → x.1 < n) (hx : ∀ x, next x = (x.1 + 1, ()))
    (hok : ∀ x : Int × Unit, 0 ≤ x.1 → x.1 ≤ n → ok x) : Am.Ends g next ok (0, ()) :=
  ends_ind (fun x => 0 ≤ x.1 ∧ x.1 ≤ n) (fun x => (n - x.1).toNat) (fun x h => hok x h.1 h.2) (fun x hi hgx => by
    have := hg x hgx
    rw [hx]
    refine ⟨⟨by simp only; omega, by simp only; omega⟩, by simp only; omega⟩) ⟨by simp, hn0⟩ (by simp only [fuel]; omega)
def anyI (n : Int) (c : Int → Bool) : Bool := (List.range n.toNat).any fun i => c (i : Int)
theorem scan_any {g : Int × Unit → Bool} {next : Int × Unit → Int × Unit} {n : Int} {c : Int → Bool} (hn0 : 0 ≤ n) (hn : n < 9223372036854775808) (hg : ∀ x, g x = (decide (x.1 < n) && !(c x.1))) (hx : ∀ x, next x = (x.1 + 1, ())) :
    (decide ((loopEnd g next (0, ())).1 < n) && c (loopEnd g next (0, ())).1) = anyI n c := by
  obtain ⟨j, h1, h2, h3, h4, h5⟩ := scan hn0 hn hg hx
  rw [h3]
  rw [Bool.eq_iff_iff]
  simp only [Bool.and_eq_true, decide_eq_true_eq, anyI, List.any_eq_true, List.mem_range]
  constructor
  · rintro ⟨h, h'⟩; exact ⟨j.toNat, by omega, by rw [Int.toNat_of_nonneg h1]; exact h'⟩
  · rintro ⟨i, hi, hc⟩
    by_cases hj : j < n
    · exact ⟨hj, h5 hj⟩
    · have := h4 (i : Int) (by omega) (by omega)
      rw [this] at hc; cases hc
theorem anyI_congr {n m : Int} {c d : Int → Bool} (h : n = m) (h' : ∀ i, 0 ≤ i → i < n → c i = d i) : anyI n c = anyI m d := by
  subst h
  unfold anyI
  rw [Bool.eq_iff_iff]
  simp only [List.any_eq_true, List.mem_range]
  constructor
  · rintro ⟨i, hi, hc⟩; exact ⟨i, hi, by rw [← h' i (by omega) (by omega)]; exact hc⟩
  · rintro ⟨i, hi, hc⟩; exact ⟨i, hi, by rw [h' i (by omega) (by omega)]; exact hc⟩
theorem len_nonneg {α : Type} (l : List α) : 0 ≤ len l := by simp [len]
def foldI {A : Type} (step : A → Int → A) : Nat → A → A
  | 0, a => a
  | k + 1, a => step (foldI step k a) (k : Int)
theorem fold_loop {A : Type} {g : A × Int × Unit → Bool} {next : A × Int × Unit → A × Int × Unit} {n : Int} {step : A → Int → A} (hn0 : 0 ≤ n) (hn : n < 9223372036854775808) (hg : ∀ x, g x = decide (x.2.1 < n)) (hx : ∀ x, next x = (step x.1 x.2.1, x.2.1 + 1, ())) (a : A) :
    loopEnd g next (a, 0, ()) = (foldI step n.toNat a, n, ()) := by
  have h := loop_ind (g := g) (next := next) (fun x => 0 ≤ x.2.1 ∧ x.2.1 ≤ n ∧ x.1 = foldI step x.2.1.toNat a) (fun x => (n - x.2.1).toNat) (fun x hi hgx => by
    rw [hg] at hgx
    have hgx := of_decide_eq_true hgx
    rw [hx]
    refine ⟨⟨by simp only; omega, by simp only; omega, ?_⟩, by simp only; omega⟩
    simp only
    have e : (x.2.1 + 1).toNat = x.2.1.toNat + 1 := by omega
    rw [e, foldI, ← hi.2.2, Int.toNat_of_nonneg hi.1]) (x := (a, 0, ())) ⟨by simp, hn0, rfl⟩ (by simp only [fuel]; omega)
  generalize loopEnd g next (a, 0, ()) = e at h
  obtain ⟨⟨h1, h2, h3⟩, h4⟩ := h
  rw [hg] at h4
  have h4 := of_decide_eq_false h4
  obtain ⟨e1, e2, e3⟩ := e
  simp only at h1 h2 h3 h4
  have : e2 = n := by omega
  subst this
  rw [h3]
theorem fold_ends {A : Type} {g : A × Int × Unit → Bool} {next : A × Int × Unit → A × Int × Unit} {ok : A × Int × Unit → Prop} {n : Int} {step : A → Int → A} (hn0 : 0 ≤ n) (hn : n < 9223372036854775808) (hg : ∀ x, g x = decide (x.2.1 < n)) (hx : ∀ x, next x = (step x.1 x.2.1, x.2.1 + 1, ())) (a : A)
    (hok : ∀ i : Int, 0 ≤ i → i ≤ n → ok (foldI step i.toNat a, i, ())) : Am.Ends g next ok (a, 0, ()) :=
  ends_ind (fun x => 0 ≤ x.2.1 ∧ x.2.1 ≤ n ∧ x.1 = foldI step x.2.1.toNat a) (fun x => (n - x.2.1).toNat) (fun x h => by
    have := hok x.2.1 h.1 h.2.1
    rw [← h.2.2] at this
    exact this) (fun x hi hgx => by
    rw [hg] at hgx
    have hgx := of_decide_eq_true hgx
    rw [hx]
    refine ⟨⟨by simp only; omega, by simp only; omega, ?_⟩, by simp only; omega⟩
    simp only
    have e : (x.2.1 + 1).toNat = x.2.1.toNat + 1 := by omega
    rw [e, foldI, ← hi.2.2, Int.toNat_of_nonneg hi.1]) ⟨by simp, hn0, rfl⟩ (by simp only [fuel]; omega)
theorem foldI_inv {A : Type} {step : A → Int → A} (inv : A → Prop) {n : Nat} (hs : ∀ a i, 0 ≤ i → i < (n : Int) → inv a → inv (step a i)) {a : A} (h : inv a) : ∀ k, k ≤ n → inv (foldI step k a) := by
  intro k
  induction k with
  | zero => intro _; exact h
  | succ k ih => intro hk; exact hs _ _ (by omega) (by omega) (ih (by omega))
end Go.Am
namespace Go.Am
open Go Go.RowKit
variable {gtab : GlobTab} {P : Program}
theorem nil_cases {f : Nat} {t : Ty} {rs : Sh} {o0 : denL [(0, Sh.nn true)] → denO []} {o1 : denL [(0, Sh.nn false)] → denO []} {o2 : denL [(0, Sh.val (.sl t))] → denO []} {ok0 : denL [(0, Sh.nn true)] → Prop} {ok1 : denL [(0, Sh.nn false)] → Prop} {ok2 : denL [(0, Sh.val (.sl t))] → Prop}
    {F0 : denL [(0, Sh.nn true)] → rs.den} {F1 : denL [(0, Sh.nn false)] → rs.den} {F2 : denL [(0, Sh.val (.sl t))] → rs.den} (h0 : SpecOk P f (fnSpec [(0, .nn true)] rs [] ok0 F0 o0)) (h1 : SpecOk P f (fnSpec [(0, .nn false)] rs [] ok1 F1 o1))
    (h2 : SpecOk P f (fnSpec [(0, .val (.sl t))] rs [] ok2 F2 o2)) {F : List t.den → rs.den} {ok : List t.den → Prop} {o : denL [(0, Sh.val (.sl t))] → denO []} (hok0 : ok0 ((), ())) (hok1 : ok1 ((), ())) (hok2 : ∀ l : List t.den, ok l → 0 < l.length → ok2 (l, ()))
    (e0 : F [] = F0 ((), ())) (e1 : F [] = F1 ((), ())) (e2 : ∀ l : List t.den, F l = F2 (l, ())) :
    SpecOk P f (fnSpec [(0, .val (.sl t))] rs [] (fun x => ok x.1) (fun x => F x.1) o) := by
  refine ⟨h0.1, fun args co hsp hok G w vals hlen hglob hreps => ?_⟩
  unfold fnSpec at hsp
  generalize hal : Nat.beq args.length _ = b at hsp
  cases b with
  | false => cases hsp
  | true =>
    simp only [cond_true] at hsp
    split at hsp
    · rename_i x hx
      injection hsp with hsp
      subst hsp
      have hl : args.length = 1 := Nat.eq_of_beq_eq_true hal
      obtain ⟨A, rfl⟩ : ∃ A, args = [A] := by
        match args, hl with
        | [A], _ => exact ⟨A, rfl⟩
      obtain ⟨v, rfl⟩ : ∃ v, vals = [v] := by
        match vals, hlen with
        | [v], _ => exact ⟨v, rfl⟩
      obtain ⟨l, _⟩ := x
      have hp : (Sh.val (.sl t)).parse A = some l := by
        simp only [parseSt, argSt, St.get] at hx
        split at hx
        · rename_i y z hy _
          simp only [Option.some.injEq, Prod.mk.injEq] at hx
          rw [← hx.1]
          simpa using hy
        · cases hx
      have hokl : ok l := hok _ (List.mem_singleton.2 rfl)
      have hA := ARep_parse hp (hreps 0 A v rfl rfl)
      simp only [Sh.mk, ARep] at hA
      rw [VRep_one rfl] at hA
      have hC := hA
      simp only [CRep] at hA
      obtain ⟨a, cap, hv, hA⟩ := hA
      injection hv with hv _
      have run : ∀ {s : Sh} {y : s.den} {ok' : denL [(0, s)] → Prop} {F' : denL [(0, s)] → rs.den} {o' : denL [(0, s)] → denO []}, SpecOk P f (fnSpec [(0, s)] rs [] ok' F' o') → (∀ S : St, s.parse (s.mk y) = some y) → ok' (y, ()) → F l = F' (y, ()) → ARep G w #[] (some 0) (s.mk y) v →
          Calls P f [v].toArray w fun e w' => ∃ v' G', e = .returned v' ∧ Frame0 G.χ w G'.χ w' ∧ ARep G' w' #[] none (rs.mk (F l)) v' ∧
            (∀ (i : Nat) k A' u, (i, k) ∈ mkO [] (o (l, ())) → [A][i]? = some A' → [v][i]? = some u → (∀ τ k0, A' = .box τ k0 → ARep G' w' #[] (some i) (.box τ k) u ∧ G'.β i = G.β i) ∧ (isBoxA A' = false → ARep G' w' #[] none k u)) := by
        intro s y ok' F' o' hs hpar hok' hF' hrep
        have hsp : fnSpec [(0, s)] rs [] ok' F' o' [s.mk y] = some ⟨[ok' (y, ())], rs.mk (F' (y, ())), mkO [] (o' (y, ())), []⟩ := by
          have : parseSt [(0, s)] (argSt 0 [s.mk y]) = some (y, ()) := by simp [parseSt, argSt, St.get, hpar []]
          unfold fnSpec
          rw [this]
          rfl
        refine (hs.2 _ _ hsp (fun q hq => by simp only [List.mem_singleton] at hq; subst hq; exact hok') G w [v] rfl hglob (fun i A' v' h1 h2 => ?_)).mono ?_
        · match i, h1, h2 with
          | 0, h1, h2 => simp only [List.getElem?_cons_zero, Option.some.injEq] at h1 h2; subst h1; subst h2; exact hrep
          | i + 1, h1, _ => simp at h1
        · rintro e w' ⟨v', G', rfl, q1, q2, _⟩
          exact ⟨v', G', rfl, q1, by rw [hF']; exact q2, fun i k A' u h => by cases h⟩
      rcases hA with hA | ⟨b, o2', us, ha, _⟩
      · have hl0 : l = [] := hA
        subst hl0
        cases a with
        | none => exact run (s := .nn true) (y := ()) h0 (fun _ => rfl) hok0 e0 (by simp only [Sh.mk, ARep]; exact ⟨none, cap, hv, rfl⟩)
        | some ad => exact run (s := .nn false) (y := ()) h1 (fun _ => rfl) hok1 e1 (by simp only [Sh.mk, ARep]; exact ⟨some ad, cap, hv, rfl⟩)
      · have hpos : 0 < List.length (α := t.den) l ∨ l = [] := by
          cases l with
          | nil => exact .inr rfl
          | cons _ _ => exact .inl (by simp)
        rcases hpos with hpos | hl0
        · refine run (s := .val (.sl t)) (y := l) h2 (fun _ => ?_) (hok2 l hokl hpos) (e2 l) (by simp only [Sh.mk, ARep]; exact (VRep_one rfl).2 hC)
          simp only [Sh.parse, Sh.mk, Ty.isL, cond_false, AVal.as, AVal.asT]
          exact cast_self
        · subst hl0
          subst ha
          exact run (s := .nn false) (y := ()) h1 (fun _ => rfl) hok1 e1 (by simp only [Sh.mk, ARep]; exact ⟨_, cap, hv, rfl⟩)
    · cases hsp
end Go.Am
namespace Go.Am
open Go Go.RowKit
variable {gtab : GlobTab} {P : Program} {w : World} {χ : Nat → Nat → Nat}
def Ty.bulk : (τ : Ty) → τ.den → Nat
  | .int _, _ => 1
  | .bool, _ => 1
  | .str, s => List.length (α := UInt8) s + 1
  | .nl, _ => 0
  | .cons h t, x => h.bulk x.1 + t.bulk x.2
  | .st f, x => f.bulk x + 1
  | .arr _ t, l => (List.map t.bulk l).sum + 1
  | .sl t, l => (List.map t.bulk l).sum + 1
  | .ptr _, _ => 0
structure BulkFn (H : Type) where
  B : DataW H → Nat
  BA : List (DataW H) → Nat
  str : ∀ s, s.length + 1 ≤ B (.lit (.string s))
  lit : ∀ l, 1 ≤ B (.lit l)
  slice : ∀ e s, BA e + 1 ≤ B (.slice e s)
  agg : ∀ p, BA p + 1 ≤ B (.agg p)
  nil' : 1 ≤ B .nil
  cons : ∀ d r, B d + BA r ≤ BA (d :: r)
theorem mapM_bulk {H α γ : Type} {K : BulkFn H} {f : α → Option (DataW H × List MemPlace)} {R : γ → List Value → Prop} {g : α → List Value} {wf : γ → Prop} {bk : γ → Nat} : ∀ {l : List α} {ys : List (DataW H × List MemPlace)}, l.mapM f = some ys → (∀ x y, x ∈ l → f x = some y → ∃ z, R z (g x) ∧ wf z ∧ bk z ≤ K.B y.1) →
    ∃ zs : List γ, zs.length = l.length ∧ LRep R zs (l.flatMap g) ∧ (∀ z ∈ zs, wf z) ∧ (zs.map bk).sum ≤ K.BA (ys.map (·.1)) := by
  intro l
  induction l with
  | nil => intro ys _ _; exact ⟨[], rfl, rfl, fun z h => (by cases h), by simp⟩
  | cons x l ih =>
    intro ys h hf
    simp only [List.mapM_cons, Option.bind_eq_bind, Option.bind_eq_some_iff, Option.pure_def, Option.some.injEq] at h
    obtain ⟨y, hy, ys', hys, rfl⟩ := h
    obtain ⟨z, h1, h2, h6⟩ := hf x y (List.mem_cons_self ..) hy
    obtain ⟨zs, h3, h4, h5, h7⟩ := ih hys fun x y hx => hf x y (List.mem_cons_of_mem _ hx)
    refine ⟨z :: zs, by simp [h3], ⟨g x, l.flatMap g, rfl, h1, h4⟩, fun z' hz => ?_, ?_⟩
    · rcases List.mem_cons.1 hz with rfl | hz
      · exact h2
      · exact h5 z' hz
    · simp only [List.map_cons, List.sum_cons]
      have := K.cons y.1 (ys'.map (·.1))
      omega
section
variable {H : Type} {enc : TypeId × Value → H} {sp : Nat → Bool} {held : Bool}
theorem trod_bulk (K : BulkFn H) (hχ : ∀ b o, b < w.heap.size → χ b o = 0) : ∀ τ : Ty,
    (∀ (T fuel : Nat) (cs : List Value) (d : DataW H) (ps : List MemPlace), tyOk P τ (.inl T) = true → τ.deep = true → DataW.trod enc P w 0 sp held fuel T cs = some (d, ps) → ∃ x, CRep χ w τ x cs ∧ τ.wf x ∧ τ.bulk x ≤ K.B d) ∧
    (∀ (fs : List Field) (o : Nat) (cs : List Value) (fuel : Nat) (xs : List (DataW H × List MemPlace)), tyOk P τ (.inr (fs, o)) = true → τ.deep = true → fs.mapM (fun f => DataW.trod enc P w 0 sp held fuel f.type ((cs.drop f.offset).take (P.cellsOf f.type))) = some xs → cs.length = o + τ.size →
      ∃ x, CRep χ w τ x (cs.drop o) ∧ τ.wf x ∧ τ.bulk x ≤ K.BA (xs.map (·.1))) := by
  intro τ
  induction τ with
  | int k =>
    refine ⟨fun T fuel cs d ps hT _ h => ?_, fun fs o cs fuel xs hT => by simp [tyOk] at hT⟩
    have hu : P.underlying T = some (.int k) := by
      simp only [tyOk, Bool.and_eq_true] at hT
      cases hu : P.underlying T with
      | none => simp [hu] at hT
      | some d => rw [hu] at hT; cases d <;> simp at hT; rw [kindNo_inj hT.1]
    cases fuel with
    | zero => simp [DataW.trod] at h
    | succ fuel =>
      unfold DataW.trod at h
      rw [hu] at h
      match cs, h with
      | [.int k' n], h =>
        simp only at h
        split at h
        · rename_i hc
          obtain ⟨rfl, hw⟩ := hc
          simp only [Lit.wf, Bool.and_eq_true, decide_eq_true_eq] at hw
          simp only [Option.some.injEq, Prod.mk.injEq] at h
          exact ⟨n, by simp only [CRep], hw, by rw [← h.1]; exact K.lit _⟩
        · cases h
  | bool =>
    refine ⟨fun T fuel cs d ps hT _ h => ?_, fun fs o cs fuel xs hT => by simp [tyOk] at hT⟩
    have hu : P.underlying T = some .bool := by
      simp only [tyOk, Bool.and_eq_true] at hT
      cases hu : P.underlying T with
      | none => simp [hu] at hT
      | some d => rw [hu] at hT; cases d <;> simp at hT; rfl
    cases fuel with
    | zero => simp [DataW.trod] at h
    | succ fuel =>
      unfold DataW.trod at h
      rw [hu] at h
      match cs, h with
      | [.bool b], h =>
        simp only [Option.some.injEq, Prod.mk.injEq] at h
        exact ⟨b, by simp only [CRep], trivial, by rw [← h.1]; exact K.lit _⟩
  | str =>
    refine ⟨fun T fuel cs d ps hT _ h => ?_, fun fs o cs fuel xs hT => by simp [tyOk] at hT⟩
    have hu := tyOk_str hT
    cases fuel with
    | zero => simp [DataW.trod] at h
    | succ fuel =>
      unfold DataW.trod at h
      rw [hu] at h
      match cs, h with
      | [.string b], h =>
        simp only at h
        split at h
        · rename_i hs
          simp only [Option.some.injEq, Prod.mk.injEq] at h
          refine ⟨b.data.toList, by simp only [CRep], ?_, by rw [← h.1]; exact K.str _⟩
          show b.data.toList.length ≤ maxLen
          rw [Array.length_toList]
          exact hs
        · cases h
  | nl =>
    refine ⟨fun T fuel cs d ps hT => by simp [tyOk] at hT, fun fs o cs fuel xs hT _ h hl => ?_⟩
    refine ⟨(), ?_, trivial, Nat.zero_le _⟩
    simp only [CRep, Ty.size, Nat.add_zero] at hl ⊢
    simp [hl]
  | cons a b iha ihb =>
    refine ⟨fun T fuel cs d ps hT => by simp [tyOk] at hT, fun fs o cs fuel xs hT hd h hl => ?_⟩
    cases fs with
    | nil => simp [tyOk] at hT
    | cons fd r =>
      simp only [tyOk, Bool.and_eq_true] at hT
      obtain ⟨⟨⟨h1, _⟩, h2⟩, h3⟩ := hT
      have ho := Nat.eq_of_beq_eq_true h1
      simp only [Ty.deep, Bool.and_eq_true] at hd
      simp only [Ty.size] at hl
      simp only [List.mapM_cons, Option.bind_eq_bind, Option.bind_eq_some_iff, Option.pure_def, Option.some.injEq] at h
      obtain ⟨y, hy, ys, hys, rfl⟩ := h
      obtain ⟨x, q1, q2, q5⟩ := iha.1 _ _ _ _ _ h2 hd.1 (show _ = some (y.1, y.2) from hy)
      rw [cellsOf_ty h2, ho] at q1
      obtain ⟨z, q3, q4, q6⟩ := ihb.2 r (o + a.size) cs fuel ys h3 hd.2 hys (by omega)
      refine ⟨(x, z), ?_, ⟨q2, q4⟩, by simp only [Ty.bulk, List.map_cons]; have := K.cons y.1 (ys.map (·.1)); omega⟩
      simp only [CRep]
      refine ⟨_, _, ?_, q1, q3⟩
      rw [← List.drop_drop, List.take_append_drop]
  | st f ih =>
    refine ⟨fun T fuel cs d ps hT hd h => ?_, fun fs o cs fuel xs hT => by simp [tyOk] at hT⟩
    obtain ⟨fs, hu, hf⟩ := tyOk_st hT
    have hsz := cellsOf_ty hT
    cases fuel with
    | zero => simp [DataW.trod] at h
    | succ fuel =>
      unfold DataW.trod at h
      rw [hu] at h
      simp only at h
      split at h
      · rename_i hl
        simp only [Option.map_eq_some_iff] at h
        obtain ⟨xs, hxs, he⟩ := h
        obtain ⟨x, h1, h2, h3⟩ := ih.2 fs.toList 0 cs fuel xs hf (by simpa only [Ty.deep] using hd) hxs (by rw [hl, hsz]; simp [Ty.size])
        simp only [Prod.mk.injEq] at he
        exact ⟨x, by simpa only [CRep, List.drop_zero] using h1, h2, by rw [← he.1]; have := K.agg (xs.map (·.1)); simp only [Ty.bulk]; omega⟩
      · cases h
  | arr n t ih =>
    refine ⟨fun T fuel cs d ps hT hd h => ?_, fun fs o cs fuel xs hT => by simp [tyOk] at hT⟩
    obtain ⟨e, hu, hf⟩ := tyOk_arr hT
    have hsz := cellsOf_ty hT
    have hse := cellsOf_ty hf
    cases fuel with
    | zero => simp [DataW.trod] at h
    | succ fuel =>
      unfold DataW.trod at h
      rw [hu] at h
      simp only at h
      split at h
      · rename_i hl
        simp only [Option.map_eq_some_iff] at h
        obtain ⟨xs, hxs, he⟩ := h
        obtain ⟨zs, h1, h2, h3, h4⟩ := mapM_bulk (K := K) (R := CRep χ w t) (g := fun i => (cs.drop (i * t.size)).take t.size) (wf := t.wf) (bk := t.bulk) hxs (fun i y _ hy => by
          rw [hse] at hy
          exact ih.1 _ _ _ _ _ hf (by simpa only [Ty.deep] using hd) (show _ = some (y.1, y.2) from hy))
        rw [flat_take] at h2
        simp only [List.length_range] at h1
        rw [List.take_of_length_le (by rw [hl, hsz]; simp [Ty.size])] at h2
        simp only [Prod.mk.injEq] at he
        exact ⟨zs, by simp only [CRep]; exact ⟨h1, h2⟩, ⟨h1, h3⟩, by rw [← he.1]; have := K.agg (xs.map (·.1)); simp only [Ty.bulk]; omega⟩
      · cases h
  | sl t ih =>
    refine ⟨fun T fuel cs d ps hT hd h => ?_, fun fs o cs fuel xs hT => by simp [tyOk] at hT⟩
    obtain ⟨e, hu, hf⟩ := tyOk_sl hT
    have hse := cellsOf_ty hf
    cases fuel with
    | zero => simp [DataW.trod] at h
    | succ fuel =>
      unfold DataW.trod at h
      rw [hu] at h
      match cs, h with
      | [.slice none 0 0], h =>
        simp only [Option.some.injEq, Prod.mk.injEq] at h
        exact ⟨[], by simp only [CRep]; exact ⟨none, 0, rfl, .inl trivial⟩, by simp [Ty.wf], by rw [← h.1]; simpa [Ty.bulk] using K.nil'⟩
      | [.slice (some a) ln cap], h =>
        simp only at h
        split at h
        · rename_i hc
          simp only [Option.bind_eq_some_iff] at h
          obtain ⟨els, hels, hrest⟩ := h
          simp only [Option.map_eq_some_iff] at hrest
          obtain ⟨rest, _, he⟩ := hrest
          simp only [Prod.mk.injEq] at he
          rw [hse] at hels
          obtain ⟨zs, h1, h2, h3, hbk⟩ := mapM_bulk (K := K) (R := CRep χ w t) (g := fun i => (List.range t.size).map fun k => (w.cell? (a.add (i * t.size + k))).getD undef) (wf := t.wf) (bk := t.bulk) hels (fun i y _ hy => by
            simp only [Option.bind_eq_some_iff] at hy
            obtain ⟨cs', hcs, hy⟩ := hy
            obtain ⟨z, q1, q2, q3⟩ := ih.1 _ _ _ _ _ hf (by simp only [Ty.deep, Bool.and_eq_true] at hd; exact hd.2) (show _ = some (y.1, y.2) from hy)
            refine ⟨z, ?_, q2, q3⟩
            have := (cells?_is hcs).1
            rw [this] at q1
            simpa only [add_add] using q1)
          rw [flat_range (f := fun j => (w.cell? (a.add j)).getD undef)] at h2
          simp only [List.length_range] at h1
          refine ⟨zs, ?_, by simp only [Ty.wf]; exact ⟨by omega, h3⟩, by rw [← he.1]; have := K.slice (els.map (·.1)) (rest.map (·.1)); simp only [Ty.bulk]; omega⟩
          simp only [CRep]
          refine ⟨some a, cap, by rw [h1], ?_⟩
          by_cases hz : zs = []
          · exact .inl hz
          · have hcell : ∀ j, j < ln * t.size → ∃ v, w.cell? (a.add j) = some v := by
              intro j hj
              have hpos : 0 < t.size := by rcases Nat.eq_zero_or_pos t.size with h0 | h0; rw [h0] at hj; simp at hj; exact h0
              have hi : j / t.size < ln := Nat.div_lt_of_lt_mul (by rw [Nat.mul_comm]; exact hj)
              have hmem : ∀ i, i < ln → ∃ y, (w.cells? 0 (a.add (i * t.size)) t.size).bind (DataW.trod enc P w 0 sp held fuel e) = some y := by
                intro i hi
                have key : ∀ (l : List Nat) els, l.mapM (fun i => (w.cells? 0 (a.add (i * t.size)) t.size).bind (DataW.trod enc P w 0 sp held fuel e)) = some els → ∀ i ∈ l, ∃ y, (w.cells? 0 (a.add (i * t.size)) t.size).bind (DataW.trod enc P w 0 sp held fuel e) = some y := by
                  intro l
                  induction l with
                  | nil => intro els _ i h; cases h
                  | cons x l ihl =>
                    intro els h i hi
                    simp only [List.mapM_cons, Option.bind_eq_bind, Option.bind_eq_some_iff, Option.pure_def, Option.some.injEq] at h
                    obtain ⟨y, hy, ys, hys, rfl⟩ := h
                    rcases List.mem_cons.1 hi with rfl | hi
                    · exact ⟨y, by simpa only [Option.bind_eq_some_iff] using hy⟩
                    · exact ihl ys hys i hi
                exact key _ _ hels i (List.mem_range.2 hi)
              obtain ⟨y, hy⟩ := hmem _ hi
              simp only [Option.bind_eq_some_iff] at hy
              obtain ⟨cs', hcs, _⟩ := hy
              obtain ⟨v, hv⟩ := (cells?_is hcs).2 (j % t.size) (Nat.mod_lt _ hpos)
              refine ⟨v, ?_⟩
              have e1 : (a.add (j / t.size * t.size)).add (j % t.size) = a.add j := by
                rw [add_add, Nat.div_add_mod']
              rwa [e1] at hv
            obtain ⟨b, o, s⟩ := a
            simp only [Ty.deep, Bool.and_eq_true] at hd
            have hs1 : 0 < t.size := Nat.le_of_ble_eq_true hd.1
            by_cases hs0 : ln = 0
            · exact .inl (List.length_eq_zero_iff.1 (by omega))
            · have hpos : 0 < ln * t.size := Nat.mul_pos (by omega) (by omega)
              obtain ⟨v, hv⟩ := hcell 0 hpos
              have hsp := (cell_spot hv).1
              have hsp : s = none := by simpa [Addr.add] using hsp
              subst hsp
              refine .inr ⟨b, o, _, rfl, by omega, h2, fun j v hj => ?_⟩
              rw [List.getElem?_map] at hj
              have hjl : j < ln * t.size := by
                rcases Nat.lt_or_ge j (ln * t.size) with h' | h'
                · exact h'
                · rw [List.getElem?_eq_none (by simpa using h')] at hj; simp at hj
              obtain ⟨v', hv'⟩ := hcell j hjl
              rw [List.getElem?_range hjl] at hj
              simp only [Option.map_some, Option.some.injEq] at hj
              rw [hv'] at hj
              simp only [Option.getD_some] at hj
              subst hj
              have e2 : (⟨b, o, none⟩ : Addr).add j = ⟨b, o + j, none⟩ := by
                by_cases hj0 : j = 0
                · subst hj0; simp [Addr.add]
                · simp [Addr.add, hj0]
              rw [e2] at hv'
              exact ⟨hv', hχ b (o + j) (cell_spot hv').2⟩
        · cases h
  | ptr t _ => exact ⟨fun T fuel cs d ps _ hd => by simp [Ty.deep] at hd, fun fs o cs fuel xs _ hd => by simp [Ty.deep] at hd⟩
def bulkL : (i : Nat) → (τs : List Ty) → denL (enumSh i τs) → Nat
  | _, [], _ => 0
  | i, τ :: r, x => τ.bulk x.1 + bulkL (i + 1) r x.2
theorem args_rep3 (K : BulkFn H) {G : Gh} (hχ : ∀ b o, b < w.heap.size → G.χ b o = 0) : ∀ {τs : List Ty} {Ts : List TypeId} {vs : List Value} {ds : List (DataW H)} {ps : List MemPlace} {i base : Nat}, tysAre P τs Ts = true →
    DataW.TrodAll enc P w 0 (fun _ => true) true Ts vs ds ps → (∀ (j : Nat) t v, Ts[j]? = some t → vs[j]? = some v → Value.okWide P w .any base t v) →
    ∃ x : denL (enumSh i τs), vs.length = τs.length ∧ wfL i τs x ∧ bulkL i τs x ≤ K.BA ds ∧ ∀ (k : Nat) A v, (mkA i τs x)[k]? = some A → vs[k]? = some v → ARep G w #[] (some (i + k)) A v := by
  intro τs
  induction τs with
  | nil =>
    intro Ts vs ds ps i base ht h _
    cases Ts with
    | cons T s => simp [tysAre] at ht
    | nil =>
      cases vs with
      | nil => exact ⟨(), rfl, trivial, by simp [bulkL], fun k A v h => by simp [mkA] at h⟩
      | cons v vs => cases ds <;> simp [DataW.TrodAll] at h
  | cons τ r ih =>
    intro Ts vs ds ps i base ht h hok
    cases Ts with
    | nil => simp [tysAre] at ht
    | cons T s =>
      cases vs with
      | nil => simp [DataW.TrodAll] at h
      | cons v vs =>
        cases ds with
        | nil => simp [DataW.TrodAll] at h
        | cons d ds =>
          simp only [tysAre, Bool.and_eq_true] at ht
          obtain ⟨⟨h1, h2⟩, h3⟩ := ht
          simp only [DataW.TrodAll] at h
          obtain ⟨p, q, ⟨fl, hd⟩, hr, _⟩ := h
          obtain ⟨x, hx, hwf, hbk⟩ := (trod_bulk K hχ τ).1 T fl _ d p h1 h2 hd
          obtain ⟨y, hy1, hy2, hy4, hy3⟩ := ih (i := i + 1) h3 hr fun j t v ht hv => hok (j + 1) t v (by simpa using ht) (by simpa using hv)
          refine ⟨(x, y), by simp [hy1], ⟨hwf, hy2⟩, by simp only [bulkL]; have := K.cons d ds; omega, fun k A u hA hu => ?_⟩
          cases k with
          | zero =>
            simp only [mkA, List.getElem?_cons_zero, Option.some.injEq] at hA hu
            subst hA; subst hu
            simp only [ARep]
            refine ⟨_, hx, ?_⟩
            have hv := hok 0 T v rfl rfl
            cases ha : τ.isAgg with
            | true =>
              obtain ⟨cs, rfl⟩ := is_agg h1 ha hv
              simp [Value.cells]
            | false =>
              have := not_agg h1 ha h2 hv
              cases v with
              | agg cs => exact absurd rfl (this cs)
              | _ => rfl
          | succ k =>
            simp only [mkA, List.getElem?_cons_succ] at hA hu
            have := hy3 k A u hA hu
            rwa [show i + 1 + k = i + (k + 1) by omega] at this
theorem law_callsU (K : BulkFn H) {N : Nat} {τs : List Ty} {Ts : List TypeId} {f : Nat} {ok : denL (enumSh 0 τs) → Prop} {F : denL (enumSh 0 τs) → Bool} {o : denL (enumSh 0 τs) → denO []} (hs : SpecOk P f (fnSpec (enumSh 0 τs) (.val .bool) [] ok F o))
    (hty : tysAre P τs Ts = true) (hn : Nat.ble τs.length cutNo = true) (hlaw : ∀ x, wfL 0 τs x → bulkL 0 τs x ≤ N → ok x ∧ F x = true) {args : Array Value} {ds : List (DataW H)} {ps : List MemPlace} {base : Nat} (hA : DataW.TrodAll enc P w 0 (fun _ => true) true Ts args.toList ds ps)
    (hok : ∀ (j : Nat) t v, Ts[j]? = some t → args.toList[j]? = some v → Value.okWide P w .any base t v) (hN : K.BA ds ≤ N) (hglob : GlobOk (fun b _ => if b < w.heap.size then 0 else 2) w) :
    Calls P f args w fun e w' => e = .returned (.bool true) ∧ Below w.heap.size w w' := by
  let G : Gh := ⟨fun b _ => if b < w.heap.size then 0 else 2, fun _ => 0, fun _ => 0⟩
  have hχ : ∀ b o, b < w.heap.size → G.χ b o = 0 := fun b o hb => by simp [G, hb]
  obtain ⟨x, h1, h2, h4, h3⟩ := args_rep3 K (G := G) hχ (i := 0) hty hA hok
  obtain ⟨hokx, hFx⟩ := hlaw x h2 (Nat.le_trans h4 hN)
  have hlen := mkA_length (τs := τs) (i := 0) (x := x)
  have hn : τs.length ≤ cutNo := Nat.le_of_ble_eq_true hn
  have hpar : parseSt (enumSh 0 τs) (argSt 0 (mkA 0 τs x)) = some x := parse_mkA (fun k => by
    by_cases hk : k < τs.length
    · right
      have := argSt_get (s := k) (args := mkA 0 τs x) (i := 0) (by omega) (by omega) (by omega)
      simp only [Nat.sub_zero] at this
      rw [Nat.zero_add]; exact this.symm
    · left; exact List.getElem?_eq_none (by omega)) (tysAre_notL hty)
  have hsp : fnSpec (enumSh 0 τs) (.val .bool) [] ok F o (mkA 0 τs x) = some ⟨[ok x], .val .bool (F x), [], []⟩ := by
    unfold fnSpec
    rw [hlen.1, hlen.2, Nat.beq_refl, cond_true, hpar]
    rfl
  have hcall := hs.2 _ _ hsp (fun q hq => by simp only [List.mem_singleton] at hq; subst hq; exact hokx) G w args.toList (by rw [h1, hlen.1]) hglob (fun i A v hA hv => by
    have := h3 i A v hA hv
    rwa [Nat.zero_add] at this)
  have : args.toList.toArray = args := by simp
  rw [this] at hcall
  refine hcall.mono ?_
  rintro e w' ⟨v, G', rfl, hfr, hres, _⟩
  simp only [ARep] at hres
  have hv := (VRep_one rfl).1 hres
  simp only [CRep, List.cons.injEq, and_true] at hv
  rw [hv, hFx]
  refine ⟨rfl, hfr.os, hfr.tape, hfr.output, hfr.size, fun k hk => hfr.block k hk fun o => ?_⟩
  rw [hχ k o hk]; omega
end
end Go.Am
namespace Go.Am
open Go Go.RowKit
variable {gtab : GlobTab} {P : Program}
theorem frame0_refl {χ : Nat → Nat → Nat} {w : World} : Frame0 χ w χ w := ⟨rfl, rfl, rfl, Nat.le_refl _, fun _ _ _ => rfl, fun _ _ _ _ => ⟨rfl, rfl⟩⟩
theorem spec_hand1 {f : Nat} {τ : Ty} {rs : Sh} {ok : τ.den → Prop} {F : τ.den → rs.den} {o : denL [(0, Sh.val τ)] → denO []} (hfn : ∃ fn, P.funcs[f]? = some fn ∧ fn.body.isSome = true ∧ fn.name ≠ "runtime.NumGoroutine")
    (H : ∀ x, ok x → ∀ (G : Gh) (w : World) (v : Value), GlobOk G.χ w → VRep G.χ w τ x v → Calls P f #[v] w fun e w' => ∃ u G', e = .returned u ∧ Frame0 G.χ w G'.χ w' ∧ ARep G' w' #[] none (rs.mk (F x)) u) :
    SpecOk P f (fnSpec [(0, .val τ)] rs [] (fun x => ok x.1) (fun x => F x.1) o) := by
  refine ⟨hfn, fun args co hsp hok G w vals hlen hglob hreps => ?_⟩
  unfold fnSpec at hsp
  generalize hal : Nat.beq args.length _ = b at hsp
  cases b with
  | false => cases hsp
  | true =>
    simp only [cond_true] at hsp
    split at hsp
    · rename_i x hx
      injection hsp with hsp
      subst hsp
      have hl : args.length = 1 := Nat.eq_of_beq_eq_true hal
      obtain ⟨A, rfl⟩ : ∃ A, args = [A] := by
        match args, hl with
        | [A], _ => exact ⟨A, rfl⟩
      obtain ⟨v, rfl⟩ : ∃ v, vals = [v] := by
        match vals, hlen with
        | [v], _ => exact ⟨v, rfl⟩
      obtain ⟨l, _⟩ := x
      have hp : (Sh.val τ).parse A = some l := by
        simp only [parseSt, argSt, St.get] at hx
        split at hx
        · rename_i y z hy _
          simp only [Option.some.injEq, Prod.mk.injEq] at hx
          rw [← hx.1]
          simpa using hy
        · cases hx
      have hA := ARep_parse hp (hreps 0 A v rfl rfl)
      simp only [Sh.mk, ARep] at hA
      refine (H l (hok _ (List.mem_singleton.2 rfl)) G w v hglob hA).mono ?_
      rintro e w' ⟨u, G', rfl, q1, q2⟩
      exact ⟨u, G', rfl, q1, q2, fun i k A' u h => by cases h⟩
    · cases hsp
theorem spec_hand2 {f : Nat} {τ σ : Ty} {rs : Sh} {ok : τ.den → σ.den → Prop} {F : τ.den → σ.den → rs.den} {o : denL [(0, Sh.val τ), (1, Sh.val σ)] → denO []} (hfn : ∃ fn, P.funcs[f]? = some fn ∧ fn.body.isSome = true ∧ fn.name ≠ "runtime.NumGoroutine")
    (H : ∀ x y, ok x y → ∀ (G : Gh) (w : World) (v u : Value), GlobOk G.χ w → VRep G.χ w τ x v → VRep G.χ w σ y u → Calls P f #[v, u] w fun e w' => ∃ r G', e = .returned r ∧ Frame0 G.χ w G'.χ w' ∧ ARep G' w' #[] none (rs.mk (F x y)) r) :
    SpecOk P f (fnSpec [(0, .val τ), (1, .val σ)] rs [] (fun x => ok x.1 x.2.1) (fun x => F x.1 x.2.1) o) := by
  refine ⟨hfn, fun args co hsp hok G w vals hlen hglob hreps => ?_⟩
  unfold fnSpec at hsp
  generalize hal : Nat.beq args.length _ = b at hsp
  cases b with
  | false => cases hsp
  | true =>
    simp only [cond_true] at hsp
    split at hsp
    · rename_i x hx
      injection hsp with hsp
      subst hsp
      have hl : args.length = 2 := Nat.eq_of_beq_eq_true hal
      obtain ⟨A, B, rfl⟩ : ∃ A B, args = [A, B] := by
        match args, hl with
        | [A, B], _ => exact ⟨A, B, rfl⟩
      obtain ⟨v, u, rfl⟩ : ∃ v u, vals = [v, u] := by
        match vals, hlen with
        | [v, u], _ => exact ⟨v, u, rfl⟩
      obtain ⟨l, m, _⟩ := x
      have hp : (Sh.val τ).parse A = some l ∧ (Sh.val σ).parse B = some m := by
        simp only [parseSt, argSt, St.get] at hx
        split at hx
        · rename_i y z hy hz
          simp only [Option.some.injEq, Prod.mk.injEq] at hx
          split at hz
          · rename_i y' z' hy' _
            simp only [Option.some.injEq] at hz
            rw [← hz] at hx
            simp only [Prod.mk.injEq] at hx
            rw [← hx.1, ← hx.2.1]
            exact ⟨by simpa using hy, by simpa [Nat.beq, cutNo] using hy'⟩
          · cases hz
        · cases hx
      have hA := ARep_parse hp.1 (hreps 0 A v rfl rfl)
      have hB := ARep_parse hp.2 (hreps 1 B u rfl rfl)
      simp only [Sh.mk, ARep] at hA hB
      refine (H l m (hok _ (List.mem_singleton.2 rfl)) G w v u hglob hA hB).mono ?_
      rintro e w' ⟨r, G', rfl, q1, q2⟩
      exact ⟨r, G', rfl, q1, q2, fun i k A' u h => by cases h⟩
    · cases hsp
theorem spec_byte {f : Nat} {F : List UInt8 → List UInt8 → Int} {o : denL [(0, Sh.val .str), (1, Sh.val .str)] → denO []} (hfn : ∃ fn, P.funcs[f]? = some fn ∧ fn.body.isSome = true ∧ fn.name ≠ "runtime.NumGoroutine")
    (H : ∀ (s : ByteArray) (c : UInt8) (w : World), Calls P f #[.string s, .string ⟨#[c]⟩] w fun e w' => e = .returned (.int .i64 (F s.data.toList [c])) ∧ w' = w) :
    SpecOk P f (fnSpec [(0, .val .str), (1, .val .str)] (.val (.int .i64)) [] (fun x => List.length x.2.1 = 1) (fun x => F x.1 x.2.1) o) := by
  refine spec_hand2 (τ := .str) (σ := .str) (rs := .val (.int .i64)) (ok := fun _ y => List.length y = 1) (F := F) hfn fun x y hy G w v u _ hv hu => ?_
  rw [VRep_one rfl] at hv hu
  simp only [CRep] at hv hu
  injection hv with hv _
  injection hu with hu _
  match y, hy with
  | [c], _ =>
    subst hv hu
    refine (H ⟨List.toArray x⟩ c w).mono ?_
    rintro e w' ⟨rfl, rfl⟩
    refine ⟨_, G, rfl, frame0_refl, ?_⟩
    simp only [Sh.mk, ARep]
    rw [VRep_one rfl]
    simp [CRep]
theorem LRep_strs {χ : Nat → Nat → Nat} {w : World} : ∀ {l : List (List UInt8)}, LRep (CRep χ w .str) l (l.map fun x => Value.string ⟨x.toArray⟩) := by
  intro l
  induction l with
  | nil => simp [LRep]
  | cons x l ih => exact ⟨[.string ⟨x.toArray⟩], _, rfl, by simp only [CRep], ih⟩
theorem LRep_ints {χ : Nat → Nat → Nat} {w : World} {k : IntKind} : ∀ {l : List Int} {vs : List Value}, LRep (CRep χ w (.int k)) l vs → vs = l.map (Value.int k) := by
  intro l
  induction l with
  | nil => intro vs h; simpa [LRep] using h
  | cons x l ih =>
    rintro vs ⟨us, ws, rfl, h1, h2⟩
    simp only [CRep] at h1
    rw [h1, ih h2]
    rfl
theorem glob_row {χ : Nat → Nat → Nat} {w : World} (h : GlobOk χ w) {g n : Nat} {k : IntKind} {l : List Int} (hm : (g, (⟨.arr n (.int k), l⟩ : (τ : Ty) × τ.den)) ∈ GlobTab.tab) (c : Nat) (hc : c < n) : w.cell? ⟨g, c, none⟩ = some (.int k (l.getD c 0)) := by
  obtain ⟨vs, h1, h2⟩ := h g (.arr n (.int k)) l hm
  unfold CRep at h1
  obtain ⟨h1, h3⟩ := h1
  have e := LRep_ints h3
  subst e
  have hlen : List.length (α := Int) l = n := h1
  have := (h2 c (.int k (l.getD c 0)) (by
    rw [List.getElem?_map, List.getElem?_eq_getElem (by omega), List.getD_eq_getElem?_getD, List.getElem?_eq_getElem (by omega)]
    rfl)).1
  simpa using this
theorem spec_strs {f : Nat} {F : List UInt8 → List (List UInt8)} {e : TypeId} {ok : List UInt8 → Prop} {o : denL [(0, Sh.val .str)] → denO []} (hfn : ∃ fn, P.funcs[f]? = some fn ∧ fn.body.isSome = true ∧ fn.name ≠ "runtime.NumGoroutine")
    (H : ∀ (s : ByteArray) (w : World) (χ : Nat → Nat → Nat), ok s.data.toList → GlobOk χ w → Calls P f #[.string s] w fun e' w' => e' = .returned (.slice (some ⟨w.heap.size, 0, none⟩) (F s.data.toList).length (F s.data.toList).length) ∧
      w' = w.alloc (.cells ((F s.data.toList).map fun l => Value.string ⟨l.toArray⟩).toArray e)) :
    SpecOk P f (fnSpec [(0, .val .str)] (.val (.sl .str)) [] (fun x => ok x.1) (fun x => F x.1) o) := by
  refine spec_hand1 (τ := .str) (rs := .val (.sl .str)) (ok := ok) (F := F) hfn fun x hx G w v hglob hv => ?_
  rw [VRep_one rfl] at hv
  simp only [CRep] at hv
  injection hv with hv _
  subst hv
  refine (H ⟨List.toArray x⟩ w G.χ (by simpa using hx) hglob).mono ?_
  rintro e' w' ⟨rfl, rfl⟩
  let G' : Gh := { G with χ := fun b o => if b = w.heap.size then 0 else G.χ b o }
  refine ⟨_, G', rfl, ⟨rfl, rfl, rfl, by simp, fun b hb _ => Below.heap_alloc _ _ _ hb, fun b o hb _ => ⟨if_neg (by omega), World.cell?_alloc_old _ _ _ (by simp only; omega)⟩⟩, ?_⟩
  simp only [Sh.mk, ARep]
  rw [VRep_one rfl]
  unfold CRep
  refine ⟨_, _, rfl, .inr ⟨w.heap.size, 0, _, rfl, Nat.le_refl _, LRep_strs, fun j v hv => ⟨?_, if_pos rfl⟩⟩⟩
  simp only [World.cell?, World.alloc_heap_new, Nat.zero_add]
  simpa using hv
end Go.Am
namespace Go.Am
open Go Go.RowKit
variable {gtab : GlobTab} {P : Program} {c : Ctx}
def rfBody : Code → Option Code
  | .seq a b => match rfBody a with | some x => some x | none => rfBody b
  | .block _ a => rfBody a
  | .rangeFunc _ _ _ b => some b
  | _ => none
def onlyOn [GlobTab] (c : Ctx) (code : Code) (S : St) : Bool := match eval c code S with
  | some o => o.comps.all fun x => Nat.beq x.kind 0
  | none => false
def PieceOk [GlobTab] (P : Program) (c : Ctx) (code : Code) (ps os : List (Nat × Sh)) (ok : denL ps → Prop) (o : denL ps → denO os) : Prop :=
  ∀ x, ok x → ∀ (rd : Option Nat) (χ0 : Nat → Nat → Nat) (w0 : World) (a : Act) (w : World) (G : Gh), Rel c.n χ0 w0 (startSt ps x) a w G →
    code.wpIn (fz rd) 0 P (fun e a' w' => e = .normal ∧ (∀ i ∈ c.keep, a'.tmps.getD i undef = a.tmps.getD i undef) ∧
      ∃ G' d, Rel c.n χ0 w0 (d ++ startSt ps x) a' w' G' ∧ parseO os (d ++ startSt ps x) = some (o x)) a w
theorem piece_gen (hc : CtxOk P c) (hm : P.follows .mixedOrders = true) {code : Code} {bs : List Code} (hbs : loopsOf code = bs) (hL : AllSnd P c bs) (hw : noWrite c.keep code = true) {ps os : List (Nat × Sh)} {ok : denL ps → Prop} {rs : Sh} {F : denL ps → rs.den} {o : denL ps → denO os}
    (hon : ∀ x, onlyOn c code (startSt ps x) = true) (hsum : ∀ x, sumFn c code [] ps rs os x = some (ok x, F x, o x)) : PieceOk P c code ps os ok o := by
  intro x hx rd χ0 w0 a w G hR
  have h := hsum x
  have hon := hon x
  unfold sumFn at h
  unfold onlyOn at hon
  split at h
  · cases h
  · rename_i out ho
    rw [ho] at hon
    simp only at hon
    split at h
    · cases h
    · rename_i d hd
      split at h
      · rename_i r z hr hz
        split at h
        · rename_i v hv
          simp only [Option.some.injEq, Prod.mk.injEq] at h
          obtain ⟨e1, _, rfl⟩ := h
          refine wpIn_mono (eval_sound hc hm (loopsIn_n hbs hL) hw ho (AllP_iff.1 (by rw [e1]; exact hx)) rd χ0 w0 (fun i => a.tmps.getD i undef) a w G hR (fun i _ => rfl)) ?_
          rintro e a' w' ⟨hP, hk⟩
          obtain ⟨_, G', hR'⟩ := fin_post hd hP
          refine ⟨?_, hk, G', d, hR', hz⟩
          obtain ⟨k, cp, G2, h1, h2, _⟩ := hP
          have := List.all_eq_true.1 hon cp (findC_mem h2)
          rw [findC_kind h2] at this
          have := Nat.eq_of_beq_eq_true this
          subst this
          cases e with
          | normal => rfl
          | ret => simp [exitKind] at h1
          | exit id => simp [exitKind] at h1
          | _ => simp [exitKind] at h1
        · cases h
      · cases h
end Go.Am
namespace Go.Am
open Go Go.RowKit
variable {gtab : GlobTab} {P : Program} {c : Ctx}
def Rounds {α β : Type} (ok : β → α → Prop) (next : β → α → β) : List α → β → Prop
  | [], _ => True
  | x :: r, l => ok l x ∧ Rounds ok next r (next l x)
def decRounds {α β : Type} {ok : β → α → Prop} {next : β → α → β} (h : ∀ l x, Decidable (ok l x)) : (xs : List α) → (l : β) → Decidable (Rounds ok next xs l)
  | [], _ => isTrue trivial
  | x :: r, l => @instDecidableAnd _ _ (h l x) (decRounds h r (next l x))
theorem Rounds_at {α β : Type} {ok : β → α → Prop} {next : β → α → β} : ∀ {pre : List α} {x : α} {rest : List α} {l : β}, Rounds ok next (pre ++ x :: rest) l → ok (pre.foldl next l) x := by
  intro pre
  induction pre with
  | nil => intro x rest l h; exact h.1
  | cons y pre ih => intro x rest l h; exact ih h.2
theorem names_one : ∀ (A : AVal) (s : Option Nat), ¬ A.names (· = 1) (fun _ => False) s := by
  intro A
  induction A with
  | own t l T m => intro s; simp only [AVal.names, cArr]; omega
  | opt _ _ _ A ih => intro s; simp only [AVal.names]; exact ih none
  | box τ b ih =>
    intro s
    cases s with
    | none => simp only [AVal.names]; exact ih none
    | some s => simp only [AVal.names, not_or]; exact ⟨by simp only [cBox]; omega, ih none⟩
  | cons x y ihx ihy => intro s; simp only [AVal.names, not_or]; exact ⟨ihx none, ihy none⟩
  | agg f b ih => intro s; simp only [AVal.names]; exact ih none
  | tup b ih => intro s; simp only [AVal.names]; exact ih none
  | fn f b ih => intro s; simp only [AVal.names]; exact ih none
  | _ => intro s; simp [AVal.names]
theorem ext_foreign {G : Gh} {W W' : World} {b : Nat} (hχ : ∀ o, G.χ b o = 1) (h : ∀ k, k ≠ b → W'.heap[k]? = W.heap[k]?) (hs : W.heap.size ≤ W'.heap.size) : Ext (· = 1) (fun _ => False) G W G W' := by
  refine ⟨fun b' o _ h0 => ⟨h0, ?_⟩, fun b' _ hn => ⟨h b' ?_, fun _ => rfl⟩, hs, fun _ _ => rfl, fun _ _ => rfl, fun _ h => h.elim⟩
  · have hne : b' ≠ b := by intro e; subst e; rw [hχ o] at h0; cases h0
    simp only [World.cell?, h b' hne]
  · intro e; subst e; exact hn 0 (hχ 0)
theorem Frame0.trans {χ0 χ1 χ2 : Nat → Nat → Nat} {w0 w1 w2 : World} (h : Frame0 χ0 w0 χ1 w1) (k : Frame0 χ1 w1 χ2 w2) : Frame0 χ0 w0 χ2 w2 := by
  refine ⟨k.os.trans h.os, k.tape.trans h.tape, k.output.trans h.output, Nat.le_trans h.size k.size, fun b hb hc => ?_, fun b o hb hc => ?_⟩
  · rw [k.block b (Nat.lt_of_lt_of_le hb h.size) (fun o => by rw [(h.cell b o hb (hc o)).1]; exact hc o)]
    exact h.block b hb hc
  · have h1 := h.cell b o hb hc
    have h2 := k.cell b o (Nat.lt_of_lt_of_le hb h.size) (by rw [h1.1]; exact hc)
    exact ⟨h2.1.trans h1.1, h2.2.trans h1.2⟩
theorem Frame0.beyond {χ0 χ : Nat → Nat → Nat} {w0 W W' : World} {b : Nat} (h : Frame0 χ0 w0 χ W) (hb : w0.heap.size ≤ b) (hW : ∀ k, k ≠ b → W'.heap[k]? = W.heap[k]?) (hs : W'.heap.size = W.heap.size) (hst : W'.os = W.os ∧ W'.tape = W.tape ∧ W'.output = W.output) :
    Frame0 χ0 w0 χ W' := by
  refine ⟨hst.1.trans h.os, hst.2.1.trans h.tape, hst.2.2.trans h.output, by rw [hs]; exact h.size, fun k hk hc => ?_, fun k o hk hc => ?_⟩
  · rw [hW k (by omega)]; exact h.block k hk hc
  · have h1 := h.cell k o hk hc
    refine ⟨h1.1, ?_⟩
    rw [← h1.2]
    simp only [World.cell?, hW k (show k ≠ b by omega)]
structure JB [GlobTab] (χ0 : Nat → Nat → Nat) (w0 : World) (lo hi : Nat) (E : List (Nat × Nat × AVal)) (G : Gh) (W : World) : Prop where
  frame : Frame0 χ0 w0 G.χ W
  glob : GlobOk G.χ W
  reps : ∀ e ∈ E, ARep G W #[] (some e.1) e.2.2 (.pointer (some ⟨e.2.1, 0, none⟩))
  own : ∀ b, lo ≤ b → b ≤ hi → ∀ o, G.χ b o = 1
  size : hi < W.heap.size
  low : w0.heap.size ≤ lo
theorem JB.foreign {χ0 : Nat → Nat → Nat} {w0 : World} {lo hi : Nat} {E : List (Nat × Nat × AVal)} {G : Gh} {W W' : World} {b : Nat} (h : JB χ0 w0 lo hi E G W) (hl : lo ≤ b) (hh : b ≤ hi) (hW : ∀ k, k ≠ b → W'.heap[k]? = W.heap[k]?) (hs : W'.heap.size = W.heap.size)
    (hst : W'.os = W.os ∧ W'.tape = W.tape ∧ W'.output = W.output) : JB χ0 w0 lo hi E G W' := by
  have hx := ext_foreign (h.own b hl hh) hW (Nat.le_of_eq hs.symm)
  have hlow := h.low
  refine ⟨h.frame.beyond (Nat.le_trans hlow hl) hW hs hst, GlobOk_mono hx.prot h.glob, fun e he => ARep_ext hx (by decide) _ (names_one _ _) (h.reps e he), h.own, by rw [hs]; exact h.size, hlow⟩
theorem JB.setCell {χ0 : Nat → Nat → Nat} {w0 : World} {lo hi : Nat} {E : List (Nat × Nat × AVal)} {G : Gh} {W : World} {b : Nat} (h : JB χ0 w0 lo hi E G W) (hl : lo ≤ b) (hh : b ≤ hi) (v : Value) : JB χ0 w0 lo hi E G (W.setCell ⟨b, 0, none⟩ v) :=
  h.foreign hl hh (fun k hk => Below.heap_setCell W ⟨b, 0, none⟩ v k hk) (by simp [World.setCell]) ⟨rfl, rfl, rfl⟩
theorem JB.putObj {χ0 : Nat → Nat → Nat} {w0 : World} {lo hi : Nat} {E : List (Nat × Nat × AVal)} {G : Gh} {W : World} {b : Nat} (h : JB χ0 w0 lo hi E G W) (hl : lo ≤ b) (hh : b ≤ hi) (o : Obj) : JB χ0 w0 lo hi E G (W.putObj b o) :=
  h.foreign hl hh (fun k hk => World.putObj_heap_other hk) (by simp [World.putObj]) ⟨rfl, rfl, rfl⟩
theorem JB.step {χ0 : Nat → Nat → Nat} {w0 : World} {lo hi : Nat} {E E' : List (Nat × Nat × AVal)} {G G' : Gh} {W W' : World} (h : JB χ0 w0 lo hi E G W) (hf : Frame0 G.χ W G'.χ W') (hg : GlobOk G'.χ W') (hr : ∀ e ∈ E', ARep G' W' #[] (some e.1) e.2.2 (.pointer (some ⟨e.2.1, 0, none⟩))) :
    JB χ0 w0 lo hi E' G' W' ∧ ∀ b, lo ≤ b → b ≤ hi → W'.heap[b]? = W.heap[b]? := by
  have hsz := h.size
  refine ⟨⟨h.frame.trans hf, hg, hr, fun b hl hh o => ?_, Nat.lt_of_lt_of_le hsz hf.size, h.low⟩, fun b hl hh => hf.block b (by omega) (fun o => by rw [h.own b hl hh o]; exact Nat.le_refl _)⟩
  rw [(hf.cell b o (by omega) (by rw [h.own b hl hh o]; exact Nat.le_refl _)).1]
  exact h.own b hl hh o
theorem spec_hand4 {f : Nat} {τ σ υ ω : Ty} {rs : Sh} {ok : τ.den → σ.den → υ.den → ω.den → Prop} {F : τ.den → σ.den → υ.den → ω.den → rs.den} {o : denL [(0, Sh.val τ), (1, Sh.val σ), (2, Sh.val υ), (3, Sh.val ω)] → denO []} (hfn : ∃ fn, P.funcs[f]? = some fn ∧ fn.body.isSome = true ∧ fn.name ≠ "runtime.NumGoroutine")
    (H : ∀ x y z u, ok x y z u → ∀ (G : Gh) (w : World) (v1 v2 v3 v4 : Value), GlobOk G.χ w → VRep G.χ w τ x v1 → VRep G.χ w σ y v2 → VRep G.χ w υ z v3 → VRep G.χ w ω u v4 → Calls P f #[v1, v2, v3, v4] w fun e w' => ∃ r G', e = .returned r ∧ Frame0 G.χ w G'.χ w' ∧ ARep G' w' #[] none (rs.mk (F x y z u)) r) :
    SpecOk P f (fnSpec [(0, .val τ), (1, .val σ), (2, .val υ), (3, .val ω)] rs [] (fun x => ok x.1 x.2.1 x.2.2.1 x.2.2.2.1) (fun x => F x.1 x.2.1 x.2.2.1 x.2.2.2.1) o) := by
  refine ⟨hfn, fun args co hsp hok G w vals hlen hglob hreps => ?_⟩
  unfold fnSpec at hsp
  generalize hal : Nat.beq args.length _ = b at hsp
  cases b with
  | false => cases hsp
  | true =>
    simp only [cond_true] at hsp
    split at hsp
    · rename_i x hx
      injection hsp with hsp
      subst hsp
      have hl : args.length = 4 := Nat.eq_of_beq_eq_true hal
      obtain ⟨A, B, C, D, rfl⟩ : ∃ A B C D, args = [A, B, C, D] := by
        match args, hl with
        | [A, B, C, D], _ => exact ⟨A, B, C, D, rfl⟩
      obtain ⟨v1, v2, v3, v4, rfl⟩ : ∃ v1 v2 v3 v4, vals = [v1, v2, v3, v4] := by
        match vals, hlen with
        | [v1, v2, v3, v4], _ => exact ⟨v1, v2, v3, v4, rfl⟩
      have hp : ∀ (k : Nat) (i : Nat) (s : Sh), [(0, Sh.val τ), (1, Sh.val σ), (2, Sh.val υ), (3, Sh.val ω)][k]? = some (i, s) → ∃ y, s.parse (St.get (argSt 0 [A, B, C, D]) i) = some y := fun k i s h => parseSt_at hx h
      obtain ⟨x1, x2, x3, x4, _⟩ := x
      simp only [parseSt] at hx
      have hg : ∀ i, St.get (argSt 0 [A, B, C, D]) i = [A, B, C, D].getD i .junk := by
        intro i
        simp only [argSt, St.get]
        match i with
        | 0 => simp
        | 1 => simp [cutNo, Nat.beq]
        | 2 => simp [cutNo, Nat.beq]
        | 3 => simp [cutNo, Nat.beq]
        | k + 4 => simp [cutNo, Nat.beq]
      simp only [hg, List.getD_cons_zero, List.getD_cons_succ] at hx
      generalize h1 : (Sh.val τ).parse A = o1 at hx
      generalize h2 : (Sh.val σ).parse B = o2 at hx
      generalize h3 : (Sh.val υ).parse C = o3 at hx
      generalize h4 : (Sh.val ω).parse D = o4 at hx
      cases o1 <;> cases o2 <;> cases o3 <;> cases o4 <;> simp at hx
      obtain ⟨rfl, rfl, rfl, rfl⟩ := hx
      have hA := ARep_parse h1 (hreps 0 A v1 rfl rfl)
      have hB := ARep_parse h2 (hreps 1 B v2 rfl rfl)
      have hC := ARep_parse h3 (hreps 2 C v3 rfl rfl)
      have hD := ARep_parse h4 (hreps 3 D v4 rfl rfl)
      simp only [Sh.mk, ARep] at hA hB hC hD
      refine (H _ _ _ _ (hok _ (List.mem_singleton.2 rfl)) G w v1 v2 v3 v4 hglob hA hB hC hD).mono ?_
      rintro e w' ⟨r, G', rfl, q1, q2⟩
      exact ⟨r, G', rfl, q1, q2, fun i k A' u h => by cases h⟩
    · cases hsp
end Go.Am
