/- The abstract machine, part 4: a typed interpreter for the program's code, and that it is sound. No condition. -/
import Derived.Test.YtdgfchmfajmkiaaDoorMach3
import Derived.Lib.Bytealg
import Derived.ProofKit
import Derived.Carry
import Derived.ChangeSame
namespace Go.Am
open Go Go.RowKit
variable {gtab : GlobTab} {P : Program} {c : Ctx} {G : Gh} {w : World} {tm : Array Value} {n : Nat} {χ0 : Nat → Nat → Nat} {w0 : World} {S : St} {a : Act}
theorem nil_CRep {χ : Nat → Nat → Nat} {t : Ty} : CRep χ w (.sl t) ([] : List t.den) [.slice none 0 0] := by
  simp only [CRep]; exact ⟨none, 0, rfl, .inl trivial⟩
theorem nil_ORep {t : Ty} {T : Nat} {m : Bool} (h : (t.plain && !t.isL) = true) : ORep G w t [] T m (.slice none 0 0) := by
  simp only [Bool.and_eq_true, Bool.not_eq_true'] at h
  exact .inl ⟨h, .inl ⟨rfl, rfl⟩⟩
theorem own_cast {t t' : Ty} {l' : List t'.den} {l2 : (Ty.sl t).den} (h : Ty.cast (a := .sl t') (.sl t) l' = some l2) : t' = t ∧ HEq l' l2 := by
  obtain ⟨e, h⟩ := cast_eq h
  injection e with e
  subst e
  exact ⟨rfl, heq_of_eq h⟩
theorem TRep_mergeT : ∀ {A B : AVal} {τ : Ty} {vs : List Value}, (mergeA true A B).fitsT τ = true → TRep G w τ A vs → TRep G w τ (mergeA true A B) vs := by
  intro A
  induction A with
  | val τ' x =>
    intro B τ vs hf h
    cases B with
    | val τ2 y =>
      simp only [mergeA] at hf ⊢
      split at hf
      · exact h
      · simp [AVal.fitsT] at hf
    | nil =>
      cases τ' <;> simp only [mergeA, AVal.fitsT, Bool.false_eq_true] at hf
      simp only [mergeA, cond_true]; exact h
    | agg f b =>
      cases τ' <;> simp only [mergeA, AVal.fitsT, Bool.false_eq_true] at hf
      simp only [mergeA, cond_true] at hf ⊢
      split at hf
      · exact h
      · simp [AVal.fitsT] at hf
    | own t l T m =>
      simp only [mergeA, voA] at hf ⊢
      cases m with
      | true => simp [AVal.fitsT] at hf
      | false =>
        simp only [cond_false] at hf ⊢
        split at hf
        · exact h
        · simp [AVal.fitsT] at hf
    | _ => cases τ' <;> simp [mergeA, AVal.fitsT] at hf
  | nil =>
    intro B τ vs hf h
    simp only [TRep] at h
    obtain ⟨h1, rfl⟩ := h
    cases B with
    | nil => simp only [mergeA, TRep]; exact ⟨h1, trivial⟩
    | val τ2 y =>
      cases τ2 <;> simp only [mergeA, AVal.fitsT, Bool.false_eq_true] at hf
      rename_i t
      simp only [mergeA, cond_true, TRep]
      simp only [Bool.and_eq_true] at hf
      have e := Ty.eq_of_beq hf.1
      subst e
      exact ⟨rfl, rfl, nil_CRep⟩
    | own t l T m =>
      simp only [mergeA] at hf ⊢
      generalize hp : (t.plain && !t.isL) = b at hf
      cases b with
      | false => simp [AVal.fitsT] at hf
      | true =>
        simp only [cond_true, AVal.fitsT] at hf ⊢
        have e := Ty.eq_of_beq hf
        subst e
        simp only [TRep]
        exact ⟨trivial, _, rfl, nil_ORep hp⟩
    | _ => simp [mergeA, AVal.fitsT] at hf
  | own t l T m =>
    intro B τ vs hf h
    cases B with
    | nil =>
      simp only [mergeA] at hf ⊢
      generalize hp : (t.plain && !t.isL) = b at hf
      cases b with
      | false => simp [AVal.fitsT] at hf
      | true => simp only [cond_true]; exact h
    | own t' l' T' m' =>
      simp only [mergeA] at hf ⊢
      generalize (Nat.beq T T' && (m == m')) = b at hf ⊢
      cases b with
      | false => simp [AVal.fitsT] at hf
      | true =>
        simp only [cond_true] at hf ⊢
        split at hf
        · exact h
        · simp [AVal.fitsT] at hf
    | val τ2 y =>
      simp only [mergeA, ovA] at hf ⊢
      cases m with
      | true => simp [AVal.fitsT] at hf
      | false =>
        simp only [cond_false] at hf ⊢
        split at hf
        · simp only [TRep] at h
          obtain ⟨rfl, v, rfl, ho⟩ := h
          simp only [cond_true, TRep]
          exact ⟨trivial, rfl, ORep_CRep ho⟩
        · simp [AVal.fitsT] at hf
    | _ => simp [mergeA, AVal.fitsT] at hf
  | agg f x ih =>
    intro B τ vs hf h
    cases B with
    | agg f' b =>
      simp only [mergeA] at hf ⊢
      generalize hb : (Ty.beq f f' && AVal.fits f (mergeA true x b)) = bb at hf
      cases bb with
      | false => simp [AVal.fitsT] at hf
      | true =>
        simp only [Bool.and_eq_true] at hb
        simp only [cond_true, TRep] at h ⊢
        exact ⟨h.1, ih hb.2 h.2⟩
    | val τ2 y =>
      cases τ2 <;> simp only [mergeA, AVal.fitsT, Bool.false_eq_true] at hf
      rename_i f'
      simp only [mergeA] at hf ⊢
      split at hf
      · rename_i x' hx
        have hfit := as_fits hx
        simp only [AVal.fitsT, Bool.and_eq_true] at hfit
        have e := Ty.eq_of_beq hfit.1
        injection e with e
        subst e
        simp only [TRep] at h
        obtain ⟨rfl, h⟩ := h
        simp only [TRep, cond_true]
        exact ⟨trivial, rfl, as_CRep (A := .agg f x) hx (by simp only [TRep]; exact ⟨trivial, h⟩)⟩
      · simp [AVal.fitsT] at hf
    | _ => simp [mergeA, AVal.fitsT] at hf
  | nl =>
    intro B τ vs hf h
    cases B with
    | nl => exact h
    | _ => simp [mergeA, AVal.fitsT] at hf
  | cons x y ihx ihy =>
    intro B τ vs hf h
    cases B with
    | cons x' y' =>
      simp only [TRep] at h
      obtain ⟨h1, t1, us, ws, rfl, rfl, h2, h3⟩ := h
      simp only [mergeA, AVal.fitsT, fitsCons, Bool.and_eq_true] at hf
      simp only [mergeA, TRep]
      exact ⟨_, _, _, _, rfl, rfl, ihx hf.1 h2, ihy hf.2 h3⟩
    | _ => simp [mergeA, AVal.fitsT] at hf
  | junk => intro B τ vs hf h; cases B <;> simp [mergeA, AVal.fitsT] at hf
  | _ => intro B τ vs _ h; simp [TRep] at h
theorem TRep_mergeF : ∀ {A B : AVal} {τ : Ty} {vs : List Value}, (mergeA false A B).fitsT τ = true → TRep G w τ B vs → TRep G w τ (mergeA false A B) vs := by
  intro A
  induction A with
  | val τ' x =>
    intro B τ vs hf h
    cases B with
    | val τ2 y =>
      simp only [mergeA] at hf ⊢
      split at hf
      · rename_i z hz
        obtain ⟨e, hz⟩ := cast_eq hz
        subst e; subst hz
        exact h
      · simp [AVal.fitsT] at hf
    | nil =>
      simp only [TRep] at h
      obtain ⟨h1, rfl⟩ := h
      cases τ' <;> simp only [mergeA, AVal.fitsT, Bool.false_eq_true] at hf
      simp only [Bool.and_eq_true] at hf
      have e := Ty.eq_of_beq hf.1
      subst e
      simp only [mergeA, cond_false, TRep]
      exact ⟨trivial, rfl, nil_CRep⟩
    | agg f b =>
      cases τ' <;> simp only [mergeA, AVal.fitsT, Bool.false_eq_true] at hf
      rename_i f'
      simp only [mergeA, cond_false] at hf ⊢
      split at hf
      · rename_i x' hx
        have hfit := as_fits hx
        simp only [AVal.fitsT, Bool.and_eq_true] at hfit
        have e := Ty.eq_of_beq hfit.1
        injection e with e
        subst e
        simp only [TRep] at h
        obtain ⟨rfl, h⟩ := h
        simp only [TRep]
        exact ⟨trivial, rfl, as_CRep (A := .agg f b) hx (by simp only [TRep]; exact ⟨trivial, h⟩)⟩
      · simp [AVal.fitsT] at hf
    | own t l T m =>
      simp only [mergeA, voA] at hf ⊢
      cases m with
      | true => simp [AVal.fitsT] at hf
      | false =>
        simp only [cond_false] at hf ⊢
        split at hf
        · rename_i z hz
          obtain ⟨e, hz⟩ := cast_eq hz
          subst e; subst hz
          simp only [TRep] at h
          obtain ⟨rfl, v, rfl, ho⟩ := h
          simp only [TRep]
          exact ⟨trivial, rfl, ORep_CRep ho⟩
        · simp [AVal.fitsT] at hf
    | _ => cases τ' <;> simp [mergeA, AVal.fitsT] at hf
  | nil =>
    intro B τ vs hf h
    cases B with
    | nil => exact h
    | val τ2 y =>
      cases τ2 <;> simp only [mergeA, AVal.fitsT, Bool.false_eq_true] at hf
      simp only [mergeA, cond_false]; exact h
    | own t l T m =>
      simp only [mergeA] at hf ⊢
      generalize hp : (t.plain && !t.isL) = b at hf
      cases b with
      | false => simp [AVal.fitsT] at hf
      | true => exact h
    | _ => simp [mergeA, AVal.fitsT] at hf
  | own t l T m =>
    intro B τ vs hf h
    cases B with
    | nil =>
      simp only [TRep] at h
      obtain ⟨h1, rfl⟩ := h
      simp only [mergeA] at hf ⊢
      generalize hp : (t.plain && !t.isL) = b at hf
      cases b with
      | false => simp [AVal.fitsT] at hf
      | true =>
        simp only [cond_true, AVal.fitsT] at hf ⊢
        have e := Ty.eq_of_beq hf
        subst e
        simp only [cond_false, TRep]
        exact ⟨trivial, _, rfl, nil_ORep hp⟩
    | own t' l' T' m' =>
      simp only [mergeA] at hf ⊢
      generalize hb : (Nat.beq T T' && (m == m')) = b at hf
      cases b with
      | false => simp [AVal.fitsT] at hf
      | true =>
        simp only [cond_true] at hf ⊢
        simp only [Bool.and_eq_true, beq_iff_eq] at hb
        have e := Nat.eq_of_beq_eq_true hb.1
        obtain ⟨_, hb⟩ := hb
        subst e; subst hb
        split at hf
        · rename_i z hz
          obtain ⟨e, hz⟩ := own_cast hz
          subst e
          have := eq_of_heq hz
          subst this
          exact h
        · simp [AVal.fitsT] at hf
    | val τ2 y =>
      simp only [mergeA, ovA] at hf ⊢
      cases m with
      | true => simp [AVal.fitsT] at hf
      | false =>
        simp only [cond_false] at hf ⊢
        split at hf
        · rename_i z hz
          obtain ⟨e, hz⟩ := cast_eq hz
          subst e; subst hz
          exact h
        · simp [AVal.fitsT] at hf
    | _ => simp [mergeA, AVal.fitsT] at hf
  | agg f x ih =>
    intro B τ vs hf h
    cases B with
    | agg f' b =>
      simp only [mergeA] at hf ⊢
      generalize hb : (Ty.beq f f' && AVal.fits f (mergeA false x b)) = bb at hf
      cases bb with
      | false => simp [AVal.fitsT] at hf
      | true =>
        simp only [Bool.and_eq_true] at hb
        have e := Ty.eq_of_beq hb.1
        subst e
        simp only [cond_true, TRep] at h ⊢
        exact ⟨h.1, ih hb.2 h.2⟩
    | val τ2 y =>
      cases τ2 <;> simp only [mergeA, AVal.fitsT, Bool.false_eq_true] at hf
      rename_i f'
      simp only [mergeA] at hf ⊢
      split at hf
      · exact h
      · simp [AVal.fitsT] at hf
    | _ => simp [mergeA, AVal.fitsT] at hf
  | nl =>
    intro B τ vs hf h
    cases B with
    | nl => exact h
    | _ => simp [mergeA, AVal.fitsT] at hf
  | cons x y ihx ihy =>
    intro B τ vs hf h
    cases B with
    | cons x' y' =>
      simp only [TRep] at h
      obtain ⟨h1, t1, us, ws, rfl, rfl, h2, h3⟩ := h
      simp only [mergeA, AVal.fitsT, fitsCons, Bool.and_eq_true] at hf
      simp only [mergeA, TRep]
      exact ⟨_, _, _, _, rfl, rfl, ihx hf.1 h2, ihy hf.2 h3⟩
    | _ => simp [mergeA, AVal.fitsT] at hf
  | _ => intro B τ vs hf h; cases B <;> simp [mergeA, AVal.fitsT, TRep] at hf h
theorem ARep_mergeT : ∀ {A B : AVal} {os : Option Nat} {v : Value}, ARep G w tm os A v → ARep G w tm os (mergeA true A B) v := by
  intro A
  induction A with
  | val τ' x =>
    intro B os v h
    cases B with
    | val τ2 y =>
      simp only [mergeA]
      split
      · exact h
      · simp only [ARep]
    | nil => cases τ' <;> simp only [mergeA, cond_true, ARep]; exact h
    | agg f b =>
      cases τ' <;> simp only [mergeA, cond_true, ARep]
      split
      · exact h
      · simp only [ARep]
    | own t l T m =>
      simp only [mergeA, voA]
      cases m with
      | true => simp only [cond_true, ARep]
      | false =>
        simp only [cond_false]
        split
        · exact h
        · simp only [ARep]
    | _ => cases τ' <;> simp only [mergeA, ARep]
  | nil =>
    intro B os v h
    simp only [ARep] at h
    subst h
    cases B with
    | nil => simp only [mergeA, ARep]
    | val τ2 y =>
      cases τ2 <;> simp only [mergeA, cond_true] <;> first | exact sl_ARep nil_CRep | simp only [ARep]
    | own t l T m =>
      simp only [mergeA]
      generalize hp : (t.plain && !t.isL) = b
      cases b with
      | false => simp only [cond_false, ARep]
      | true => simp only [cond_true, ARep]; exact nil_ORep hp
    | _ => simp only [mergeA, ARep]
  | own t l T m =>
    intro B os v h
    cases B with
    | nil =>
      simp only [mergeA]
      cases (t.plain && !t.isL) with
      | false => simp only [cond_false, ARep]
      | true => simp only [cond_true]; exact h
    | own t' l' T' m' =>
      simp only [mergeA]
      cases (Nat.beq T T' && (m == m')) with
      | false => simp only [cond_false, ARep]
      | true =>
        simp only [cond_true]
        split
        · exact h
        · simp only [ARep]
    | val τ2 y =>
      simp only [mergeA, ovA]
      cases m with
      | true => simp only [cond_true, ARep]
      | false =>
        simp only [cond_false]
        split
        · simp only [ARep] at h
          exact sl_ARep (ORep_CRep h)
        · simp only [ARep]
    | _ => simp only [mergeA, ARep]
  | box τ x _ =>
    intro B os v h
    cases B with
    | box τ' y =>
      simp only [mergeA]
      generalize hb : (Ty.beq τ τ' && AVal.fits τ (mergeA true x y)) = b
      cases b with
      | false => simp only [cond_false, ARep]
      | true =>
        simp only [Bool.and_eq_true] at hb
        simp only [cond_true]
        cases os with
        | none => simp only [ARep] at h
        | some s =>
          simp only [ARep] at h ⊢
          obtain ⟨h1, h2, cur, e, h3, h4, h5⟩ := h
          exact ⟨h1, h2, cur, e, h3, TRep_mergeT hb.2 h4, h5⟩
    | _ => simp only [mergeA, ARep]
  | ref s τ p =>
    intro B os v h
    cases p with
    | nil =>
      cases B with
      | ref s' τ' p' =>
        cases p' with
        | nil =>
          simp only [mergeA]
          cases (Nat.beq s s' && Ty.beq τ τ') with
          | false => simp only [cond_false, ARep]
          | true => simp only [cond_true]; exact h
        | cons _ _ => simp only [mergeA, ARep]
      | _ => simp only [mergeA, ARep]
    | cons _ _ => cases B <;> simp only [mergeA, ARep]
  | nl =>
    intro B os v h
    cases B with
    | nl => exact h
    | _ => simp only [mergeA, ARep]
  | cons x y ihx ihy =>
    intro B os v h
    cases B with
    | cons x' y' =>
      simp only [ARep] at h
      obtain ⟨u, us, rfl, h1, h2⟩ := h
      simp only [mergeA, ARep]
      exact ⟨u, us, rfl, ihx h1, ihy h2⟩
    | _ => simp only [mergeA, ARep]
  | agg f x _ =>
    intro B os v h
    cases B with
    | agg f' b =>
      simp only [mergeA]
      generalize hb : (Ty.beq f f' && AVal.fits f (mergeA true x b)) = bb
      cases bb with
      | false => simp only [cond_false, ARep]
      | true =>
        simp only [Bool.and_eq_true] at hb
        simp only [cond_true, ARep] at h ⊢
        obtain ⟨vs, h1, h2⟩ := h
        exact ⟨vs, h1, TRep_mergeT hb.2 h2⟩
    | val τ2 y =>
      cases τ2 <;> simp only [mergeA, ARep]
      split
      · rename_i x' hx
        simp only [ARep, cond_true]
        exact as_VRep hx rfl (ARep_none h (by intro _ _ e; cases e) (by intro e; cases e))
      · simp only [ARep]
    | _ => simp only [mergeA, ARep]
  | tup x ih =>
    intro B os v h
    cases B with
    | tup b => simp only [mergeA, ARep] at h ⊢; exact ih h
    | _ => simp only [mergeA, ARep]
  | ownh t l T i U m =>
    intro B os v h
    cases B with
    | ownh t' l' T' i' U' m' =>
      simp only [mergeA]
      cases (Nat.beq T T' && Nat.beq U U' && (m == m')) with
      | false => simp only [cond_false, ARep]
      | true =>
        simp only [cond_true]
        split
        · exact h
        · simp only [ARep]
    | _ => simp only [mergeA, ARep]
  | _ => intro B os v h; cases B <;> simp only [mergeA, ARep]
theorem ARep_mergeF : ∀ {A B : AVal} {os : Option Nat} {v : Value}, ARep G w tm os B v → ARep G w tm os (mergeA false A B) v := by
  intro A
  induction A with
  | val τ' x =>
    intro B os v h
    cases B with
    | val τ2 y =>
      simp only [mergeA]
      split
      · rename_i z hz
        obtain ⟨e, hz⟩ := cast_eq hz
        subst e; subst hz
        exact h
      · simp only [ARep]
    | nil =>
      simp only [ARep] at h
      subst h
      cases τ' <;> simp only [mergeA, cond_false] <;> first | exact sl_ARep nil_CRep | simp only [ARep]
    | agg f b =>
      cases τ' <;> simp only [mergeA, cond_false, ARep]
      split
      · rename_i x' hx
        simp only [ARep]
        exact as_VRep hx rfl (ARep_none h (by intro _ _ e; cases e) (by intro e; cases e))
      · simp only [ARep]
    | own t l T m =>
      simp only [mergeA, voA]
      cases m with
      | true => simp only [cond_true, ARep]
      | false =>
        simp only [cond_false]
        split
        · rename_i z hz
          obtain ⟨e, hz⟩ := cast_eq hz
          subst e; subst hz
          simp only [ARep] at h
          exact sl_ARep (ORep_CRep h)
        · simp only [ARep]
    | _ => cases τ' <;> simp only [mergeA, ARep]
  | nil =>
    intro B os v h
    cases B with
    | nil => exact h
    | val τ2 y => cases τ2 <;> simp only [mergeA, cond_false, ARep]; exact h
    | own t l T m =>
      simp only [mergeA]
      cases (t.plain && !t.isL) with
      | false => simp only [cond_false, ARep]
      | true => exact h
    | _ => simp only [mergeA, ARep]
  | own t l T m =>
    intro B os v h
    cases B with
    | nil =>
      simp only [ARep] at h
      subst h
      simp only [mergeA]
      generalize hp : (t.plain && !t.isL) = b
      cases b with
      | false => simp only [cond_false, ARep]
      | true => simp only [cond_true, cond_false, ARep]; exact nil_ORep hp
    | own t' l' T' m' =>
      simp only [mergeA]
      generalize hb : (Nat.beq T T' && (m == m')) = b
      cases b with
      | false => simp only [cond_false, ARep]
      | true =>
        simp only [Bool.and_eq_true, beq_iff_eq] at hb
        have e := Nat.eq_of_beq_eq_true hb.1
        obtain ⟨_, hb⟩ := hb
        subst e; subst hb
        simp only [cond_true]
        split
        · rename_i z hz
          obtain ⟨e, hz⟩ := own_cast hz
          subst e
          have := eq_of_heq hz
          subst this
          exact h
        · simp only [ARep]
    | val τ2 y =>
      simp only [mergeA, ovA]
      cases m with
      | true => simp only [cond_true, ARep]
      | false =>
        simp only [cond_false]
        split
        · rename_i z hz
          obtain ⟨e, hz⟩ := cast_eq hz
          subst e; subst hz
          exact h
        · simp only [ARep]
    | _ => simp only [mergeA, ARep]
  | box τ x _ =>
    intro B os v h
    cases B with
    | box τ' y =>
      simp only [mergeA]
      generalize hb : (Ty.beq τ τ' && AVal.fits τ (mergeA false x y)) = b
      cases b with
      | false => simp only [cond_false, ARep]
      | true =>
        simp only [Bool.and_eq_true] at hb
        have e := Ty.eq_of_beq hb.1
        subst e
        simp only [cond_true]
        cases os with
        | none => simp only [ARep] at h
        | some s =>
          simp only [ARep] at h ⊢
          obtain ⟨h1, h2, cur, e, h3, h4, h5⟩ := h
          exact ⟨h1, h2, cur, e, h3, TRep_mergeF hb.2 h4, h5⟩
    | _ => simp only [mergeA, ARep]
  | ref s τ p =>
    intro B os v h
    cases p with
    | nil =>
      cases B with
      | ref s' τ' p' =>
        cases p' with
        | nil =>
          simp only [mergeA]
          generalize hb : (Nat.beq s s' && Ty.beq τ τ') = b
          cases b with
          | false => simp only [cond_false, ARep]
          | true =>
            simp only [Bool.and_eq_true] at hb
            have e := Nat.eq_of_beq_eq_true hb.1
            have e' := Ty.eq_of_beq hb.2
            subst e; subst e'
            exact h
        | cons _ _ => simp only [mergeA, ARep]
      | _ => simp only [mergeA, ARep]
    | cons _ _ => cases B <;> simp only [mergeA, ARep]
  | nl =>
    intro B os v h
    cases B with
    | nl => exact h
    | _ => simp only [mergeA, ARep]
  | cons x y ihx ihy =>
    intro B os v h
    cases B with
    | cons x' y' =>
      simp only [ARep] at h
      obtain ⟨u, us, rfl, h1, h2⟩ := h
      simp only [mergeA, ARep]
      exact ⟨u, us, rfl, ihx h1, ihy h2⟩
    | _ => simp only [mergeA, ARep]
  | agg f x _ =>
    intro B os v h
    cases B with
    | agg f' b =>
      simp only [mergeA]
      generalize hb : (Ty.beq f f' && AVal.fits f (mergeA false x b)) = bb
      cases bb with
      | false => simp only [cond_false, ARep]
      | true =>
        simp only [Bool.and_eq_true] at hb
        have e := Ty.eq_of_beq hb.1
        subst e
        simp only [cond_true, ARep] at h ⊢
        obtain ⟨vs, h1, h2⟩ := h
        exact ⟨vs, h1, TRep_mergeF hb.2 h2⟩
    | val τ2 y =>
      cases τ2 <;> simp only [mergeA, ARep]
      split
      · exact h
      · simp only [ARep]
    | _ => simp only [mergeA, ARep]
  | tup x ih =>
    intro B os v h
    cases B with
    | tup b => simp only [mergeA, ARep] at h ⊢; exact ih h
    | _ => simp only [mergeA, ARep]
  | ownh t l T i U m =>
    intro B os v h
    cases B with
    | ownh t' l' T' i' U' m' =>
      simp only [mergeA]
      generalize hb : (Nat.beq T T' && Nat.beq U U' && (m == m')) = b
      cases b with
      | false => simp only [cond_false, ARep]
      | true =>
        simp only [Bool.and_eq_true, beq_iff_eq] at hb
        have e1 := Nat.eq_of_beq_eq_true hb.1.1
        have e2 := Nat.eq_of_beq_eq_true hb.1.2
        obtain ⟨_, e3⟩ := hb
        subst e1; subst e2; subst e3
        simp only [cond_true]
        split
        · rename_i z hz
          obtain ⟨e, hz⟩ := cast_eq hz
          injection e with e
          injection e with e
          subst e
          have hz : l' = z := hz
          subst hz
          exact h
        · simp only [ARep]
    | _ => simp only [mergeA, ARep]
  | _ => intro B os v h; cases B <;> simp only [mergeA, ARep]
def St.hasCut (d : St) : Bool := d.any fun e => Nat.beq e.1 cutNo
theorem mergeD_get {g : Bool} {d1 d2 : St} {s : Nat} : ∀ {ks : St} {R : St}, (mergeD g d1 d2 S ks ++ R).get s = .junk ∨ (mergeD g d1 d2 S ks ++ R).get s = mergeA g ((d1 ++ S).get s) ((d2 ++ S).get s) ∨
    (St.has s ks = false ∧ St.hasCut ks = false ∧ (mergeD g d1 d2 S ks ++ R).get s = R.get s) := by
  intro ks
  induction ks with
  | nil => intro R; exact .inr (.inr ⟨rfl, rfl, rfl⟩)
  | cons e r ih =>
    intro R
    obtain ⟨k, A⟩ := e
    simp only [mergeD, List.cons_append, St.get]
    cases hk : Nat.beq k s with
    | true =>
      have := Nat.eq_of_beq_eq_true hk
      subst this
      simp only [cond_true]
      cases Nat.beq k cutNo with
      | true => exact .inl rfl
      | false => exact .inr (.inl rfl)
    | false =>
      simp only [cond_false]
      cases hc : Nat.beq k cutNo with
      | true => exact .inl rfl
      | false =>
        simp only [cond_false]
        rcases ih (R := R) with h | h | ⟨h1, h2, h3⟩
        · exact .inl h
        · exact .inr (.inl h)
        · refine .inr (.inr ⟨?_, ?_, h3⟩)
          · simp only [St.has, List.any_cons, hk, Bool.false_or] at h1 ⊢; exact h1
          · simp only [St.hasCut, List.any_cons, hc, Bool.false_or] at h2 ⊢; exact h2
theorem keys_out {d1 d2 : St} {s : Nat} (h1 : St.has s (noCut d1 ++ (noCut d2 ++ (onlyCut d1 ++ onlyCut d2))) = false) (h2 : St.hasCut (noCut d1 ++ (noCut d2 ++ (onlyCut d1 ++ onlyCut d2))) = false) :
    (d1 ++ S).get s = S.get s ∧ (d2 ++ S).get s = S.get s := by
  have hc : ∀ d : St, (∀ e ∈ d, e ∈ d1 ∨ e ∈ d2) → (∀ e ∈ d, e.1 ≠ cutNo) ∧ St.has s d = false := by
    intro d hd
    have key : ∀ e ∈ d, e.1 ≠ cutNo ∧ Nat.beq e.1 s = false := by
      intro e he
      simp only [St.has, St.hasCut, List.any_eq_false, List.mem_append, noCut, onlyCut, List.mem_filter] at h1 h2
      have hcut : e.1 ≠ cutNo := by
        intro ec
        have hb : Nat.beq e.1 cutNo = true := by rw [ec]; exact Nat.beq_refl _
        rcases hd e he with h | h
        · exact h2 e (.inr (.inr (.inl ⟨h, hb⟩))) hb
        · exact h2 e (.inr (.inr (.inr ⟨h, hb⟩))) hb
      have hb : (!(Nat.beq e.1 cutNo)) = true := by
        cases hx : Nat.beq e.1 cutNo with
        | false => rfl
        | true => exact absurd (Nat.eq_of_beq_eq_true hx) hcut
      refine ⟨hcut, ?_⟩
      rcases hd e he with h | h
      · exact Bool.eq_false_iff.2 (h1 e (.inl ⟨h, hb⟩))
      · exact Bool.eq_false_iff.2 (h1 e (.inr (.inl ⟨h, hb⟩)))
    refine ⟨fun e he => (key e he).1, ?_⟩
    simp only [St.has, List.any_eq_false]
    intro e he
    simp [(key e he).2]
  obtain ⟨a1, a2⟩ := hc d1 fun e h => .inl h
  obtain ⟨b1, b2⟩ := hc d2 fun e h => .inr h
  exact ⟨get_out a1 a2, get_out b1 b2⟩
theorem merge2_relT {d1 d2 : St} (hR : Rel n χ0 w0 (d1 ++ S) a w G) : Rel n χ0 w0 (merge2 true d1 d2 S ++ S) a w G := by
  refine ⟨hR.len, hR.defers, fun s => ?_, hR.frame, hR.glob⟩
  have h := hR.reps s
  unfold merge2
  rcases mergeD_get (g := true) (d1 := d1) (d2 := d2) (S := S) (s := s) (ks := noCut d1 ++ (noCut d2 ++ (onlyCut d1 ++ onlyCut d2))) (R := S) with e | e | ⟨e1, e2, e⟩
  · rw [e]; simp only [ARep]
  · rw [e]; exact ARep_mergeT h
  · rw [e, ← (keys_out e1 e2).1]; exact h
theorem merge2_relF {d1 d2 : St} (hR : Rel n χ0 w0 (d2 ++ S) a w G) : Rel n χ0 w0 (merge2 false d1 d2 S ++ S) a w G := by
  refine ⟨hR.len, hR.defers, fun s => ?_, hR.frame, hR.glob⟩
  have h := hR.reps s
  unfold merge2
  rcases mergeD_get (g := false) (d1 := d1) (d2 := d2) (S := S) (s := s) (ks := noCut d1 ++ (noCut d2 ++ (onlyCut d1 ++ onlyCut d2))) (R := S) with e | e | ⟨e1, e2, e⟩
  · rw [e]; simp only [ARep]
  · rw [e]; exact ARep_mergeF h
  · rw [e, ← (keys_out e1 e2).2]; exact h
end Go.Am
namespace Go.Am
open Go Go.RowKit
variable {gtab : GlobTab} {P : Program} {c : Ctx} {G : Gh} {w : World} {tm : Array Value} {n : Nat} {χ0 : Nat → Nat → Nat} {w0 : World} {S : St} {a : Act}
theorem AllP_iff : ∀ {l : List Prop}, AllP l ↔ ∀ q ∈ l, q := by
  intro l
  induction l with
  | nil => exact ⟨fun _ q hq => (by cases hq), fun _ => trivial⟩
  | cons p r ih =>
    cases r with
    | nil =>
      refine ⟨fun h q hq => ?_, fun h => h p (List.mem_cons_self ..)⟩
      rcases List.mem_cons.1 hq with rfl | hq
      · exact h
      · cases hq
    | cons q r =>
      constructor
      · intro h q' hq
        rcases List.mem_cons.1 hq with rfl | hq
        · exact h.1
        · exact ih.1 h.2 q' hq
      · intro h
        exact ⟨h p (List.mem_cons_self ..), ih.2 fun q' hq => h q' (List.mem_cons_of_mem _ hq)⟩
theorem impl_of {b : Prop} {l : List Prop} (h : ∀ q ∈ impl b l, q) (hb : b) : ∀ q ∈ l, q := by
  cases l with
  | nil => intro q hq; cases hq
  | cons p r =>
    have := h (b → AllP (p :: r)) (by simp [impl])
    exact AllP_iff.1 (this hb)
def exitKind : Exit → Option Nat
  | .normal => some 0
  | .ret => some 1
  | .exit id => some (id + 2)
  | _ => none
def tk (g : Option Bool) : Bool := g.getD true
def Post [GlobTab] (n : Nat) (χ0 : Nat → Nat → Nat) (w0 : World) (S : St) (l : List Comp) (e : Exit) (a : Act) (w : World) : Prop :=
  ∃ k cp G, exitKind e = some k ∧ findC k l = some cp ∧ tk cp.g = true ∧ (∀ k' c', findC k' l = some c' → tk c'.g = true → k' = k) ∧ Rel n χ0 w0 (cp.d ++ S) a w G
theorem findC_append {k : Nat} : ∀ {l l' : List Comp}, findC k (l ++ l') = match findC k l with | some x => some x | none => findC k l' := by
  intro l
  induction l with
  | nil => intro l'; rfl
  | cons x r ih =>
    intro l'
    simp only [List.cons_append, findC]
    cases Nat.beq x.kind k with
    | true => rfl
    | false => exact ih
theorem findC_kind {k : Nat} {x : Comp} : ∀ {l : List Comp}, findC k l = some x → x.kind = k := by
  intro l
  induction l with
  | nil => intro h; cases h
  | cons y r ih =>
    intro h
    simp only [findC] at h
    cases hb : Nat.beq y.kind k with
    | true => simp only [hb, cond_true, Option.some.injEq] at h; subst h; exact Nat.eq_of_beq_eq_true hb
    | false => simp only [hb, cond_false] at h; exact ih h
theorem findC_filter {k : Nat} {q : Nat → Bool} : ∀ {l : List Comp}, findC k (l.filter fun x => q x.kind) = bif q k then findC k l else none := by
  intro l
  induction l with
  | nil => cases q k <;> rfl
  | cons x r ih =>
    simp only [List.filter_cons]
    cases hx : q x.kind with
    | true =>
      simp only [if_true, findC, ih]
      cases hb : Nat.beq x.kind k with
      | true => have := Nat.eq_of_beq_eq_true hb; subst this; simp [hx]
      | false => simp only [cond_false]
    | false =>
      simp only [Bool.false_eq_true, if_false, ih, findC]
      cases hb : Nat.beq x.kind k with
      | true => have := Nat.eq_of_beq_eq_true hb; subst this; simp [hx]
      | false => simp only [cond_false]
theorem findC_drop {k k0 : Nat} {l : List Comp} : findC k (dropC k0 l) = bif Nat.beq k k0 then none else findC k l := by
  unfold dropC
  rw [findC_filter (q := fun x => !(Nat.beq x k0))]
  cases Nat.beq k k0 <;> rfl
theorem findC_map {k : Nat} {f : Comp → Comp} (hf : ∀ x, (f x).kind = x.kind) : ∀ {l : List Comp}, findC k (l.map f) = (findC k l).map f := by
  intro l
  induction l with
  | nil => rfl
  | cons x r ih =>
    simp only [List.map_cons, findC, hf]
    cases Nat.beq x.kind k with
    | true => rfl
    | false => exact ih
def condD (t : Bool) (S : St) : Option Comp → Option Comp → St
  | some a, some b => merge2 t a.d b.d S
  | some a, none => a.d
  | none, some b => b.d
  | none, none => []
def condX (t : Bool) (S : St) (la lb : List Comp) (x : Comp) : Comp := ⟨x.kind, condG t (findC x.kind la) (findC x.kind lb), condD t S (findC x.kind la) (findC x.kind lb)⟩
theorem condC_map {t : Bool} {la lb : List Comp} : ∀ {l : List Comp}, condC t S la lb l = l.map (condX t S la lb) := by
  intro l
  induction l with
  | nil => rfl
  | cons x r ih =>
    simp only [condC, List.map_cons, ih, condX]
    cases findC x.kind la <;> cases findC x.kind lb <;> rfl
theorem cond_find {t : Bool} {la lb : List Comp} {k : Nat} :
    findC k (condC t S la lb (la ++ lb.filter fun x => (findC x.kind la).isNone)) = match findC k la, findC k lb with
      | none, none => none
      | xa, xb => some ⟨k, condG t xa xb, condD t S xa xb⟩ := by
  rw [condC_map, findC_map (f := condX t S la lb) (fun _ => rfl), findC_append, findC_filter (q := fun x => (findC x la).isNone)]
  cases ha : findC k la with
  | some x => simp only [Option.map_some, condX, findC_kind ha, ha]
  | none =>
    simp only [Option.isNone_none, cond_true]
    cases hb : findC k lb with
    | some y => simp only [Option.map_some, condX, findC_kind hb, ha, hb]
    | none => rfl
theorem tk_gand {x y : Option Bool} : tk (gand x y) = (tk x && tk y) := by cases x <;> cases y <;> simp [gand, tk]
theorem tk_gor {x y : Option Bool} : tk (gor x y) = (tk x || tk y) := by cases x <;> cases y <;> simp [gor, tk]
theorem tk_false {g : Option Bool} (h : tk g = false) : g = some false := by
  cases g with
  | none => cases h
  | some b => cases b <;> simp_all [tk]
theorem cond_postT {e : Exit} {oa ob : Out} (h : Post n χ0 w0 S oa.comps e a w) : Post n χ0 w0 S (condOut true S oa ob).comps e a w := by
  obtain ⟨k, cp, G, h1, h2, h3, h4, h5⟩ := h
  simp only [condOut]
  refine ⟨k, ⟨k, condG true (some cp) (findC k ob.comps), condD true S (some cp) (findC k ob.comps)⟩, G, h1, ?_, ?_, ?_, ?_⟩
  · rw [cond_find, h2]
  · cases hb : findC k ob.comps with
    | none => cases hg : cp.g <;> simp_all [condG, gand, tk]
    | some b => cases hg : cp.g <;> cases hg' : b.g <;> simp_all [condG, tk]
  · intro k' c' hf ht
    rw [cond_find] at hf
    cases ha : findC k' oa.comps with
    | none =>
      cases hb : findC k' ob.comps with
      | none => simp [ha, hb] at hf
      | some b =>
        simp only [ha, hb, Option.some.injEq] at hf
        subst hf
        cases hg : b.g <;> simp [condG, gand, tk, hg] at ht
    | some x =>
      refine h4 k' x ha ?_
      cases hb : findC k' ob.comps with
      | none =>
        simp only [ha, hb, Option.some.injEq] at hf
        subst hf
        cases hg : x.g <;> simp_all [condG, gand, tk]
      | some b =>
        simp only [ha, hb, Option.some.injEq] at hf
        subst hf
        cases hg : x.g <;> cases hg' : b.g <;> simp_all [condG, tk]
  · cases findC k ob.comps with
    | none => exact h5
    | some b => exact merge2_relT h5
theorem cond_postF {e : Exit} {oa ob : Out} (h : Post n χ0 w0 S ob.comps e a w) : Post n χ0 w0 S (condOut false S oa ob).comps e a w := by
  obtain ⟨k, cp, G, h1, h2, h3, h4, h5⟩ := h
  simp only [condOut]
  refine ⟨k, ⟨k, condG false (findC k oa.comps) (some cp), condD false S (findC k oa.comps) (some cp)⟩, G, h1, ?_, ?_, ?_, ?_⟩
  · rw [cond_find, h2]; cases findC k oa.comps <;> rfl
  · cases hb : findC k oa.comps with
    | none => cases hg : cp.g <;> simp_all [condG, gand, tk]
    | some b => cases hg : cp.g <;> cases hg' : b.g <;> simp_all [condG, tk]
  · intro k' c' hf ht
    rw [cond_find] at hf
    cases hb : findC k' ob.comps with
    | none =>
      cases ha : findC k' oa.comps with
      | none => simp [ha, hb] at hf
      | some b =>
        simp only [ha, hb, Option.some.injEq] at hf
        subst hf
        cases hg : b.g <;> simp [condG, gand, tk, hg] at ht
    | some x =>
      refine h4 k' x hb ?_
      cases ha : findC k' oa.comps with
      | none =>
        simp only [ha, hb, Option.some.injEq] at hf
        subst hf
        cases hg : x.g <;> simp_all [condG, gand, tk]
      | some b =>
        simp only [ha, hb, Option.some.injEq] at hf
        subst hf
        cases hg : x.g <;> cases hg' : b.g <;> simp_all [condG, tk]
  · cases findC k oa.comps with
    | none => exact h5
    | some b => exact merge2_relF h5
def seqX (m : Comp) (S : St) (la : List Comp) (x : Comp) : Comp :=
  ⟨x.kind, (match findC x.kind la with | some a => gor a.g (gand m.g x.g) | none => gand m.g x.g), (match findC x.kind la with | some a => merge2 (tk a.g) a.d (x.d ++ m.d) S | none => x.d ++ m.d)⟩
theorem seqC_map {m : Comp} {la : List Comp} : ∀ {l : List Comp}, seqC m S la l = l.map (seqX m S la) := by
  intro l
  induction l with
  | nil => rfl
  | cons x r ih =>
    simp only [seqC, List.map_cons, ih, seqX]
    congr 1
    cases findC x.kind la <;> rfl
theorem seq_find {m : Comp} {la lb : List Comp} {k : Nat} :
    findC k (seqC m S la lb ++ la.filter fun x => (findC x.kind lb).isNone) = match findC k la, findC k lb with
      | none, none => none
      | some a, none => some a
      | none, some x => some ⟨k, gand m.g x.g, x.d ++ m.d⟩
      | some a, some x => some ⟨k, gor a.g (gand m.g x.g), merge2 (tk a.g) a.d (x.d ++ m.d) S⟩ := by
  rw [findC_append, seqC_map, findC_map (f := seqX m S la) (fun _ => rfl), findC_filter (q := fun x => (findC x lb).isNone)]
  cases hb : findC k lb with
  | some x =>
    simp only [Option.map_some, seqX, findC_kind hb]
    cases ha : findC k la <;> rfl
  | none =>
    simp only [Option.map_none, Option.isNone_none, cond_true]
    cases findC k la <;> rfl
theorem seq_post1 {e : Exit} {m : Comp} {oa ob : Out} (hm : findC 0 oa.comps = some m) (h : Post n χ0 w0 S oa.comps e a w) (he : exitKind e ≠ some 0) : Post n χ0 w0 S (seqOut m S oa ob).comps e a w := by
  obtain ⟨k, cp, G, h1, h2, h3, h4, h5⟩ := h
  have hk : k ≠ 0 := fun e0 => he (by rw [h1, e0])
  have hk0 : Nat.beq k 0 = false := by cases k with | zero => exact absurd rfl hk | succ k => rfl
  have hmf : tk m.g = false := by
    cases hx : tk m.g with
    | false => rfl
    | true => exact absurd (h4 0 m hm hx) (Ne.symm hk)
  have hmg := tk_false hmf
  have h2' : findC k (dropC 0 oa.comps) = some cp := by rw [findC_drop, hk0]; exact h2
  simp only [seqOut]
  cases hb : findC k ob.comps with
  | none =>
    refine ⟨k, cp, G, h1, by rw [seq_find, h2', hb], h3, ?_, h5⟩
    intro k' c' hf ht
    rw [seq_find, findC_drop] at hf
    cases hk' : Nat.beq k' 0 with
    | true =>
      simp only [hk', cond_true] at hf
      cases hb' : findC k' ob.comps with
      | none => simp [hb'] at hf
      | some x => simp only [hb', Option.some.injEq] at hf; subst hf; simp [tk_gand, hmf] at ht
    | false =>
      simp only [hk', cond_false] at hf
      cases ha : findC k' oa.comps with
      | none =>
        cases hb' : findC k' ob.comps with
        | none => simp [ha, hb'] at hf
        | some x => simp only [ha, hb', Option.some.injEq] at hf; subst hf; simp [tk_gand, hmf] at ht
      | some y =>
        refine h4 k' y ha ?_
        cases hb' : findC k' ob.comps with
        | none => simp only [ha, hb', Option.some.injEq] at hf; subst hf; exact ht
        | some x => simp only [ha, hb', Option.some.injEq] at hf; subst hf; simpa [tk_gand, tk_gor, hmf] using ht
  | some x0 =>
    refine ⟨k, { kind := k, g := gor cp.g (gand m.g x0.g), d := merge2 (tk cp.g) cp.d (x0.d ++ m.d) S }, G, h1, by rw [seq_find, h2', hb], ?_, ?_, ?_⟩
    · simp [tk_gor, h3]
    · intro k' c' hf ht
      rw [seq_find, findC_drop] at hf
      cases hk' : Nat.beq k' 0 with
      | true =>
        simp only [hk', cond_true] at hf
        cases hb' : findC k' ob.comps with
        | none => simp [hb'] at hf
        | some x => simp only [hb', Option.some.injEq] at hf; subst hf; simp [tk_gand, hmf] at ht
      | false =>
        simp only [hk', cond_false] at hf
        cases ha : findC k' oa.comps with
        | none =>
          cases hb' : findC k' ob.comps with
          | none => simp [ha, hb'] at hf
          | some x => simp only [ha, hb', Option.some.injEq] at hf; subst hf; simp [tk_gand, hmf] at ht
        | some y =>
          refine h4 k' y ha ?_
          cases hb' : findC k' ob.comps with
          | none => simp only [ha, hb', Option.some.injEq] at hf; subst hf; exact ht
          | some x => simp only [ha, hb', Option.some.injEq] at hf; subst hf; simpa [tk_gand, tk_gor, hmf] using ht
    · simp only [h3]; exact merge2_relT h5
theorem seq_post2 {e : Exit} {m : Comp} {oa ob : Out} (hmt : tk m.g = true) (hu : ∀ k' c', findC k' oa.comps = some c' → tk c'.g = true → k' = 0)
    (h : Post n χ0 w0 (m.d ++ S) ob.comps e a w) : Post n χ0 w0 S (seqOut m S oa ob).comps e a w := by
  obtain ⟨k, cp, G, h1, h2, h3, h4, h5⟩ := h
  rw [← List.append_assoc] at h5
  have hoth : ∀ k' y, findC k' (dropC 0 oa.comps) = some y → y.g = some false := by
    intro k' y hy
    rw [findC_drop] at hy
    cases hk' : Nat.beq k' 0 with
    | true => simp [hk'] at hy
    | false =>
      simp only [hk', cond_false] at hy
      refine tk_false ?_
      cases hx : tk y.g with
      | false => rfl
      | true => have := hu k' y hy hx; subst this; simp at hk'
  have huni : ∀ k' c', findC k' (seqC m S (dropC 0 oa.comps) ob.comps ++ (dropC 0 oa.comps).filter fun x => (findC x.kind ob.comps).isNone) = some c' → tk c'.g = true → k' = k := by
    intro k' c' hf ht
    rw [seq_find] at hf
    cases ha : findC k' (dropC 0 oa.comps) with
    | none =>
      cases hb' : findC k' ob.comps with
      | none => simp [ha, hb'] at hf
      | some x =>
        simp only [ha, hb', Option.some.injEq] at hf
        subst hf
        refine h4 k' x hb' ?_
        simp only [tk_gand, Bool.and_eq_true] at ht; exact ht.2
    | some y =>
      have hyg := hoth k' y ha
      have hyf : tk y.g = false := by rw [hyg]; rfl
      cases hb' : findC k' ob.comps with
      | none => simp only [ha, hb', Option.some.injEq] at hf; subst hf; simp [tk, hyg] at ht
      | some x =>
        simp only [ha, hb', Option.some.injEq] at hf
        subst hf
        refine h4 k' x hb' ?_
        simp only [tk_gor, tk_gand, hyf, Bool.false_or, Bool.and_eq_true] at ht; exact ht.2
  simp only [seqOut]
  cases ha : findC k (dropC 0 oa.comps) with
  | none =>
    refine ⟨k, { kind := k, g := gand m.g cp.g, d := cp.d ++ m.d }, G, h1, by rw [seq_find, ha, h2], ?_, huni, h5⟩
    simp [tk_gand, hmt, h3]
  | some y =>
    have hyg := hoth k y ha
    refine ⟨k, { kind := k, g := gor y.g (gand m.g cp.g), d := merge2 (tk y.g) y.d (cp.d ++ m.d) S }, G, h1, by rw [seq_find, ha, h2], ?_, huni, ?_⟩
    · simp [tk_gor, tk_gand, hmt, h3]
    · simp only [hyg, tk, Option.getD_some]; exact merge2_relF h5
theorem block_post {e : Exit} {id : Nat} {oa : Out} (h : Post n χ0 w0 S oa.comps e a w) : Exit.inBlock id (Post n χ0 w0 S (blockOut id S oa).comps) e a w := by
  obtain ⟨k, cp, G, h1, h2, h3, h4, h5⟩ := h
  unfold blockOut
  cases hE : findC (id + 2) oa.comps with
  | none =>
    have hP : Post n χ0 w0 S oa.comps e a w := ⟨k, cp, G, h1, h2, h3, h4, h5⟩
    have hne : e ≠ .exit id := by
      rintro rfl
      simp only [exitKind, Option.some.injEq] at h1
      rw [← h1, hE] at h2
      cases h2
    cases e with
    | exit id' => simp only [Exit.inBlock]; rw [if_neg (fun e => hne (by rw [e]))]; exact hP
    | _ => exact hP
  | some ex =>
    have b20 : Nat.beq (id + 2) 0 = false := rfl
    cases h0 : findC 0 oa.comps with
    | none =>
      simp only
      have hfind : ∀ k', findC k' ({ ex with kind := 0 } :: dropC (id + 2) oa.comps) = bif Nat.beq 0 k' then some { ex with kind := 0 } else bif Nat.beq k' (id + 2) then none else findC k' oa.comps := by
        intro k'; simp only [findC, findC_drop]
      by_cases hk : k = id + 2
      · subst hk
        rw [hE] at h2
        injection h2 with h2
        subst h2
        have hP : Post n χ0 w0 S ({ ex with kind := 0 } :: dropC (id + 2) oa.comps) .normal a w := by
          refine ⟨0, { ex with kind := 0 }, G, rfl, by simp [hfind], h3, fun k' c' hf ht => ?_, h5⟩
          rw [hfind] at hf
          cases hb : Nat.beq 0 k' with
          | true => exact (Nat.eq_of_beq_eq_true hb).symm
          | false =>
            simp only [hb, cond_false] at hf
            cases hb2 : Nat.beq k' (id + 2) with
            | true => simp [hb2] at hf
            | false =>
              simp only [hb2, cond_false] at hf
              have := h4 k' c' hf ht
              subst this
              simp at hb2
        cases e with
        | exit id' =>
          simp only [exitKind, Option.some.injEq] at h1
          simp only [Exit.inBlock]
          rw [if_pos (by omega)]
          exact hP
        | normal => simp [exitKind] at h1
        | ret => simp only [exitKind, Option.some.injEq] at h1; omega
        | _ => simp [exitKind] at h1
      · have hk0 : k ≠ 0 := by intro e0; subst e0; rw [h0] at h2; cases h2
        have hxf : tk ex.g = false := by
          cases hx : tk ex.g with
          | false => rfl
          | true => exact absurd (h4 _ _ hE hx).symm hk
        have hP : Post n χ0 w0 S ({ ex with kind := 0 } :: dropC (id + 2) oa.comps) e a w := by
          refine ⟨k, cp, G, h1, ?_, h3, fun k' c' hf ht => ?_, h5⟩
          · rw [hfind]
            have b1 : Nat.beq 0 k = false := by cases hb : Nat.beq 0 k with | false => rfl | true => exact absurd (Nat.eq_of_beq_eq_true hb).symm hk0
            have b2 : Nat.beq k (id + 2) = false := by cases hb : Nat.beq k (id + 2) with | false => rfl | true => exact absurd (Nat.eq_of_beq_eq_true hb) hk
            rw [b1, b2]; exact h2
          · rw [hfind] at hf
            cases hb : Nat.beq 0 k' with
            | true => simp only [hb, cond_true, Option.some.injEq] at hf; subst hf; simp only at ht; rw [hxf] at ht; cases ht
            | false =>
              simp only [hb, cond_false] at hf
              cases hb2 : Nat.beq k' (id + 2) with
              | true => simp [hb2] at hf
              | false => simp only [hb2, cond_false] at hf; exact h4 k' c' hf ht
        cases e with
        | exit id' => simp only [exitKind, Option.some.injEq] at h1; simp only [Exit.inBlock]; rw [if_neg (by omega)]; exact hP
        | _ => exact hP
    | some m =>
      simp only
      generalize hN : ({ kind := 0, g := gor ex.g m.g, d := merge2 (ex.g.getD true) ex.d m.d S } : Comp) = N
      have hfind : ∀ k', findC k' (N :: dropC 0 (dropC (id + 2) oa.comps)) = bif Nat.beq 0 k' then some N else bif Nat.beq k' 0 then none else bif Nat.beq k' (id + 2) then none else findC k' oa.comps := by
        intro k'; simp only [findC, findC_drop, ← hN]
      by_cases hk : k = id + 2 ∨ k = 0
      · have hP : Post n χ0 w0 S (N :: dropC 0 (dropC (id + 2) oa.comps)) .normal a w := by
          have huni : ∀ k' c', findC k' (N :: dropC 0 (dropC (id + 2) oa.comps)) = some c' → tk c'.g = true → k' = 0 := by
            intro k' c' hf ht
            rw [hfind] at hf
            cases hb : Nat.beq 0 k' with
            | true => exact (Nat.eq_of_beq_eq_true hb).symm
            | false =>
              simp only [hb, cond_false] at hf
              cases hb1 : Nat.beq k' 0 with
              | true => simp [hb1] at hf
              | false =>
                cases hb2 : Nat.beq k' (id + 2) with
                | true => simp [hb1, hb2] at hf
                | false =>
                  simp only [hb1, hb2, cond_false] at hf
                  have := h4 k' c' hf ht
                  rcases hk with hk | hk
                  · rw [hk] at this; subst this; simp at hb2
                  · rw [hk] at this; exact this
          rcases hk with hk | hk
          · subst hk
            rw [hE] at h2
            injection h2 with h2
            subst h2
            refine ⟨0, N, G, rfl, by simp [hfind], ?_, huni, ?_⟩
            · rw [← hN]; simp only [tk_gor, h3, Bool.true_or]
            · rw [← hN]
              have : ex.g.getD true = true := h3
              simp only [this]; exact merge2_relT h5
          · subst hk
            rw [h0] at h2
            injection h2 with h2
            subst h2
            have hxf : tk ex.g = false := by
              cases hx : tk ex.g with
              | false => rfl
              | true => have := h4 _ _ hE hx; omega
            refine ⟨0, N, G, rfl, by simp [hfind], ?_, huni, ?_⟩
            · rw [← hN]; simp only [tk_gor, h3, Bool.or_true]
            · rw [← hN]
              have : ex.g.getD true = false := hxf
              simp only [this]; exact merge2_relF h5
        cases e with
        | exit id' =>
          simp only [exitKind, Option.some.injEq] at h1
          simp only [Exit.inBlock]
          rw [if_pos (by omega)]
          exact hP
        | normal => exact hP
        | ret => simp only [exitKind, Option.some.injEq] at h1; omega
        | _ => simp [exitKind] at h1
      · have hk2 : k ≠ id + 2 := fun e => hk (.inl e)
        have hk0 : k ≠ 0 := fun e => hk (.inr e)
        have hxf : tk ex.g = false := by
          cases hx : tk ex.g with
          | false => rfl
          | true => exact absurd (h4 _ _ hE hx).symm hk2
        have hmf : tk m.g = false := by
          cases hx : tk m.g with
          | false => rfl
          | true => exact absurd (h4 _ _ h0 hx).symm hk0
        have hP : Post n χ0 w0 S (N :: dropC 0 (dropC (id + 2) oa.comps)) e a w := by
          refine ⟨k, cp, G, h1, ?_, h3, fun k' c' hf ht => ?_, h5⟩
          · rw [hfind]
            have b1 : Nat.beq 0 k = false := by cases hb : Nat.beq 0 k with | false => rfl | true => exact absurd (Nat.eq_of_beq_eq_true hb).symm hk0
            have b3 : Nat.beq k 0 = false := by cases hb : Nat.beq k 0 with | false => rfl | true => exact absurd (Nat.eq_of_beq_eq_true hb) hk0
            have b2 : Nat.beq k (id + 2) = false := by cases hb : Nat.beq k (id + 2) with | false => rfl | true => exact absurd (Nat.eq_of_beq_eq_true hb) hk2
            rw [b1, b2, b3]; exact h2
          · rw [hfind] at hf
            cases hb : Nat.beq 0 k' with
            | true =>
              simp only [hb, cond_true, Option.some.injEq] at hf; subst hf
              rw [← hN] at ht
              simp [tk_gor, hxf, hmf] at ht
            | false =>
              simp only [hb, cond_false] at hf
              cases hb1 : Nat.beq k' 0 with
              | true => simp [hb1] at hf
              | false =>
                cases hb2 : Nat.beq k' (id + 2) with
                | true => simp [hb1, hb2] at hf
                | false => simp only [hb1, hb2, cond_false] at hf; exact h4 k' c' hf ht
        cases e with
        | exit id' => simp only [exitKind, Option.some.injEq] at h1; simp only [Exit.inBlock]; rw [if_neg (by omega)]; exact hP
        | _ => exact hP
end Go.Am
namespace Go.Am
open Go Go.RowKit
inductive Sh where
  | val (τ : Ty) | own (t : Ty) (T : Nat) (m : Bool) | nl | cons (a b : Sh) | agg (f : Ty) (s : Sh) | box (τ : Ty) (s : Sh) | ref (s : Nat) (τ : Ty) | tup (s : Sh) | fn (f : Nat) (s : Sh) | any | nil | nn (b : Bool) | fptr (f : Nat) (caps : List (Option (Nat × Ty))) | ownh (t : Ty) (T U : Nat) (m : Bool)
@[reducible] def Sh.den : Sh → Type
  | .val τ => τ.den | .own t _ _ => List t.den | .nl => Unit | .cons a b => a.den × b.den | .agg _ s => s.den | .box _ s => s.den | .ref _ _ => Unit | .tup s => s.den | .fn _ s => s.den | .any => Unit | .nil => Unit | .nn _ => Unit | .fptr _ _ => Unit | .ownh t _ _ _ => List (List t.den) × Nat
def Sh.mk : (s : Sh) → s.den → AVal
  | .val τ, x => .val τ x
  | .own t T m, l => .own t l T m
  | .nl, _ => .nl
  | .cons a b, x => .cons (a.mk x.1) (b.mk x.2)
  | .agg f s, x => .agg f (s.mk x)
  | .box τ s, x => .box τ (s.mk x)
  | .ref s τ, _ => .ref s τ []
  | .tup s, x => .tup (s.mk x)
  | .fn f s, x => .fn f (s.mk x)
  | .any, _ => .junk
  | .nil, _ => .nil
  | .nn b, _ => .nn b
  | .fptr f caps, _ => .fptr f caps
  | .ownh t T U m, x => .ownh t x.1 T x.2 U m
def asOwn (t : Ty) (T : Nat) (m : Bool) : AVal → Option (List t.den)
  | .nil => bif t.plain && !t.isL then some [] else none
  | .own t' l T' m' => bif Nat.beq T T' && (m == m') then Ty.cast (a := .sl t') (.sl t) l else none
  | _ => none
def asHole (t : Ty) (T U : Nat) (m : Bool) : AVal → Option (List (List t.den) × Nat)
  | .ownh t' l T' i U' m' => bif Nat.beq T T' && Nat.beq U U' && (m == m') then (match Ty.cast (a := .sl (.sl t')) (.sl (.sl t)) l with | some l2 => some (l2, i) | none => none) else none
  | .own t' l T' true => bif Nat.beq T T' && !(Nat.beq T U) && t.plain && !t.isL then (match Ty.cast (a := .sl t') (.sl (.sl t)) l with | some l2 => some (l2, List.length (α := List t.den) l2) | none => none) else none
  | _ => none
def isNilA : AVal → Bool
  | .nil => true | _ => false
def isNnA (b : Bool) : AVal → Bool
  | .nn b' => b == b' | _ => false
def capEq : List (Option (Nat × Ty)) → List (Option (Nat × Ty)) → Bool
  | [], [] => true
  | none :: r, none :: r' => capEq r r'
  | some (k, τ) :: r, some (k', τ') :: r' => Nat.beq k k' && Ty.beq τ τ' && capEq r r'
  | _, _ => false
def isFptr (f : Nat) (caps : List (Option (Nat × Ty))) : AVal → Bool
  | .fptr f' caps' => Nat.beq f f' && capEq caps caps'
  | _ => false
def isNlA : AVal → Bool
  | .nl => true | _ => false
def isRefA (s : Nat) (τ : Ty) : AVal → Bool
  | .ref s' τ' [] => Nat.beq s s' && Ty.beq τ τ'
  | _ => false
def inFn (f : Nat) : AVal → Option AVal
  | .fn f' c => bif Nat.beq f f' then some c else none
  | _ => none
def inAgg (f : Ty) : AVal → Option AVal
  | .agg f' c => bif Ty.beq f f' then some c else none
  | _ => none
def inBox (τ : Ty) : AVal → Option AVal
  | .box τ' c => bif Ty.beq τ τ' then some c else none
  | _ => none
def inTup : AVal → Option AVal
  | .tup c => some c
  | _ => none
def inCons : AVal → Option (AVal × AVal)
  | .cons a b => some (a, b)
  | _ => none
def Sh.parse : (s : Sh) → AVal → Option s.den
  | .val τ, A => bif τ.isL then none else AVal.as τ A
  | .own t T m, A => asOwn t T m A
  | .nl, A => bif isNlA A then some () else none
  | .cons a b, A => match inCons A with
    | some (x, y) => (match a.parse x, b.parse y with | some p, some q => some (p, q) | _, _ => none)
    | none => none
  | .agg f s, A => match inAgg f A with
    | some c => (match s.parse c with | some x => bif (s.mk x).fitsT f then some x else none | none => none)
    | none => none
  | .box τ s, A => match inBox τ A with
    | some c => (match s.parse c with | some x => bif (s.mk x).fitsT τ then some x else none | none => none)
    | none => none
  | .ref s τ, A => bif isRefA s τ A then some () else none
  | .tup s, A => match inTup A with
    | some c => s.parse c
    | none => none
  | .fn f s, A => match inFn f A with
    | some c => s.parse c
    | none => none
  | .any, _ => some ()
  | .nil, A => bif isNilA A then some () else none
  | .nn b, A => bif isNnA b A then some () else none
  | .fptr f caps, A => bif isFptr f caps A then some () else none
  | .ownh t T U m, A => asHole t T U m A
variable {gtab : GlobTab} {P : Program} {c : Ctx} {G : Gh} {w : World} {tm : Array Value} {n : Nat} {χ0 : Nat → Nat → Nat} {w0 : World} {S : St} {a : Act}
theorem capEq_eq : ∀ {l l' : List (Option (Nat × Ty))}, capEq l l' = true → l = l' := by
  intro l
  induction l with
  | nil => intro l' h; cases l' with
    | nil => rfl
    | cons _ _ => simp [capEq] at h
  | cons q r ih =>
    intro l' h
    cases q with
    | none => cases l' with
      | nil => simp [capEq] at h
      | cons q' r' => cases q' with
        | none => simp only [capEq] at h; rw [ih h]
        | some _ => simp [capEq] at h
    | some q => cases l' with
      | nil => simp [capEq] at h
      | cons q' r' => cases q' with
        | none => simp [capEq] at h
        | some q' =>
          obtain ⟨k, τ⟩ := q; obtain ⟨k', τ'⟩ := q'
          simp only [capEq, Bool.and_eq_true] at h
          rw [Nat.eq_of_beq_eq_true h.1.1, Ty.eq_of_beq h.1.2, ih h.2]
theorem asOwn_rep {t : Ty} {T : Nat} {m : Bool} {A : AVal} {l : List t.den} {v : Value} {os : Option Nat} (h : asOwn t T m A = some l) (hA : ARep G w tm os A v) : ORep G w t l T m v := by
  cases A with
  | nil =>
    simp only [asOwn] at h
    generalize hp : (t.plain && !t.isL) = b at h
    cases b with
    | false => cases h
    | true => simp only [cond_true, Option.some.injEq] at h; subst h; simp only [ARep] at hA; subst hA; exact nil_ORep hp
  | own t' l' T' m' =>
    simp only [asOwn] at h
    generalize hb : (Nat.beq T T' && (m == m')) = b at h
    cases b with
    | false => cases h
    | true =>
      simp only [cond_true] at h
      simp only [Bool.and_eq_true, beq_iff_eq] at hb
      have e := Nat.eq_of_beq_eq_true hb.1
      obtain ⟨_, hb⟩ := hb
      subst e; subst hb
      obtain ⟨e, hz⟩ := own_cast h
      subst e
      have := eq_of_heq hz
      subst this
      simpa only [ARep] using hA
  | _ => simp [asOwn] at h
theorem TRep_parse : ∀ {s : Sh} {A : AVal} {x : s.den} {τ : Ty} {vs : List Value}, s.parse A = some x → (s.mk x).fitsT τ = true → TRep G w τ A vs → TRep G w τ (s.mk x) vs := by
  intro s
  induction s with
  | val τ' =>
    intro A x τ vs h hf hA
    simp only [Sh.parse] at h
    cases hl : τ'.isL with
    | true => simp [hl] at h
    | false =>
      simp only [hl, cond_false] at h
      simp only [Sh.mk, AVal.fitsT, Bool.and_eq_true] at hf
      have e := Ty.eq_of_beq hf.1
      subst e
      simp only [Sh.mk, TRep]
      exact ⟨trivial, hl, as_CRep h hA⟩
  | own t T m =>
    intro A x τ vs h hf hA
    simp only [Sh.parse] at h
    simp only [Sh.mk, AVal.fitsT] at hf
    have e := Ty.eq_of_beq hf
    subst e
    simp only [Sh.mk, TRep]
    refine ⟨trivial, ?_⟩
    cases A with
    | nil => simp only [TRep] at hA; exact ⟨_, hA.2, asOwn_rep (tm := #[]) (os := none) h (by simp only [ARep])⟩
    | own t' l' T' m' => simp only [TRep] at hA; obtain ⟨_, v, h1, h2⟩ := hA; exact ⟨v, h1, asOwn_rep (tm := #[]) (os := none) h (by simp only [ARep]; exact h2)⟩
    | _ => simp [asOwn] at h
  | nl =>
    intro A x τ vs h hf hA
    cases A with
    | nl => exact hA
    | _ => simp [Sh.parse, isNlA] at h
  | cons p q ihp ihq =>
    intro A x τ vs h hf hA
    cases A with
    | cons a b =>
      simp only [Sh.parse, inCons] at h
      split at h
      · rename_i y z hy hz
        injection h with h
        subst h
        simp only [TRep] at hA
        obtain ⟨h1, t1, us, ws, rfl, rfl, h2, h3⟩ := hA
        simp only [Sh.mk, AVal.fitsT, fitsCons, Bool.and_eq_true] at hf
        simp only [Sh.mk, TRep]
        exact ⟨_, _, _, _, rfl, rfl, ihp hy hf.1 h2, ihq hz hf.2 h3⟩
      · cases h
    | _ => simp [Sh.parse, inCons] at h
  | agg f s ih =>
    intro A x τ vs h hf hA
    cases A with
    | agg f' b =>
      simp only [Sh.parse, inAgg] at h
      cases hb : Ty.beq f f' with
      | false => simp [hb] at h
      | true =>
        simp only [hb, cond_true] at h
        have e := Ty.eq_of_beq hb
        subst e
        split at h
        · rename_i y hy
          generalize hfit : (s.mk y).fitsT f = bb at h
          cases bb with
          | false => cases h
          | true =>
            simp only [cond_true, Option.some.injEq] at h
            subst h
            simp only [TRep] at hA
            simp only [Sh.mk, TRep]
            exact ⟨hA.1, ih hy hfit hA.2⟩
        · cases h
    | _ => simp [Sh.parse, inAgg] at h
  | nil =>
    intro A x τ vs h hf hA
    cases A with
    | nil => exact hA
    | _ => simp [Sh.parse, isNilA] at h
  | _ => intro A x τ vs h hf; simp [Sh.mk, AVal.fitsT] at hf
theorem ARep_parse : ∀ {s : Sh} {A : AVal} {x : s.den} {os : Option Nat} {v : Value}, s.parse A = some x → ARep G w tm os A v → ARep G w tm os (s.mk x) v := by
  intro s
  induction s with
  | val τ' =>
    intro A x os v h hA
    simp only [Sh.parse] at h
    cases hl : τ'.isL with
    | true => simp [hl] at h
    | false =>
      simp only [hl, cond_false] at h
      simp only [Sh.mk, ARep]
      refine as_VRep h hl (ARep_none hA ?_ ?_)
      · intro τ c e
        subst e
        simp [AVal.as, AVal.asT] at h
      · intro e
        subst e
        simp [AVal.as, AVal.asT] at h
  | own t T m => intro A x os v h hA; simp only [Sh.parse] at h; simp only [Sh.mk, ARep]; exact asOwn_rep h hA
  | nl =>
    intro A x os v h hA
    cases A with
    | nl => exact hA
    | _ => simp [Sh.parse, isNlA] at h
  | cons p q ihp ihq =>
    intro A x os v h hA
    cases A with
    | cons a b =>
      simp only [Sh.parse, inCons] at h
      split at h
      · rename_i y z hy hz
        injection h with h
        subst h
        simp only [ARep] at hA
        obtain ⟨u, us, rfl, h2, h3⟩ := hA
        simp only [Sh.mk, ARep]
        exact ⟨u, us, rfl, ihp hy h2, ihq hz h3⟩
      · cases h
    | _ => simp [Sh.parse, inCons] at h
  | agg f s ih =>
    intro A x os v h hA
    cases A with
    | agg f' b =>
      simp only [Sh.parse, inAgg] at h
      cases hb : Ty.beq f f' with
      | false => simp [hb] at h
      | true =>
        simp only [hb, cond_true] at h
        have e := Ty.eq_of_beq hb
        subst e
        split at h
        · rename_i y hy
          generalize hfit : (s.mk y).fitsT f = bb at h
          cases bb with
          | false => cases h
          | true =>
            simp only [cond_true, Option.some.injEq] at h
            subst h
            simp only [ARep] at hA
            obtain ⟨vs, h1, h2⟩ := hA
            simp only [Sh.mk, ARep]
            exact ⟨vs, h1, TRep_parse hy hfit h2⟩
        · cases h
    | _ => simp [Sh.parse, inAgg] at h
  | box f s ih =>
    intro A x os v h hA
    cases A with
    | box f' b =>
      simp only [Sh.parse, inBox] at h
      cases hb : Ty.beq f f' with
      | false => simp [hb] at h
      | true =>
        simp only [hb, cond_true] at h
        have e := Ty.eq_of_beq hb
        subst e
        split at h
        · rename_i y hy
          generalize hfit : (s.mk y).fitsT f = bb at h
          cases bb with
          | false => cases h
          | true =>
            simp only [cond_true, Option.some.injEq] at h
            subst h
            cases os with
            | none => simp only [ARep] at hA
            | some s =>
              simp only [ARep] at hA
              obtain ⟨h1, h2, cur, e, h3, h4, h5⟩ := hA
              simp only [Sh.mk, ARep]
              exact ⟨h1, h2, cur, e, h3, TRep_parse hy hfit h4, h5⟩
        · cases h
    | _ => simp [Sh.parse, inBox] at h
  | ref s τ =>
    intro A x os v h hA
    simp only [Sh.parse] at h
    generalize hr : isRefA s τ A = b at h
    cases b with
    | false => cases h
    | true =>
      cases A with
      | ref s' τ' p =>
        cases p with
        | nil =>
          simp only [isRefA, Bool.and_eq_true] at hr
          have e1 := Nat.eq_of_beq_eq_true hr.1
          have e2 := Ty.eq_of_beq hr.2
          subst e1; subst e2
          exact hA
        | cons _ _ => simp [isRefA] at hr
      | _ => simp [isRefA] at hr
  | tup s ih =>
    intro A x os v h hA
    cases A with
    | tup b => simp only [Sh.parse, inTup] at h; simp only [Sh.mk, ARep] at hA ⊢; exact ih h hA
    | _ => simp [Sh.parse, inTup] at h
  | fn f s ih =>
    intro A x os v h hA
    cases A with
    | fn f' cs =>
      simp only [Sh.parse, inFn] at h
      cases hb : Nat.beq f f' with
      | false => simp [hb] at h
      | true =>
        simp only [hb, cond_true] at h
        have e := Nat.eq_of_beq_eq_true hb
        subst e
        simp only [Sh.mk, ARep] at hA ⊢
        obtain ⟨vs, h1, h2⟩ := hA
        exact ⟨vs, h1, ih h h2⟩
    | _ => simp [Sh.parse, inFn] at h
  | any => intro A x os v _ _; simp only [Sh.mk, ARep]
  | nil =>
    intro A x os v h hA
    cases A with
    | nil => exact hA
    | _ => simp [Sh.parse, isNilA] at h
  | nn b =>
    intro A x os v h hA
    cases A with
    | nn b' =>
      simp only [Sh.parse, isNnA] at h
      cases hb : (b == b') with
      | false => simp [hb] at h
      | true => have := beq_iff_eq.1 hb; subst this; exact hA
    | _ => simp [Sh.parse, isNnA] at h
  | ownh t T U m =>
    intro A x os v h hA
    cases A with
    | ownh t' l' T' i' U' m' =>
      simp only [Sh.parse, asHole] at h
      generalize hb : (Nat.beq T T' && Nat.beq U U' && (m == m')) = b at h
      cases b with
      | false => cases h
      | true =>
        simp only [cond_true] at h
        simp only [Bool.and_eq_true, beq_iff_eq] at hb
        have e1 := Nat.eq_of_beq_eq_true hb.1.1
        have e2 := Nat.eq_of_beq_eq_true hb.1.2
        have e3 := hb.2
        subst e1 e2 e3
        split at h
        · rename_i l2 hl
          injection h with h
          subst h
          obtain ⟨e, hl⟩ := cast_eq hl
          injection e with e
          injection e with e
          subst e
          have hl : l' = l2 := hl
          subst hl
          exact hA
        · cases h
    | own t' l' T' m' =>
      cases m' with
      | false => simp [Sh.parse, asHole] at h
      | true =>
      simp only [Sh.parse, asHole] at h
      generalize hb : (Nat.beq T T' && !(Nat.beq T U) && t.plain && !t.isL) = b at h
      cases b with
      | false => cases h
      | true =>
        simp only [cond_true] at h
        simp only [Bool.and_eq_true, Bool.not_eq_true'] at hb
        have e1 := Nat.eq_of_beq_eq_true hb.1.1.1
        subst e1
        split at h
        · rename_i l2 hl
          injection h with h
          subst h
          obtain ⟨e, hl⟩ := cast_eq hl
          injection e with e
          subst e
          have hl : l' = l2 := hl
          subst hl
          simp only [ARep] at hA
          simp only [Sh.mk, ARep]
          refine ⟨⟨hb.1.2, hb.2⟩, .inr ⟨fun e => by subst e; simp at hb, ?_⟩⟩
          rcases (ORep_slice hA rfl).2 with h | ⟨cap, cur, e, us, h1, h2, h3, h4, h5, h6, h7, h8⟩
          · exact .inl h
          · obtain ⟨k1, k2⟩ := LRep_at1 (fun y vs h => by have := CRep_length h; simpa [Ty.size] using this) h6
            refine .inr ⟨cap, cur, e, h1, h2, h3, h4, by rw [h5]; simp [Ty.size], fun o => by rw [h8, if_neg (by simp)], fun j x hj => ?_⟩
            have hjl : j < List.length (α := List t.den) l' := (List.getElem?_eq_some_iff.1 hj).1
            obtain ⟨u, hu, hc⟩ := k2 j x hj
            refine ⟨u, ?_, by rw [if_neg (by omega)]; exact hc⟩
            rw [← h7, List.getElem?_take] at hu
            split at hu
            · exact hu
            · cases hu
        · cases h
    | _ => simp [Sh.parse, asHole] at h
  | fptr f caps =>
    intro A x os v h hA
    cases A with
    | fptr f' caps' =>
      simp only [Sh.parse, isFptr] at h
      cases hb : (Nat.beq f f' && capEq caps caps') with
      | false => simp [hb] at h
      | true =>
        simp only [Bool.and_eq_true] at hb
        have e1 := Nat.eq_of_beq_eq_true hb.1
        have e2 := capEq_eq hb.2
        subst e1; subst e2
        exact hA
    | _ => simp [Sh.parse, isFptr] at h
theorem mk_noOpt : ∀ {s : Sh} {x : s.den}, (s.mk x).hasOpt = false := by
  intro s
  induction s with
  | cons p q ihp ihq => intro x; simp [Sh.mk, AVal.hasOpt, ihp, ihq]
  | tup s ih => intro x; simp [Sh.mk, AVal.hasOpt, ih]
  | fn f s ih => intro x; simp [Sh.mk, AVal.hasOpt, ih]
  | _ => intro x; simp [Sh.mk, AVal.hasOpt]
@[reducible] def denL : List (Nat × Sh) → Type
  | [] => Unit
  | (_, s) :: r => s.den × denL r
def mkSt : (l : List (Nat × Sh)) → denL l → St
  | [], _ => []
  | (k, s) :: r, x => (k, s.mk x.1) :: mkSt r x.2
def parseSt : (l : List (Nat × Sh)) → St → Option (denL l)
  | [], _ => some ()
  | (k, s) :: r, S => match s.parse (S.get k), parseSt r S with | some x, some y => some (x, y) | _, _ => none
def cutSt : St := [(cutNo, .junk)]
def Weaker (S' S : St) : Prop := ∀ (s : Nat), ∀ G w tm v, ARep G w tm (some s) (S.get s) v → ARep G w tm (some s) (S'.get s) v
theorem Weaker.rel {S' : St} (h : Weaker S' S) (hR : Rel n χ0 w0 S a w G) : Rel n χ0 w0 S' a w G := ⟨hR.len, hR.defers, fun s => h s _ _ _ _ (hR.reps s), hR.frame, hR.glob⟩
theorem weaker_cut : Weaker cutSt S := by
  intro s G w tm v _
  simp only [cutSt, St.get]
  cases Nat.beq cutNo s <;> simp [ARep]
theorem weaker_parse : ∀ {l : List (Nat × Sh)} {x : denL l} {R : St}, parseSt l S = some x → Weaker R S → Weaker (mkSt l x ++ R) S := by
  intro l
  induction l with
  | nil => intro x R _ h; exact h
  | cons e r ih =>
    intro x R hp h
    obtain ⟨k, s⟩ := e
    simp only [parseSt] at hp
    split at hp
    · rename_i y z hy hz
      injection hp with hp
      subst hp
      intro q G w tm v hA
      simp only [mkSt, List.cons_append, St.get]
      cases hk : Nat.beq k q with
      | true =>
        have := Nat.eq_of_beq_eq_true hk
        subst this
        exact ARep_parse hy hA
      | false =>
        simp only [cond_false]
        cases Nat.beq k cutNo with
        | true => simp only [cond_true, ARep]
        | false => exact ih hz h q G w tm v hA
    · cases hp
theorem get_cut {A : St} (h : St.hasCut A = true) {s : Nat} : (A ++ S).get s = A.get s := by
  induction A with
  | nil => cases h
  | cons e r ih =>
    obtain ⟨k, B⟩ := e
    simp only [List.cons_append, St.get]
    cases Nat.beq k s with
    | true => rfl
    | false =>
      simp only [cond_false]
      cases hc : Nat.beq k cutNo with
      | true => rfl
      | false =>
        simp only [cond_false]
        refine ih ?_
        simpa only [St.hasCut, List.any_cons, hc, Bool.false_or] using h
theorem hasCut_append {A B : St} (h : St.hasCut B = true) : St.hasCut (A ++ B) = true := by
  simp only [St.hasCut, List.any_append, Bool.or_eq_true] at h ⊢; exact .inr h
end Go.Am
namespace Go.Am
open Go Go.RowKit
variable {gtab : GlobTab} {P : Program} {c : Ctx} {G : Gh} {w : World} {tm : Array Value} {n : Nat} {χ0 : Nat → Nat → Nat} {w0 : World} {S : St} {a : Act}
def Keeps (ks : List Nat) (vs : Nat → Value) (a : Act) : Prop := ∀ i ∈ ks, a.tmps.getD i undef = vs i
def noWriteOps (ks : List Nat) : List Oper → Bool
  | [] => true
  | o :: r => (match o.dst with | some d => !(ks.any (Nat.beq d)) | none => true) && noWriteOps ks r
def noWrite (ks : List Nat) : Code → Bool
  | .region _ ops _ => noWriteOps ks ops.toList
  | .seq a b => noWrite ks a && noWrite ks b
  | .cond _ a b => noWrite ks a && noWrite ks b
  | .block _ a => noWrite ks a
  | .loop a => noWrite ks a
  | _ => true
theorem noWrite_put {ks : List Nat} {vs : Nat → Value} : ∀ {ops : List Oper}, noWriteOps ks ops = true → ∀ o ∈ ops, ∀ a v, Keeps ks vs a → Keeps ks vs (a.put o.dst v) := by
  intro ops
  induction ops with
  | nil => intro _ o h; cases h
  | cons x r ih =>
    intro h o ho a v hk
    simp only [noWriteOps, Bool.and_eq_true] at h
    rcases List.mem_cons.1 ho with rfl | ho
    · cases hd : o.dst with
      | none => exact hk
      | some d =>
        rw [hd] at h
        simp only [Bool.not_eq_true', List.any_eq_false] at h
        intro i hi
        have hne : d ≠ i := by intro e; subst e; exact h.1 d hi (Nat.beq_refl d)
        rw [← hk i hi]
        simp [Act.put, Array.getElem?_setIfInBounds_ne hne]
    · exact ih h.2 o ho a v hk
def Sound [GlobTab] (P : Program) (c : Ctx) (code : Code) (S : St) (out : Out) : Prop :=
  (∀ q ∈ out.ok, q) → ∀ (rd : Option Nat) (χ0 : Nat → Nat → Nat) (w0 : World) (vs : Nat → Value) (a : Act) (w : World) (G : Gh), Rel c.n χ0 w0 S a w G → Keeps c.keep vs a →
    code.wpIn (fz rd) 0 P (fun e a' w' => Post c.n χ0 w0 S out.comps e a' w' ∧ Keeps c.keep vs a') a w
def LoopsIn [GlobTab] (P : Program) (c : Ctx) : Code → Prop
  | .seq a b => LoopsIn P c a ∧ LoopsIn P c b
  | .cond _ a b => LoopsIn P c a ∧ LoopsIn P c b
  | .block _ a => LoopsIn P c a
  | .loop a => ∀ S out, look (fun _ => none) c.loops (firstRegion a) S = some out → Sound P c (.loop a) S out
  | _ => True
theorem post_one {k : Nat} {u : St} {e : Exit} (he : exitKind e = some k) (hR : Rel n χ0 w0 (u ++ S) a w G) : Post n χ0 w0 S [⟨k, none, u⟩] e a w := by
  refine ⟨k, ⟨k, none, u⟩, G, he, by simp [findC], rfl, fun k' c' hf _ => ?_, hR⟩
  simp only [findC] at hf
  cases hb : Nat.beq k k' with
  | true => exact (Nat.eq_of_beq_eq_true hb).symm
  | false => simp [hb] at hf
theorem eval_sound (hc : CtxOk P c) (hm : P.follows .mixedOrders = true) : ∀ {code : Code} {S : St} {out : Out}, LoopsIn P c code → noWrite c.keep code = true → eval c code S = some out → Sound P c code S out := by
  intro code
  induction code with
  | skip =>
    intro S out _ _ h _ rd χ0 w0 vs a w G hR hk
    simp only [eval, Option.some.injEq] at h
    subst h
    exact wpIn_skip ⟨post_one rfl hR, hk⟩
  | region id ops draw =>
    intro S out _ hw h hok rd χ0 w0 vs a w G hR hk
    simp only [eval] at h
    split at h
    · cases h
    · rename_i v hg
      generalize hv : v.all (fun e => Nat.blt e.1 c.n) = bv at h
      cases bv with
      | false => cases h
      | true =>
        simp only [Bool.not_true, cond_false] at h
        split at h
        · rename_i p u hr
          injection h with h
          subst h
          simp only [noWrite] at hw
          obtain ⟨G1, hR1⟩ := ghosts_rel hc.n hR hg fun e he => Nat.blt_eq.mp (List.all_eq_true.1 hv e he)
          exact region_sound (noWrite_put (vs := vs) hw) hc hm hr hok hR1 hk fun a' w' G' hR' hk' => ⟨post_one rfl (by rw [List.append_assoc]; exact hR'), hk'⟩
        · cases h
  | seq x y ihx ihy =>
    intro S out hL hw h hok rd χ0 w0 vs a w G hR hk
    simp only [LoopsIn] at hL
    simp only [noWrite, Bool.and_eq_true] at hw
    simp only [eval] at h
    split at h
    · cases h
    · rename_i oa ha
      split at h
      · rename_i h0
        injection h with h
        subst h
        refine wpIn_seq (wpIn_mono (ihx hL.1 hw.1 ha hok rd χ0 w0 vs a w G hR hk) fun e a' w' hP => ?_)
        cases e with
        | normal => obtain ⟨⟨k, cp, G', h1, h2, _⟩, _⟩ := hP; simp only [exitKind, Option.some.injEq] at h1; subst h1; rw [h0] at h2; cases h2
        | _ => exact hP
      · rename_i m h0
        split at h
        · cases h
        · rename_i ob hb
          injection h with h
          subst h
          simp only [seqOut, List.mem_append] at hok
          refine wpIn_seq (wpIn_mono (ihx hL.1 hw.1 ha (fun q hq => hok q (.inl hq)) rd χ0 w0 vs a w G hR hk) fun e a' w' hP => ?_)
          obtain ⟨hP, hk'⟩ := hP
          by_cases he : e = .normal
          · subst he
            obtain ⟨k, cp, G', h1, h2, h3, h4, h5⟩ := hP
            simp only [exitKind, Option.some.injEq] at h1
            subst h1
            rw [h0] at h2
            injection h2 with h2
            subst h2
            simp only [Exit.then]
            refine wpIn_mono (ihy hL.2 hw.2 hb (fun q hq => ?_) rd χ0 w0 vs a' w' G' h5 hk') fun e'' a'' w'' hP' => ⟨seq_post2 h3 h4 hP'.1, hP'.2⟩
            cases hg : m.g with
            | none => exact hok q (.inr (by simp only [imp, hg]; exact hq))
            | some b =>
              have hb1 : b = true := by rw [hg] at h3; exact h3
              exact impl_of (fun q hq => hok q (.inr (by simp only [imp, hg]; exact hq))) hb1 q hq
          · have hne : exitKind e ≠ some 0 := by
              cases e with
              | normal => exact absurd rfl he
              | exit id => simp [exitKind]
              | _ => simp [exitKind]
            have := seq_post1 (ob := ob) h0 hP hne
            cases e with
            | normal => exact absurd rfl he
            | _ => exact ⟨this, hk'⟩
  | cond x p q ihp ihq =>
    intro S out hL hw h hok rd χ0 w0 vs a w G hR hk
    simp only [LoopsIn] at hL
    simp only [noWrite, Bool.and_eq_true] at hw
    simp only [eval] at h
    split at h
    · rename_i t hx
      split at h
      · rename_i oa ob ha hb
        injection h with h
        subst h
        have hv : a.eval x = .bool t := by
          have := arg_rep hR x
          rw [hx] at this
          simp only [ARep] at this
          have := (VRep_one rfl).1 this
          simpa only [CRep, List.cons.injEq, and_true] using this
        simp only [condOut, List.mem_append] at hok
        refine wpIn_cond_split hv (fun ht => ?_) (fun ht => ?_)
        · subst ht
          exact wpIn_mono (ihp hL.1 hw.1 ha (impl_of (fun q hq => hok q (.inl hq)) rfl) rd χ0 w0 vs a w G hR hk) fun e a' w' hP => ⟨cond_postT hP.1, hP.2⟩
        · subst ht
          exact wpIn_mono (ihq hL.2 hw.2 hb (impl_of (fun q hq => hok q (.inr hq)) rfl) rd χ0 w0 vs a w G hR hk) fun e a' w' hP => ⟨cond_postF hP.1, hP.2⟩
      · cases h
    · cases h
  | block id x ih =>
    intro S out hL hw h hok rd χ0 w0 vs a w G hR hk
    simp only [LoopsIn] at hL
    simp only [noWrite] at hw
    simp only [eval] at h
    split at h
    · rename_i oa ha
      injection h with h
      subst h
      have hok' : ∀ q ∈ oa.ok, q := by
        intro q hq
        refine hok q ?_
        unfold blockOut
        split <;> exact hq
      refine wpIn_block (wpIn_mono (ih hL hw ha hok' rd χ0 w0 vs a w G hR hk) fun e a' w' hP => ?_)
      have := block_post (id := id) hP.1
      cases e with
      | exit id' =>
        simp only [Exit.inBlock] at this ⊢
        split
        · rename_i e; rw [if_pos e] at this; exact ⟨this, hP.2⟩
        · rename_i e; rw [if_neg e] at this; exact ⟨this, hP.2⟩
      | _ => exact ⟨this, hP.2⟩
    · cases h
  | loop x _ =>
    intro S out hL hw h
    simp only [eval] at h
    exact hL S out h
  | exit id =>
    intro S out _ _ h _ rd χ0 w0 vs a w G hR hk
    simp only [eval, Option.some.injEq] at h
    subst h
    exact wpIn_exit ⟨post_one rfl hR, hk⟩
  | ret =>
    intro S out _ _ h _ rd χ0 w0 vs a w G hR hk
    simp only [eval, Option.some.injEq] at h
    subst h
    exact wpIn_ret ⟨post_one rfl hR, hk⟩
  | _ => intro S out _ _ h; simp [eval] at h
def loopN {X : Type} (g : X → Bool) (next : X → X) : Nat → X → X
  | 0, x => x
  | k + 1, x => bif g x then loopN g next k (next x) else x
def fuel : Nat := 18446744073709551616
def loopEnd {X : Type} (g : X → Bool) (next : X → X) (x : X) : X := loopN g next fuel x
def Runs {X : Type} (g : X → Bool) (next : X → X) (ok : X → Prop) : Nat → X → Prop
  | 0, x => ok x ∧ g x = false
  | k + 1, x => ok x ∧ g x = true ∧ Runs g next ok k (next x)
def Ends {X : Type} (g : X → Bool) (next : X → X) (ok : X → Prop) (x : X) : Prop := ∃ k, k < fuel ∧ Runs g next ok k x
theorem Runs.loopN {X : Type} {g : X → Bool} {next : X → X} {ok : X → Prop} : ∀ {k : Nat} {x : X} {F : Nat}, Runs g next ok k x → k < F → g (loopN g next F x) = false ∧ ok (Am.loopN g next F x) := by
  intro k
  induction k with
  | zero =>
    intro x F h hF
    cases F with
    | zero => omega
    | succ F => simp only [Am.loopN, h.2, cond_false]; exact ⟨trivial, h.1⟩
  | succ k ih =>
    intro x F h hF
    cases F with
    | zero => omega
    | succ F => simp only [Am.loopN, h.2.1, cond_true]; exact ih h.2.2 (by omega)
theorem wp_loop_n {rd : Option Nat} {cd : Code} {Q : Exit → Act → World → Prop} (I : Nat → Act → World → Prop) {k : Nat} (h₀ : I k a w)
    (round : ∀ k a w, I k a w → cd.wpIn (fz rd) 0 P (Exit.then (fun a' w' => ∃ m, m < k ∧ I m a' w') Q) a w) : (Code.loop cd).wpIn (fz rd) 0 P Q a w := by
  intro b kk cs hro hb hr
  have key : ∀ n a w, I n a w → ∃ e a' w', Q e a' w' ∧ ArrivesIn (Machine.fenced P (fz rd)) P (lone (b.atR a (.code cd :: .inLoop cd :: kk)) cs w) b kk cs e a' w' := by
    intro n
    induction n using Nat.strongRecOn with
    | _ n ih =>
      intro a w hI
      obtain ⟨e, a₁, w₁, hq, harr⟩ := round n a w hI b (.inLoop cd :: kk) cs hro hb hr
      cases e with
      | normal =>
        obtain ⟨m, hlt, hI₁⟩ := hq
        obtain ⟨e₂, a₂, w₂, hq₂, harr₂⟩ := ih m hlt a₁ w₁ hI₁
        exact ⟨e₂, a₂, w₂, hq₂, .of_steps (StepsIn.trans harr (.one (fenced_calm hb hr rfl) stepR_inLoop)) harr₂⟩
      | exit id => exact ⟨_, a₁, w₁, hq, .pass (x := .inLoop cd) rfl (fun _ _ => .inl (by simp)) harr⟩
      | goto l => exact ⟨_, a₁, w₁, hq, .pass (x := .inLoop cd) rfl (fun _ _ => .inl (by simp)) harr⟩
      | ret => exact ⟨_, a₁, w₁, hq, .pass (x := .inLoop cd) rfl (fun _ _ => .inl (by simp)) harr⟩
      | panic ch => exact ⟨_, a₁, w₁, hq, .pass (x := .inLoop cd) rfl (fun _ _ => .inl (by simp)) harr⟩
      | outgrown => exact ⟨_, a₁, w₁, hq, .pass (x := .inLoop cd) rfl (fun _ _ => .inl (by simp)) harr⟩
  obtain ⟨e, a', w', hq, harr⟩ := key _ a w h₀
  exact ⟨e, a', w', hq, .of_steps (.one (fenced_calm hb hr rfl) stepR_loop) harr⟩
def headSt (ly lx : List (Nat × Sh)) (y : denL ly) (x : denL lx) : St := mkSt ly y ++ (mkSt lx x ++ cutSt)
def exitsOf (L : St) (l : List Comp) : List Comp := (dropC 0 l).map fun cp => ⟨cp.kind, cp.g, cp.d ++ L⟩
def loopSpec (ly lx : List (Nat × Sh)) (g : denL ly → denL lx → Bool) (next : denL ly → denL lx → denL lx) (ok : denL ly → denL lx → Prop) (comps : denL ly → denL lx → List Comp) (S : St) : Option Out :=
  match parseSt ly S, parseSt lx S with
  | some y, some x => some ⟨[Ends (g y) (next y) (ok y) x], exitsOf (headSt ly lx y (loopEnd (g y) (next y) x)) (comps y (loopEnd (g y) (next y) x))⟩
  | _, _ => none
theorem head_cut {ly lx : List (Nat × Sh)} {y : denL ly} {x : denL lx} : St.hasCut (headSt ly lx y x) = true := hasCut_append (hasCut_append rfl)
theorem loop_sound (hc : CtxOk P c) (hm : P.follows .mixedOrders = true) {body : Code} (hL : LoopsIn P c body) (hw : noWrite c.keep body = true) {ly lx : List (Nat × Sh)} {g : denL ly → denL lx → Bool} {next : denL ly → denL lx → denL lx}
    {ok : denL ly → denL lx → Prop} {comps : denL ly → denL lx → List Comp} {oks : denL ly → denL lx → List Prop}
    (hbody : ∀ y x, eval c body (headSt ly lx y x) = some ⟨oks y x, comps y x⟩) (hoks : ∀ y x, ok y x → AllP (oks y x))
    (hnext : ∀ y x, ∃ m, findC 0 (comps y x) = some m ∧ tk m.g = g y x ∧ parseSt ly (m.d ++ headSt ly lx y x) = some y ∧ parseSt lx (m.d ++ headSt ly lx y x) = some (next y x)) :
    ∀ S out, loopSpec ly lx g next ok comps S = some out → Sound P c (.loop body) S out := by
  intro S out h hok rd χ0 w0 vs a w G hR hk
  unfold loopSpec at h
  split at h
  · rename_i y x hy hx
    injection h with h
    subst h
    obtain ⟨k, hkf, hruns⟩ := hok _ (List.mem_cons_self ..)
    have hR0 : Rel c.n χ0 w0 (headSt ly lx y x) a w G := (weaker_parse hy (weaker_parse hx weaker_cut)).rel hR
    refine wp_loop_n (I := fun k a w => ∃ x' G F, Rel c.n χ0 w0 (headSt ly lx y x') a w G ∧ Keeps c.keep vs a ∧ Runs (g y) (next y) (ok y) k x' ∧ k < F ∧ loopN (g y) (next y) F x' = loopEnd (g y) (next y) x) (k := k) ⟨x, G, fuel, hR0, hk, hruns, hkf, rfl⟩ ?_
    rintro k a w ⟨x', G, F, hR, hk, hruns, hF, hend⟩
    have hokx : ok y x' := by cases k with | zero => exact hruns.1 | succ k => exact hruns.1
    refine wpIn_mono (eval_sound hc hm hL hw (hbody y x') (AllP_iff.1 (hoks y x' hokx)) rd χ0 w0 vs a w G hR hk) fun e a' w' hP => ?_
    obtain ⟨hP, hk'⟩ := hP
    obtain ⟨m, m1, m2, m3, m4⟩ := hnext y x'
    obtain ⟨q, cp, G', h1, h2, h3, h4, h5⟩ := hP
    by_cases he : e = .normal
    · subst he
      simp only [exitKind, Option.some.injEq] at h1
      subst h1
      rw [m1] at h2
      injection h2 with h2
      subst h2
      rw [m2] at h3
      cases k with
      | zero => rw [hruns.2] at h3; cases h3
      | succ k =>
        simp only [Exit.then]
        cases F with
        | zero => omega
        | succ F =>
          refine ⟨k, by omega, next y x', G', F, (weaker_parse m3 (weaker_parse m4 weaker_cut)).rel h5, hk', hruns.2.2, by omega, ?_⟩
          rw [← hend, Am.loopN, h3, cond_true]
    · have hq : q ≠ 0 := by
        intro e0
        subst e0
        cases e <;> simp [exitKind] at h1 he
      have hg : g y x' = false := by
        cases hg : g y x' with
        | false => rfl
        | true => rw [← m2] at hg; exact absurd (h4 0 m m1 hg).symm hq
      have hfin : x' = loopEnd (g y) (next y) x := by
        rw [← hend]
        cases F with
        | zero => omega
        | succ F => rw [Am.loopN, hg, cond_false]
      subst hfin
      have hq0 : Nat.beq q 0 = false := by cases q with | zero => exact absurd rfl hq | succ q => rfl
      have hfind : ∀ k', findC k' (exitsOf (headSt ly lx y (loopEnd (g y) (next y) x)) (comps y (loopEnd (g y) (next y) x))) = (bif Nat.beq k' 0 then none else findC k' (comps y (loopEnd (g y) (next y) x))).map fun cp => ⟨cp.kind, cp.g, cp.d ++ headSt ly lx y (loopEnd (g y) (next y) x)⟩ := by
        intro k'
        unfold exitsOf
        rw [findC_map (f := fun cp => ⟨cp.kind, cp.g, cp.d ++ headSt ly lx y (loopEnd (g y) (next y) x)⟩) (fun _ => rfl), findC_drop]
      have hpost : Post c.n χ0 w0 S (exitsOf (headSt ly lx y (loopEnd (g y) (next y) x)) (comps y (loopEnd (g y) (next y) x))) e a' w' := by
        refine ⟨q, ⟨cp.kind, cp.g, cp.d ++ headSt ly lx y (loopEnd (g y) (next y) x)⟩, G', h1, ?_, h3, fun k' c' hf ht => ?_, ?_⟩
        · rw [hfind, hq0, cond_false, h2]; rfl
        · rw [hfind] at hf
          cases hk' : Nat.beq k' 0 with
          | true => simp [hk'] at hf
          | false =>
            simp only [hk', cond_false] at hf
            cases hx : findC k' (comps y (loopEnd (g y) (next y) x)) with
            | none => simp [hx] at hf
            | some z => simp only [hx, Option.map_some, Option.some.injEq] at hf; subst hf; exact h4 k' z hx ht
        · exact Rel_congr (fun s => get_cut (hasCut_append head_cut)) h5
      cases e with
      | normal => exact absurd rfl he
      | _ => exact ⟨hpost, hk'⟩
  · cases h
end Go.Am
namespace Go.Am
open Go Go.RowKit
variable {gtab : GlobTab} {P : Program} {c : Ctx} {G : Gh} {w : World} {tm : Array Value} {n : Nat} {χ0 : Nat → Nat → Nat} {w0 : World} {S : St} {a : Act}
def resA1 [GlobTab] (c : Ctx) (S : St) : ResultVar → Option AVal
  | .tmp t => some (arg S (.tmp t))
  | .cell r T => match loadA c T (arg S (.tmp r)) (content S (arg S (.tmp r))) with | some ([], A) => some A | _ => none
def resAll [GlobTab] (c : Ctx) (S : St) : List ResultVar → Option AVal
  | [] => some (.tup .nl)
  | [r] => resA1 c S r
  | [r, s] => match resA1 c S r, resA1 c S s with | some A, some B => some (.tup (.cons A (.cons B .nl))) | _, _ => none
  | [r, s, t] => match resA1 c S r, resA1 c S s, resA1 c S t with | some A, some B, some C => some (.tup (.cons A (.cons B (.cons C .nl)))) | _, _, _ => none
  | [r, s, t, u] => match resA1 c S r, resA1 c S s, resA1 c S t, resA1 c S u with | some A, some B, some C, some D => some (.tup (.cons A (.cons B (.cons C (.cons D .nl))))) | _, _, _, _ => none
  | _ => none
def resSem (tmps : Array Value) : ResultVar → Sem Value
  | .tmp t => pure (tmps.getD t undef)
  | .cell a t => do loadVar t (← asAddr (tmps.getD a undef))
theorem resA1_sound (hc : CtxOk P c) (hR : Rel n χ0 w0 S a w G) {r : ResultVar} {A : AVal} (h : resA1 c S r = some A) : ∃ v, (resSem a.tmps r).run P w = .ok v w ∧ ARep G w a.tmps none A v := by
  cases r with
  | tmp t =>
    simp only [resA1, Option.some.injEq] at h
    subst h
    exact ⟨_, rfl, arg_rep hR (.tmp t)⟩
  | cell r T =>
    simp only [resA1] at h
    split at h
    · rename_i A' hl
      injection h with h
      subst h
      have hx := arg_rep hR (.tmp r)
      obtain ⟨u, h1, h2⟩ := loadA_sound hc.tys hc.fts hx (fun s hs => ⟨_, by
        have := hR.reps s
        cases hA : arg S (.tmp r) <;> simp [hA, refSlot] at hs <;> (subst hs; simpa [content, hA] using this)⟩) hl (fun q hq => by cases hq)
      refine ⟨u, ?_, h2⟩
      simp only [resSem]
      have hv : a.eval (.tmp r) = a.tmps.getD r undef := rfl
      rw [hv] at h1
      cases hvv : a.tmps.getD r undef with
      | pointer p =>
        cases p with
        | none => rw [hvv] at h1; simp [Instr.loadAt, Instr.sureAddr] at h1
        | some ad => rw [hvv] at h1; simpa [Instr.loadAt, Instr.sureAddr, asAddr] using h1
      | _ => rw [hvv] at h1; simp [Instr.loadAt, Instr.sureAddr] at h1
    · cases h
theorem resAll_sound (hc : CtxOk P c) (hR : Rel n χ0 w0 S a w G) {fn : Func} {A : AVal} (h : resAll c S fn.results.toList = some A) : ∃ v, (results fn a.tmps).run P w = .ok v w ∧ ARep G w a.tmps none A v := by
  have hfn : fn.results = fn.results.toList.toArray := by simp
  generalize fn.results.toList = l at h hfn
  have hsem : results fn a.tmps = (do let vs ← fn.results.mapM (resSem a.tmps); pure (if h : vs.size = 1 then vs[0] else .tuple vs)) := by
    unfold results
    congr 1
  rw [hsem, hfn]
  match l, h with
  | [], h => simp only [resAll, Option.some.injEq] at h; subst h; exact ⟨.tuple #[], by simp, by simp only [ARep]⟩
  | [r], h =>
    obtain ⟨v, h1, h2⟩ := resA1_sound hc hR h
    exact ⟨v, by simp [h1], h2⟩
  | [r, s], h =>
    simp only [resAll] at h
    split at h
    · rename_i A' B hA hB
      injection h with h; subst h
      obtain ⟨v, h1, h2⟩ := resA1_sound hc hR hA
      obtain ⟨v', h1', h2'⟩ := resA1_sound hc hR hB
      exact ⟨.tuple #[v, v'], by simp [h1, h1'], by simp only [ARep]; exact ⟨v, [v'], rfl, h2, v', [], rfl, h2', rfl⟩⟩
    · cases h
  | [r, s, t], h =>
    simp only [resAll] at h
    split at h
    · rename_i A' B C hA hB hC
      injection h with h; subst h
      obtain ⟨v, h1, h2⟩ := resA1_sound hc hR hA
      obtain ⟨v', h1', h2'⟩ := resA1_sound hc hR hB
      obtain ⟨v'', h1'', h2''⟩ := resA1_sound hc hR hC
      exact ⟨.tuple #[v, v', v''], by simp [h1, h1', h1''], by simp only [ARep]; exact ⟨v, [v', v''], rfl, h2, v', [v''], rfl, h2', v'', [], rfl, h2'', rfl⟩⟩
    · cases h
  | [r, s, t, u], h =>
    simp only [resAll] at h
    split at h
    · rename_i A' B C D hA hB hC hD
      injection h with h; subst h
      obtain ⟨v, h1, h2⟩ := resA1_sound hc hR hA
      obtain ⟨v', h1', h2'⟩ := resA1_sound hc hR hB
      obtain ⟨v'', h1'', h2''⟩ := resA1_sound hc hR hC
      obtain ⟨v3, h13, h23⟩ := resA1_sound hc hR hD
      exact ⟨.tuple #[v, v', v'', v3], by simp [h1, h1', h1'', h13], by simp only [ARep]; exact ⟨v, [v', v'', v3], rfl, h2, v', [v'', v3], rfl, h2', v'', [v3], rfl, h2'', v3, [], rfl, h23, rfl⟩⟩
    · cases h
  | _ :: _ :: _ :: _ :: _ :: _, h => simp [resAll] at h
def finSt (S : St) (l : List Comp) : Option St :=
  bif l.all (fun x => Nat.ble x.kind 1) then
    match findC 0 l, findC 1 l with
    | none, some r => some r.d
    | some m, none => some m.d
    | some m, some r => some (merge2 (tk r.g) r.d m.d S)
    | none, none => none
  else none
theorem findC_mem {k : Nat} {x : Comp} : ∀ {l : List Comp}, findC k l = some x → x ∈ l := by
  intro l
  induction l with
  | nil => intro h; cases h
  | cons y r ih =>
    intro h
    simp only [findC] at h
    cases hb : Nat.beq y.kind k with
    | true => simp only [hb, cond_true, Option.some.injEq] at h; subst h; exact List.mem_cons_self ..
    | false => simp only [hb, cond_false] at h; exact List.mem_cons_of_mem _ (ih h)
theorem fin_post {l : List Comp} {d : St} {e : Exit} (h : finSt S l = some d) (hP : Post n χ0 w0 S l e a w) : (e = .normal ∨ e = .ret) ∧ ∃ G, Rel n χ0 w0 (d ++ S) a w G := by
  obtain ⟨k, cp, G, h1, h2, h3, h4, h5⟩ := hP
  unfold finSt at h
  generalize hall : l.all (fun x => Nat.ble x.kind 1) = b at h
  cases b with
  | false => cases h
  | true =>
    simp only [cond_true] at h
    have hk : k ≤ 1 := by
      have := List.all_eq_true.1 hall cp (findC_mem h2)
      rw [findC_kind h2] at this
      exact Nat.le_of_ble_eq_true this
    have he : e = .normal ∨ e = .ret := by
      cases e with
      | normal => exact .inl rfl
      | ret => exact .inr rfl
      | exit id => simp only [exitKind, Option.some.injEq] at h1; omega
      | _ => simp [exitKind] at h1
    refine ⟨he, G, ?_⟩
    generalize h0 : findC 0 l = o0 at h
    generalize h1' : findC 1 l = o1 at h
    obtain rfl | rfl : k = 0 ∨ k = 1 := by omega
    · have := h0.symm.trans h2
      subst this
      cases o1 with
      | none => injection h with h; subst h; exact h5
      | some r =>
        injection h with h; subst h
        have : tk r.g = false := by
          cases hx : tk r.g with
          | false => rfl
          | true => have := h4 1 r h1' hx; omega
        rw [this]
        exact merge2_relF h5
    · have := h1'.symm.trans h2
      subst this
      cases o0 with
      | none => injection h with h; subst h; exact h5
      | some m =>
        injection h with h; subst h
        rw [h3]
        exact merge2_relT h5
def argSt : Nat → List AVal → St
  | _, [] => []
  | i, A :: r => (i, A) :: argSt (i + 1) r
@[reducible] def denO : List (Nat × Sh) → Type
  | [] => Unit
  | (_, s) :: r => s.den × denO r
def outV : (s : Sh) → s.den → AVal
  | .box _ s, x => s.mk x
  | s, x => s.mk x
def mkO : (l : List (Nat × Sh)) → denO l → List (Nat × AVal)
  | [], _ => []
  | (i, s) :: r, x => (i, outV s x.1) :: mkO r x.2
def parseO : (l : List (Nat × Sh)) → St → Option (denO l)
  | [], _ => some ()
  | (i, s) :: r, S => match s.parse (S.get i), parseO r S with | some x, some y => some (x, y) | _, _ => none
def isBoxSh : Sh → Bool
  | .box _ _ => true | _ => false
def fnSpec (ps : List (Nat × Sh)) (rs : Sh) (os : List (Nat × Sh)) (ok : denL ps → Prop) (f : denL ps → rs.den) (o : denL ps → denO os) : Spec := fun args =>
  bif Nat.beq args.length ps.length then
    match parseSt ps (argSt 0 args) with
    | some x => some ⟨[ok x], rs.mk (f x), mkO os (o x), []⟩
    | none => none
  else none
def psOk : Nat → List (Nat × Sh) → Bool
  | _, [] => true
  | i, (k, _) :: r => Nat.beq k i && psOk (i + 1) r
def osOk (ps : List (Nat × Sh)) (keep : List Nat) (os : List (Nat × Sh)) : Bool :=
  os.all fun e => keep.any (Nat.beq e.1) && (match ps[e.1]? with
    | some (_, .box τ _) => (match e.2 with | .box τ' _ => Ty.beq τ' τ | _ => false)
    | some (_, .any) => false
    | some _ => !isBoxSh e.2
    | none => false)
theorem argSt_get {s : Nat} : ∀ {args : List AVal} {i : Nat}, i ≤ s → s < i + args.length → i + args.length ≤ cutNo → some ((argSt i args).get s) = args[s - i]? := by
  intro args
  induction args with
  | nil => intro i h1 h2; simp at h2; omega
  | cons A r ih =>
    intro i h1 h2 h3
    simp only [List.length_cons] at h2 h3
    simp only [argSt, St.get]
    by_cases e : i = s
    · subst e; simp
    · have hb : Nat.beq i s = false := by cases hb : Nat.beq i s with | false => rfl | true => exact absurd (Nat.eq_of_beq_eq_true hb) e
      have hc : Nat.beq i cutNo = false := by cases hb : Nat.beq i cutNo with | false => rfl | true => have := Nat.eq_of_beq_eq_true hb; omega
      rw [hb, hc, cond_false, cond_false, ih (by omega) (by omega) (by omega)]
      rw [show s - i = (s - (i + 1)) + 1 by omega]
      simp
theorem argSt_out {s : Nat} : ∀ {args : List AVal} {i : Nat}, i + args.length ≤ s ∨ s < i → (argSt i args).get s = .junk := by
  intro args
  induction args with
  | nil => intro i _; rfl
  | cons A r ih =>
    intro i h
    simp only [List.length_cons] at h
    simp only [argSt, St.get]
    have hb : Nat.beq i s = false := by cases hb : Nat.beq i s with | false => rfl | true => have := Nat.eq_of_beq_eq_true hb; omega
    rw [hb, cond_false]
    cases Nat.beq i cutNo with
    | true => rfl
    | false => exact ih (by omega)
theorem parseSt_at {S : St} : ∀ {ps : List (Nat × Sh)} {x : denL ps} {k : Nat} {i : Nat} {s : Sh}, parseSt ps S = some x → ps[k]? = some (i, s) → ∃ y, s.parse (S.get i) = some y := by
  intro ps
  induction ps with
  | nil => intro x k i s _ h; simp at h
  | cons e r ih =>
    intro x k i s hp hk
    obtain ⟨j, t⟩ := e
    simp only [parseSt] at hp
    split at hp
    · rename_i y z hy hz
      cases k with
      | zero => simp only [List.getElem?_cons_zero, Option.some.injEq, Prod.mk.injEq] at hk; obtain ⟨rfl, rfl⟩ := hk; exact ⟨y, hy⟩
      | succ k => exact ih hz (by simpa using hk)
    · cases hp
theorem psOk_at : ∀ {ps : List (Nat × Sh)} {i k j : Nat} {s : Sh}, psOk i ps = true → ps[k]? = some (j, s) → j = i + k := by
  intro ps
  induction ps with
  | nil => intro i k j s _ h; simp at h
  | cons e r ih =>
    intro i k j s h hk
    obtain ⟨q, t⟩ := e
    simp only [psOk, Bool.and_eq_true] at h
    cases k with
    | zero => simp only [List.getElem?_cons_zero, Option.some.injEq, Prod.mk.injEq] at hk; obtain ⟨rfl, rfl⟩ := hk; exact Nat.eq_of_beq_eq_true h.1
    | succ k => have := ih h.2 (by simpa using hk); omega
theorem parseO_at {S : St} {i : Nat} {k : AVal} : ∀ {os : List (Nat × Sh)} {x : denO os}, parseO os S = some x → (i, k) ∈ mkO os x → ∃ s y, (i, s) ∈ os ∧ k = outV s y ∧ s.parse (S.get i) = some y := by
  intro os
  induction os with
  | nil => intro x _ h; cases h
  | cons e r ih =>
    intro x hp hk
    obtain ⟨j, τ⟩ := e
    simp only [parseO] at hp
    split at hp
    · rename_i y z hy hz
      injection hp with hp
      subst hp
      simp only [mkO] at hk
      rcases List.mem_cons.1 hk with h | h
      · simp only [Prod.mk.injEq] at h
        obtain ⟨rfl, rfl⟩ := h
        exact ⟨τ, y, List.mem_cons_self .., rfl, hy⟩
      · obtain ⟨τ', y', h1, h2, h3⟩ := ih hz h
        exact ⟨τ', y', List.mem_cons_of_mem _ h1, h2, h3⟩
    · cases hp
theorem parse_box {s : Sh} {A : AVal} {x : s.den} {τ : Ty} {k0 : AVal} (h : s.parse A = some x) (hA : A = .box τ k0) : s = .any ∨ ∃ s', s = .box τ s' := by
  subst hA
  cases s with
  | box τ' s' =>
    simp only [Sh.parse, inBox] at h
    cases hb : Ty.beq τ' τ with
    | true => have := Ty.eq_of_beq hb; subst this; exact .inr ⟨s', rfl⟩
    | false => simp [hb] at h
  | any => exact .inl rfl
  | val τ' => simp only [Sh.parse, AVal.as, AVal.asT] at h; cases τ'.isL <;> simp at h
  | own t T m => simp [Sh.parse, asOwn] at h
  | nl => simp [Sh.parse, isNlA] at h
  | cons a b => simp [Sh.parse, inCons] at h
  | agg f s => simp [Sh.parse, inAgg] at h
  | ref s τ' => simp [Sh.parse, isRefA] at h
  | tup s => simp [Sh.parse, inTup] at h
  | fn f s => simp [Sh.parse, inFn] at h
  | nil => simp [Sh.parse, isNilA] at h
  | nn b => simp [Sh.parse, isNnA] at h
  | fptr f caps => simp [Sh.parse, isFptr] at h
  | ownh t T U m => simp [Sh.parse, asHole] at h
def startSt (ps : List (Nat × Sh)) (x : denL ps) : St := mkSt ps x ++ cutSt
theorem mkSt_noOpt : ∀ {ps : List (Nat × Sh)} {x : denL ps}, ∀ e ∈ startSt ps x, e.2.hasOpt = false := by
  intro ps
  induction ps with
  | nil => intro x e he; simp only [startSt, mkSt, cutSt, List.nil_append, List.mem_singleton] at he; subst he; rfl
  | cons q r ih =>
    intro x e he
    obtain ⟨k, s⟩ := q
    simp only [startSt, mkSt, List.cons_append] at he
    rcases List.mem_cons.1 he with h | h
    · subst h; exact mk_noOpt
    · exact ih e h
theorem func_sound (hc : CtxOk P c) (hm : P.follows .mixedOrders = true) {f : Nat} {fn : Func} {code : Code} (hf : P.funcs[f]? = some fn) (hb : fn.body = some code) (hname : fn.name ≠ "runtime.NumGoroutine") (hn : fn.ntmps = c.n)
    (hL : LoopsIn P c code) (hw : noWrite c.keep code = true) {ps : List (Nat × Sh)} {rs : Sh} {os : List (Nat × Sh)} {ok : denL ps → Prop} {F : denL ps → rs.den} {o : denL ps → denO os}
    {oks : denL ps → List Prop} {comps : denL ps → List Comp} {d : denL ps → St} {res : denL ps → AVal} (hps : (psOk 0 ps && osOk ps c.keep os && Nat.ble ps.length c.n) = true)
    (heval : ∀ x, eval c code (startSt ps x) = some ⟨oks x, comps x⟩) (hoks : ∀ x, ok x → AllP (oks x))
    (hfin : ∀ x, finSt (startSt ps x) (comps x) = some (d x)) (hres : ∀ x, resAll c (d x ++ startSt ps x) fn.results.toList = some (res x)) (hpar : ∀ x, rs.parse (res x) = some (F x))
    (hout : ∀ x, parseO os (d x ++ startSt ps x) = some (o x)) : SpecOk P f (fnSpec ps rs os ok F o) := by
  simp only [Bool.and_eq_true] at hps
  obtain ⟨⟨hps1, hps2⟩, hps3⟩ := hps
  have hps3 : ps.length ≤ c.n := Nat.le_of_ble_eq_true hps3
  refine ⟨⟨fn, hf, by rw [hb]; rfl, hname⟩, fun args co hsp hok G w vals hlen hglob hreps => ?_⟩
  unfold fnSpec at hsp
  generalize hal : Nat.beq args.length ps.length = b at hsp
  cases b with
  | false => cases hsp
  | true =>
    have hal := Nat.eq_of_beq_eq_true hal
    simp only [cond_true] at hsp
    split at hsp
    · rename_i x hx
      injection hsp with hsp
      subst hsp
      have hokx : ok x := hok _ (List.mem_cons_self ..)
      refine callsIn_wide.1 (callsIn_of_wp (n := 0) hf hb trivial ?_)
      generalize hact : ({ tmps := vals.toArray ++ Array.replicate (fn.ntmps - vals.toArray.size) undef, defers := [] } : Act) = act
      have hget : ∀ s, s < vals.length → act.tmps.getD s undef = vals.getD s undef := by
        intro s hs
        rw [← hact]
        simp [Array.getElem?_append, hs]
      have hcn := hc.n
      have hrel : Rel c.n G.χ w (startSt ps x) act w G := by
        refine ⟨?_, by rw [← hact], fun s => ?_, ⟨rfl, rfl, rfl, Nat.le_refl _, fun _ _ _ => rfl, fun _ _ _ _ => ⟨rfl, rfl⟩⟩, hglob⟩
        · rw [← hact]; simp; omega
        · have key : ARep G w #[] (some s) ((startSt ps x).get s) (act.tmps.getD s undef) := by
            refine weaker_parse hx weaker_cut s G w #[] _ ?_
            by_cases hs : s < args.length
            · have h1 := argSt_get (s := s) (args := args) (i := 0) (by omega) (by omega) (by omega)
              simp only [Nat.sub_zero] at h1
              have h2 : vals[s]? = some (vals.getD s undef) := by simp [List.getElem?_eq_getElem (show s < vals.length by omega)]
              rw [hget s (by omega)]
              exact hreps s _ _ h1.symm h2
            · rw [argSt_out (.inl (by omega))]; simp only [ARep]
          refine ARep_tm (fun k hk => ?_) key
          have := get_mem_all (q := fun A => A.hasOpt = false) rfl (S := startSt ps x) (s := s) mkSt_noOpt
          rw [noOpt_hung this] at hk
          cases hk
      refine wpIn_mono (eval_sound hc hm hL hw (heval x) (AllP_iff.1 (hoks x hokx)) none G.χ w (fun i => act.tmps.getD i undef) act w G hrel (fun i _ => rfl)) fun e a' w' hP => ?_
      obtain ⟨hP, hk⟩ := hP
      obtain ⟨he, G', hR⟩ := fin_post (hfin x) hP
      obtain ⟨v, hv1, hv2⟩ := resAll_sound hc hR (hres x)
      have hfinal : a'.defers = [] ∧ ∃ v, (results fn a'.tmps).run P w' = .ok v w' ∧ ∃ v' G', Ending.returned v = .returned v' ∧ Frame0 G.χ w G'.χ w' ∧ ARep G' w' #[] none (rs.mk (F x)) v' ∧
          (∀ (i : Nat) k A u, (i, k) ∈ mkO os (o x) → args[i]? = some A → vals[i]? = some u →
            (∀ τ k0, A = .box τ k0 → ARep G' w' #[] (some i) (.box τ k) u ∧ G'.β i = G.β i) ∧ (isBoxA A = false → ARep G' w' #[] none k u)) := by
        refine ⟨hR.defers, v, hv1, v, G', rfl, hR.frame, ?_, ?_⟩
        · refine ARep_tm (fun k hk => ?_) (ARep_parse (hpar x) hv2)
          rw [noOpt_hung mk_noOpt] at hk; cases hk
        · intro i k A u hi ha hu
          obtain ⟨s', y, h1, rfl, h3⟩ := parseO_at (hout x) hi
          simp only [osOk, List.all_eq_true, Bool.and_eq_true] at hps2
          have h4 := hps2 _ h1
          simp only at h4
          have hrep := ARep_parse h3 (hR.reps i)
          have hilt : i < args.length := (List.getElem?_eq_some_iff.1 ha).1
          have hkeep : a'.tmps.getD i undef = u := by
            obtain ⟨j, hj, hjb⟩ := List.any_eq_true.1 h4.1
            have := Nat.eq_of_beq_eq_true hjb
            subst this
            rw [hk i hj]
            show act.tmps.getD i undef = u
            rw [hget i (by omega)]
            simp [hu]
          rw [hkeep] at hrep
          have hrep : ARep G' w' #[] (some i) (s'.mk y) u := ARep_tm (fun k hk => by rw [noOpt_hung mk_noOpt] at hk; cases hk) hrep
          obtain ⟨p, hpi⟩ : ∃ p, ps[i]? = some (i, p) ∧ ∃ z, p.parse A = some z := by
            have hil : i < ps.length := by omega
            obtain ⟨⟨j, p⟩, hpi⟩ : ∃ q, ps[i]? = some q := ⟨_, List.getElem?_eq_getElem hil⟩
            have hj := psOk_at hps1 hpi
            simp only [Nat.zero_add] at hj
            subst hj
            obtain ⟨z, hz⟩ := parseSt_at hx hpi
            have h1 := argSt_get (s := j) (args := args) (i := 0) (by omega) (by omega) (by omega)
            simp only [Nat.sub_zero, ha, Option.some.injEq] at h1
            rw [h1] at hz
            exact ⟨p, hpi, z, hz⟩
          obtain ⟨hpi, z, hz⟩ := hpi
          rw [hpi] at h4
          constructor
          · rintro τ k0 rfl
            rcases parse_box hz rfl with rfl | ⟨s2, rfl⟩
            · simp at h4
            · simp only at h4
              cases s' with
              | box τ' s3 =>
                have := Ty.eq_of_beq h4.2
                subst this
                refine ⟨hrep, ?_⟩
                have h0 := hreps i _ _ ha hu
                simp only [Sh.mk, ARep] at h0 hrep
                have := h0.1.symm.trans hrep.1
                simp only [Value.pointer.injEq, Option.some.injEq, Addr.mk.injEq] at this
                exact this.1.symm
              | _ => simp at h4
          · intro hA
            cases s' with
            | box τ' s3 =>
              exfalso
              split at h4
              · rename_i j τ2 s2 e
                simp only [Option.some.injEq, Prod.mk.injEq] at e
                obtain ⟨rfl, rfl⟩ := e
                simp only [Sh.parse] at hz
                cases A <;> simp [inBox, isBoxA] at hz hA
              · simp at h4
              · simp [isBoxSh] at h4
              · simp at h4
            | _ => exact ARep_none (by simpa only [outV] using hrep) (by intro τ c e; simp only [outV, Sh.mk] at e; cases e) (by intro e; simp only [outV, Sh.mk] at e; cases e)
      rcases he with rfl | rfl
      · exact hfinal
      · exact hfinal
    · cases hsp
end Go.Am
namespace Go.Am
open Go Go.RowKit
variable {gtab : GlobTab} {P : Program} {c : Ctx}
def sumE (H : St) : List Comp → List (List (Nat × Sh)) → Option (List Comp)
  | [], [] => some []
  | cp :: r, l :: s => match parseSt l (cp.d ++ H), sumE H r s with
    | some z, some q => some (⟨cp.kind, cp.g, mkSt l z ++ cutSt⟩ :: q)
    | _, _ => none
  | _, _ => none
def sumX (H : St) (l : List Comp) (ls : List (List (Nat × Sh))) : Option (List Comp) :=
  match sumE H l ls with
  | some [q] => some [⟨q.kind, none, q.d⟩]
  | r => r
def sumLoop [GlobTab] (c : Ctx) (body : Code) (ly lx : List (Nat × Sh)) (les : List (List (Nat × Sh))) (y : denL ly) (x : denL lx) : Option (Prop × Bool × denL ly × denL lx × List Comp) :=
  match eval c body (headSt ly lx y x) with
  | none => none
  | some o => match findC 0 o.comps with
    | none => none
    | some m => match parseSt ly (m.d ++ headSt ly lx y x), parseSt lx (m.d ++ headSt ly lx y x), sumX (headSt ly lx y x) (dropC 0 o.comps) les with
      | some y', some x', some es => some (AllP o.ok, tk m.g, y', x', es)
      | _, _, _ => none
def loopS (ly lx : List (Nat × Sh)) (g : denL ly → denL lx → Bool) (next : denL ly → denL lx → denL lx) (ok : denL ly → denL lx → Prop) (es : denL ly → denL lx → List Comp) (S : St) : Option Out :=
  match parseSt ly S, parseSt lx S with
  | some y, some x => some ⟨[Ends (g y) (next y) (ok y) x], es y (loopEnd (g y) (next y) x)⟩
  | _, _ => none
theorem sumE_at {H : St} {k : Nat} : ∀ {l : List Comp} {ls : List (List (Nat × Sh))} {es : List Comp}, sumE H l ls = some es →
    (findC k es = none ∧ findC k l = none) ∨ ∃ cp cp', findC k l = some cp ∧ findC k es = some cp' ∧ cp'.g = cp.g ∧ St.hasCut cp'.d = true ∧ Weaker cp'.d (cp.d ++ H) := by
  intro l
  induction l with
  | nil => intro ls es h; cases ls <;> simp [sumE] at h; subst h; exact .inl ⟨rfl, rfl⟩
  | cons cp r ih =>
    intro ls es h
    cases ls with
    | nil => simp [sumE] at h
    | cons s ls =>
      simp only [sumE] at h
      split at h
      · rename_i z q hz hq
        injection h with h
        subst h
        simp only [findC]
        cases Nat.beq cp.kind k with
        | true => exact .inr ⟨cp, _, rfl, rfl, rfl, hasCut_append rfl, weaker_parse hz weaker_cut⟩
        | false => exact ih hq
      · cases h
theorem sumX_at {H : St} {k : Nat} {l : List Comp} {ls : List (List (Nat × Sh))} {es : List Comp} (h : sumX H l ls = some es) :
    (findC k es = none ∧ findC k l = none) ∨ ∃ cp cp', findC k l = some cp ∧ findC k es = some cp' ∧ (cp'.g = cp.g ∨ (cp'.g = none ∧ ∀ k' c', findC k' l = some c' → k' = k)) ∧ St.hasCut cp'.d = true ∧ Weaker cp'.d (cp.d ++ H) := by
  unfold sumX at h
  split at h
  · rename_i q hq
    injection h with h
    subst h
    have hone : ∀ k', findC k' [q] = none → findC k' l = none := fun k' h' => by
      rcases sumE_at (k := k') hq with ⟨_, h2⟩ | ⟨cp, cp', _, h2, _⟩
      · exact h2
      · rw [h'] at h2; cases h2
    rcases sumE_at (k := k) hq with ⟨h1, h2⟩ | ⟨cp, cp', h1, h2, h3, h4, h5⟩
    · left
      refine ⟨?_, h2⟩
      simp only [findC] at h1 ⊢
      cases hb : Nat.beq q.kind k with
      | true => simp [hb] at h1
      | false => rfl
    · right
      have hqk := h2
      simp only [findC] at hqk
      cases hb : Nat.beq q.kind k with
      | false => simp [hb] at hqk
      | true =>
        simp only [hb, cond_true, Option.some.injEq] at hqk
        subst hqk
        refine ⟨cp, ⟨q.kind, none, q.d⟩, h1, by simp only [findC, hb, cond_true], .inr ⟨rfl, fun k' c' hf => ?_⟩, h4, h5⟩
        cases hb' : Nat.beq q.kind k' with
        | true => rw [← Nat.eq_of_beq_eq_true hb', Nat.eq_of_beq_eq_true hb]
        | false =>
          have := hone k' (by simp only [findC, hb', cond_false])
          rw [this] at hf; cases hf
  · rename_i r _
    rcases sumE_at (k := k) h with h1 | ⟨cp, cp', h1, h2, h3, h4, h5⟩
    · exact .inl h1
    · exact .inr ⟨cp, cp', h1, h2, .inl h3, h4, h5⟩
theorem loop_sum (hc : CtxOk P c) (hm : P.follows .mixedOrders = true) {body : Code} (hL : LoopsIn P c body) (hw : noWrite c.keep body = true) {ly lx : List (Nat × Sh)} {les : List (List (Nat × Sh))} {g : denL ly → denL lx → Bool} {next : denL ly → denL lx → denL lx}
    {ok : denL ly → denL lx → Prop} {es : denL ly → denL lx → List Comp} (hsum : ∀ y x, sumLoop c body ly lx les y x = some (ok y x, g y x, y, next y x, es y x)) :
    ∀ S out, loopS ly lx g next ok es S = some out → Sound P c (.loop body) S out := by
  intro S out h hok rd χ0 w0 vs a w G hR hk
  unfold loopS at h
  split at h
  · rename_i y x hy hx
    injection h with h
    subst h
    have hopen : ∀ y x, ∃ o m, eval c body (headSt ly lx y x) = some o ∧ findC 0 o.comps = some m ∧ AllP o.ok = ok y x ∧ tk m.g = g y x ∧ parseSt ly (m.d ++ headSt ly lx y x) = some y ∧ parseSt lx (m.d ++ headSt ly lx y x) = some (next y x) ∧ sumX (headSt ly lx y x) (dropC 0 o.comps) les = some (es y x) := by
      intro y x
      have := hsum y x
      unfold sumLoop at this
      split at this
      · cases this
      · rename_i o ho
        split at this
        · cases this
        · rename_i m hm
          split at this
          · rename_i y' x' es' h1 h2 h3
            simp only [Option.some.injEq, Prod.mk.injEq] at this
            obtain ⟨e1, e2, rfl, rfl, rfl⟩ := this
            exact ⟨o, m, ho, hm, e1, e2, h1, h2, h3⟩
          · cases this
    let O : denL ly → denL lx → Out := fun y x => (eval c body (headSt ly lx y x)).getD ⟨[], []⟩
    have hO : ∀ y x, eval c body (headSt ly lx y x) = some (O y x) := by
      intro y x
      obtain ⟨o, m, h1, _⟩ := hopen y x
      simp only [O, h1, Option.getD_some]
    have hspec : loopSpec ly lx g next ok (fun y x => (O y x).comps) S = some ⟨[Ends (g y) (next y) (ok y) x], exitsOf (headSt ly lx y (loopEnd (g y) (next y) x)) (O y (loopEnd (g y) (next y) x)).comps⟩ := by
      unfold loopSpec
      rw [hy, hx]
    have hsnd := loop_sound hc hm hL hw (g := g) (next := next) (ok := ok) (comps := fun y x => (O y x).comps) (oks := fun y x => (O y x).ok) hO (fun y x hx => by
      obtain ⟨o, m, h1, h2, h3, _⟩ := hopen y x
      have := hO y x
      rw [h1] at this
      injection this with this
      rw [← this, h3]; exact hx) (fun y x => by
      obtain ⟨o, m, h1, h2, h3, h4, h5, h6, h7⟩ := hopen y x
      have := hO y x
      rw [h1] at this
      injection this with this
      exact ⟨m, by rw [← this]; exact h2, h4, h5, h6⟩) S _ hspec hok rd χ0 w0 vs a w G hR hk
    refine wpIn_mono hsnd fun e a' w' hP => ⟨?_, hP.2⟩
    obtain ⟨k, cp, G', q1, q2, q3, q4, q5⟩ := hP.1
    obtain ⟨o, m, h1, h2, h3, h4, h5, h6, h7⟩ := hopen y (loopEnd (g y) (next y) x)
    have hoo := hO y (loopEnd (g y) (next y) x)
    rw [h1] at hoo
    injection hoo with hoo
    have hfind : ∀ k', findC k' (exitsOf (headSt ly lx y (loopEnd (g y) (next y) x)) (O y (loopEnd (g y) (next y) x)).comps) = (findC k' (dropC 0 o.comps)).map fun cp => ⟨cp.kind, cp.g, cp.d ++ headSt ly lx y (loopEnd (g y) (next y) x)⟩ := by
      intro k'
      unfold exitsOf
      rw [findC_map (f := fun cp => ⟨cp.kind, cp.g, cp.d ++ headSt ly lx y (loopEnd (g y) (next y) x)⟩) (fun _ => rfl), hoo]
    rw [hfind] at q2
    rcases sumX_at (k := k) h7 with ⟨_, e2⟩ | ⟨c1, c2, e1, e2, e3, e4, e5⟩
    · rw [e2] at q2; cases q2
    · rw [e1] at q2
      simp only [Option.map_some, Option.some.injEq] at q2
      subst q2
      have htk : tk c2.g = true := by
        rcases e3 with e3 | ⟨e3, _⟩
        · rw [e3]; exact q3
        · rw [e3]; rfl
      refine ⟨k, c2, G', q1, e2, htk, fun k' c' hf ht => ?_, ?_⟩
      · rcases sumX_at (k := k') h7 with ⟨f1, _⟩ | ⟨d1, d2, f1, f2, f3, _, _⟩
        · rw [f1] at hf; cases hf
        · rw [f2] at hf
          injection hf with hf
          subst hf
          rcases f3 with f3 | ⟨_, f3⟩
          · refine q4 k' ⟨d1.kind, d1.g, d1.d ++ headSt ly lx y (loopEnd (g y) (next y) x)⟩ (by rw [hfind, f1]; rfl) ?_
            rw [f3] at ht; exact ht
          · exact (f3 k c1 e1).symm
      · have r1 : Rel c.n χ0 w0 (c1.d ++ headSt ly lx y (loopEnd (g y) (next y) x)) a' w' G' := Rel_congr (fun s => (get_cut (hasCut_append head_cut)).symm) q5
        exact Rel_congr (fun s => get_cut e4) (e5.rel r1)
  · cases h
def sumFn [GlobTab] (c : Ctx) (code : Code) (rv : List ResultVar) (ps : List (Nat × Sh)) (rs : Sh) (os : List (Nat × Sh)) (x : denL ps) : Option (Prop × rs.den × denO os) :=
  match eval c code (startSt ps x) with
  | none => none
  | some o => match finSt (startSt ps x) o.comps with
    | none => none
    | some d => match resAll c (d ++ startSt ps x) rv, parseO os (d ++ startSt ps x) with
      | some r, some z => (match rs.parse r with | some v => some (AllP o.ok, v, z) | none => none)
      | _, _ => none
theorem func_sum (hc : CtxOk P c) (hm : P.follows .mixedOrders = true) {f : Nat} {fn : Func} {code : Code} (hf : P.funcs[f]? = some fn) (hb : fn.body = some code) (hname : fn.name ≠ "runtime.NumGoroutine") (hn : fn.ntmps = c.n)
    (hL : LoopsIn P c code) (hw : noWrite c.keep code = true) {ps : List (Nat × Sh)} {rs : Sh} {os : List (Nat × Sh)} {ok : denL ps → Prop} {F : denL ps → rs.den} {o : denL ps → denO os}
    (hps : (psOk 0 ps && osOk ps c.keep os && Nat.ble ps.length c.n) = true) {rv : List ResultVar} (hrv : fn.results.toList = rv)
    (hsum : ∀ x, sumFn c code rv ps rs os x = some (ok x, F x, o x)) : SpecOk P f (fnSpec ps rs os ok F o) := by
  have hopen : ∀ x, ∃ out d r, eval c code (startSt ps x) = some out ∧ finSt (startSt ps x) out.comps = some d ∧ resAll c (d ++ startSt ps x) fn.results.toList = some r ∧ rs.parse r = some (F x) ∧ parseO os (d ++ startSt ps x) = some (o x) ∧ AllP out.ok = ok x := by
    intro x
    have := hsum x
    rw [hrv]
    unfold sumFn at this
    split at this
    · cases this
    · rename_i out ho
      split at this
      · cases this
      · rename_i d hd
        split at this
        · rename_i r z hr hz
          split at this
          · rename_i v hv
            simp only [Option.some.injEq, Prod.mk.injEq] at this
            obtain ⟨e1, rfl, rfl⟩ := this
            exact ⟨out, d, r, ho, hd, hr, hv, hz, e1⟩
          · cases this
        · cases this
  let O : denL ps → Out := fun x => (eval c code (startSt ps x)).getD ⟨[], []⟩
  let D : denL ps → St := fun x => (finSt (startSt ps x) (O x).comps).getD []
  let R : denL ps → AVal := fun x => (resAll c (D x ++ startSt ps x) fn.results.toList).getD .junk
  have hO : ∀ x, eval c code (startSt ps x) = some (O x) ∧ finSt (startSt ps x) (O x).comps = some (D x) ∧ resAll c (D x ++ startSt ps x) fn.results.toList = some (R x) ∧ rs.parse (R x) = some (F x) ∧ parseO os (D x ++ startSt ps x) = some (o x) ∧ AllP (O x).ok = ok x := by
    intro x
    obtain ⟨out, d, r, h1, h2, h3, h4, h5, h6⟩ := hopen x
    have e1 : O x = out := by simp only [O, h1, Option.getD_some]
    have e2 : D x = d := by simp only [D, e1, h2, Option.getD_some]
    have e3 : R x = r := by simp only [R, e2, h3, Option.getD_some]
    rw [e1, e2, e3]
    exact ⟨h1, h2, h3, h4, h5, h6⟩
  exact func_sound hc hm hf hb hname hn hL hw (oks := fun x => (O x).ok) (comps := fun x => (O x).comps) (d := D) (res := R) hps (fun x => (hO x).1) (fun x hx => by rw [(hO x).2.2.2.2.2]; exact hx) (fun x => (hO x).2.1) (fun x => (hO x).2.2.1) (fun x => (hO x).2.2.2.1) (fun x => (hO x).2.2.2.2.1)
end Go.Am
namespace Go.Am
open Go Go.RowKit
variable {gtab : GlobTab} {P : Program} {c : Ctx}
def loopsOf : Code → List Code
  | .seq a b => loopsOf a ++ loopsOf b
  | .cond _ a b => loopsOf a ++ loopsOf b
  | .block _ a => loopsOf a
  | .loop a => [a]
  | _ => []
def nthLoop (cd : Code) (i : Nat) : Code := (loopsOf cd).getD i .skip
def LoopSnd [GlobTab] (P : Program) (c : Ctx) (b : Code) : Prop := ∀ S out, look (fun _ => none) c.loops (firstRegion b) S = some out → Sound P c (.loop b) S out
def AllSnd [GlobTab] (P : Program) (c : Ctx) : List Code → Prop
  | [] => True
  | b :: r => LoopSnd P c b ∧ AllSnd P c r
theorem AllSnd_append : ∀ {l r : List Code}, AllSnd P c (l ++ r) → AllSnd P c l ∧ AllSnd P c r := by
  intro l
  induction l with
  | nil => intro r h; exact ⟨trivial, h⟩
  | cons b l ih => intro r h; have := ih h.2; exact ⟨⟨h.1, this.1⟩, this.2⟩
theorem loopsIn_n : ∀ {code : Code} {bs : List Code}, loopsOf code = bs → AllSnd P c bs → LoopsIn P c code := by
  intro code
  induction code with
  | seq a b iha ihb => intro bs he h; subst he; simp only [loopsOf] at h; have := AllSnd_append h; exact ⟨iha rfl this.1, ihb rfl this.2⟩
  | cond x a b iha ihb => intro bs he h; subst he; simp only [loopsOf] at h; have := AllSnd_append h; exact ⟨iha rfl this.1, ihb rfl this.2⟩
  | block id a ih => intro bs he h; subst he; simp only [loopsOf] at h; exact ih rfl h
  | loop a _ => intro bs he h; subst he; simp only [loopsOf] at h; exact h.1
  | _ => intro bs _ _; trivial
def AllSp [GlobTab] (P : Program) : List (Nat × Spec) → Prop
  | [] => True
  | (f, sp) :: r => SpecOk P f sp ∧ AllSp P r
theorem AllSp_at : ∀ {l : List (Nat × Spec)}, AllSp P l → ∀ f sp, (f, sp) ∈ l → SpecOk P f sp := by
  intro l
  induction l with
  | nil => intro _ f sp h; cases h
  | cons e r ih =>
    intro h f sp hm
    obtain ⟨g, s⟩ := e
    rcases List.mem_cons.1 hm with e | hm
    · simp only [Prod.mk.injEq] at e; obtain ⟨rfl, rfl⟩ := e; exact h.1
    · exact ih h.2 f sp hm
def AllExt [GlobTab] (P : Program) : List (Nat × (List AVal → Option (List Prop × AVal))) → Prop
  | [] => True
  | (f, e) :: r => ExtOk P f e ∧ AllExt P r
theorem AllExt_at : ∀ {l : List (Nat × (List AVal → Option (List Prop × AVal)))}, AllExt P l → ∀ f e, (f, e) ∈ l → ExtOk P f e := by
  intro l
  induction l with
  | nil => intro _ f e h; cases h
  | cons q r ih =>
    intro h f e hm
    obtain ⟨g, e'⟩ := q
    rcases List.mem_cons.1 hm with hm | hm
    · injection hm with e1 e2; subst e1; subst e2; exact h.1
    · exact ih h.2 f e hm
theorem ctxOk_mkE (ht : tysOk P c.tys = true) (hmp : (mapsOk P c.maps && ftsOk P c.fts) = true) (hf : AllSp P c.fns) (he : AllExt P c.exts) (hn : Nat.ble c.n cutNo = true) (hcl : c.clones = [] := by rfl) : CtxOk P c := ⟨ht, AllSp_at hf, AllExt_at he, ((Bool.and_eq_true _ _).mp hmp).1, ((Bool.and_eq_true _ _).mp hmp).2, Nat.le_of_ble_eq_true hn, fun f k h => by rw [hcl] at h; cases h⟩
theorem ctxOk_mk (ht : tysOk P c.tys = true) (hmp : (mapsOk P c.maps && ftsOk P c.fts) = true) (hf : AllSp P c.fns) (he : c.exts = []) (hn : Nat.ble c.n cutNo = true) (hcl : c.clones = [] := by rfl) : CtxOk P c := ⟨ht, AllSp_at hf, (fun f e h => by rw [he] at h; cases h), ((Bool.and_eq_true _ _).mp hmp).1, ((Bool.and_eq_true _ _).mp hmp).2, Nat.le_of_ble_eq_true hn, fun f k h => by rw [hcl] at h; cases h⟩
theorem loop_gen (hc : CtxOk P c) (hm : P.follows .mixedOrders = true) {body : Code} {bs : List Code} (hb : loopsOf body = bs) (hL : AllSnd P c bs) (hw : noWrite c.keep body = true) {ly lx : List (Nat × Sh)} {les : List (List (Nat × Sh))} {g : denL ly → denL lx → Bool} {next : denL ly → denL lx → denL lx}
    {ok : denL ly → denL lx → Prop} {es : denL ly → denL lx → List Comp} (hl : look (fun _ => none) c.loops (firstRegion body) = loopS ly lx g next ok es)
    (hsum : ∀ y x, sumLoop c body ly lx les y x = some (ok y x, g y x, y, next y x, es y x)) : LoopSnd P c body := by
  intro S out h
  rw [hl] at h
  exact loop_sum hc hm (loopsIn_n hb hL) hw hsum S out h
theorem func_gen (hc : CtxOk P c) (hm : P.follows .mixedOrders = true) {f : Nat} {fn : Func} {code : Code} (hf : P.funcs[f]? = some fn) (hb : fn.body = some code) (hname : fn.name ≠ "runtime.NumGoroutine") (hn : fn.ntmps = c.n)
    {bs : List Code} (hbs : loopsOf code = bs) (hL : AllSnd P c bs) (hw : noWrite c.keep code = true) {ps : List (Nat × Sh)} {rs : Sh} {os : List (Nat × Sh)} {ok : denL ps → Prop} {F : denL ps → rs.den} {o : denL ps → denO os}
    (hps : (psOk 0 ps && osOk ps c.keep os && Nat.ble ps.length c.n) = true) {rv : List ResultVar} (hrv : fn.results.toList = rv)
    (hsum : ∀ x, sumFn c code rv ps rs os x = some (ok x, F x, o x)) : SpecOk P f (fnSpec ps rs os ok F o) :=
  func_sum hc hm hf hb hname hn (loopsIn_n hbs hL) hw hps hrv hsum
theorem func_never {f : Nat} {fn : Func} (hf : P.funcs[f]? = some fn) (hb : fn.body.isSome = true) (hname : fn.name ≠ "runtime.NumGoroutine") {ps : List (Nat × Sh)} {rs : Sh} {os : List (Nat × Sh)} {F : denL ps → rs.den} {o : denL ps → denO os} :
    SpecOk P f (fnSpec ps rs os (fun _ => False) F o) := by
  refine ⟨⟨fn, hf, hb, hname⟩, fun args co hsp hok => ?_⟩
  unfold fnSpec at hsp
  generalize Nat.beq args.length ps.length = b at hsp
  cases b with
  | false => cases hsp
  | true =>
    simp only [cond_true] at hsp
    split at hsp
    · injection hsp with hsp; subst hsp; exact (hok _ (List.mem_cons_self ..)).elim
    · cases hsp
@[reducible] def vI : Sh := .val (.int .i64)
@[reducible] def vB : Sh := .val .bool
@[reducible] def vS : Sh := .val .str
def ex (k : Nat) (g : Option Bool) (l : List (Nat × Sh)) (v : denL l) : Comp := ⟨k, g, mkSt l v ++ cutSt⟩
@[reducible] def Cx (tys : List (Nat × Ty)) (fns : List (Nat × Spec)) (loops : List (Nat × (St → Option Out))) (gh : List (Nat × List (Nat × Nat × Nat × Nat))) (wrap : Bool) (n : Nat) (keep wr : List Nat) : Ctx :=
  { tys, fns, loops, gh, wrap, n, keep, wr }
theorem lgen (hc : CtxOk P c) (hm : P.follows .mixedOrders = true) {body : Code} {sp : St → Option Out} {ly lx : List (Nat × Sh)} {g : denL ly → denL lx → Bool} {next : denL ly → denL lx → denL lx} {ok : denL ly → denL lx → Prop} {es : denL ly → denL lx → List Comp}
    (hs : sp = loopS ly lx g next ok es) (les : List (List (Nat × Sh))) {bs : List Code} (hb : loopsOf body = bs) (hL : AllSnd P c bs) (hw : noWrite c.keep body = true) (hl : look (fun _ => none) c.loops (firstRegion body) = sp)
    (hsum : ∀ y x, sumLoop c body ly lx les y x = some (ok y x, g y x, y, next y x, es y x)) : LoopSnd P c body := by
  subst hs
  exact loop_gen hc hm hb hL hw hl hsum
def fnChk (fn : Func) (c : Ctx) (ps : List (Nat × Sh)) (os : List (Nat × Sh)) : Bool :=
  fn.body.isSome && (!(fn.name == "runtime.NumGoroutine") && (Nat.beq fn.ntmps c.n && (noWrite c.keep (fn.body.getD .skip) && (psOk 0 ps && osOk ps c.keep os && Nat.ble ps.length c.n))))
theorem fgen (hc : CtxOk P c) (hm : P.follows .mixedOrders = true) {f : Nat} {fn : Func} (hf : P.funcs[f]? = some fn) {ps : List (Nat × Sh)} {rs : Sh} {os : List (Nat × Sh)} {ok : denL ps → Prop} {F : denL ps → rs.den} {o : denL ps → denO os}
    (hk : fnChk fn c ps os = true) {bs : List Code} (hbs : loopsOf (fn.body.getD .skip) = bs) (hL : AllSnd P c bs) (hsum : ∀ x, sumFn c (fn.body.getD .skip) fn.results.toList ps rs os x = some (ok x, F x, o x)) : SpecOk P f (fnSpec ps rs os ok F o) := by
  simp only [fnChk, Bool.and_eq_true, Bool.not_eq_true', beq_eq_false_iff_ne, ne_eq] at hk
  obtain ⟨h1, h2, h3, h4, h5⟩ := hk
  obtain ⟨code, hb⟩ := Option.isSome_iff_exists.1 h1
  rw [hb, Option.getD_some] at h4 hbs hsum
  exact func_gen hc hm hf hb h2 (Nat.eq_of_beq_eq_true h3) hbs hL h4 (by simpa only [Bool.and_eq_true] using h5) rfl hsum
def iand (k : IntKind) (a b : Int) : Int := bitsOf k (fun x y => x &&& y) a b
def ishr (a b : Int) (n : Nat) : Int := a.fdiv (2 ^ (min b.toNat n))
def nth {α : Type} (l : List α) (i : Int) (d : α) : α := l.getD i.toNat d
def InB (i n : Int) : Prop := 0 ≤ i ∧ i < n
def len {α : Type} (l : List α) : Int := (l.length : Int)
def byteAt (s : List UInt8) (i : Int) : Int := ((s.getD i.toNat 0).toNat : Int)
end Go.Am
namespace Go.Am
open Go Go.RowKit
variable {gtab : GlobTab} {P : Program}
def extIndexByte : List AVal → Option (List Prop × AVal)
  | [.val .str s, .val (.int .u8) c] => some ([], .val (.int .i64) (Lib.indexByte s (Int.toNat c).toUInt8))
  | _ => none
theorem all2_two {G : Gh} {w : World} {tm : Array Value} {A B : AVal} {vals : List Value} (h : All2 (ARep G w tm none) [A, B] vals) : ∃ u v, vals = [u, v] ∧ ARep G w tm none A u ∧ ARep G w tm none B v := by
  match vals, h with
  | [u, v], h => simp only [All2] at h; exact ⟨u, v, rfl, h.1, h.2.1⟩
  | [], h => simp [All2] at h
  | [_], h => simp [All2] at h
  | _ :: _ :: _ :: _, h => simp [All2] at h
theorem indexByte_ok {f : Nat} {fn : Func} (hf : P.funcs[f]? = some fn) (hname : (fn.name == "runtime.NumGoroutine") = false) (hb : fn.body.isNone = true) (hn : (Extern.findNext fn).isNone = true)
    (he : Extern.find fn = some Extern.BytealgIndexByte.indexByte) : ExtOk P f extIndexByte := by
  intro args p A h _ G w tm vals hv
  unfold extIndexByte at h
  split at h
  · simp only [Option.some.injEq, Prod.mk.injEq] at h
    obtain ⟨rfl, rfl⟩ := h
    obtain ⟨u, v, rfl, h1, h2⟩ := all2_two hv
    simp only [ARep] at h1 h2
    rw [VRep_str] at h1
    rw [VRep_int] at h2
    subst h1; subst h2
    refine ⟨_, ?_, int_ARep⟩
    rw [run_callFunc_extern hf hname hb (Option.isNone_iff_eq_none.1 hn) he, Lib.run_indexByteString]
    rfl
  · cases h
end Go.Am
namespace Go.Am
open Go
instance (r : Int) : Decidable (InR r) := inferInstanceAs (Decidable (_ ∧ _))
instance (i n : Int) : Decidable (InB i n) := inferInstanceAs (Decidable (_ ∧ _))
def endsB {X : Type} (g : X → Bool) (next : X → X) (okb : X → Bool) : Nat → X → Bool
  | 0, _ => false
  | k + 1, x => okb x && (bif g x then endsB g next okb k (next x) else true)
theorem endsB_of {X : Type} {g : X → Bool} {next : X → X} {ok : X → Prop} {okb : X → Bool} (h : ∀ x, okb x = true ↔ ok x) : ∀ {F : Nat} {x : X}, endsB g next okb F x = true ↔ ∃ k, k < F ∧ Runs g next ok k x := by
  intro F
  induction F with
  | zero => intro x; simp [endsB]
  | succ F ih =>
    intro x
    simp only [endsB, Bool.and_eq_true, h]
    cases hg : g x with
    | false =>
      simp only [cond_false, and_true]
      constructor
      · intro hx; exact ⟨0, by omega, hx, hg⟩
      · rintro ⟨k, _, hr⟩
        cases k with
        | zero => exact hr.1
        | succ k => exact hr.1
    | true =>
      simp only [cond_true, ih]
      constructor
      · rintro ⟨hx, k, hk, hr⟩; exact ⟨k + 1, by omega, hx, hg, hr⟩
      · rintro ⟨k, hk, hr⟩
        cases k with
        | zero => rw [hr.2] at hg; cases hg
        | succ k => exact ⟨hr.1, k, by omega, hr.2.2⟩
instance {X : Type} {g : X → Bool} {next : X → X} {ok : X → Prop} [inst : ∀ x, Decidable (ok x)] (x : X) : Decidable (Am.Ends g next ok x) :=
  decidable_of_iff (endsB g next (fun x => decide (ok x)) fuel x = true) (endsB_of fun x => by simp)
end Go.Am
namespace Go.Am
open Go Go.RowKit
variable {gtab : GlobTab} {P : Program} {w : World} {χ : Nat → Nat → Nat}
def Ty.deep : Ty → Bool
  | .ptr _ => false | .cons h t => h.deep && t.deep | .st f => f.deep | .arr _ t => t.deep | .sl t => Nat.blt 0 t.size && t.deep | _ => true
def Ty.wf : (τ : Ty) → τ.den → Prop
  | .int k, x => k.min ≤ x ∧ x ≤ k.max
  | .bool, _ => True
  | .str, s => List.length (α := UInt8) s ≤ maxLen
  | .nl, _ => True
  | .cons h t, x => h.wf x.1 ∧ t.wf x.2
  | .st f, x => f.wf x
  | .arr n t, l => List.length (α := t.den) l = n ∧ ∀ y ∈ (l : List t.den), t.wf y
  | .sl t, l => List.length (α := t.den) l ≤ maxLen ∧ ∀ y ∈ (l : List t.den), t.wf y
  | .ptr t, x => t.wf x
theorem mapM_list {α β γ : Type} {f : α → Option β} {R : γ → List Value → Prop} {g : α → List Value} {wf : γ → Prop} : ∀ {l : List α} {ys : List β}, l.mapM f = some ys → (∀ x y, x ∈ l → f x = some y → ∃ z, R z (g x) ∧ wf z) →
    ∃ zs : List γ, zs.length = l.length ∧ LRep R zs (l.flatMap g) ∧ ∀ z ∈ zs, wf z := by
  intro l
  induction l with
  | nil => intro ys _ _; exact ⟨[], rfl, rfl, fun z h => (by cases h)⟩
  | cons x l ih =>
    intro ys h hf
    simp only [List.mapM_cons, Option.bind_eq_bind, Option.bind_eq_some_iff, Option.pure_def, Option.some.injEq] at h
    obtain ⟨y, hy, ys', hys, rfl⟩ := h
    obtain ⟨z, h1, h2⟩ := hf x y (List.mem_cons_self ..) hy
    obtain ⟨zs, h3, h4, h5⟩ := ih hys fun x y hx => hf x y (List.mem_cons_of_mem _ hx)
    refine ⟨z :: zs, by simp [h3], ⟨g x, l.flatMap g, rfl, h1, h4⟩, fun z' hz => ?_⟩
    rcases List.mem_cons.1 hz with rfl | hz
    · exact h2
    · exact h5 z' hz
theorem flat_range {f : Nat → Value} (sz : Nat) : ∀ n, (List.range n).flatMap (fun i => (List.range sz).map fun k => f (i * sz + k)) = (List.range (n * sz)).map f := by
  intro n
  induction n with
  | zero => simp
  | succ n ih => rw [List.range_succ, List.flatMap_append, ih, Nat.succ_mul, List.range_add, List.map_append]; simp
theorem flat_take {cs : List Value} (sz : Nat) : ∀ n, (List.range n).flatMap (fun i => (cs.drop (i * sz)).take sz) = cs.take (n * sz) := by
  intro n
  induction n with
  | zero => simp
  | succ n ih => rw [List.range_succ, List.flatMap_append, ih, Nat.succ_mul, List.take_add]; simp
theorem cellsOf_ty {τ : Ty} {T : Nat} (h : tyOk P τ (.inl T) = true) : P.cellsOf T = τ.size := by
  obtain ⟨⟨i, z, hi, hs, _⟩, _⟩ := tyOk_is h
  simp [Program.cellsOf, hi, hs]
theorem cells?_is {a : Addr} {n : Nat} {cs : List Value} (h : w.cells? 0 a n = some cs) : cs = (List.range n).map (fun k => (w.cell? (a.add k)).getD undef) ∧ ∀ k, k < n → ∃ v, w.cell? (a.add k) = some v := by
  simp only [World.cells?, Nat.zero_le, if_true] at h
  generalize hf : (fun i => w.cell? (a.add i)) = f at h
  have key : ∀ (l : List Nat) (cs : List Value), l.mapM f = some cs → cs = l.map (fun k => (f k).getD undef) ∧ ∀ k ∈ l, ∃ v, f k = some v := by
    intro l
    induction l with
    | nil => intro cs h; simp at h; subst h; exact ⟨rfl, fun k h => (by cases h)⟩
    | cons x l ih =>
      intro cs h
      simp only [List.mapM_cons, Option.bind_eq_bind, Option.bind_eq_some_iff, Option.pure_def, Option.some.injEq] at h
      obtain ⟨y, hy, ys, hys, rfl⟩ := h
      obtain ⟨h1, h2⟩ := ih ys hys
      refine ⟨by simp [hy, h1], fun k hk => ?_⟩
      rcases List.mem_cons.1 hk with rfl | hk
      · exact ⟨y, hy⟩
      · exact h2 k hk
  have := key _ _ h
  subst hf
  exact ⟨this.1, fun k hk => this.2 k (List.mem_range.2 hk)⟩
theorem add_add (a : Addr) (m k : Nat) : (a.add m).add k = a.add (m + k) := by
  by_cases hm : m = 0
  · subst hm; simp [Addr.add]
  · by_cases hk : k = 0
    · subst hk; simp [Addr.add]
    · simp [Addr.add, hm, hk, Nat.add_assoc]
theorem cell_spot {a : Addr} {v : Value} (h : w.cell? a = some v) : a.spot = none ∧ a.block < w.heap.size := by
  unfold World.cell? at h
  split at h
  · rename_i c _ _ hb
    split at h
    · cases h
    · rename_i hs
      refine ⟨by simpa using hs, heap_lt hb⟩
  · cases h
section
variable {H : Type} {enc : TypeId × Value → H} {sp : Nat → Bool} {held : Bool}
theorem trod_rep (hχ : ∀ b o, b < w.heap.size → χ b o = 0) : ∀ τ : Ty,
    (∀ (T fuel : Nat) (cs : List Value) (d : DataW H) (ps : List MemPlace), tyOk P τ (.inl T) = true → τ.deep = true → DataW.trod enc P w 0 sp held fuel T cs = some (d, ps) → ∃ x, CRep χ w τ x cs ∧ τ.wf x) ∧
    (∀ (fs : List Field) (o : Nat) (cs : List Value) (fuel : Nat) (xs : List (DataW H × List MemPlace)), tyOk P τ (.inr (fs, o)) = true → τ.deep = true → fs.mapM (fun f => DataW.trod enc P w 0 sp held fuel f.type ((cs.drop f.offset).take (P.cellsOf f.type))) = some xs → cs.length = o + τ.size →
      ∃ x, CRep χ w τ x (cs.drop o) ∧ τ.wf x) := by
  intro τ
  induction τ with
  | int k =>
    refine ⟨fun T fuel cs d ps hT _ h => ?_, fun fs o cs fuel xs hT => by simp [tyOk] at hT⟩
    have hu : P.underlying T = some (.int k) := by
      simp only [tyOk, Bool.and_eq_true] at hT
      cases hu : P.underlying T with
      | none => simp [hu] at hT
      | some d => rw [hu] at hT; cases d <;> simp at hT; rw [kindNo_inj hT.1]
    cases fuel with
    | zero => simp [DataW.trod] at h
    | succ fuel =>
      unfold DataW.trod at h
      rw [hu] at h
      match cs, h with
      | [.int k' n], h =>
        simp only at h
        split at h
        · rename_i hc
          obtain ⟨rfl, hw⟩ := hc
          simp only [Lit.wf, Bool.and_eq_true, decide_eq_true_eq] at hw
          exact ⟨n, by simp only [CRep], hw⟩
        · cases h
  | bool =>
    refine ⟨fun T fuel cs d ps hT _ h => ?_, fun fs o cs fuel xs hT => by simp [tyOk] at hT⟩
    have hu : P.underlying T = some .bool := by
      simp only [tyOk, Bool.and_eq_true] at hT
      cases hu : P.underlying T with
      | none => simp [hu] at hT
      | some d => rw [hu] at hT; cases d <;> simp at hT; rfl
    cases fuel with
    | zero => simp [DataW.trod] at h
    | succ fuel =>
      unfold DataW.trod at h
      rw [hu] at h
      match cs, h with
      | [.bool b], h => exact ⟨b, by simp only [CRep], trivial⟩
  | str =>
    refine ⟨fun T fuel cs d ps hT _ h => ?_, fun fs o cs fuel xs hT => by simp [tyOk] at hT⟩
    have hu := tyOk_str hT
    cases fuel with
    | zero => simp [DataW.trod] at h
    | succ fuel =>
      unfold DataW.trod at h
      rw [hu] at h
      match cs, h with
      | [.string b], h =>
        simp only at h
        split at h
        · rename_i hs
          refine ⟨b.data.toList, by simp only [CRep], ?_⟩
          show b.data.toList.length ≤ maxLen
          rw [Array.length_toList]
          exact hs
        · cases h
  | nl =>
    refine ⟨fun T fuel cs d ps hT => by simp [tyOk] at hT, fun fs o cs fuel xs hT _ h hl => ?_⟩
    refine ⟨(), ?_, trivial⟩
    simp only [CRep, Ty.size, Nat.add_zero] at hl ⊢
    simp [hl]
  | cons a b iha ihb =>
    refine ⟨fun T fuel cs d ps hT => by simp [tyOk] at hT, fun fs o cs fuel xs hT hd h hl => ?_⟩
    cases fs with
    | nil => simp [tyOk] at hT
    | cons fd r =>
      simp only [tyOk, Bool.and_eq_true] at hT
      obtain ⟨⟨⟨h1, _⟩, h2⟩, h3⟩ := hT
      have ho := Nat.eq_of_beq_eq_true h1
      simp only [Ty.deep, Bool.and_eq_true] at hd
      simp only [Ty.size] at hl
      simp only [List.mapM_cons, Option.bind_eq_bind, Option.bind_eq_some_iff, Option.pure_def, Option.some.injEq] at h
      obtain ⟨y, hy, ys, hys, rfl⟩ := h
      obtain ⟨x, q1, q2⟩ := iha.1 _ _ _ _ _ h2 hd.1 (show _ = some (y.1, y.2) from hy)
      rw [cellsOf_ty h2, ho] at q1
      obtain ⟨z, q3, q4⟩ := ihb.2 r (o + a.size) cs fuel ys h3 hd.2 hys (by omega)
      refine ⟨(x, z), ?_, q2, q4⟩
      simp only [CRep]
      refine ⟨_, _, ?_, q1, q3⟩
      rw [← List.drop_drop, List.take_append_drop]
  | st f ih =>
    refine ⟨fun T fuel cs d ps hT hd h => ?_, fun fs o cs fuel xs hT => by simp [tyOk] at hT⟩
    obtain ⟨fs, hu, hf⟩ := tyOk_st hT
    have hsz := cellsOf_ty hT
    cases fuel with
    | zero => simp [DataW.trod] at h
    | succ fuel =>
      unfold DataW.trod at h
      rw [hu] at h
      simp only at h
      split at h
      · rename_i hl
        simp only [Option.map_eq_some_iff] at h
        obtain ⟨xs, hxs, _⟩ := h
        obtain ⟨x, h1, h2⟩ := ih.2 fs.toList 0 cs fuel xs hf (by simpa only [Ty.deep] using hd) hxs (by rw [hl, hsz]; simp [Ty.size])
        exact ⟨x, by simpa only [CRep, List.drop_zero] using h1, h2⟩
      · cases h
  | arr n t ih =>
    refine ⟨fun T fuel cs d ps hT hd h => ?_, fun fs o cs fuel xs hT => by simp [tyOk] at hT⟩
    obtain ⟨e, hu, hf⟩ := tyOk_arr hT
    have hsz := cellsOf_ty hT
    have hse := cellsOf_ty hf
    cases fuel with
    | zero => simp [DataW.trod] at h
    | succ fuel =>
      unfold DataW.trod at h
      rw [hu] at h
      simp only at h
      split at h
      · rename_i hl
        simp only [Option.map_eq_some_iff] at h
        obtain ⟨xs, hxs, _⟩ := h
        obtain ⟨zs, h1, h2, h3⟩ := mapM_list (R := CRep χ w t) (g := fun i => (cs.drop (i * t.size)).take t.size) (wf := t.wf) hxs (fun i y _ hy => by
          rw [hse] at hy
          exact ih.1 _ _ _ _ _ hf (by simpa only [Ty.deep] using hd) (show _ = some (y.1, y.2) from hy))
        rw [flat_take] at h2
        simp only [List.length_range] at h1
        rw [List.take_of_length_le (by rw [hl, hsz]; simp [Ty.size])] at h2
        exact ⟨zs, by simp only [CRep]; exact ⟨h1, h2⟩, h1, h3⟩
      · cases h
  | sl t ih =>
    refine ⟨fun T fuel cs d ps hT hd h => ?_, fun fs o cs fuel xs hT => by simp [tyOk] at hT⟩
    obtain ⟨e, hu, hf⟩ := tyOk_sl hT
    have hse := cellsOf_ty hf
    cases fuel with
    | zero => simp [DataW.trod] at h
    | succ fuel =>
      unfold DataW.trod at h
      rw [hu] at h
      match cs, h with
      | [.slice none 0 0], h => exact ⟨[], by simp only [CRep]; exact ⟨none, 0, rfl, .inl trivial⟩, by simp [Ty.wf]⟩
      | [.slice (some a) ln cap], h =>
        simp only at h
        split at h
        · rename_i hc
          simp only [Option.bind_eq_some_iff] at h
          obtain ⟨els, hels, _⟩ := h
          rw [hse] at hels
          obtain ⟨zs, h1, h2, h3⟩ := mapM_list (R := CRep χ w t) (g := fun i => (List.range t.size).map fun k => (w.cell? (a.add (i * t.size + k))).getD undef) (wf := t.wf) hels (fun i y _ hy => by
            simp only [Option.bind_eq_some_iff] at hy
            obtain ⟨cs', hcs, hy⟩ := hy
            obtain ⟨z, q1, q2⟩ := ih.1 _ _ _ _ _ hf (by simp only [Ty.deep, Bool.and_eq_true] at hd; exact hd.2) (show _ = some (y.1, y.2) from hy)
            refine ⟨z, ?_, q2⟩
            have := (cells?_is hcs).1
            rw [this] at q1
            simpa only [add_add] using q1)
          rw [flat_range (f := fun j => (w.cell? (a.add j)).getD undef)] at h2
          simp only [List.length_range] at h1
          refine ⟨zs, ?_, by simp only [Ty.wf]; exact ⟨by omega, h3⟩⟩
          simp only [CRep]
          refine ⟨some a, cap, by rw [h1], ?_⟩
          by_cases hz : zs = []
          · exact .inl hz
          · have hcell : ∀ j, j < ln * t.size → ∃ v, w.cell? (a.add j) = some v := by
              intro j hj
              have hpos : 0 < t.size := by rcases Nat.eq_zero_or_pos t.size with h0 | h0; rw [h0] at hj; simp at hj; exact h0
              have hi : j / t.size < ln := Nat.div_lt_of_lt_mul (by rw [Nat.mul_comm]; exact hj)
              have hmem : ∀ i, i < ln → ∃ y, (w.cells? 0 (a.add (i * t.size)) t.size).bind (DataW.trod enc P w 0 sp held fuel e) = some y := by
                intro i hi
                have key : ∀ (l : List Nat) els, l.mapM (fun i => (w.cells? 0 (a.add (i * t.size)) t.size).bind (DataW.trod enc P w 0 sp held fuel e)) = some els → ∀ i ∈ l, ∃ y, (w.cells? 0 (a.add (i * t.size)) t.size).bind (DataW.trod enc P w 0 sp held fuel e) = some y := by
                  intro l
                  induction l with
                  | nil => intro els _ i h; cases h
                  | cons x l ihl =>
                    intro els h i hi
                    simp only [List.mapM_cons, Option.bind_eq_bind, Option.bind_eq_some_iff, Option.pure_def, Option.some.injEq] at h
                    obtain ⟨y, hy, ys, hys, rfl⟩ := h
                    rcases List.mem_cons.1 hi with rfl | hi
                    · exact ⟨y, by simpa only [Option.bind_eq_some_iff] using hy⟩
                    · exact ihl ys hys i hi
                exact key _ _ hels i (List.mem_range.2 hi)
              obtain ⟨y, hy⟩ := hmem _ hi
              simp only [Option.bind_eq_some_iff] at hy
              obtain ⟨cs', hcs, _⟩ := hy
              obtain ⟨v, hv⟩ := (cells?_is hcs).2 (j % t.size) (Nat.mod_lt _ hpos)
              refine ⟨v, ?_⟩
              have e1 : (a.add (j / t.size * t.size)).add (j % t.size) = a.add j := by
                rw [add_add, Nat.div_add_mod']
              rwa [e1] at hv
            obtain ⟨b, o, s⟩ := a
            simp only [Ty.deep, Bool.and_eq_true] at hd
            have hs1 : 0 < t.size := Nat.le_of_ble_eq_true hd.1
            by_cases hs0 : ln = 0
            · exact .inl (List.length_eq_zero_iff.1 (by omega))
            · have hpos : 0 < ln * t.size := Nat.mul_pos (by omega) (by omega)
              obtain ⟨v, hv⟩ := hcell 0 hpos
              have hsp := (cell_spot hv).1
              have hsp : s = none := by simpa [Addr.add] using hsp
              subst hsp
              refine .inr ⟨b, o, _, rfl, by omega, h2, fun j v hj => ?_⟩
              rw [List.getElem?_map] at hj
              have hjl : j < ln * t.size := by
                rcases Nat.lt_or_ge j (ln * t.size) with h' | h'
                · exact h'
                · rw [List.getElem?_eq_none (by simpa using h')] at hj; simp at hj
              obtain ⟨v', hv'⟩ := hcell j hjl
              rw [List.getElem?_range hjl] at hj
              simp only [Option.map_some, Option.some.injEq] at hj
              rw [hv'] at hj
              simp only [Option.getD_some] at hj
              subst hj
              have e2 : (⟨b, o, none⟩ : Addr).add j = ⟨b, o + j, none⟩ := by
                by_cases hj0 : j = 0
                · subst hj0; simp [Addr.add]
                · simp [Addr.add, hj0]
              rw [e2] at hv'
              exact ⟨hv', hχ b (o + j) (cell_spot hv').2⟩
        · cases h
  | ptr t _ => exact ⟨fun T fuel cs d ps _ hd => by simp [Ty.deep] at hd, fun fs o cs fuel xs _ hd => by simp [Ty.deep] at hd⟩
end
end Go.Am
namespace Go.Am
open Go Go.RowKit Go.ChangeShapes
variable {gtab : GlobTab} {P : Program} {w : World}
def enumSh : Nat → List Ty → List (Nat × Sh)
  | _, [] => []
  | i, τ :: r => (i, .val τ) :: enumSh (i + 1) r
def mkA : (i : Nat) → (τs : List Ty) → denL (enumSh i τs) → List AVal
  | _, [], _ => []
  | i, τ :: r, x => .val τ x.1 :: mkA (i + 1) r x.2
def wfL : (i : Nat) → (τs : List Ty) → denL (enumSh i τs) → Prop
  | _, [], _ => True
  | i, τ :: r, x => τ.wf x.1 ∧ wfL (i + 1) r x.2
def tysAre (P : Program) : List Ty → List TypeId → Bool
  | [], [] => true
  | τ :: r, T :: s => tyOk P τ (.inl T) && τ.deep && tysAre P r s
  | _, _ => false
theorem beq_refl : ∀ τ : Ty, Ty.beq τ τ = true := by
  intro τ
  induction τ with
  | int k => simp [Ty.beq]
  | cons a b ha hb => simp [Ty.beq, ha, hb]
  | st f h => simpa [Ty.beq] using h
  | arr n t h => simpa [Ty.beq] using h
  | sl t h => simpa [Ty.beq] using h
  | ptr t h => simpa [Ty.beq] using h
  | _ => rfl
theorem cast_self {τ : Ty} {x : τ.den} : Ty.cast τ x = some x := by
  unfold Ty.cast
  split
  · rfl
  · rename_i h; rw [beq_refl] at h; cases h
theorem parse_mkA : ∀ {τs : List Ty} {i : Nat} {x : denL (enumSh i τs)} {S : St}, (∀ k, (mkA i τs x)[k]? = none ∨ (mkA i τs x)[k]? = some (S.get (i + k))) → (∀ τ ∈ τs, τ.isL = false) → parseSt (enumSh i τs) S = some x := by
  intro τs
  induction τs with
  | nil => intro i x S _ _; rfl
  | cons τ r ih =>
    intro i x S h hl
    simp only [enumSh, parseSt]
    have h0 := h 0
    simp only [mkA, List.getElem?_cons_zero, Nat.add_zero] at h0
    rcases h0 with h0 | h0
    · cases h0
    · injection h0 with h0
      rw [← h0]
      have hx : (Sh.val τ).parse (.val τ x.1) = some x.1 := by
        simp only [Sh.parse, hl τ (List.mem_cons_self ..), cond_false, AVal.as, AVal.asT, cast_self]
      have hr := ih (i := i + 1) (x := x.2) (S := S) (fun k => by
        have := h (k + 1)
        simp only [mkA, List.getElem?_cons_succ] at this
        rw [show i + 1 + k = i + (k + 1) by omega]; exact this) fun τ hτ => hl τ (List.mem_cons_of_mem _ hτ)
      rw [hx, hr]
      rfl
theorem mkA_length : ∀ {τs : List Ty} {i : Nat} {x : denL (enumSh i τs)}, (mkA i τs x).length = τs.length ∧ (enumSh i τs).length = τs.length := by
  intro τs
  induction τs with
  | nil => intro i x; exact ⟨rfl, rfl⟩
  | cons τ r ih => intro i x; simp [mkA, enumSh, (ih (i := i + 1) (x := x.2)).1, (ih (i := i + 1) (x := x.2)).2]
theorem tysAre_notL : ∀ {τs : List Ty} {Ts : List TypeId}, tysAre P τs Ts = true → ∀ τ ∈ τs, τ.isL = false := by
  intro τs
  induction τs with
  | nil => intro Ts _ τ h; cases h
  | cons σ r ih =>
    intro Ts h τ hτ
    cases Ts with
    | nil => simp [tysAre] at h
    | cons T s =>
      simp only [tysAre, Bool.and_eq_true] at h
      rcases List.mem_cons.1 hτ with rfl | hτ
      · exact tyOk_notL h.1.1
      · exact ih h.2 τ hτ
section
variable {H : Type} {enc : TypeId × Value → H}
theorem not_agg {τ : Ty} {T : TypeId} {v : Value} (hT : tyOk P τ (.inl T) = true) (ha : τ.isAgg = false) (hd : τ.deep = true) {base : Nat} (h : Value.okWide P w .any base T v) : ∀ cs, v ≠ .agg cs := by
  intro cs e
  subst e
  obtain ⟨_, hu⟩ := tyOk_is hT
  unfold Value.okWide at h
  cases τ with
  | st f => simp [Ty.isAgg] at ha
  | arr n t => simp [Ty.isAgg] at ha
  | ptr t => simp [Ty.deep] at hd
  | nl => simp [tyOk] at hT
  | cons a b => simp [tyOk] at hT
  | int k =>
    have hu : P.underlying T = some (.int k) := by
      simp only [tyOk, Bool.and_eq_true] at hT
      cases hu : P.underlying T with
      | none => simp [hu] at hT
      | some d => rw [hu] at hT; cases d <;> simp at hT; rw [kindNo_inj hT.1]
    rw [hu] at h
    simp [Cell.okWide, Cell.ok, hu] at h
  | bool =>
    have hu : P.underlying T = some .bool := by
      simp only [tyOk, Bool.and_eq_true] at hT
      cases hu : P.underlying T with
      | none => simp [hu] at hT
      | some d => rw [hu] at hT; cases d <;> simp at hT; rfl
    rw [hu] at h
    simp [Cell.okWide, Cell.ok, hu] at h
  | str =>
    have hu := tyOk_str hT
    rw [hu] at h
    simp [Cell.okWide, Cell.ok, hu] at h
  | sl t =>
    obtain ⟨e, hu, _⟩ := tyOk_sl hT
    rw [hu] at h
    simp [Cell.okWide, Cell.ok, hu] at h
theorem is_agg {τ : Ty} {T : TypeId} {v : Value} (hT : tyOk P τ (.inl T) = true) (ha : τ.isAgg = true) {base : Nat} (h : Value.okWide P w .any base T v) : ∃ cs, v = .agg cs := by
  unfold Value.okWide at h
  cases τ with
  | st f => obtain ⟨fs, hu, _⟩ := tyOk_st hT; rw [hu] at h; obtain ⟨cs, h, _⟩ := h; exact ⟨cs, h⟩
  | arr n t => obtain ⟨e, hu, _⟩ := tyOk_arr hT; rw [hu] at h; obtain ⟨cs, h, _⟩ := h; exact ⟨cs, h⟩
  | _ => simp [Ty.isAgg] at ha
theorem args_rep2 {G : Gh} (hχ : ∀ b o, b < w.heap.size → G.χ b o = 0) : ∀ {τs : List Ty} {Ts : List TypeId} {vs : List Value} {ds : List (DataW H)} {ps : List MemPlace} {i base : Nat}, tysAre P τs Ts = true →
    DataW.TrodAll enc P w 0 (fun _ => true) true Ts vs ds ps → (∀ (j : Nat) t v, Ts[j]? = some t → vs[j]? = some v → Value.okWide P w .any base t v) →
    ∃ x : denL (enumSh i τs), vs.length = τs.length ∧ wfL i τs x ∧ ∀ (k : Nat) A v, (mkA i τs x)[k]? = some A → vs[k]? = some v → ARep G w #[] (some (i + k)) A v := by
  intro τs
  induction τs with
  | nil =>
    intro Ts vs ds ps i base ht h _
    cases Ts with
    | cons T s => simp [tysAre] at ht
    | nil =>
      cases vs with
      | nil => exact ⟨(), rfl, trivial, fun k A v h => by simp [mkA] at h⟩
      | cons v vs => cases ds <;> simp [DataW.TrodAll] at h
  | cons τ r ih =>
    intro Ts vs ds ps i base ht h hok
    cases Ts with
    | nil => simp [tysAre] at ht
    | cons T s =>
      cases vs with
      | nil => simp [DataW.TrodAll] at h
      | cons v vs =>
        cases ds with
        | nil => simp [DataW.TrodAll] at h
        | cons d ds =>
          simp only [tysAre, Bool.and_eq_true] at ht
          obtain ⟨⟨h1, h2⟩, h3⟩ := ht
          simp only [DataW.TrodAll] at h
          obtain ⟨p, q, ⟨fl, hd⟩, hr, _⟩ := h
          obtain ⟨x, hx, hwf⟩ := (trod_rep hχ τ).1 T fl _ d p h1 h2 hd
          obtain ⟨y, hy1, hy2, hy3⟩ := ih (i := i + 1) h3 hr fun j t v ht hv => hok (j + 1) t v (by simpa using ht) (by simpa using hv)
          refine ⟨(x, y), by simp [hy1], ⟨hwf, hy2⟩, fun k A u hA hu => ?_⟩
          cases k with
          | zero =>
            simp only [mkA, List.getElem?_cons_zero, Option.some.injEq] at hA hu
            subst hA; subst hu
            simp only [ARep]
            refine ⟨_, hx, ?_⟩
            have hv := hok 0 T v rfl rfl
            cases ha : τ.isAgg with
            | true =>
              obtain ⟨cs, rfl⟩ := is_agg h1 ha hv
              simp [Value.cells]
            | false =>
              have := not_agg h1 ha h2 hv
              cases v with
              | agg cs => exact absurd rfl (this cs)
              | _ => rfl
          | succ k =>
            simp only [mkA, List.getElem?_cons_succ] at hA hu
            have := hy3 k A u hA hu
            rwa [show i + 1 + k = i + (k + 1) by omega] at this
theorem law_calls {τs : List Ty} {Ts : List TypeId} {f : Nat} {ok : denL (enumSh 0 τs) → Prop} {F : denL (enumSh 0 τs) → Bool} {o : denL (enumSh 0 τs) → denO []} (hs : SpecOk P f (fnSpec (enumSh 0 τs) (.val .bool) [] ok F o))
    (hty : tysAre P τs Ts = true) (hn : Nat.ble τs.length cutNo = true) (hlaw : ∀ x, wfL 0 τs x → ok x ∧ F x = true) {args : Array Value} {ds : List (DataW H)} {ps : List MemPlace} {base : Nat} (hA : DataW.TrodAll enc P w 0 (fun _ => true) true Ts args.toList ds ps)
    (hok : ∀ (j : Nat) t v, Ts[j]? = some t → args.toList[j]? = some v → Value.okWide P w .any base t v) (hglob : GlobOk (fun b _ => if b < w.heap.size then 0 else 2) w) :
    Calls P f args w fun e w' => e = .returned (.bool true) ∧ Below w.heap.size w w' := by
  let G : Gh := ⟨fun b _ => if b < w.heap.size then 0 else 2, fun _ => 0, fun _ => 0⟩
  have hχ : ∀ b o, b < w.heap.size → G.χ b o = 0 := fun b o hb => by simp [G, hb]
  obtain ⟨x, h1, h2, h3⟩ := args_rep2 (G := G) hχ (i := 0) hty hA hok
  obtain ⟨hokx, hFx⟩ := hlaw x h2
  have hlen := mkA_length (τs := τs) (i := 0) (x := x)
  have hn : τs.length ≤ cutNo := Nat.le_of_ble_eq_true hn
  have hpar : parseSt (enumSh 0 τs) (argSt 0 (mkA 0 τs x)) = some x := parse_mkA (fun k => by
    by_cases hk : k < τs.length
    · right
      have := argSt_get (s := k) (args := mkA 0 τs x) (i := 0) (by omega) (by omega) (by omega)
      simp only [Nat.sub_zero] at this
      rw [Nat.zero_add]; exact this.symm
    · left; exact List.getElem?_eq_none (by omega)) (tysAre_notL hty)
  have hsp : fnSpec (enumSh 0 τs) (.val .bool) [] ok F o (mkA 0 τs x) = some ⟨[ok x], .val .bool (F x), [], []⟩ := by
    unfold fnSpec
    rw [hlen.1, hlen.2, Nat.beq_refl, cond_true, hpar]
    rfl
  have hcall := hs.2 _ _ hsp (fun q hq => by simp only [List.mem_singleton] at hq; subst hq; exact hokx) G w args.toList (by rw [h1, hlen.1]) hglob (fun i A v hA hv => by
    have := h3 i A v hA hv
    rwa [Nat.zero_add] at this)
  have : args.toList.toArray = args := by simp
  rw [this] at hcall
  refine hcall.mono ?_
  rintro e w' ⟨v, G', rfl, hfr, hres, _⟩
  simp only [ARep] at hres
  have hv := (VRep_one rfl).1 hres
  simp only [CRep, List.cons.injEq, and_true] at hv
  rw [hv, hFx]
  refine ⟨rfl, hfr.os, hfr.tape, hfr.output, hfr.size, fun k hk => hfr.block k hk fun o => ?_⟩
  rw [hχ k o hk]; omega
end
theorem below_trods {H : Type} {enc : TypeId × Value → H} (hl : laidOutB P = true) : ∀ {Ts : List TypeId} {vs : List Value} {ds : List (DataW H)} {ps : List MemPlace} {W W' : World} {sp : Nat → Bool}, Ts.all (fun t => P.readableRec t && Nat.blt t P.types.size) = true →
    DataW.TrodAll enc P W 0 (fun _ => true) true Ts vs ds ps → Below W.heap.size W W' → (∀ x ∈ ps, x.block < W.heap.size) → (∀ p ∈ ps, sp p.block = true) → DataW.TrodAll enc P W' 0 sp true Ts vs ds ps := by
  intro Ts
  induction Ts with
  | nil => intro vs ds ps W W' sp _ h _ _ _; cases vs <;> cases ds <;> simp_all [DataW.TrodAll]
  | cons T s ih =>
    intro vs ds ps W W' sp ht h hb hlt hsp
    cases vs with
    | nil => simp [DataW.TrodAll] at h
    | cons v vs =>
      cases ds with
      | nil => simp [DataW.TrodAll] at h
      | cons d ds =>
        simp only [List.all_cons, Bool.and_eq_true] at ht
        simp only [DataW.TrodAll] at h ⊢
        obtain ⟨p, q, h1, h2, rfl⟩ := h
        refine ⟨p, q, WideElems.Trod_stays hl ht.1.1 (Nat.blt_eq.mp ht.1.2) h1 (fun x hx => hb.same (hlt x (List.mem_append_left _ hx))) (fun x hx => hsp x (List.mem_append_left _ hx)), ?_, rfl⟩
        exact ih ht.2 h2 hb (fun x hx => hlt x (List.mem_append_right _ hx)) (fun x hx => hsp x (List.mem_append_right _ hx))
theorem trod_len1 {H : Type} {enc : TypeId × Value → H} {T0 : TypeId} {vs : List Value} {ds : List (DataW H)} {ps : List MemPlace} {sp : Nat → Bool} {hd : Bool} (h : DataW.TrodAll enc P w 0 sp hd [T0] vs ds ps) : ∃ d0, ds = [d0] := by
  match vs, ds, h with
  | [_], [d0], _ => exact ⟨d0, rfl⟩
  | [], [], h => simp [DataW.TrodAll] at h
  | [], _ :: _, h => simp [DataW.TrodAll] at h
  | _ :: _, [], h => simp [DataW.TrodAll] at h
  | [_], _ :: _ :: _, h => simp [DataW.TrodAll] at h
  | _ :: _ :: _, _ :: _, h => simp [DataW.TrodAll] at h
theorem post_law {H : Type} {enc : TypeId × Value → H} {f : Func} {s : ChangeSpec} {W W' : World} {args : Array Value} {v : Value} {ds gs : List (DataW H)} {before pa pv : List MemPlace}
    (hW : DataW.Whole enc P f.params.toList s.vars false W args.toList ds gs before)
    (hres : ∀ (b : Nat) (sp : Nat → Bool) (hd : Bool), DataW.TrodAll enc P W' b sp hd f.resultTypes.toList (v.resultList f.resultTypes.size) (s.fn H (ds ++ gs)).results [])
    (hargs : ∀ sp : Nat → Bool, (∀ p ∈ before, sp p.block = true) → DataW.TrodAll enc P W' 0 sp true f.params.toList args.toList (s.fn H (ds ++ gs)).args pa)
    (hvars : ∀ sp : Nat → Bool, (∀ p ∈ before, sp p.block = true) → DataW.TrodVars enc P W' sp s.vars (s.fn H (ds ++ gs)).vars pv)
    (hps : before = pa ++ pv) (hk : W.keptBut W' (· ∈ before)) : s.post enc P f false true false false W args v W' := by
  have hold : ∀ p ∈ before, (fun b => decide (b < W.heap.size)) p.block = true := fun p hp => by simpa using hW.lt p hp
  refine ⟨ds, gs, before, [], pa, pv, hW, hres _ _ _, hargs _ hold, hvars _ hold, World.keptBut_mono (fun p hp => ⟨hp, ?_⟩) hk, fun h => by cases h⟩
  rw [hps, List.mem_append] at hp
  exact Or.inr hp
def zeroV (P : Program) (T : TypeId) : Value := ((P.info? T).bind (·.zero)).getD undef
def lit1 : DataW Unit → Value
  | .lit (.int k n) => .int k n
  | _ => undef
def flat1 : DataW Unit → List Value
  | .agg l => l.map lit1
  | .lit (.int k n) => [.int k n]
  | _ => []
def flat2 : DataW Unit → List Value
  | .agg l => l.flatMap flat1
  | _ => []
def putG (h : Array Obj) (g : Nat) (cs : List Value) : Array Obj := h.modify g fun
  | .cells _ t frozen => .cells cs.toArray t frozen
  | o => o
def rangeLen : DataW Unit → Nat
  | .ptr (.agg (.slice l _ :: _)) => l.length
  | _ => 0
def rangeLatin : DataW Unit → Value
  | .ptr (.agg [_, _, d]) => lit1 d
  | _ => undef
def rangeCells : DataW Unit → List Value
  | .ptr (.agg (.slice l _ :: _)) => l.flatMap flat1
  | _ => []
end Go.Am
namespace Go.Am
open Go
theorem loopN_end {X : Type} {g : X → Bool} {next : X → X} {x : X} (h : g x = false) : ∀ F, loopN g next F x = x := by
  intro F
  cases F with
  | zero => rfl
  | succ F => simp [loopN, h]
theorem loop_ind {X : Type} {g : X → Bool} {next : X → X} (inv : X → Prop) (m : X → Nat) (hstep : ∀ x, inv x → g x = true → inv (next x) ∧ m (next x) < m x) :
    ∀ {x : X}, inv x → m x < fuel → inv (loopEnd g next x) ∧ g (loopEnd g next x) = false := by
  have key : ∀ (F : Nat) (x : X), inv x → m x < F → inv (loopN g next F x) ∧ g (loopN g next F x) = false := by
    intro F
    induction F with
    | zero => intro x _ h; omega
    | succ F ih =>
      intro x hx hm
      simp only [loopN]
      cases hg : g x with
      | false => simp only [cond_false]; exact ⟨hx, hg⟩
      | true =>
        simp only [cond_true]
        have := hstep x hx hg
        exact ih _ this.1 (by omega)
  intro x hx hm
  exact key fuel x hx hm
theorem ends_ind {X : Type} {g : X → Bool} {next : X → X} {ok : X → Prop} (inv : X → Prop) (m : X → Nat) (hok : ∀ x, inv x → ok x) (hstep : ∀ x, inv x → g x = true → inv (next x) ∧ m (next x) < m x) :
    ∀ {x : X}, inv x → m x < fuel → Am.Ends g next ok x := by
  have key : ∀ (F : Nat) (x : X), inv x → m x < F → ∃ k, k < F ∧ Runs g next ok k x := by
    intro F
    induction F with
    | zero => intro x _ h; omega
    | succ F ih =>
      intro x hx hm
      cases hg : g x with
      | false => exact ⟨0, by omega, hok x hx, hg⟩
      | true =>
        have := hstep x hx hg
        obtain ⟨k, hk, hr⟩ := ih _ this.1 (by omega)
        exact ⟨k + 1, by omega, hok x hx, hg, hr⟩
  intro x hx hm
  exact key fuel x hx hm
theorem scan {g : Int × Unit → Bool} {next : Int × Unit → Int × Unit} {n : Int} {c : Int → Bool} (hn0 : 0 ≤ n) (hn : n < 9223372036854775808) (hg : ∀ x, g x = (decide (x.1 < n) && !(c x.1))) (hx : ∀ x, next x = (x.1 + 1, ())) :
    ∃ j, 0 ≤ j ∧ j ≤ n ∧ loopEnd g next (0, ()) = (j, ()) ∧ (∀ k, 0 ≤ k → k < j → c k = false) ∧ (j < n → c j = true) := by
  have h := loop_ind (g := g) (next := next) (fun x => 0 ≤ x.1 ∧ x.1 ≤ n ∧ ∀ k, 0 ≤ k → k < x.1 → c k = false) (fun x => (n - x.1).toNat) (fun x hi hgx => by
    rw [hg] at hgx
    simp only [Bool.and_eq_true, decide_eq_true_eq, Bool.not_eq_true'] at hgx
    rw [hx]
    refine ⟨⟨by omega, by omega, fun k h1 h2 => ?_⟩, by simp only; omega⟩
    by_cases e : k = x.1
    · rw [e]; exact hgx.2
    · exact hi.2.2 k h1 (by simp only at h2; omega)) (x := (0, ())) ⟨by simp, hn0, fun k h1 h2 => by simp only at h2; omega⟩ (by simp only [fuel]; omega)
  generalize hj : loopEnd g next (0, ()) = e at h
  obtain ⟨⟨h1, h2, h3⟩, h4⟩ := h
  refine ⟨e.1, h1, h2, rfl, h3, fun hlt => ?_⟩
  rw [hg] at h4
  simp only [Bool.and_eq_false_iff, decide_eq_false_iff_not, Bool.not_eq_false'] at h4
  rcases h4 with h4 | h4
  · exact absurd hlt h4
  · exact h4
theorem scan_ends {g : Int × Unit → Bool} {next : Int × Unit → Int × Unit} {ok : Int × Unit → Prop} {n : Int} (hn0 : 0 ≤ n) (hn : n < 9223372036854775808) (hg : ∀ x, g x = true → x.1 < n) (hx : ∀ x, next x = (x.1 + 1, ()))
    (hok : ∀ x : Int × Unit, 0 ≤ x.1 → x.1 ≤ n → ok x) : Am.Ends g next ok (0, ()) :=
  ends_ind (fun x => 0 ≤ x.1 ∧ x.1 ≤ n) (fun x => (n - x.1).toNat) (fun x h => hok x h.1 h.2) (fun x hi hgx => by
    have := hg x hgx
    rw [hx]
    refine ⟨⟨by simp only; omega, by simp only; omega⟩, by simp only; omega⟩) ⟨by simp, hn0⟩ (by simp only [fuel]; omega)
def anyI (n : Int) (c : Int → Bool) : Bool := (List.range n.toNat).any fun i => c (i : Int)
theorem scan_any {g : Int × Unit → Bool} {next : Int × Unit → Int × Unit} {n : Int} {c : Int → Bool} (hn0 : 0 ≤ n) (hn : n < 9223372036854775808) (hg : ∀ x, g x = (decide (x.1 < n) && !(c x.1))) (hx : ∀ x, next x = (x.1 + 1, ())) :
    (decide ((loopEnd g next (0, ())).1 < n) && c (loopEnd g next (0, ())).1) = anyI n c := by
  obtain ⟨j, h1, h2, h3, h4, h5⟩ := scan hn0 hn hg hx
  rw [h3]
  rw [Bool.eq_iff_iff]
  simp only [Bool.and_eq_true, decide_eq_true_eq, anyI, List.any_eq_true, List.mem_range]
  constructor
  · rintro ⟨h, h'⟩; exact ⟨j.toNat, by omega, by rw [Int.toNat_of_nonneg h1]; exact h'⟩
  · rintro ⟨i, hi, hc⟩
    by_cases hj : j < n
    · exact ⟨hj, h5 hj⟩
    · have := h4 (i : Int) (by omega) (by omega)
      rw [this] at hc; cases hc
theorem anyI_congr {n m : Int} {c d : Int → Bool} (h : n = m) (h' : ∀ i, 0 ≤ i → i < n → c i = d i) : anyI n c = anyI m d := by
  subst h
  unfold anyI
  rw [Bool.eq_iff_iff]
  simp only [List.any_eq_true, List.mem_range]
  constructor
  · rintro ⟨i, hi, hc⟩; exact ⟨i, hi, by rw [← h' i (by omega) (by omega)]; exact hc⟩
  · rintro ⟨i, hi, hc⟩; exact ⟨i, hi, by rw [h' i (by omega) (by omega)]; exact hc⟩
theorem len_nonneg {α : Type} (l : List α) : 0 ≤ len l := by simp [len]
def foldI {A : Type} (step : A → Int → A) : Nat → A → A
  | 0, a => a
  | k + 1, a => step (foldI step k a) (k : Int)
theorem fold_loop {A : Type} {g : A × Int × Unit → Bool} {next : A × Int × Unit → A × Int × Unit} {n : Int} {step : A → Int → A} (hn0 : 0 ≤ n) (hn : n < 9223372036854775808) (hg : ∀ x, g x = decide (x.2.1 < n)) (hx : ∀ x, next x = (step x.1 x.2.1, x.2.1 + 1, ())) (a : A) :
    loopEnd g next (a, 0, ()) = (foldI step n.toNat a, n, ()) := by
  have h := loop_ind (g := g) (next := next) (fun x => 0 ≤ x.2.1 ∧ x.2.1 ≤ n ∧ x.1 = foldI step x.2.1.toNat a) (fun x => (n - x.2.1).toNat) (fun x hi hgx => by
    rw [hg] at hgx
    have hgx := of_decide_eq_true hgx
    rw [hx]
    refine ⟨⟨by simp only; omega, by simp only; omega, ?_⟩, by simp only; omega⟩
    simp only
    have e : (x.2.1 + 1).toNat = x.2.1.toNat + 1 := by omega
    rw [e, foldI, ← hi.2.2, Int.toNat_of_nonneg hi.1]) (x := (a, 0, ())) ⟨by simp, hn0, rfl⟩ (by simp only [fuel]; omega)
  generalize loopEnd g next (a, 0, ()) = e at h
  obtain ⟨⟨h1, h2, h3⟩, h4⟩ := h
  rw [hg] at h4
  have h4 := of_decide_eq_false h4
  obtain ⟨e1, e2, e3⟩ := e
  simp only at h1 h2 h3 h4
  have : e2 = n := by omega
  subst this
  rw [h3]
theorem fold_ends {A : Type} {g : A × Int × Unit → Bool} {next : A × Int × Unit → A × Int × Unit} {ok : A × Int × Unit → Prop} {n : Int} {step : A → Int → A} (hn0 : 0 ≤ n) (hn : n < 9223372036854775808) (hg : ∀ x, g x = decide (x.2.1 < n)) (hx : ∀ x, next x = (step x.1 x.2.1, x.2.1 + 1, ())) (a : A)
    (hok : ∀ i : Int, 0 ≤ i → i ≤ n → ok (foldI step i.toNat a, i, ())) : Am.Ends g next ok (a, 0, ()) :=
  ends_ind (fun x => 0 ≤ x.2.1 ∧ x.2.1 ≤ n ∧ x.1 = foldI step x.2.1.toNat a) (fun x => (n - x.2.1).toNat) (fun x h => by
    have := hok x.2.1 h.1 h.2.1
    rw [← h.2.2] at this
    exact this) (fun x hi hgx => by
    rw [hg] at hgx
    have hgx := of_decide_eq_true hgx
    rw [hx]
    refine ⟨⟨by simp only; omega, by simp only; omega, ?_⟩, by simp only; omega⟩
    simp only
    have e : (x.2.1 + 1).toNat = x.2.1.toNat + 1 := by omega
    rw [e, foldI, ← hi.2.2, Int.toNat_of_nonneg hi.1]) ⟨by simp, hn0, rfl⟩ (by simp only [fuel]; omega)
end Go.Am
namespace Go.Am
open Go Go.RowKit
variable {gtab : GlobTab} {P : Program}
end Go.Am
namespace Go.Am
open Go Go.RowKit
variable {gtab : GlobTab} {P : Program} {w : World} {χ : Nat → Nat → Nat}
section
variable {H : Type} {enc : TypeId × Value → H} {sp : Nat → Bool} {held : Bool}
end
end Go.Am
namespace Go.Am
open Go Go.RowKit
variable {gtab : GlobTab} {P : Program}
theorem frame0_refl {χ : Nat → Nat → Nat} {w : World} : Frame0 χ w χ w := ⟨rfl, rfl, rfl, Nat.le_refl _, fun _ _ _ => rfl, fun _ _ _ _ => ⟨rfl, rfl⟩⟩
theorem spec_hand1 {f : Nat} {τ : Ty} {rs : Sh} {ok : τ.den → Prop} {F : τ.den → rs.den} {o : denL [(0, Sh.val τ)] → denO []} (hfn : ∃ fn, P.funcs[f]? = some fn ∧ fn.body.isSome = true ∧ fn.name ≠ "runtime.NumGoroutine")
    (H : ∀ x, ok x → ∀ (G : Gh) (w : World) (v : Value), GlobOk G.χ w → VRep G.χ w τ x v → Calls P f #[v] w fun e w' => ∃ u G', e = .returned u ∧ Frame0 G.χ w G'.χ w' ∧ ARep G' w' #[] none (rs.mk (F x)) u) :
    SpecOk P f (fnSpec [(0, .val τ)] rs [] (fun x => ok x.1) (fun x => F x.1) o) := by
  refine ⟨hfn, fun args co hsp hok G w vals hlen hglob hreps => ?_⟩
  unfold fnSpec at hsp
  generalize hal : Nat.beq args.length _ = b at hsp
  cases b with
  | false => cases hsp
  | true =>
    simp only [cond_true] at hsp
    split at hsp
    · rename_i x hx
      injection hsp with hsp
      subst hsp
      have hl : args.length = 1 := Nat.eq_of_beq_eq_true hal
      obtain ⟨A, rfl⟩ : ∃ A, args = [A] := by
        match args, hl with
        | [A], _ => exact ⟨A, rfl⟩
      obtain ⟨v, rfl⟩ : ∃ v, vals = [v] := by
        match vals, hlen with
        | [v], _ => exact ⟨v, rfl⟩
      obtain ⟨l, _⟩ := x
      have hp : (Sh.val τ).parse A = some l := by
        simp only [parseSt, argSt, St.get] at hx
        split at hx
        · rename_i y z hy _
          simp only [Option.some.injEq, Prod.mk.injEq] at hx
          rw [← hx.1]
          simpa using hy
        · cases hx
      have hA := ARep_parse hp (hreps 0 A v rfl rfl)
      simp only [Sh.mk, ARep] at hA
      refine (H l (hok _ (List.mem_singleton.2 rfl)) G w v hglob hA).mono ?_
      rintro e w' ⟨u, G', rfl, q1, q2⟩
      exact ⟨u, G', rfl, q1, q2, fun i k A' u h => by cases h⟩
    · cases hsp
theorem spec_hand2 {f : Nat} {τ σ : Ty} {rs : Sh} {ok : τ.den → σ.den → Prop} {F : τ.den → σ.den → rs.den} {o : denL [(0, Sh.val τ), (1, Sh.val σ)] → denO []} (hfn : ∃ fn, P.funcs[f]? = some fn ∧ fn.body.isSome = true ∧ fn.name ≠ "runtime.NumGoroutine")
    (H : ∀ x y, ok x y → ∀ (G : Gh) (w : World) (v u : Value), GlobOk G.χ w → VRep G.χ w τ x v → VRep G.χ w σ y u → Calls P f #[v, u] w fun e w' => ∃ r G', e = .returned r ∧ Frame0 G.χ w G'.χ w' ∧ ARep G' w' #[] none (rs.mk (F x y)) r) :
    SpecOk P f (fnSpec [(0, .val τ), (1, .val σ)] rs [] (fun x => ok x.1 x.2.1) (fun x => F x.1 x.2.1) o) := by
  refine ⟨hfn, fun args co hsp hok G w vals hlen hglob hreps => ?_⟩
  unfold fnSpec at hsp
  generalize hal : Nat.beq args.length _ = b at hsp
  cases b with
  | false => cases hsp
  | true =>
    simp only [cond_true] at hsp
    split at hsp
    · rename_i x hx
      injection hsp with hsp
      subst hsp
      have hl : args.length = 2 := Nat.eq_of_beq_eq_true hal
      obtain ⟨A, B, rfl⟩ : ∃ A B, args = [A, B] := by
        match args, hl with
        | [A, B], _ => exact ⟨A, B, rfl⟩
      obtain ⟨v, u, rfl⟩ : ∃ v u, vals = [v, u] := by
        match vals, hlen with
        | [v, u], _ => exact ⟨v, u, rfl⟩
      obtain ⟨l, m, _⟩ := x
      have hp : (Sh.val τ).parse A = some l ∧ (Sh.val σ).parse B = some m := by
        simp only [parseSt, argSt, St.get] at hx
        split at hx
        · rename_i y z hy hz
          simp only [Option.some.injEq, Prod.mk.injEq] at hx
          split at hz
          · rename_i y' z' hy' _
            simp only [Option.some.injEq] at hz
            rw [← hz] at hx
            simp only [Prod.mk.injEq] at hx
            rw [← hx.1, ← hx.2.1]
            exact ⟨by simpa using hy, by simpa [Nat.beq, cutNo] using hy'⟩
          · cases hz
        · cases hx
      have hA := ARep_parse hp.1 (hreps 0 A v rfl rfl)
      have hB := ARep_parse hp.2 (hreps 1 B u rfl rfl)
      simp only [Sh.mk, ARep] at hA hB
      refine (H l m (hok _ (List.mem_singleton.2 rfl)) G w v u hglob hA hB).mono ?_
      rintro e w' ⟨r, G', rfl, q1, q2⟩
      exact ⟨r, G', rfl, q1, q2, fun i k A' u h => by cases h⟩
    · cases hsp
theorem spec_byte {f : Nat} {F : List UInt8 → List UInt8 → Int} {o : denL [(0, Sh.val .str), (1, Sh.val .str)] → denO []} (hfn : ∃ fn, P.funcs[f]? = some fn ∧ fn.body.isSome = true ∧ fn.name ≠ "runtime.NumGoroutine")
    (H : ∀ (s : ByteArray) (c : UInt8) (w : World), Calls P f #[.string s, .string ⟨#[c]⟩] w fun e w' => e = .returned (.int .i64 (F s.data.toList [c])) ∧ w' = w) :
    SpecOk P f (fnSpec [(0, .val .str), (1, .val .str)] (.val (.int .i64)) [] (fun x => List.length x.2.1 = 1) (fun x => F x.1 x.2.1) o) := by
  refine spec_hand2 (τ := .str) (σ := .str) (rs := .val (.int .i64)) (ok := fun _ y => List.length y = 1) (F := F) hfn fun x y hy G w v u _ hv hu => ?_
  rw [VRep_one rfl] at hv hu
  simp only [CRep] at hv hu
  injection hv with hv _
  injection hu with hu _
  match y, hy with
  | [c], _ =>
    subst hv hu
    refine (H ⟨List.toArray x⟩ c w).mono ?_
    rintro e w' ⟨rfl, rfl⟩
    refine ⟨_, G, rfl, frame0_refl, ?_⟩
    simp only [Sh.mk, ARep]
    rw [VRep_one rfl]
    simp [CRep]
theorem LRep_strs {χ : Nat → Nat → Nat} {w : World} : ∀ {l : List (List UInt8)}, LRep (CRep χ w .str) l (l.map fun x => Value.string ⟨x.toArray⟩) := by
  intro l
  induction l with
  | nil => simp [LRep]
  | cons x l ih => exact ⟨[.string ⟨x.toArray⟩], _, rfl, by simp only [CRep], ih⟩
theorem LRep_ints {χ : Nat → Nat → Nat} {w : World} {k : IntKind} : ∀ {l : List Int} {vs : List Value}, LRep (CRep χ w (.int k)) l vs → vs = l.map (Value.int k) := by
  intro l
  induction l with
  | nil => intro vs h; simpa [LRep] using h
  | cons x l ih =>
    rintro vs ⟨us, ws, rfl, h1, h2⟩
    simp only [CRep] at h1
    rw [h1, ih h2]
    rfl
theorem glob_row {χ : Nat → Nat → Nat} {w : World} (h : GlobOk χ w) {g n : Nat} {k : IntKind} {l : List Int} (hm : (g, (⟨.arr n (.int k), l⟩ : (τ : Ty) × τ.den)) ∈ GlobTab.tab) (c : Nat) (hc : c < n) : w.cell? ⟨g, c, none⟩ = some (.int k (l.getD c 0)) := by
  obtain ⟨vs, h1, h2⟩ := h g (.arr n (.int k)) l hm
  unfold CRep at h1
  obtain ⟨h1, h3⟩ := h1
  have e := LRep_ints h3
  subst e
  have hlen : List.length (α := Int) l = n := h1
  have := (h2 c (.int k (l.getD c 0)) (by
    rw [List.getElem?_map, List.getElem?_eq_getElem (by omega), List.getD_eq_getElem?_getD, List.getElem?_eq_getElem (by omega)]
    rfl)).1
  simpa using this
theorem spec_strs {f : Nat} {F : List UInt8 → List (List UInt8)} {e : TypeId} {ok : List UInt8 → Prop} {o : denL [(0, Sh.val .str)] → denO []} (hfn : ∃ fn, P.funcs[f]? = some fn ∧ fn.body.isSome = true ∧ fn.name ≠ "runtime.NumGoroutine")
    (H : ∀ (s : ByteArray) (w : World) (χ : Nat → Nat → Nat), ok s.data.toList → GlobOk χ w → Calls P f #[.string s] w fun e' w' => e' = .returned (.slice (some ⟨w.heap.size, 0, none⟩) (F s.data.toList).length (F s.data.toList).length) ∧
      w' = w.alloc (.cells ((F s.data.toList).map fun l => Value.string ⟨l.toArray⟩).toArray e)) :
    SpecOk P f (fnSpec [(0, .val .str)] (.val (.sl .str)) [] (fun x => ok x.1) (fun x => F x.1) o) := by
  refine spec_hand1 (τ := .str) (rs := .val (.sl .str)) (ok := ok) (F := F) hfn fun x hx G w v hglob hv => ?_
  rw [VRep_one rfl] at hv
  simp only [CRep] at hv
  injection hv with hv _
  subst hv
  refine (H ⟨List.toArray x⟩ w G.χ (by simpa using hx) hglob).mono ?_
  rintro e' w' ⟨rfl, rfl⟩
  let G' : Gh := { G with χ := fun b o => if b = w.heap.size then 0 else G.χ b o }
  refine ⟨_, G', rfl, ⟨rfl, rfl, rfl, by simp, fun b hb _ => Below.heap_alloc _ _ _ hb, fun b o hb _ => ⟨if_neg (by omega), World.cell?_alloc_old _ _ _ (by simp only; omega)⟩⟩, ?_⟩
  simp only [Sh.mk, ARep]
  rw [VRep_one rfl]
  unfold CRep
  refine ⟨_, _, rfl, .inr ⟨w.heap.size, 0, _, rfl, Nat.le_refl _, LRep_strs, fun j v hv => ⟨?_, if_pos rfl⟩⟩⟩
  simp only [World.cell?, World.alloc_heap_new, Nat.zero_add]
  simpa using hv
end Go.Am
namespace Go.Am
open Go Go.RowKit
variable {gtab : GlobTab} {P : Program} {c : Ctx}
def rfBody : Code → Option Code
  | .seq a b => match rfBody a with | some x => some x | none => rfBody b
  | .block _ a => rfBody a
  | .rangeFunc _ _ _ b => some b
  | _ => none
def onlyOn [GlobTab] (c : Ctx) (code : Code) (S : St) : Bool := match eval c code S with
  | some o => o.comps.all fun x => Nat.beq x.kind 0
  | none => false
def PieceOk [GlobTab] (P : Program) (c : Ctx) (code : Code) (ps os : List (Nat × Sh)) (ok : denL ps → Prop) (o : denL ps → denO os) : Prop :=
  ∀ x, ok x → ∀ (rd : Option Nat) (χ0 : Nat → Nat → Nat) (w0 : World) (a : Act) (w : World) (G : Gh), Rel c.n χ0 w0 (startSt ps x) a w G →
    code.wpIn (fz rd) 0 P (fun e a' w' => e = .normal ∧ (∀ i ∈ c.keep, a'.tmps.getD i undef = a.tmps.getD i undef) ∧
      ∃ G' d, Rel c.n χ0 w0 (d ++ startSt ps x) a' w' G' ∧ parseO os (d ++ startSt ps x) = some (o x)) a w
theorem piece_gen (hc : CtxOk P c) (hm : P.follows .mixedOrders = true) {code : Code} {bs : List Code} (hbs : loopsOf code = bs) (hL : AllSnd P c bs) (hw : noWrite c.keep code = true) {ps os : List (Nat × Sh)} {ok : denL ps → Prop} {rs : Sh} {F : denL ps → rs.den} {o : denL ps → denO os}
    (hon : ∀ x, onlyOn c code (startSt ps x) = true) (hsum : ∀ x, sumFn c code [] ps rs os x = some (ok x, F x, o x)) : PieceOk P c code ps os ok o := by
  intro x hx rd χ0 w0 a w G hR
  have h := hsum x
  have hon := hon x
  unfold sumFn at h
  unfold onlyOn at hon
  split at h
  · cases h
  · rename_i out ho
    rw [ho] at hon
    simp only at hon
    split at h
    · cases h
    · rename_i d hd
      split at h
      · rename_i r z hr hz
        split at h
        · rename_i v hv
          simp only [Option.some.injEq, Prod.mk.injEq] at h
          obtain ⟨e1, _, rfl⟩ := h
          refine wpIn_mono (eval_sound hc hm (loopsIn_n hbs hL) hw ho (AllP_iff.1 (by rw [e1]; exact hx)) rd χ0 w0 (fun i => a.tmps.getD i undef) a w G hR (fun i _ => rfl)) ?_
          rintro e a' w' ⟨hP, hk⟩
          obtain ⟨_, G', hR'⟩ := fin_post hd hP
          refine ⟨?_, hk, G', d, hR', hz⟩
          obtain ⟨k, cp, G2, h1, h2, _⟩ := hP
          have := List.all_eq_true.1 hon cp (findC_mem h2)
          rw [findC_kind h2] at this
          have := Nat.eq_of_beq_eq_true this
          subst this
          cases e with
          | normal => rfl
          | ret => simp [exitKind] at h1
          | exit id => simp [exitKind] at h1
          | _ => simp [exitKind] at h1
        · cases h
      · cases h
end Go.Am
namespace Go.Am
open Go Go.RowKit
variable {gtab : GlobTab} {P : Program} {c : Ctx}
def Rounds {α β : Type} (ok : β → α → Prop) (next : β → α → β) : List α → β → Prop
  | [], _ => True
  | x :: r, l => ok l x ∧ Rounds ok next r (next l x)
def decRounds {α β : Type} {ok : β → α → Prop} {next : β → α → β} (h : ∀ l x, Decidable (ok l x)) : (xs : List α) → (l : β) → Decidable (Rounds ok next xs l)
  | [], _ => isTrue trivial
  | x :: r, l => @instDecidableAnd _ _ (h l x) (decRounds h r (next l x))
theorem Rounds_at {α β : Type} {ok : β → α → Prop} {next : β → α → β} : ∀ {pre : List α} {x : α} {rest : List α} {l : β}, Rounds ok next (pre ++ x :: rest) l → ok (pre.foldl next l) x := by
  intro pre
  induction pre with
  | nil => intro x rest l h; exact h.1
  | cons y pre ih => intro x rest l h; exact ih h.2
theorem names_one : ∀ (A : AVal) (s : Option Nat), ¬ A.names (· = 1) (fun _ => False) s := by
  intro A
  induction A with
  | own t l T m => intro s; simp only [AVal.names, cArr]; omega
  | ownh t l T i U m => intro s; simp only [AVal.names, cArr]; omega
  | opt _ _ _ A ih => intro s; simp only [AVal.names]; exact ih none
  | box τ b ih =>
    intro s
    cases s with
    | none => simp only [AVal.names]; exact ih none
    | some s => simp only [AVal.names, not_or]; exact ⟨by simp only [cBox]; omega, ih none⟩
  | cons x y ihx ihy => intro s; simp only [AVal.names, not_or]; exact ⟨ihx none, ihy none⟩
  | agg f b ih => intro s; simp only [AVal.names]; exact ih none
  | tup b ih => intro s; simp only [AVal.names]; exact ih none
  | fn f b ih => intro s; simp only [AVal.names]; exact ih none
  | raw =>
    intro s
    cases s with
    | none => simp [AVal.names]
    | some s => simp only [AVal.names, cBox]; omega
  | _ => intro s; simp [AVal.names]
theorem ext_foreign {G : Gh} {W W' : World} {b : Nat} (hχ : ∀ o, G.χ b o = 1) (h : ∀ k, k ≠ b → W'.heap[k]? = W.heap[k]?) (hs : W.heap.size ≤ W'.heap.size) : Ext (· = 1) (fun _ => False) G W G W' := by
  refine ⟨fun b' o _ h0 => ⟨h0, ?_⟩, fun b' _ hn => ⟨h b' ?_, fun _ => rfl⟩, hs, fun _ _ => rfl, fun _ _ => rfl, fun _ h => h.elim⟩
  · have hne : b' ≠ b := by intro e; subst e; rw [hχ o] at h0; cases h0
    simp only [World.cell?, h b' hne]
  · intro e; subst e; exact hn 0 (hχ 0)
theorem Frame0.trans {χ0 χ1 χ2 : Nat → Nat → Nat} {w0 w1 w2 : World} (h : Frame0 χ0 w0 χ1 w1) (k : Frame0 χ1 w1 χ2 w2) : Frame0 χ0 w0 χ2 w2 := by
  refine ⟨k.os.trans h.os, k.tape.trans h.tape, k.output.trans h.output, Nat.le_trans h.size k.size, fun b hb hc => ?_, fun b o hb hc => ?_⟩
  · rw [k.block b (Nat.lt_of_lt_of_le hb h.size) (fun o => by rw [(h.cell b o hb (hc o)).1]; exact hc o)]
    exact h.block b hb hc
  · have h1 := h.cell b o hb hc
    have h2 := k.cell b o (Nat.lt_of_lt_of_le hb h.size) (by rw [h1.1]; exact hc)
    exact ⟨h2.1.trans h1.1, h2.2.trans h1.2⟩
theorem Frame0.beyond {χ0 χ : Nat → Nat → Nat} {w0 W W' : World} {b : Nat} (h : Frame0 χ0 w0 χ W) (hb : w0.heap.size ≤ b) (hW : ∀ k, k ≠ b → W'.heap[k]? = W.heap[k]?) (hs : W'.heap.size = W.heap.size) (hst : W'.os = W.os ∧ W'.tape = W.tape ∧ W'.output = W.output) :
    Frame0 χ0 w0 χ W' := by
  refine ⟨hst.1.trans h.os, hst.2.1.trans h.tape, hst.2.2.trans h.output, by rw [hs]; exact h.size, fun k hk hc => ?_, fun k o hk hc => ?_⟩
  · rw [hW k (by omega)]; exact h.block k hk hc
  · have h1 := h.cell k o hk hc
    refine ⟨h1.1, ?_⟩
    rw [← h1.2]
    simp only [World.cell?, hW k (show k ≠ b by omega)]
structure JB [GlobTab] (χ0 : Nat → Nat → Nat) (w0 : World) (lo hi : Nat) (E : List (Nat × Nat × AVal)) (G : Gh) (W : World) : Prop where
  frame : Frame0 χ0 w0 G.χ W
  glob : GlobOk G.χ W
  reps : ∀ e ∈ E, ARep G W #[] (some e.1) e.2.2 (.pointer (some ⟨e.2.1, 0, none⟩))
  own : ∀ b, lo ≤ b → b ≤ hi → ∀ o, G.χ b o = 1
  size : hi < W.heap.size
  low : w0.heap.size ≤ lo
theorem JB.foreign {χ0 : Nat → Nat → Nat} {w0 : World} {lo hi : Nat} {E : List (Nat × Nat × AVal)} {G : Gh} {W W' : World} {b : Nat} (h : JB χ0 w0 lo hi E G W) (hl : lo ≤ b) (hh : b ≤ hi) (hW : ∀ k, k ≠ b → W'.heap[k]? = W.heap[k]?) (hs : W'.heap.size = W.heap.size)
    (hst : W'.os = W.os ∧ W'.tape = W.tape ∧ W'.output = W.output) : JB χ0 w0 lo hi E G W' := by
  have hx := ext_foreign (h.own b hl hh) hW (Nat.le_of_eq hs.symm)
  have hlow := h.low
  refine ⟨h.frame.beyond (Nat.le_trans hlow hl) hW hs hst, GlobOk_mono hx.prot h.glob, fun e he => ARep_ext hx (by decide) _ (names_one _ _) (h.reps e he), h.own, by rw [hs]; exact h.size, hlow⟩
theorem JB.setCell {χ0 : Nat → Nat → Nat} {w0 : World} {lo hi : Nat} {E : List (Nat × Nat × AVal)} {G : Gh} {W : World} {b : Nat} (h : JB χ0 w0 lo hi E G W) (hl : lo ≤ b) (hh : b ≤ hi) (v : Value) : JB χ0 w0 lo hi E G (W.setCell ⟨b, 0, none⟩ v) :=
  h.foreign hl hh (fun k hk => Below.heap_setCell W ⟨b, 0, none⟩ v k hk) (by simp [World.setCell]) ⟨rfl, rfl, rfl⟩
theorem JB.putObj {χ0 : Nat → Nat → Nat} {w0 : World} {lo hi : Nat} {E : List (Nat × Nat × AVal)} {G : Gh} {W : World} {b : Nat} (h : JB χ0 w0 lo hi E G W) (hl : lo ≤ b) (hh : b ≤ hi) (o : Obj) : JB χ0 w0 lo hi E G (W.putObj b o) :=
  h.foreign hl hh (fun k hk => World.putObj_heap_other hk) (by simp [World.putObj]) ⟨rfl, rfl, rfl⟩
theorem JB.step {χ0 : Nat → Nat → Nat} {w0 : World} {lo hi : Nat} {E E' : List (Nat × Nat × AVal)} {G G' : Gh} {W W' : World} (h : JB χ0 w0 lo hi E G W) (hf : Frame0 G.χ W G'.χ W') (hg : GlobOk G'.χ W') (hr : ∀ e ∈ E', ARep G' W' #[] (some e.1) e.2.2 (.pointer (some ⟨e.2.1, 0, none⟩))) :
    JB χ0 w0 lo hi E' G' W' ∧ ∀ b, lo ≤ b → b ≤ hi → W'.heap[b]? = W.heap[b]? := by
  have hsz := h.size
  refine ⟨⟨h.frame.trans hf, hg, hr, fun b hl hh o => ?_, Nat.lt_of_lt_of_le hsz hf.size, h.low⟩, fun b hl hh => hf.block b (by omega) (fun o => by rw [h.own b hl hh o]; exact Nat.le_refl _)⟩
  rw [(hf.cell b o (by omega) (by rw [h.own b hl hh o]; exact Nat.le_refl _)).1]
  exact h.own b hl hh o
theorem spec_hand4 {f : Nat} {τ σ υ ω : Ty} {rs : Sh} {ok : τ.den → σ.den → υ.den → ω.den → Prop} {F : τ.den → σ.den → υ.den → ω.den → rs.den} {o : denL [(0, Sh.val τ), (1, Sh.val σ), (2, Sh.val υ), (3, Sh.val ω)] → denO []} (hfn : ∃ fn, P.funcs[f]? = some fn ∧ fn.body.isSome = true ∧ fn.name ≠ "runtime.NumGoroutine")
    (H : ∀ x y z u, ok x y z u → ∀ (G : Gh) (w : World) (v1 v2 v3 v4 : Value), GlobOk G.χ w → VRep G.χ w τ x v1 → VRep G.χ w σ y v2 → VRep G.χ w υ z v3 → VRep G.χ w ω u v4 → Calls P f #[v1, v2, v3, v4] w fun e w' => ∃ r G', e = .returned r ∧ Frame0 G.χ w G'.χ w' ∧ ARep G' w' #[] none (rs.mk (F x y z u)) r) :
    SpecOk P f (fnSpec [(0, .val τ), (1, .val σ), (2, .val υ), (3, .val ω)] rs [] (fun x => ok x.1 x.2.1 x.2.2.1 x.2.2.2.1) (fun x => F x.1 x.2.1 x.2.2.1 x.2.2.2.1) o) := by
  refine ⟨hfn, fun args co hsp hok G w vals hlen hglob hreps => ?_⟩
  unfold fnSpec at hsp
  generalize hal : Nat.beq args.length _ = b at hsp
  cases b with
  | false => cases hsp
  | true =>
    simp only [cond_true] at hsp
    split at hsp
    · rename_i x hx
      injection hsp with hsp
      subst hsp
      have hl : args.length = 4 := Nat.eq_of_beq_eq_true hal
      obtain ⟨A, B, C, D, rfl⟩ : ∃ A B C D, args = [A, B, C, D] := by
        match args, hl with
        | [A, B, C, D], _ => exact ⟨A, B, C, D, rfl⟩
      obtain ⟨v1, v2, v3, v4, rfl⟩ : ∃ v1 v2 v3 v4, vals = [v1, v2, v3, v4] := by
        match vals, hlen with
        | [v1, v2, v3, v4], _ => exact ⟨v1, v2, v3, v4, rfl⟩
      have hp : ∀ (k : Nat) (i : Nat) (s : Sh), [(0, Sh.val τ), (1, Sh.val σ), (2, Sh.val υ), (3, Sh.val ω)][k]? = some (i, s) → ∃ y, s.parse (St.get (argSt 0 [A, B, C, D]) i) = some y := fun k i s h => parseSt_at hx h
      obtain ⟨x1, x2, x3, x4, _⟩ := x
      simp only [parseSt] at hx
      have hg : ∀ i, St.get (argSt 0 [A, B, C, D]) i = [A, B, C, D].getD i .junk := by
        intro i
        simp only [argSt, St.get]
        match i with
        | 0 => simp
        | 1 => simp [cutNo, Nat.beq]
        | 2 => simp [cutNo, Nat.beq]
        | 3 => simp [cutNo, Nat.beq]
        | k + 4 => simp [cutNo, Nat.beq]
      simp only [hg, List.getD_cons_zero, List.getD_cons_succ] at hx
      generalize h1 : (Sh.val τ).parse A = o1 at hx
      generalize h2 : (Sh.val σ).parse B = o2 at hx
      generalize h3 : (Sh.val υ).parse C = o3 at hx
      generalize h4 : (Sh.val ω).parse D = o4 at hx
      cases o1 <;> cases o2 <;> cases o3 <;> cases o4 <;> simp at hx
      obtain ⟨rfl, rfl, rfl, rfl⟩ := hx
      have hA := ARep_parse h1 (hreps 0 A v1 rfl rfl)
      have hB := ARep_parse h2 (hreps 1 B v2 rfl rfl)
      have hC := ARep_parse h3 (hreps 2 C v3 rfl rfl)
      have hD := ARep_parse h4 (hreps 3 D v4 rfl rfl)
      simp only [Sh.mk, ARep] at hA hB hC hD
      refine (H _ _ _ _ (hok _ (List.mem_singleton.2 rfl)) G w v1 v2 v3 v4 hglob hA hB hC hD).mono ?_
      rintro e w' ⟨r, G', rfl, q1, q2⟩
      exact ⟨r, G', rfl, q1, q2, fun i k A' u h => by cases h⟩
    · cases hsp
end Go.Am
namespace Go.Am
open Go Go.RowKit
variable {gtab : GlobTab} {P : Program}
end Go.Am
