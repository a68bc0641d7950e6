/- The abstract machine, part 3: a typed interpreter for the program's code, and that it is sound. No condition. -/
import Derived.Test.YtleannhgpeiooaaGreatDoorMach2
import Derived.ProofKit
import Derived.Carry
import Derived.ChangeSame
/- The abstract machine: shapes of values, states that are built from plain data. No condition. -/
namespace Go.Am
open Go Go.RowKit

inductive Sh where
  | val (τ : Ty) | own (t : Ty) (T : Nat) (m : Bool) | nl | cons (a b : Sh) | agg (f : Ty) (s : Sh) | box (τ : Ty) (s : Sh) | ref (s : Nat) (τ : Ty) | tup (s : Sh) | fn (f : Nat) | any

@[reducible] def Sh.den : Sh → Type
  | .val τ => τ.den | .own t _ _ => List t.den | .nl => Unit | .cons a b => a.den × b.den | .agg _ s => s.den | .box _ s => s.den | .ref _ _ => Unit | .tup s => s.den | .fn _ => Unit | .any => Unit

def Sh.mk : (s : Sh) → s.den → AVal
  | .val τ, x => .val τ x
  | .own t T m, l => .own t l T m
  | .nl, _ => .nl
  | .cons a b, x => .cons (a.mk x.1) (b.mk x.2)
  | .agg f s, x => .agg f (s.mk x)
  | .box τ s, x => .box τ (s.mk x)
  | .ref s τ, _ => .ref s τ []
  | .tup s, x => .tup (s.mk x)
  | .fn f, _ => .fn f .nl
  | .any, _ => .junk

def asOwn (t : Ty) (T : Nat) (m : Bool) : AVal → Option (List t.den)
  | .nil => bif t.plain && !t.isL then some [] else none
  | .own t' l T' m' => bif Nat.beq T T' && (m == m') then Ty.cast (a := .sl t') (.sl t) l else none
  | _ => none
def isNlA : AVal → Bool
  | .nl => true | _ => false
def isRefA (s : Nat) (τ : Ty) : AVal → Bool
  | .ref s' τ' [] => Nat.beq s s' && Ty.beq τ τ'
  | _ => false
def isFnA (f : Nat) : AVal → Bool
  | .fn f' .nl => Nat.beq f f'
  | _ => false
def inAgg (f : Ty) : AVal → Option AVal
  | .agg f' c => bif Ty.beq f f' then some c else none
  | _ => none
def inBox (τ : Ty) : AVal → Option AVal
  | .box τ' c => bif Ty.beq τ τ' then some c else none
  | _ => none
def inTup : AVal → Option AVal
  | .tup c => some c
  | _ => none
def inCons : AVal → Option (AVal × AVal)
  | .cons a b => some (a, b)
  | _ => none

def Sh.parse : (s : Sh) → AVal → Option s.den
  | .val τ, A => bif τ.isL then none else AVal.as τ A
  | .own t T m, A => asOwn t T m A
  | .nl, A => bif isNlA A then some () else none
  | .cons a b, A => match inCons A with
    | some (x, y) => (match a.parse x, b.parse y with | some p, some q => some (p, q) | _, _ => none)
    | none => none
  | .agg f s, A => match inAgg f A with
    | some c => (match s.parse c with | some x => bif (s.mk x).fitsT f then some x else none | none => none)
    | none => none
  | .box τ s, A => match inBox τ A with
    | some c => (match s.parse c with | some x => bif (s.mk x).fitsT τ then some x else none | none => none)
    | none => none
  | .ref s τ, A => bif isRefA s τ A then some () else none
  | .tup s, A => match inTup A with
    | some c => s.parse c
    | none => none
  | .fn f, A => bif isFnA f A then some () else none
  | .any, _ => some ()

variable {P : Program} {c : Ctx} {G : Gh} {w : World} {tm : Array Value} {n : Nat} {χ0 : Nat → Nat → Nat} {w0 : World} {S : St} {a : Act}

theorem asOwn_rep {t : Ty} {T : Nat} {m : Bool} {A : AVal} {l : List t.den} {v : Value} {os : Option Nat} (h : asOwn t T m A = some l) (hA : ARep G w tm os A v) : ORep G w t l T m v := by
  cases A with
  | nil =>
    simp only [asOwn] at h
    generalize hp : (t.plain && !t.isL) = b at h
    cases b with
    | false => cases h
    | true => simp only [cond_true, Option.some.injEq] at h; subst h; simp only [ARep] at hA; subst hA; exact nil_ORep hp
  | own t' l' T' m' =>
    simp only [asOwn] at h
    generalize hb : (Nat.beq T T' && (m == m')) = b at h
    cases b with
    | false => cases h
    | true =>
      simp only [cond_true] at h
      simp only [Bool.and_eq_true, beq_iff_eq] at hb
      have e := Nat.eq_of_beq_eq_true hb.1
      obtain ⟨_, hb⟩ := hb
      subst e; subst hb
      obtain ⟨e, hz⟩ := own_cast h
      subst e
      have := eq_of_heq hz
      subst this
      simpa only [ARep] using hA
  | _ => simp [asOwn] at h

theorem TRep_parse : ∀ {s : Sh} {A : AVal} {x : s.den} {τ : Ty} {vs : List Value}, s.parse A = some x → (s.mk x).fitsT τ = true → TRep G w τ A vs → TRep G w τ (s.mk x) vs := by
  intro s
  induction s with
  | val τ' =>
    intro A x τ vs h hf hA
    simp only [Sh.parse] at h
    cases hl : τ'.isL with
    | true => simp [hl] at h
    | false =>
      simp only [hl, cond_false] at h
      simp only [Sh.mk, AVal.fitsT, Bool.and_eq_true] at hf
      have e := Ty.eq_of_beq hf.1
      subst e
      simp only [Sh.mk, TRep]
      exact ⟨trivial, hl, as_CRep h hA⟩
  | own t T m =>
    intro A x τ vs h hf hA
    simp only [Sh.parse] at h
    simp only [Sh.mk, AVal.fitsT] at hf
    have e := Ty.eq_of_beq hf
    subst e
    simp only [Sh.mk, TRep]
    refine ⟨trivial, ?_⟩
    cases A with
    | nil => simp only [TRep] at hA; exact ⟨_, hA.2, asOwn_rep (tm := #[]) (os := none) h (by simp only [ARep])⟩
    | own t' l' T' m' => simp only [TRep] at hA; obtain ⟨_, v, h1, h2⟩ := hA; exact ⟨v, h1, asOwn_rep (tm := #[]) (os := none) h (by simp only [ARep]; exact h2)⟩
    | _ => simp [asOwn] at h
  | nl =>
    intro A x τ vs h hf hA
    cases A with
    | nl => exact hA
    | _ => simp [Sh.parse, isNlA] at h
  | cons p q ihp ihq =>
    intro A x τ vs h hf hA
    cases A with
    | cons a b =>
      simp only [Sh.parse, inCons] at h
      split at h
      · rename_i y z hy hz
        injection h with h
        subst h
        simp only [TRep] at hA
        obtain ⟨h1, t1, us, ws, rfl, rfl, h2, h3⟩ := hA
        simp only [Sh.mk, AVal.fitsT, fitsCons, Bool.and_eq_true] at hf
        simp only [Sh.mk, TRep]
        exact ⟨_, _, _, _, rfl, rfl, ihp hy hf.1 h2, ihq hz hf.2 h3⟩
      · cases h
    | _ => simp [Sh.parse, inCons] at h
  | agg f s ih =>
    intro A x τ vs h hf hA
    cases A with
    | agg f' b =>
      simp only [Sh.parse, inAgg] at h
      cases hb : Ty.beq f f' with
      | false => simp [hb] at h
      | true =>
        simp only [hb, cond_true] at h
        have e := Ty.eq_of_beq hb
        subst e
        split at h
        · rename_i y hy
          generalize hfit : (s.mk y).fitsT f = bb at h
          cases bb with
          | false => cases h
          | true =>
            simp only [cond_true, Option.some.injEq] at h
            subst h
            simp only [TRep] at hA
            simp only [Sh.mk, TRep]
            exact ⟨hA.1, ih hy hfit hA.2⟩
        · cases h
    | _ => simp [Sh.parse, inAgg] at h
  | _ => intro A x τ vs h hf; simp [Sh.mk, AVal.fitsT] at hf

theorem ARep_parse : ∀ {s : Sh} {A : AVal} {x : s.den} {os : Option Nat} {v : Value}, s.parse A = some x → ARep G w tm os A v → ARep G w tm os (s.mk x) v := by
  intro s
  induction s with
  | val τ' =>
    intro A x os v h hA
    simp only [Sh.parse] at h
    cases hl : τ'.isL with
    | true => simp [hl] at h
    | false =>
      simp only [hl, cond_false] at h
      simp only [Sh.mk, ARep]
      refine as_VRep h hl (ARep_none hA ?_)
      intro τ c e
      subst e
      simp [AVal.as, AVal.asT] at h
  | own t T m => intro A x os v h hA; simp only [Sh.parse] at h; simp only [Sh.mk, ARep]; exact asOwn_rep h hA
  | nl =>
    intro A x os v h hA
    cases A with
    | nl => exact hA
    | _ => simp [Sh.parse, isNlA] at h
  | cons p q ihp ihq =>
    intro A x os v h hA
    cases A with
    | cons a b =>
      simp only [Sh.parse, inCons] at h
      split at h
      · rename_i y z hy hz
        injection h with h
        subst h
        simp only [ARep] at hA
        obtain ⟨u, us, rfl, h2, h3⟩ := hA
        simp only [Sh.mk, ARep]
        exact ⟨u, us, rfl, ihp hy h2, ihq hz h3⟩
      · cases h
    | _ => simp [Sh.parse, inCons] at h
  | agg f s ih =>
    intro A x os v h hA
    cases A with
    | agg f' b =>
      simp only [Sh.parse, inAgg] at h
      cases hb : Ty.beq f f' with
      | false => simp [hb] at h
      | true =>
        simp only [hb, cond_true] at h
        have e := Ty.eq_of_beq hb
        subst e
        split at h
        · rename_i y hy
          generalize hfit : (s.mk y).fitsT f = bb at h
          cases bb with
          | false => cases h
          | true =>
            simp only [cond_true, Option.some.injEq] at h
            subst h
            simp only [ARep] at hA
            obtain ⟨vs, h1, h2⟩ := hA
            simp only [Sh.mk, ARep]
            exact ⟨vs, h1, TRep_parse hy hfit h2⟩
        · cases h
    | _ => simp [Sh.parse, inAgg] at h
  | box f s ih =>
    intro A x os v h hA
    cases A with
    | box f' b =>
      simp only [Sh.parse, inBox] at h
      cases hb : Ty.beq f f' with
      | false => simp [hb] at h
      | true =>
        simp only [hb, cond_true] at h
        have e := Ty.eq_of_beq hb
        subst e
        split at h
        · rename_i y hy
          generalize hfit : (s.mk y).fitsT f = bb at h
          cases bb with
          | false => cases h
          | true =>
            simp only [cond_true, Option.some.injEq] at h
            subst h
            cases os with
            | none => simp only [ARep] at hA
            | some s =>
              simp only [ARep] at hA
              obtain ⟨h1, h2, cur, e, h3, h4, h5⟩ := hA
              simp only [Sh.mk, ARep]
              exact ⟨h1, h2, cur, e, h3, TRep_parse hy hfit h4, h5⟩
        · cases h
    | _ => simp [Sh.parse, inBox] at h
  | ref s τ =>
    intro A x os v h hA
    simp only [Sh.parse] at h
    generalize hr : isRefA s τ A = b at h
    cases b with
    | false => cases h
    | true =>
      cases A with
      | ref s' τ' p =>
        cases p with
        | nil =>
          simp only [isRefA, Bool.and_eq_true] at hr
          have e1 := Nat.eq_of_beq_eq_true hr.1
          have e2 := Ty.eq_of_beq hr.2
          subst e1; subst e2
          exact hA
        | cons _ _ => simp [isRefA] at hr
      | _ => simp [isRefA] at hr
  | tup s ih =>
    intro A x os v h hA
    cases A with
    | tup b => simp only [Sh.parse, inTup] at h; simp only [Sh.mk, ARep] at hA ⊢; exact ih h hA
    | _ => simp [Sh.parse, inTup] at h
  | fn f =>
    intro A x os v h hA
    simp only [Sh.parse] at h
    generalize hr : isFnA f A = b at h
    cases b with
    | false => cases h
    | true =>
      cases A with
      | fn f' cs =>
        cases cs with
        | nl =>
          simp only [isFnA] at hr
          have e1 := Nat.eq_of_beq_eq_true hr
          subst e1
          exact hA
        | _ => simp [isFnA] at hr
      | _ => simp [isFnA] at hr
  | any => intro A x os v _ _; simp only [Sh.mk, ARep]

theorem mk_noOpt : ∀ {s : Sh} {x : s.den}, (s.mk x).hasOpt = false := by
  intro s
  induction s with
  | cons p q ihp ihq => intro x; simp [Sh.mk, AVal.hasOpt, ihp, ihq]
  | tup s ih => intro x; simp [Sh.mk, AVal.hasOpt, ih]
  | _ => intro x; simp [Sh.mk, AVal.hasOpt]

/-- States that are built from plain data. -/
@[reducible] def denL : List (Nat × Sh) → Type
  | [] => Unit
  | (_, s) :: r => s.den × denL r
def mkSt : (l : List (Nat × Sh)) → denL l → St
  | [], _ => []
  | (k, s) :: r, x => (k, s.mk x.1) :: mkSt r x.2
def parseSt : (l : List (Nat × Sh)) → St → Option (denL l)
  | [], _ => some ()
  | (k, s) :: r, S => match s.parse (S.get k), parseSt r S with | some x, some y => some (x, y) | _, _ => none

def cutSt : St := [(cutNo, .junk)]

/-- What is said of a slot is kept, or given up. -/
def Weaker (S' S : St) : Prop := ∀ (s : Nat), ∀ G w tm v, ARep G w tm (some s) (S.get s) v → ARep G w tm (some s) (S'.get s) v

theorem Weaker.rel {S' : St} (h : Weaker S' S) (hR : Rel n χ0 w0 S a w G) : Rel n χ0 w0 S' a w G := ⟨hR.len, hR.defers, fun s => h s _ _ _ _ (hR.reps s), hR.frame⟩

theorem weaker_cut : Weaker cutSt S := by
  intro s G w tm v _
  simp only [cutSt, St.get]
  cases Nat.beq cutNo s <;> simp [ARep]

theorem weaker_parse : ∀ {l : List (Nat × Sh)} {x : denL l} {R : St}, parseSt l S = some x → Weaker R S → Weaker (mkSt l x ++ R) S := by
  intro l
  induction l with
  | nil => intro x R _ h; exact h
  | cons e r ih =>
    intro x R hp h
    obtain ⟨k, s⟩ := e
    simp only [parseSt] at hp
    split at hp
    · rename_i y z hy hz
      injection hp with hp
      subst hp
      intro q G w tm v hA
      simp only [mkSt, List.cons_append, St.get]
      cases hk : Nat.beq k q with
      | true =>
        have := Nat.eq_of_beq_eq_true hk
        subst this
        exact ARep_parse hy hA
      | false =>
        simp only [cond_false]
        cases Nat.beq k cutNo with
        | true => simp only [cond_true, ARep]
        | false => exact ih hz h q G w tm v hA
    · cases hp

theorem get_cut {A : St} (h : St.hasCut A = true) {s : Nat} : (A ++ S).get s = A.get s := by
  induction A with
  | nil => cases h
  | cons e r ih =>
    obtain ⟨k, B⟩ := e
    simp only [List.cons_append, St.get]
    cases Nat.beq k s with
    | true => rfl
    | false =>
      simp only [cond_false]
      cases hc : Nat.beq k cutNo with
      | true => rfl
      | false =>
        simp only [cond_false]
        refine ih ?_
        simpa only [St.hasCut, List.any_cons, hc, Bool.false_or] using h
theorem hasCut_append {A B : St} (h : St.hasCut B = true) : St.hasCut (A ++ B) = true := by
  simp only [St.hasCut, List.any_append, Bool.or_eq_true] at h ⊢; exact .inr h

end Go.Am

/- The abstract machine: code is sound, loops. No condition. -/
namespace Go.Am
open Go Go.RowKit
variable {P : Program} {c : Ctx} {G : Gh} {w : World} {tm : Array Value} {n : Nat} {χ0 : Nat → Nat → Nat} {w0 : World} {S : St} {a : Act}

/-- The slots that are never written hold what they held. -/
def Keeps (ks : List Nat) (vs : Nat → Value) (a : Act) : Prop := ∀ i ∈ ks, a.tmps.getD i undef = vs i

def noWriteOps (ks : List Nat) : List Oper → Bool
  | [] => true
  | o :: r => (match o.dst with | some d => !(ks.any (Nat.beq d)) | none => true) && noWriteOps ks r
def noWrite (ks : List Nat) : Code → Bool
  | .region _ ops _ => noWriteOps ks ops.toList
  | .seq a b => noWrite ks a && noWrite ks b
  | .cond _ a b => noWrite ks a && noWrite ks b
  | .block _ a => noWrite ks a
  | .loop a => noWrite ks a
  | _ => true

theorem noWrite_put {ks : List Nat} {vs : Nat → Value} : ∀ {ops : List Oper}, noWriteOps ks ops = true → ∀ o ∈ ops, ∀ a v, Keeps ks vs a → Keeps ks vs (a.put o.dst v) := by
  intro ops
  induction ops with
  | nil => intro _ o h; cases h
  | cons x r ih =>
    intro h o ho a v hk
    simp only [noWriteOps, Bool.and_eq_true] at h
    rcases List.mem_cons.1 ho with rfl | ho
    · cases hd : o.dst with
      | none => exact hk
      | some d =>
        rw [hd] at h
        simp only [Bool.not_eq_true', List.any_eq_false] at h
        intro i hi
        have hne : d ≠ i := by intro e; subst e; exact h.1 d hi (Nat.beq_refl d)
        rw [← hk i hi]
        simp [Act.put, Array.getElem?_setIfInBounds_ne hne]
    · exact ih h.2 o ho a v hk

/-- What a piece of code comes to. -/
def Sound (P : Program) (c : Ctx) (code : Code) (S : St) (out : Out) : Prop :=
  (∀ q ∈ out.ok, q) → ∀ (χ0 : Nat → Nat → Nat) (w0 : World) (vs : Nat → Value) (a : Act) (w : World) (G : Gh), Rel c.n χ0 w0 S a w G → Keeps c.keep vs a →
    code.wp P (fun e a' w' => Post c.n χ0 w0 S out.comps e a' w' ∧ Keeps c.keep vs a') a w

def LoopsIn (P : Program) (c : Ctx) : Code → Prop
  | .seq a b => LoopsIn P c a ∧ LoopsIn P c b
  | .cond _ a b => LoopsIn P c a ∧ LoopsIn P c b
  | .block _ a => LoopsIn P c a
  | .loop a => ∀ S out, look (fun _ => none) c.loops (firstRegion a) S = some out → Sound P c (.loop a) S out
  | _ => True

theorem post_one {k : Nat} {u : St} {e : Exit} (he : exitKind e = some k) (hR : Rel n χ0 w0 (u ++ S) a w G) : Post n χ0 w0 S [⟨k, none, u⟩] e a w := by
  refine ⟨k, ⟨k, none, u⟩, G, he, by simp [findC], rfl, fun k' c' hf _ => ?_, hR⟩
  simp only [findC] at hf
  cases hb : Nat.beq k k' with
  | true => exact (Nat.eq_of_beq_eq_true hb).symm
  | false => simp [hb] at hf

theorem eval_sound (hc : CtxOk P c) (hm : P.follows .mixedOrders = true) : ∀ {code : Code} {S : St} {out : Out}, LoopsIn P c code → noWrite c.keep code = true → eval c code S = some out → Sound P c code S out := by
  intro code
  induction code with
  | skip =>
    intro S out _ _ h _ χ0 w0 vs a w G hR hk
    simp only [eval, Option.some.injEq] at h
    subst h
    exact wp_skip ⟨post_one rfl hR, hk⟩
  | region id ops draw =>
    intro S out _ hw h hok χ0 w0 vs a w G hR hk
    simp only [eval] at h
    split at h
    · cases h
    · rename_i v hg
      generalize hv : v.all (fun e => Nat.blt e.1 c.n) = bv at h
      cases bv with
      | false => cases h
      | true =>
        simp only [Bool.not_true, cond_false] at h
        split at h
        · rename_i p u hr
          injection h with h
          subst h
          simp only [noWrite] at hw
          obtain ⟨G1, hR1⟩ := ghosts_rel hc.n hR hg fun e he => Nat.blt_eq.mp (List.all_eq_true.1 hv e he)
          exact region_sound (noWrite_put (vs := vs) hw) hc hm hr hok hR1 hk fun a' w' G' hR' hk' => ⟨post_one rfl (by rw [List.append_assoc]; exact hR'), hk'⟩
        · cases h
  | seq x y ihx ihy =>
    intro S out hL hw h hok χ0 w0 vs a w G hR hk
    simp only [LoopsIn] at hL
    simp only [noWrite, Bool.and_eq_true] at hw
    simp only [eval] at h
    split at h
    · cases h
    · rename_i oa ha
      split at h
      · rename_i h0
        injection h with h
        subst h
        refine wp_seq (wp_mono (ihx hL.1 hw.1 ha hok χ0 w0 vs a w G hR hk) fun e a' w' hP => ?_)
        cases e with
        | normal => obtain ⟨⟨k, cp, G', h1, h2, _⟩, _⟩ := hP; simp only [exitKind, Option.some.injEq] at h1; subst h1; rw [h0] at h2; cases h2
        | _ => exact hP
      · rename_i m h0
        split at h
        · cases h
        · rename_i ob hb
          injection h with h
          subst h
          simp only [seqOut, List.mem_append] at hok
          refine wp_seq (wp_mono (ihx hL.1 hw.1 ha (fun q hq => hok q (.inl hq)) χ0 w0 vs a w G hR hk) fun e a' w' hP => ?_)
          obtain ⟨hP, hk'⟩ := hP
          by_cases he : e = .normal
          · subst he
            obtain ⟨k, cp, G', h1, h2, h3, h4, h5⟩ := hP
            simp only [exitKind, Option.some.injEq] at h1
            subst h1
            rw [h0] at h2
            injection h2 with h2
            subst h2
            simp only [Exit.then]
            refine wp_mono (ihy hL.2 hw.2 hb (fun q hq => ?_) χ0 w0 vs a' w' G' h5 hk') fun e'' a'' w'' hP' => ⟨seq_post2 h3 h4 hP'.1, hP'.2⟩
            cases hg : m.g with
            | none => exact hok q (.inr (by simp only [imp, hg]; exact hq))
            | some b =>
              have hb1 : b = true := by rw [hg] at h3; exact h3
              exact impl_of (fun q hq => hok q (.inr (by simp only [imp, hg]; exact hq))) hb1 q hq
          · have hne : exitKind e ≠ some 0 := by
              cases e with
              | normal => exact absurd rfl he
              | exit id => simp [exitKind]
              | _ => simp [exitKind]
            have := seq_post1 (ob := ob) h0 hP hne
            cases e with
            | normal => exact absurd rfl he
            | _ => exact ⟨this, hk'⟩
  | cond x p q ihp ihq =>
    intro S out hL hw h hok χ0 w0 vs a w G hR hk
    simp only [LoopsIn] at hL
    simp only [noWrite, Bool.and_eq_true] at hw
    simp only [eval] at h
    split at h
    · rename_i t hx
      split at h
      · rename_i oa ob ha hb
        injection h with h
        subst h
        have hv : a.eval x = .bool t := by
          have := arg_rep hR x
          rw [hx] at this
          simp only [ARep] at this
          have := (VRep_one rfl).1 this
          simpa only [CRep, List.cons.injEq, and_true] using this
        simp only [condOut, List.mem_append] at hok
        refine wp_cond_split hv (fun ht => ?_) (fun ht => ?_)
        · subst ht
          exact wp_mono (ihp hL.1 hw.1 ha (impl_of (fun q hq => hok q (.inl hq)) rfl) χ0 w0 vs a w G hR hk) fun e a' w' hP => ⟨cond_postT hP.1, hP.2⟩
        · subst ht
          exact wp_mono (ihq hL.2 hw.2 hb (impl_of (fun q hq => hok q (.inr hq)) rfl) χ0 w0 vs a w G hR hk) fun e a' w' hP => ⟨cond_postF hP.1, hP.2⟩
      · cases h
    · cases h
  | block id x ih =>
    intro S out hL hw h hok χ0 w0 vs a w G hR hk
    simp only [LoopsIn] at hL
    simp only [noWrite] at hw
    simp only [eval] at h
    split at h
    · rename_i oa ha
      injection h with h
      subst h
      have hok' : ∀ q ∈ oa.ok, q := by
        intro q hq
        refine hok q ?_
        unfold blockOut
        split <;> exact hq
      refine wp_block (wp_mono (ih hL hw ha hok' χ0 w0 vs a w G hR hk) fun e a' w' hP => ?_)
      have := block_post (id := id) hP.1
      cases e with
      | exit id' =>
        simp only [Exit.inBlock] at this ⊢
        split
        · rename_i e; rw [if_pos e] at this; exact ⟨this, hP.2⟩
        · rename_i e; rw [if_neg e] at this; exact ⟨this, hP.2⟩
      | _ => exact ⟨this, hP.2⟩
    · cases h
  | loop x _ =>
    intro S out hL hw h
    simp only [eval] at h
    exact hL S out h
  | exit id =>
    intro S out _ _ h _ χ0 w0 vs a w G hR hk
    simp only [eval, Option.some.injEq] at h
    subst h
    exact wp_exit ⟨post_one rfl hR, hk⟩
  | ret =>
    intro S out _ _ h _ χ0 w0 vs a w G hR hk
    simp only [eval, Option.some.injEq] at h
    subst h
    exact wp_ret ⟨post_one rfl hR, hk⟩
  | _ => intro S out _ _ h; simp [eval] at h

/-! ### Loops -/

/-- A loop, at most so many rounds. -/
def loopN {X : Type} (g : X → Bool) (next : X → X) : Nat → X → X
  | 0, x => x
  | k + 1, x => bif g x then loopN g next k (next x) else x
def fuel : Nat := 18446744073709551616
def loopEnd {X : Type} (g : X → Bool) (next : X → X) (x : X) : X := loopN g next fuel x
/-- The loop ends behind so many rounds, and asks what it asks in each. -/
def Runs {X : Type} (g : X → Bool) (next : X → X) (ok : X → Prop) : Nat → X → Prop
  | 0, x => ok x ∧ g x = false
  | k + 1, x => ok x ∧ g x = true ∧ Runs g next ok k (next x)
def Ends {X : Type} (g : X → Bool) (next : X → X) (ok : X → Prop) (x : X) : Prop := ∃ k, k < fuel ∧ Runs g next ok k x

theorem Runs.loopN {X : Type} {g : X → Bool} {next : X → X} {ok : X → Prop} : ∀ {k : Nat} {x : X} {F : Nat}, Runs g next ok k x → k < F → g (loopN g next F x) = false ∧ ok (Am.loopN g next F x) := by
  intro k
  induction k with
  | zero =>
    intro x F h hF
    cases F with
    | zero => omega
    | succ F => simp only [Am.loopN, h.2, cond_false]; exact ⟨trivial, h.1⟩
  | succ k ih =>
    intro x F h hF
    cases F with
    | zero => omega
    | succ F => simp only [Am.loopN, h.2.1, cond_true]; exact ih h.2.2 (by omega)

theorem wp_loop_n {cd : Code} {Q : Exit → Act → World → Prop} (I : Nat → Act → World → Prop) {k : Nat} (h₀ : I k a w)
    (round : ∀ k a w, I k a w → cd.wp P (Exit.then (fun a' w' => ∃ m, m < k ∧ I m a' w') Q) a w) : (Code.loop cd).wp P Q a w := by
  intro b kk cs
  have key : ∀ n a w, I n a w → ∃ e a' w', Q e a' w' ∧ Arrives P (lone (b.at a (.code cd :: .inLoop cd :: kk)) cs w) b kk cs e a' w' := by
    intro n
    induction n using Nat.strongRecOn with
    | _ n ih =>
      intro a w hI
      obtain ⟨e, a₁, w₁, hq, harr⟩ := round n a w hI b (.inLoop cd :: kk) cs
      cases e with
      | normal =>
        obtain ⟨m, hlt, hI₁⟩ := hq
        obtain ⟨e₂, a₂, w₂, hq₂, harr₂⟩ := ih m hlt a₁ w₁ hI₁
        exact ⟨e₂, a₂, w₂, hq₂, .of_steps (Steps.trans harr (.one step_inLoop)) harr₂⟩
      | exit id => exact ⟨_, a₁, w₁, hq, .pass (x := .inLoop cd) rfl (fun _ _ => .inl (by simp)) harr⟩
      | goto l => exact ⟨_, a₁, w₁, hq, .pass (x := .inLoop cd) rfl (fun _ _ => .inl (by simp)) harr⟩
      | ret => exact ⟨_, a₁, w₁, hq, .pass (x := .inLoop cd) rfl (fun _ _ => .inl (by simp)) harr⟩
      | panic ch => exact ⟨_, a₁, w₁, hq, .pass (x := .inLoop cd) rfl (fun _ _ => .inl (by simp)) harr⟩
      | outgrown => exact ⟨_, a₁, w₁, hq, .pass (x := .inLoop cd) rfl (fun _ _ => .inl (by simp)) harr⟩
  obtain ⟨e, a', w', hq, harr⟩ := key _ a w h₀
  exact ⟨e, a', w', hq, .of_steps (.one step_loop) harr⟩

/-- The state at a loop's head: what does not turn, what does. -/
def headSt (ly lx : List (Nat × Sh)) (y : denL ly) (x : denL lx) : St := mkSt ly y ++ (mkSt lx x ++ cutSt)

def exitsOf (L : St) (l : List Comp) : List Comp := (dropC 0 l).map fun cp => ⟨cp.kind, cp.g, cp.d ++ L⟩

def loopSpec (ly lx : List (Nat × Sh)) (g : denL ly → denL lx → Bool) (next : denL ly → denL lx → denL lx) (ok : denL ly → denL lx → Prop) (comps : denL ly → denL lx → List Comp) (S : St) : Option Out :=
  match parseSt ly S, parseSt lx S with
  | some y, some x => some ⟨[Ends (g y) (next y) (ok y) x], exitsOf (headSt ly lx y (loopEnd (g y) (next y) x)) (comps y (loopEnd (g y) (next y) x))⟩
  | _, _ => none

theorem head_cut {ly lx : List (Nat × Sh)} {y : denL ly} {x : denL lx} : St.hasCut (headSt ly lx y x) = true := hasCut_append (hasCut_append rfl)

theorem loop_sound (hc : CtxOk P c) (hm : P.follows .mixedOrders = true) {body : Code} (hL : LoopsIn P c body) (hw : noWrite c.keep body = true) {ly lx : List (Nat × Sh)} {g : denL ly → denL lx → Bool} {next : denL ly → denL lx → denL lx}
    {ok : denL ly → denL lx → Prop} {comps : denL ly → denL lx → List Comp} {oks : denL ly → denL lx → List Prop}
    (hbody : ∀ y x, eval c body (headSt ly lx y x) = some ⟨oks y x, comps y x⟩) (hoks : ∀ y x, ok y x → AllP (oks y x))
    (hnext : ∀ y x, ∃ m, findC 0 (comps y x) = some m ∧ tk m.g = g y x ∧ parseSt ly (m.d ++ headSt ly lx y x) = some y ∧ parseSt lx (m.d ++ headSt ly lx y x) = some (next y x)) :
    ∀ S out, loopSpec ly lx g next ok comps S = some out → Sound P c (.loop body) S out := by
  intro S out h hok χ0 w0 vs a w G hR hk
  unfold loopSpec at h
  split at h
  · rename_i y x hy hx
    injection h with h
    subst h
    obtain ⟨k, hkf, hruns⟩ := hok _ (List.mem_cons_self ..)
    have hR0 : Rel c.n χ0 w0 (headSt ly lx y x) a w G := (weaker_parse hy (weaker_parse hx weaker_cut)).rel hR
    refine wp_loop_n (I := fun k a w => ∃ x' G F, Rel c.n χ0 w0 (headSt ly lx y x') a w G ∧ Keeps c.keep vs a ∧ Runs (g y) (next y) (ok y) k x' ∧ k < F ∧ loopN (g y) (next y) F x' = loopEnd (g y) (next y) x) (k := k) ⟨x, G, fuel, hR0, hk, hruns, hkf, rfl⟩ ?_
    rintro k a w ⟨x', G, F, hR, hk, hruns, hF, hend⟩
    have hokx : ok y x' := by cases k with | zero => exact hruns.1 | succ k => exact hruns.1
    refine wp_mono (eval_sound hc hm hL hw (hbody y x') (AllP_iff.1 (hoks y x' hokx)) χ0 w0 vs a w G hR hk) fun e a' w' hP => ?_
    obtain ⟨hP, hk'⟩ := hP
    obtain ⟨m, m1, m2, m3, m4⟩ := hnext y x'
    obtain ⟨q, cp, G', h1, h2, h3, h4, h5⟩ := hP
    by_cases he : e = .normal
    · subst he
      simp only [exitKind, Option.some.injEq] at h1
      subst h1
      rw [m1] at h2
      injection h2 with h2
      subst h2
      rw [m2] at h3
      cases k with
      | zero => rw [hruns.2] at h3; cases h3
      | succ k =>
        simp only [Exit.then]
        cases F with
        | zero => omega
        | succ F =>
          refine ⟨k, by omega, next y x', G', F, (weaker_parse m3 (weaker_parse m4 weaker_cut)).rel h5, hk', hruns.2.2, by omega, ?_⟩
          rw [← hend, Am.loopN, h3, cond_true]
    · have hq : q ≠ 0 := by
        intro e0
        subst e0
        cases e <;> simp [exitKind] at h1 he
      have hg : g y x' = false := by
        cases hg : g y x' with
        | false => rfl
        | true => rw [← m2] at hg; exact absurd (h4 0 m m1 hg).symm hq
      have hfin : x' = loopEnd (g y) (next y) x := by
        rw [← hend]
        cases F with
        | zero => omega
        | succ F => rw [Am.loopN, hg, cond_false]
      subst hfin
      have hq0 : Nat.beq q 0 = false := by cases q with | zero => exact absurd rfl hq | succ q => rfl
      have hfind : ∀ k', findC k' (exitsOf (headSt ly lx y (loopEnd (g y) (next y) x)) (comps y (loopEnd (g y) (next y) x))) = (bif Nat.beq k' 0 then none else findC k' (comps y (loopEnd (g y) (next y) x))).map fun cp => ⟨cp.kind, cp.g, cp.d ++ headSt ly lx y (loopEnd (g y) (next y) x)⟩ := by
        intro k'
        unfold exitsOf
        rw [findC_map (f := fun cp => ⟨cp.kind, cp.g, cp.d ++ headSt ly lx y (loopEnd (g y) (next y) x)⟩) (fun _ => rfl), findC_drop]
      have hpost : Post c.n χ0 w0 S (exitsOf (headSt ly lx y (loopEnd (g y) (next y) x)) (comps y (loopEnd (g y) (next y) x))) e a' w' := by
        refine ⟨q, ⟨cp.kind, cp.g, cp.d ++ headSt ly lx y (loopEnd (g y) (next y) x)⟩, G', h1, ?_, h3, fun k' c' hf ht => ?_, ?_⟩
        · rw [hfind, hq0, cond_false, h2]; rfl
        · rw [hfind] at hf
          cases hk' : Nat.beq k' 0 with
          | true => simp [hk'] at hf
          | false =>
            simp only [hk', cond_false] at hf
            cases hx : findC k' (comps y (loopEnd (g y) (next y) x)) with
            | none => simp [hx] at hf
            | some z => simp only [hx, Option.map_some, Option.some.injEq] at hf; subst hf; exact h4 k' z hx ht
        · exact Rel_congr (fun s => get_cut (hasCut_append head_cut)) h5
      cases e with
      | normal => exact absurd rfl he
      | _ => exact ⟨hpost, hk'⟩
  · cases h

end Go.Am

/- The abstract machine: a function's contract out of its body. No condition. -/
namespace Go.Am
open Go Go.RowKit
variable {P : Program} {c : Ctx} {G : Gh} {w : World} {tm : Array Value} {n : Nat} {χ0 : Nat → Nat → Nat} {w0 : World} {S : St} {a : Act}

def resA1 (c : Ctx) (S : St) : ResultVar → Option AVal
  | .tmp t => some (arg S (.tmp t))
  | .cell r T => match loadA c T (arg S (.tmp r)) (content S (arg S (.tmp r))) with | some ([], A) => some A | _ => none
def resAll (c : Ctx) (S : St) : List ResultVar → Option AVal
  | [] => some (.tup .nl)
  | [r] => resA1 c S r
  | [r, s] => match resA1 c S r, resA1 c S s with | some A, some B => some (.tup (.cons A (.cons B .nl))) | _, _ => none
  | [r, s, t] => match resA1 c S r, resA1 c S s, resA1 c S t with | some A, some B, some C => some (.tup (.cons A (.cons B (.cons C .nl)))) | _, _, _ => none
  | [r, s, t, u] => match resA1 c S r, resA1 c S s, resA1 c S t, resA1 c S u with | some A, some B, some C, some D => some (.tup (.cons A (.cons B (.cons C (.cons D .nl))))) | _, _, _, _ => none
  | _ => none

def resSem (tmps : Array Value) : ResultVar → Sem Value
  | .tmp t => pure (tmps.getD t undef)
  | .cell a t => do loadVar t (← asAddr (tmps.getD a undef))

theorem resA1_sound (hc : CtxOk P c) (hR : Rel n χ0 w0 S a w G) {r : ResultVar} {A : AVal} (h : resA1 c S r = some A) : ∃ v, (resSem a.tmps r).run P w = .ok v w ∧ ARep G w a.tmps none A v := by
  cases r with
  | tmp t =>
    simp only [resA1, Option.some.injEq] at h
    subst h
    exact ⟨_, rfl, arg_rep hR (.tmp t)⟩
  | cell r T =>
    simp only [resA1] at h
    split at h
    · rename_i A' hl
      injection h with h
      subst h
      have hx := arg_rep hR (.tmp r)
      obtain ⟨u, h1, h2⟩ := loadA_sound hc.tys hx (fun s hs => ⟨_, by
        have := hR.reps s
        cases hA : arg S (.tmp r) <;> simp [hA, refSlot] at hs <;> (subst hs; simpa [content, hA] using this)⟩) hl (fun q hq => by cases hq)
      refine ⟨u, ?_, h2⟩
      simp only [resSem]
      have hv : a.eval (.tmp r) = a.tmps.getD r undef := rfl
      rw [hv] at h1
      cases hvv : a.tmps.getD r undef with
      | pointer p =>
        cases p with
        | none => rw [hvv] at h1; simp [Instr.loadAt, Instr.sureAddr] at h1
        | some ad => rw [hvv] at h1; simpa [Instr.loadAt, Instr.sureAddr, asAddr] using h1
      | _ => rw [hvv] at h1; simp [Instr.loadAt, Instr.sureAddr] at h1
    · cases h

theorem resAll_sound (hc : CtxOk P c) (hR : Rel n χ0 w0 S a w G) {fn : Func} {A : AVal} (h : resAll c S fn.results.toList = some A) : ∃ v, (results fn a.tmps).run P w = .ok v w ∧ ARep G w a.tmps none A v := by
  have hfn : fn.results = fn.results.toList.toArray := by simp
  generalize fn.results.toList = l at h hfn
  have hsem : results fn a.tmps = (do let vs ← fn.results.mapM (resSem a.tmps); pure (if h : vs.size = 1 then vs[0] else .tuple vs)) := by
    unfold results
    congr 1
  rw [hsem, hfn]
  match l, h with
  | [], h => simp only [resAll, Option.some.injEq] at h; subst h; exact ⟨.tuple #[], by simp, by simp only [ARep]⟩
  | [r], h =>
    obtain ⟨v, h1, h2⟩ := resA1_sound hc hR h
    exact ⟨v, by simp [h1], h2⟩
  | [r, s], h =>
    simp only [resAll] at h
    split at h
    · rename_i A' B hA hB
      injection h with h; subst h
      obtain ⟨v, h1, h2⟩ := resA1_sound hc hR hA
      obtain ⟨v', h1', h2'⟩ := resA1_sound hc hR hB
      exact ⟨.tuple #[v, v'], by simp [h1, h1'], by simp only [ARep]; exact ⟨v, [v'], rfl, h2, v', [], rfl, h2', rfl⟩⟩
    · cases h
  | [r, s, t], h =>
    simp only [resAll] at h
    split at h
    · rename_i A' B C hA hB hC
      injection h with h; subst h
      obtain ⟨v, h1, h2⟩ := resA1_sound hc hR hA
      obtain ⟨v', h1', h2'⟩ := resA1_sound hc hR hB
      obtain ⟨v'', h1'', h2''⟩ := resA1_sound hc hR hC
      exact ⟨.tuple #[v, v', v''], by simp [h1, h1', h1''], by simp only [ARep]; exact ⟨v, [v', v''], rfl, h2, v', [v''], rfl, h2', v'', [], rfl, h2'', rfl⟩⟩
    · cases h
  | [r, s, t, u], h =>
    simp only [resAll] at h
    split at h
    · rename_i A' B C D hA hB hC hD
      injection h with h; subst h
      obtain ⟨v, h1, h2⟩ := resA1_sound hc hR hA
      obtain ⟨v', h1', h2'⟩ := resA1_sound hc hR hB
      obtain ⟨v'', h1'', h2''⟩ := resA1_sound hc hR hC
      obtain ⟨v3, h13, h23⟩ := resA1_sound hc hR hD
      exact ⟨.tuple #[v, v', v'', v3], by simp [h1, h1', h1'', h13], by simp only [ARep]; exact ⟨v, [v', v'', v3], rfl, h2, v', [v'', v3], rfl, h2', v'', [v3], rfl, h2'', v3, [], rfl, h23, rfl⟩⟩
    · cases h
  | _ :: _ :: _ :: _ :: _ :: _, h => simp [resAll] at h

/-- What is left where a function ends, by return or behind its last statement. -/
def finSt (S : St) (l : List Comp) : Option St :=
  bif l.all (fun x => Nat.ble x.kind 1) then
    match findC 0 l, findC 1 l with
    | none, some r => some r.d
    | some m, none => some m.d
    | some m, some r => some (merge2 (tk r.g) r.d m.d S)
    | none, none => none
  else none

theorem findC_mem {k : Nat} {x : Comp} : ∀ {l : List Comp}, findC k l = some x → x ∈ l := by
  intro l
  induction l with
  | nil => intro h; cases h
  | cons y r ih =>
    intro h
    simp only [findC] at h
    cases hb : Nat.beq y.kind k with
    | true => simp only [hb, cond_true, Option.some.injEq] at h; subst h; exact List.mem_cons_self ..
    | false => simp only [hb, cond_false] at h; exact List.mem_cons_of_mem _ (ih h)

theorem fin_post {l : List Comp} {d : St} {e : Exit} (h : finSt S l = some d) (hP : Post n χ0 w0 S l e a w) : (e = .normal ∨ e = .ret) ∧ ∃ G, Rel n χ0 w0 (d ++ S) a w G := by
  obtain ⟨k, cp, G, h1, h2, h3, h4, h5⟩ := hP
  unfold finSt at h
  generalize hall : l.all (fun x => Nat.ble x.kind 1) = b at h
  cases b with
  | false => cases h
  | true =>
    simp only [cond_true] at h
    have hk : k ≤ 1 := by
      have := List.all_eq_true.1 hall cp (findC_mem h2)
      rw [findC_kind h2] at this
      exact Nat.le_of_ble_eq_true this
    have he : e = .normal ∨ e = .ret := by
      cases e with
      | normal => exact .inl rfl
      | ret => exact .inr rfl
      | exit id => simp only [exitKind, Option.some.injEq] at h1; omega
      | _ => simp [exitKind] at h1
    refine ⟨he, G, ?_⟩
    generalize h0 : findC 0 l = o0 at h
    generalize h1' : findC 1 l = o1 at h
    obtain rfl | rfl : k = 0 ∨ k = 1 := by omega
    · have := h0.symm.trans h2
      subst this
      cases o1 with
      | none => injection h with h; subst h; exact h5
      | some r =>
        injection h with h; subst h
        have : tk r.g = false := by
          cases hx : tk r.g with
          | false => rfl
          | true => have := h4 1 r h1' hx; omega
        rw [this]
        exact merge2_relF h5
    · have := h1'.symm.trans h2
      subst this
      cases o0 with
      | none => injection h with h; subst h; exact h5
      | some m =>
        injection h with h; subst h
        rw [h3]
        exact merge2_relT h5

/-! ### Contracts -/

def argSt : Nat → List AVal → St
  | _, [] => []
  | i, A :: r => (i, A) :: argSt (i + 1) r

/-- The boxes that come back: their slots and types. -/
@[reducible] def denO : List (Nat × Ty) → Type
  | [] => Unit
  | (_, τ) :: r => τ.den × denO r
def mkO : (l : List (Nat × Ty)) → denO l → List (Nat × AVal)
  | [], _ => []
  | (i, τ) :: r, x => (i, .val τ x.1) :: mkO r x.2
def parseO : (l : List (Nat × Ty)) → St → Option (denO l)
  | [], _ => some ()
  | (i, τ) :: r, S => match (Sh.box τ (.val τ)).parse (S.get i), parseO r S with | some x, some y => some (x, y) | _, _ => none

def fnSpec (ps : List (Nat × Sh)) (rs : Sh) (os : List (Nat × Ty)) (ok : denL ps → Prop) (f : denL ps → rs.den) (o : denL ps → denO os) : Spec := fun args =>
  bif Nat.beq args.length ps.length then
    match parseSt ps (argSt 0 args) with
    | some x => some ⟨[ok x], rs.mk (f x), mkO os (o x), []⟩
    | none => none
  else none

/-- The parameters are told in their order; the boxes that come back are parameters that are never written. -/
def psOk : Nat → List (Nat × Sh) → Bool
  | _, [] => true
  | i, (k, _) :: r => Nat.beq k i && psOk (i + 1) r
def osOk (ps : List (Nat × Sh)) (keep : List Nat) (os : List (Nat × Ty)) : Bool :=
  os.all fun e => keep.any (Nat.beq e.1) && (match ps[e.1]? with | some (_, .box τ _) => Ty.beq e.2 τ | _ => false)

theorem argSt_get {s : Nat} : ∀ {args : List AVal} {i : Nat}, i ≤ s → s < i + args.length → i + args.length ≤ cutNo → some ((argSt i args).get s) = args[s - i]? := by
  intro args
  induction args with
  | nil => intro i h1 h2; simp at h2; omega
  | cons A r ih =>
    intro i h1 h2 h3
    simp only [List.length_cons] at h2 h3
    simp only [argSt, St.get]
    by_cases e : i = s
    · subst e; simp
    · have hb : Nat.beq i s = false := by cases hb : Nat.beq i s with | false => rfl | true => exact absurd (Nat.eq_of_beq_eq_true hb) e
      have hc : Nat.beq i cutNo = false := by cases hb : Nat.beq i cutNo with | false => rfl | true => have := Nat.eq_of_beq_eq_true hb; omega
      rw [hb, hc, cond_false, cond_false, ih (by omega) (by omega) (by omega)]
      rw [show s - i = (s - (i + 1)) + 1 by omega]
      simp
theorem argSt_out {s : Nat} : ∀ {args : List AVal} {i : Nat}, i + args.length ≤ s ∨ s < i → (argSt i args).get s = .junk := by
  intro args
  induction args with
  | nil => intro i _; rfl
  | cons A r ih =>
    intro i h
    simp only [List.length_cons] at h
    simp only [argSt, St.get]
    have hb : Nat.beq i s = false := by cases hb : Nat.beq i s with | false => rfl | true => have := Nat.eq_of_beq_eq_true hb; omega
    rw [hb, cond_false]
    cases Nat.beq i cutNo with
    | true => rfl
    | false => exact ih (by omega)

theorem parseSt_at {S : St} : ∀ {ps : List (Nat × Sh)} {x : denL ps} {k : Nat} {i : Nat} {s : Sh}, parseSt ps S = some x → ps[k]? = some (i, s) → ∃ y, s.parse (S.get i) = some y := by
  intro ps
  induction ps with
  | nil => intro x k i s _ h; simp at h
  | cons e r ih =>
    intro x k i s hp hk
    obtain ⟨j, t⟩ := e
    simp only [parseSt] at hp
    split at hp
    · rename_i y z hy hz
      cases k with
      | zero => simp only [List.getElem?_cons_zero, Option.some.injEq, Prod.mk.injEq] at hk; obtain ⟨rfl, rfl⟩ := hk; exact ⟨y, hy⟩
      | succ k => exact ih hz (by simpa using hk)
    · cases hp

theorem psOk_at : ∀ {ps : List (Nat × Sh)} {i k j : Nat} {s : Sh}, psOk i ps = true → ps[k]? = some (j, s) → j = i + k := by
  intro ps
  induction ps with
  | nil => intro i k j s _ h; simp at h
  | cons e r ih =>
    intro i k j s h hk
    obtain ⟨q, t⟩ := e
    simp only [psOk, Bool.and_eq_true] at h
    cases k with
    | zero => simp only [List.getElem?_cons_zero, Option.some.injEq, Prod.mk.injEq] at hk; obtain ⟨rfl, rfl⟩ := hk; exact Nat.eq_of_beq_eq_true h.1
    | succ k => have := ih h.2 (by simpa using hk); omega

theorem parseO_at {S : St} {i : Nat} {k : AVal} : ∀ {os : List (Nat × Ty)} {x : denO os}, parseO os S = some x → (i, k) ∈ mkO os x → ∃ τ y, (i, τ) ∈ os ∧ k = .val τ y ∧ (Sh.box τ (.val τ)).parse (S.get i) = some y := by
  intro os
  induction os with
  | nil => intro x _ h; cases h
  | cons e r ih =>
    intro x hp hk
    obtain ⟨j, τ⟩ := e
    simp only [parseO] at hp
    split at hp
    · rename_i y z hy hz
      injection hp with hp
      subst hp
      simp only [mkO] at hk
      rcases List.mem_cons.1 hk with h | h
      · simp only [Prod.mk.injEq] at h
        obtain ⟨rfl, rfl⟩ := h
        exact ⟨τ, y, List.mem_cons_self .., rfl, hy⟩
      · obtain ⟨τ', y', h1, h2, h3⟩ := ih hz h
        exact ⟨τ', y', List.mem_cons_of_mem _ h1, h2, h3⟩
    · cases hp

def startSt (ps : List (Nat × Sh)) (x : denL ps) : St := mkSt ps x ++ cutSt

theorem mkSt_noOpt : ∀ {ps : List (Nat × Sh)} {x : denL ps}, ∀ e ∈ startSt ps x, e.2.hasOpt = false := by
  intro ps
  induction ps with
  | nil => intro x e he; simp only [startSt, mkSt, cutSt, List.nil_append, List.mem_singleton] at he; subst he; rfl
  | cons q r ih =>
    intro x e he
    obtain ⟨k, s⟩ := q
    simp only [startSt, mkSt, List.cons_append] at he
    rcases List.mem_cons.1 he with h | h
    · subst h; exact mk_noOpt
    · exact ih e h

theorem func_sound (hc : CtxOk P c) (hm : P.follows .mixedOrders = true) {f : Nat} {fn : Func} {code : Code} (hf : P.funcs[f]? = some fn) (hb : fn.body = some code) (hname : fn.name ≠ "runtime.NumGoroutine") (hn : fn.ntmps = c.n)
    (hL : LoopsIn P c code) (hw : noWrite c.keep code = true) {ps : List (Nat × Sh)} {rs : Sh} {os : List (Nat × Ty)} {ok : denL ps → Prop} {F : denL ps → rs.den} {o : denL ps → denO os}
    {oks : denL ps → List Prop} {comps : denL ps → List Comp} {d : denL ps → St} {res : denL ps → AVal} (hps : (psOk 0 ps && osOk ps c.keep os && Nat.ble ps.length c.n) = true)
    (heval : ∀ x, eval c code (startSt ps x) = some ⟨oks x, comps x⟩) (hoks : ∀ x, ok x → AllP (oks x))
    (hfin : ∀ x, finSt (startSt ps x) (comps x) = some (d x)) (hres : ∀ x, resAll c (d x ++ startSt ps x) fn.results.toList = some (res x)) (hpar : ∀ x, rs.parse (res x) = some (F x))
    (hout : ∀ x, parseO os (d x ++ startSt ps x) = some (o x)) : SpecOk P f (fnSpec ps rs os ok F o) := by
  simp only [Bool.and_eq_true] at hps
  obtain ⟨⟨hps1, hps2⟩, hps3⟩ := hps
  have hps3 : ps.length ≤ c.n := Nat.le_of_ble_eq_true hps3
  refine ⟨⟨fn, hf, by rw [hb]; rfl, hname⟩, fun args co hsp hok G w vals hlen hreps => ?_⟩
  unfold fnSpec at hsp
  generalize hal : Nat.beq args.length ps.length = b at hsp
  cases b with
  | false => cases hsp
  | true =>
    have hal := Nat.eq_of_beq_eq_true hal
    simp only [cond_true] at hsp
    split at hsp
    · rename_i x hx
      injection hsp with hsp
      subst hsp
      have hokx : ok x := hok _ (List.mem_cons_self ..)
      refine calls_of_wp hf hb ?_
      generalize hact : ({ tmps := vals.toArray ++ Array.replicate (fn.ntmps - vals.toArray.size) undef, defers := [] } : Act) = act
      have hget : ∀ s, s < vals.length → act.tmps.getD s undef = vals.getD s undef := by
        intro s hs
        rw [← hact]
        simp [Array.getElem?_append, hs]
      have hcn := hc.n
      have hrel : Rel c.n G.χ w (startSt ps x) act w G := by
        refine ⟨?_, by rw [← hact], fun s => ?_, ⟨rfl, rfl, rfl, Nat.le_refl _, fun _ _ _ => rfl, fun _ _ _ _ => ⟨rfl, rfl⟩⟩⟩
        · rw [← hact]; simp; omega
        · have key : ARep G w #[] (some s) ((startSt ps x).get s) (act.tmps.getD s undef) := by
            refine weaker_parse hx weaker_cut s G w #[] _ ?_
            by_cases hs : s < args.length
            · have h1 := argSt_get (s := s) (args := args) (i := 0) (by omega) (by omega) (by omega)
              simp only [Nat.sub_zero] at h1
              have h2 : vals[s]? = some (vals.getD s undef) := by simp [List.getElem?_eq_getElem (show s < vals.length by omega)]
              rw [hget s (by omega)]
              exact hreps s _ _ h1.symm h2
            · rw [argSt_out (.inl (by omega))]; simp only [ARep]
          refine ARep_tm (fun k hk => ?_) key
          have := get_mem_all (q := fun A => A.hasOpt = false) rfl (S := startSt ps x) (s := s) mkSt_noOpt
          rw [noOpt_hung this] at hk
          cases hk
      refine wp_mono (eval_sound hc hm hL hw (heval x) (AllP_iff.1 (hoks x hokx)) G.χ w (fun i => act.tmps.getD i undef) act w G hrel (fun i _ => rfl)) fun e a' w' hP => ?_
      obtain ⟨hP, hk⟩ := hP
      obtain ⟨he, G', hR⟩ := fin_post (hfin x) hP
      obtain ⟨v, hv1, hv2⟩ := resAll_sound hc hR (hres x)
      have hfinal : a'.defers = [] ∧ ∃ v, (results fn a'.tmps).run P w' = .ok v w' ∧ ∃ v' G', Ending.returned v = .returned v' ∧ Frame0 G.χ w G'.χ w' ∧ ARep G' w' #[] none (rs.mk (F x)) v' ∧
          (∀ (i : Nat) k τ k0 u, (i, k) ∈ mkO os (o x) → args[i]? = some (.box τ k0) → vals[i]? = some u → ARep G' w' #[] (some i) (.box τ k) u ∧ G'.β i = G.β i) := by
        refine ⟨hR.defers, v, hv1, v, G', rfl, hR.frame, ?_, ?_⟩
        · refine ARep_tm (fun k hk => ?_) (ARep_parse (hpar x) hv2)
          rw [noOpt_hung mk_noOpt] at hk; cases hk
        · intro i k τ k0 u hi ha hu
          obtain ⟨τ', y, h1, rfl, h3⟩ := parseO_at (hout x) hi
          simp only [osOk, List.all_eq_true, Bool.and_eq_true] at hps2
          have h4 := hps2 _ h1
          simp only at h4
          have hrep := ARep_parse h3 (hR.reps i)
          have hilt : i < args.length := (List.getElem?_eq_some_iff.1 ha).1
          have hkeep : a'.tmps.getD i undef = u := by
            obtain ⟨j, hj, hjb⟩ := List.any_eq_true.1 h4.1
            have := Nat.eq_of_beq_eq_true hjb
            subst this
            rw [hk i hj]
            show act.tmps.getD i undef = u
            rw [hget i (by omega)]
            simp [hu]
          rw [hkeep] at hrep
          have hτ : τ' = τ := by
            split at h4
            · rename_i j τ2 s2 hpi
              have := Ty.eq_of_beq h4.2
              subst this
              have hj := psOk_at hps1 hpi
              simp only [Nat.zero_add] at hj
              subst hj
              obtain ⟨z, hz⟩ := parseSt_at hx hpi
              have h1 := argSt_get (s := j) (args := args) (i := 0) (by omega) (by omega) (by omega)
              simp only [Nat.sub_zero, ha, Option.some.injEq] at h1
              rw [h1] at hz
              simp only [Sh.parse, inBox] at hz
              cases hbq : Ty.beq τ' τ with
              | true => exact Ty.eq_of_beq hbq
              | false => simp [hbq] at hz
            · simp at h4
          subst hτ
          have h0 := hreps i _ _ ha hu
          simp only [Sh.mk] at hrep
          refine ⟨ARep_tm (fun k hk => ?_) hrep, ?_⟩
          · simp [AVal.hung] at hk
          · simp only [ARep] at h0 hrep
            have := h0.1.symm.trans hrep.1
            simp only [Value.pointer.injEq, Option.some.injEq, Addr.mk.injEq] at this
            exact this.1.symm
      rcases he with rfl | rfl
      · exact hfinal
      · exact hfinal
    · cases hsp

end Go.Am

/- The abstract machine: a loop and a function, summed up by one equation each. No condition. -/
namespace Go.Am
open Go Go.RowKit
variable {P : Program} {c : Ctx}

/-- The exits of a loop, each with what is still wanted. -/
def sumE (H : St) : List Comp → List (List (Nat × Sh)) → Option (List Comp)
  | [], [] => some []
  | cp :: r, l :: s => match parseSt l (cp.d ++ H), sumE H r s with
    | some z, some q => some (⟨cp.kind, cp.g, mkSt l z ++ cutSt⟩ :: q)
    | _, _ => none
  | _, _ => none

/-- A loop with one exit leaves by it, surely. -/
def sumX (H : St) (l : List Comp) (ls : List (List (Nat × Sh))) : Option (List Comp) :=
  match sumE H l ls with
  | some [q] => some [⟨q.kind, none, q.d⟩]
  | r => r

def sumLoop (c : Ctx) (body : Code) (ly lx : List (Nat × Sh)) (les : List (List (Nat × Sh))) (y : denL ly) (x : denL lx) : Option (Prop × Bool × denL ly × denL lx × List Comp) :=
  match eval c body (headSt ly lx y x) with
  | none => none
  | some o => match findC 0 o.comps with
    | none => none
    | some m => match parseSt ly (m.d ++ headSt ly lx y x), parseSt lx (m.d ++ headSt ly lx y x), sumX (headSt ly lx y x) (dropC 0 o.comps) les with
      | some y', some x', some es => some (AllP o.ok, tk m.g, y', x', es)
      | _, _, _ => none

def loopS (ly lx : List (Nat × Sh)) (g : denL ly → denL lx → Bool) (next : denL ly → denL lx → denL lx) (ok : denL ly → denL lx → Prop) (es : denL ly → denL lx → List Comp) (S : St) : Option Out :=
  match parseSt ly S, parseSt lx S with
  | some y, some x => some ⟨[Ends (g y) (next y) (ok y) x], es y (loopEnd (g y) (next y) x)⟩
  | _, _ => none

theorem sumE_at {H : St} {k : Nat} : ∀ {l : List Comp} {ls : List (List (Nat × Sh))} {es : List Comp}, sumE H l ls = some es →
    (findC k es = none ∧ findC k l = none) ∨ ∃ cp cp', findC k l = some cp ∧ findC k es = some cp' ∧ cp'.g = cp.g ∧ St.hasCut cp'.d = true ∧ Weaker cp'.d (cp.d ++ H) := by
  intro l
  induction l with
  | nil => intro ls es h; cases ls <;> simp [sumE] at h; subst h; exact .inl ⟨rfl, rfl⟩
  | cons cp r ih =>
    intro ls es h
    cases ls with
    | nil => simp [sumE] at h
    | cons s ls =>
      simp only [sumE] at h
      split at h
      · rename_i z q hz hq
        injection h with h
        subst h
        simp only [findC]
        cases Nat.beq cp.kind k with
        | true => exact .inr ⟨cp, _, rfl, rfl, rfl, hasCut_append rfl, weaker_parse hz weaker_cut⟩
        | false => exact ih hq
      · cases h

theorem sumX_at {H : St} {k : Nat} {l : List Comp} {ls : List (List (Nat × Sh))} {es : List Comp} (h : sumX H l ls = some es) :
    (findC k es = none ∧ findC k l = none) ∨ ∃ cp cp', findC k l = some cp ∧ findC k es = some cp' ∧ (cp'.g = cp.g ∨ (cp'.g = none ∧ ∀ k' c', findC k' l = some c' → k' = k)) ∧ St.hasCut cp'.d = true ∧ Weaker cp'.d (cp.d ++ H) := by
  unfold sumX at h
  split at h
  · rename_i q hq
    injection h with h
    subst h
    have hone : ∀ k', findC k' [q] = none → findC k' l = none := fun k' h' => by
      rcases sumE_at (k := k') hq with ⟨_, h2⟩ | ⟨cp, cp', _, h2, _⟩
      · exact h2
      · rw [h'] at h2; cases h2
    rcases sumE_at (k := k) hq with ⟨h1, h2⟩ | ⟨cp, cp', h1, h2, h3, h4, h5⟩
    · left
      refine ⟨?_, h2⟩
      simp only [findC] at h1 ⊢
      cases hb : Nat.beq q.kind k with
      | true => simp [hb] at h1
      | false => rfl
    · right
      have hqk := h2
      simp only [findC] at hqk
      cases hb : Nat.beq q.kind k with
      | false => simp [hb] at hqk
      | true =>
        simp only [hb, cond_true, Option.some.injEq] at hqk
        subst hqk
        refine ⟨cp, ⟨q.kind, none, q.d⟩, h1, by simp only [findC, hb, cond_true], .inr ⟨rfl, fun k' c' hf => ?_⟩, h4, h5⟩
        cases hb' : Nat.beq q.kind k' with
        | true => rw [← Nat.eq_of_beq_eq_true hb', Nat.eq_of_beq_eq_true hb]
        | false =>
          have := hone k' (by simp only [findC, hb', cond_false])
          rw [this] at hf; cases hf
  · rename_i r _
    rcases sumE_at (k := k) h with h1 | ⟨cp, cp', h1, h2, h3, h4, h5⟩
    · exact .inl h1
    · exact .inr ⟨cp, cp', h1, h2, .inl h3, h4, h5⟩

theorem loop_sum (hc : CtxOk P c) (hm : P.follows .mixedOrders = true) {body : Code} (hL : LoopsIn P c body) (hw : noWrite c.keep body = true) {ly lx : List (Nat × Sh)} {les : List (List (Nat × Sh))} {g : denL ly → denL lx → Bool} {next : denL ly → denL lx → denL lx}
    {ok : denL ly → denL lx → Prop} {es : denL ly → denL lx → List Comp} (hsum : ∀ y x, sumLoop c body ly lx les y x = some (ok y x, g y x, y, next y x, es y x)) :
    ∀ S out, loopS ly lx g next ok es S = some out → Sound P c (.loop body) S out := by
  intro S out h hok χ0 w0 vs a w G hR hk
  unfold loopS at h
  split at h
  · rename_i y x hy hx
    injection h with h
    subst h
    -- the equation, opened
    have hopen : ∀ y x, ∃ o m, eval c body (headSt ly lx y x) = some o ∧ findC 0 o.comps = some m ∧ AllP o.ok = ok y x ∧ tk m.g = g y x ∧ parseSt ly (m.d ++ headSt ly lx y x) = some y ∧ parseSt lx (m.d ++ headSt ly lx y x) = some (next y x) ∧ sumX (headSt ly lx y x) (dropC 0 o.comps) les = some (es y x) := by
      intro y x
      have := hsum y x
      unfold sumLoop at this
      split at this
      · cases this
      · rename_i o ho
        split at this
        · cases this
        · rename_i m hm
          split at this
          · rename_i y' x' es' h1 h2 h3
            simp only [Option.some.injEq, Prod.mk.injEq] at this
            obtain ⟨e1, e2, rfl, rfl, rfl⟩ := this
            exact ⟨o, m, ho, hm, e1, e2, h1, h2, h3⟩
          · cases this
    let O : denL ly → denL lx → Out := fun y x => (eval c body (headSt ly lx y x)).getD ⟨[], []⟩
    have hO : ∀ y x, eval c body (headSt ly lx y x) = some (O y x) := by
      intro y x
      obtain ⟨o, m, h1, _⟩ := hopen y x
      simp only [O, h1, Option.getD_some]
    have hspec : loopSpec ly lx g next ok (fun y x => (O y x).comps) S = some ⟨[Ends (g y) (next y) (ok y) x], exitsOf (headSt ly lx y (loopEnd (g y) (next y) x)) (O y (loopEnd (g y) (next y) x)).comps⟩ := by
      unfold loopSpec
      rw [hy, hx]
    have hsnd := loop_sound hc hm hL hw (g := g) (next := next) (ok := ok) (comps := fun y x => (O y x).comps) (oks := fun y x => (O y x).ok) hO (fun y x hx => by
      obtain ⟨o, m, h1, h2, h3, _⟩ := hopen y x
      have := hO y x
      rw [h1] at this
      injection this with this
      rw [← this, h3]; exact hx) (fun y x => by
      obtain ⟨o, m, h1, h2, h3, h4, h5, h6, h7⟩ := hopen y x
      have := hO y x
      rw [h1] at this
      injection this with this
      exact ⟨m, by rw [← this]; exact h2, h4, h5, h6⟩) S _ hspec hok χ0 w0 vs a w G hR hk
    refine wp_mono hsnd fun e a' w' hP => ⟨?_, hP.2⟩
    obtain ⟨k, cp, G', q1, q2, q3, q4, q5⟩ := hP.1
    obtain ⟨o, m, h1, h2, h3, h4, h5, h6, h7⟩ := hopen y (loopEnd (g y) (next y) x)
    have hoo := hO y (loopEnd (g y) (next y) x)
    rw [h1] at hoo
    injection hoo with hoo
    have hfind : ∀ k', findC k' (exitsOf (headSt ly lx y (loopEnd (g y) (next y) x)) (O y (loopEnd (g y) (next y) x)).comps) = (findC k' (dropC 0 o.comps)).map fun cp => ⟨cp.kind, cp.g, cp.d ++ headSt ly lx y (loopEnd (g y) (next y) x)⟩ := by
      intro k'
      unfold exitsOf
      rw [findC_map (f := fun cp => ⟨cp.kind, cp.g, cp.d ++ headSt ly lx y (loopEnd (g y) (next y) x)⟩) (fun _ => rfl), hoo]
    rw [hfind] at q2
    rcases sumX_at (k := k) h7 with ⟨_, e2⟩ | ⟨c1, c2, e1, e2, e3, e4, e5⟩
    · rw [e2] at q2; cases q2
    · rw [e1] at q2
      simp only [Option.map_some, Option.some.injEq] at q2
      subst q2
      have htk : tk c2.g = true := by
        rcases e3 with e3 | ⟨e3, _⟩
        · rw [e3]; exact q3
        · rw [e3]; rfl
      refine ⟨k, c2, G', q1, e2, htk, fun k' c' hf ht => ?_, ?_⟩
      · rcases sumX_at (k := k') h7 with ⟨f1, _⟩ | ⟨d1, d2, f1, f2, f3, _, _⟩
        · rw [f1] at hf; cases hf
        · rw [f2] at hf
          injection hf with hf
          subst hf
          rcases f3 with f3 | ⟨_, f3⟩
          · refine q4 k' ⟨d1.kind, d1.g, d1.d ++ headSt ly lx y (loopEnd (g y) (next y) x)⟩ (by rw [hfind, f1]; rfl) ?_
            rw [f3] at ht; exact ht
          · exact (f3 k c1 e1).symm
      · have r1 : Rel c.n χ0 w0 (c1.d ++ headSt ly lx y (loopEnd (g y) (next y) x)) a' w' G' := Rel_congr (fun s => (get_cut (hasCut_append head_cut)).symm) q5
        exact Rel_congr (fun s => get_cut e4) (e5.rel r1)
  · cases h

/-- A function, summed up. -/
def sumFn (c : Ctx) (code : Code) (rv : List ResultVar) (ps : List (Nat × Sh)) (rs : Sh) (os : List (Nat × Ty)) (x : denL ps) : Option (Prop × rs.den × denO os) :=
  match eval c code (startSt ps x) with
  | none => none
  | some o => match finSt (startSt ps x) o.comps with
    | none => none
    | some d => match resAll c (d ++ startSt ps x) rv, parseO os (d ++ startSt ps x) with
      | some r, some z => (match rs.parse r with | some v => some (AllP o.ok, v, z) | none => none)
      | _, _ => none

theorem func_sum (hc : CtxOk P c) (hm : P.follows .mixedOrders = true) {f : Nat} {fn : Func} {code : Code} (hf : P.funcs[f]? = some fn) (hb : fn.body = some code) (hname : fn.name ≠ "runtime.NumGoroutine") (hn : fn.ntmps = c.n)
    (hL : LoopsIn P c code) (hw : noWrite c.keep code = true) {ps : List (Nat × Sh)} {rs : Sh} {os : List (Nat × Ty)} {ok : denL ps → Prop} {F : denL ps → rs.den} {o : denL ps → denO os}
    (hps : (psOk 0 ps && osOk ps c.keep os && Nat.ble ps.length c.n) = true) {rv : List ResultVar} (hrv : fn.results.toList = rv)
    (hsum : ∀ x, sumFn c code rv ps rs os x = some (ok x, F x, o x)) : SpecOk P f (fnSpec ps rs os ok F o) := by
  have hopen : ∀ x, ∃ out d r, eval c code (startSt ps x) = some out ∧ finSt (startSt ps x) out.comps = some d ∧ resAll c (d ++ startSt ps x) fn.results.toList = some r ∧ rs.parse r = some (F x) ∧ parseO os (d ++ startSt ps x) = some (o x) ∧ AllP out.ok = ok x := by
    intro x
    have := hsum x
    rw [hrv]
    unfold sumFn at this
    split at this
    · cases this
    · rename_i out ho
      split at this
      · cases this
      · rename_i d hd
        split at this
        · rename_i r z hr hz
          split at this
          · rename_i v hv
            simp only [Option.some.injEq, Prod.mk.injEq] at this
            obtain ⟨e1, rfl, rfl⟩ := this
            exact ⟨out, d, r, ho, hd, hr, hv, hz, e1⟩
          · cases this
        · cases this
  let O : denL ps → Out := fun x => (eval c code (startSt ps x)).getD ⟨[], []⟩
  let D : denL ps → St := fun x => (finSt (startSt ps x) (O x).comps).getD []
  let R : denL ps → AVal := fun x => (resAll c (D x ++ startSt ps x) fn.results.toList).getD .junk
  have hO : ∀ x, eval c code (startSt ps x) = some (O x) ∧ finSt (startSt ps x) (O x).comps = some (D x) ∧ resAll c (D x ++ startSt ps x) fn.results.toList = some (R x) ∧ rs.parse (R x) = some (F x) ∧ parseO os (D x ++ startSt ps x) = some (o x) ∧ AllP (O x).ok = ok x := by
    intro x
    obtain ⟨out, d, r, h1, h2, h3, h4, h5, h6⟩ := hopen x
    have e1 : O x = out := by simp only [O, h1, Option.getD_some]
    have e2 : D x = d := by simp only [D, e1, h2, Option.getD_some]
    have e3 : R x = r := by simp only [R, e2, h3, Option.getD_some]
    rw [e1, e2, e3]
    exact ⟨h1, h2, h3, h4, h5, h6⟩
  exact func_sound hc hm hf hb hname hn hL hw (oks := fun x => (O x).ok) (comps := fun x => (O x).comps) (d := D) (res := R) hps (fun x => (hO x).1) (fun x hx => by rw [(hO x).2.2.2.2.2]; exact hx) (fun x => (hO x).2.1) (fun x => (hO x).2.2.1) (fun x => (hO x).2.2.2.1) (fun x => (hO x).2.2.2.2.1)

end Go.Am

/- The abstract machine: what the printed texts lean on. No condition. -/
namespace Go.Am
open Go Go.RowKit
variable {P : Program} {c : Ctx}

def loopsOf : Code → List Code
  | .seq a b => loopsOf a ++ loopsOf b
  | .cond _ a b => loopsOf a ++ loopsOf b
  | .block _ a => loopsOf a
  | .loop a => [a]
  | _ => []
def nthLoop (cd : Code) (i : Nat) : Code := (loopsOf cd).getD i .skip
def LoopSnd (P : Program) (c : Ctx) (b : Code) : Prop := ∀ S out, look (fun _ => none) c.loops (firstRegion b) S = some out → Sound P c (.loop b) S out
def AllSnd (P : Program) (c : Ctx) : List Code → Prop
  | [] => True
  | b :: r => LoopSnd P c b ∧ AllSnd P c r
theorem AllSnd_append : ∀ {l r : List Code}, AllSnd P c (l ++ r) → AllSnd P c l ∧ AllSnd P c r := by
  intro l
  induction l with
  | nil => intro r h; exact ⟨trivial, h⟩
  | cons b l ih => intro r h; have := ih h.2; exact ⟨⟨h.1, this.1⟩, this.2⟩
theorem loopsIn_n : ∀ {code : Code} {bs : List Code}, loopsOf code = bs → AllSnd P c bs → LoopsIn P c code := by
  intro code
  induction code with
  | seq a b iha ihb => intro bs he h; subst he; simp only [loopsOf] at h; have := AllSnd_append h; exact ⟨iha rfl this.1, ihb rfl this.2⟩
  | cond x a b iha ihb => intro bs he h; subst he; simp only [loopsOf] at h; have := AllSnd_append h; exact ⟨iha rfl this.1, ihb rfl this.2⟩
  | block id a ih => intro bs he h; subst he; simp only [loopsOf] at h; exact ih rfl h
  | loop a _ => intro bs he h; subst he; simp only [loopsOf] at h; exact h.1
  | _ => intro bs _ _; trivial

def AllSp (P : Program) : List (Nat × Spec) → Prop
  | [] => True
  | (f, sp) :: r => SpecOk P f sp ∧ AllSp P r
theorem AllSp_at : ∀ {l : List (Nat × Spec)}, AllSp P l → ∀ f sp, (f, sp) ∈ l → SpecOk P f sp := by
  intro l
  induction l with
  | nil => intro _ f sp h; cases h
  | cons e r ih =>
    intro h f sp hm
    obtain ⟨g, s⟩ := e
    rcases List.mem_cons.1 hm with e | hm
    · simp only [Prod.mk.injEq] at e; obtain ⟨rfl, rfl⟩ := e; exact h.1
    · exact ih h.2 f sp hm
theorem ctxOk_mk (ht : tysOk P c.tys = true) (hf : AllSp P c.fns) (hn : Nat.ble c.n cutNo = true) : CtxOk P c := ⟨ht, AllSp_at hf, Nat.le_of_ble_eq_true hn⟩

/-- A loop by its place in the code. -/
theorem loop_gen (hc : CtxOk P c) (hm : P.follows .mixedOrders = true) {body : Code} {bs : List Code} (hb : loopsOf body = bs) (hL : AllSnd P c bs) (hw : noWrite c.keep body = true) {ly lx : List (Nat × Sh)} {les : List (List (Nat × Sh))} {g : denL ly → denL lx → Bool} {next : denL ly → denL lx → denL lx}
    {ok : denL ly → denL lx → Prop} {es : denL ly → denL lx → List Comp} (hl : look (fun _ => none) c.loops (firstRegion body) = loopS ly lx g next ok es)
    (hsum : ∀ y x, sumLoop c body ly lx les y x = some (ok y x, g y x, y, next y x, es y x)) : LoopSnd P c body := by
  intro S out h
  rw [hl] at h
  exact loop_sum hc hm (loopsIn_n hb hL) hw hsum S out h

theorem func_gen (hc : CtxOk P c) (hm : P.follows .mixedOrders = true) {f : Nat} {fn : Func} {code : Code} (hf : P.funcs[f]? = some fn) (hb : fn.body = some code) (hname : fn.name ≠ "runtime.NumGoroutine") (hn : fn.ntmps = c.n)
    {bs : List Code} (hbs : loopsOf code = bs) (hL : AllSnd P c bs) (hw : noWrite c.keep code = true) {ps : List (Nat × Sh)} {rs : Sh} {os : List (Nat × Ty)} {ok : denL ps → Prop} {F : denL ps → rs.den} {o : denL ps → denO os}
    (hps : (psOk 0 ps && osOk ps c.keep os && Nat.ble ps.length c.n) = true) {rv : List ResultVar} (hrv : fn.results.toList = rv)
    (hsum : ∀ x, sumFn c code rv ps rs os x = some (ok x, F x, o x)) : SpecOk P f (fnSpec ps rs os ok F o) :=
  func_sum hc hm hf hb hname hn (loopsIn_n hbs hL) hw hps hrv hsum

/-- A function that is never called: its contract asks what is never so. -/
theorem func_never {f : Nat} {fn : Func} (hf : P.funcs[f]? = some fn) (hb : fn.body.isSome = true) (hname : fn.name ≠ "runtime.NumGoroutine") {ps : List (Nat × Sh)} {rs : Sh} {os : List (Nat × Ty)} {F : denL ps → rs.den} {o : denL ps → denO os} :
    SpecOk P f (fnSpec ps rs os (fun _ => False) F o) := by
  refine ⟨⟨fn, hf, hb, hname⟩, fun args co hsp hok => ?_⟩
  unfold fnSpec at hsp
  generalize Nat.beq args.length ps.length = b at hsp
  cases b with
  | false => cases hsp
  | true =>
    simp only [cond_true] at hsp
    split at hsp
    · injection hsp with hsp; subst hsp; exact (hok _ (List.mem_cons_self ..)).elim
    · cases hsp

/-! Short words for the printed texts. -/
def iand (k : IntKind) (a b : Int) : Int := bitsOf k (fun x y => x &&& y) a b
def ior (k : IntKind) (a b : Int) : Int := bitsOf k (fun x y => x ||| y) a b
def ixor (k : IntKind) (a b : Int) : Int := bitsOf k (fun x y => x ^^^ y) a b
def iandNot (k : IntKind) (a b : Int) : Int := bitsOf k (fun x y => x &&& ~~~y) a b
def ishl (a b : Int) (n : Nat) : Int := a * 2 ^ (min b.toNat n)
def ishr (a b : Int) (n : Nat) : Int := a.fdiv (2 ^ (min b.toNat n))
/-- The element of a list at a whole number. -/
def nth {α : Type} (l : List α) (i : Int) (d : α) : α := l.getD i.toNat d
def InB (i n : Int) : Prop := 0 ≤ i ∧ i < n
def len {α : Type} (l : List α) : Int := (l.length : Int)
def byteAt (s : List UInt8) (i : Int) : Int := ((s.getD i.toNat 0).toNat : Int)

end Go.Am

/- The abstract machine: what is asked can be reckoned. No condition. -/
namespace Go.Am
open Go

instance (r : Int) : Decidable (InR r) := inferInstanceAs (Decidable (_ ∧ _))
instance (i n : Int) : Decidable (InB i n) := inferInstanceAs (Decidable (_ ∧ _))

def endsB {X : Type} (g : X → Bool) (next : X → X) (okb : X → Bool) : Nat → X → Bool
  | 0, _ => false
  | k + 1, x => okb x && (bif g x then endsB g next okb k (next x) else true)

theorem endsB_of {X : Type} {g : X → Bool} {next : X → X} {ok : X → Prop} {okb : X → Bool} (h : ∀ x, okb x = true ↔ ok x) : ∀ {F : Nat} {x : X}, endsB g next okb F x = true ↔ ∃ k, k < F ∧ Runs g next ok k x := by
  intro F
  induction F with
  | zero => intro x; simp [endsB]
  | succ F ih =>
    intro x
    simp only [endsB, Bool.and_eq_true, h]
    cases hg : g x with
    | false =>
      simp only [cond_false, and_true]
      constructor
      · intro hx; exact ⟨0, by omega, hx, hg⟩
      · rintro ⟨k, _, hr⟩
        cases k with
        | zero => exact hr.1
        | succ k => exact hr.1
    | true =>
      simp only [cond_true, ih]
      constructor
      · rintro ⟨hx, k, hk, hr⟩; exact ⟨k + 1, by omega, hx, hg, hr⟩
      · rintro ⟨k, hk, hr⟩
        cases k with
        | zero => rw [hr.2] at hg; cases hg
        | succ k => exact ⟨hr.1, k, by omega, hr.2.2⟩

instance {X : Type} {g : X → Bool} {next : X → X} {ok : X → Prop} [inst : ∀ x, Decidable (ok x)] (x : X) : Decidable (Am.Ends g next ok x) :=
  decidable_of_iff (endsB g next (fun x => decide (ok x)) fuel x = true) (endsB_of fun x => by simp)

end Go.Am

/- The abstract machine: what a claim's arguments read as, as plain data. No condition. -/
namespace Go.Am
open Go Go.RowKit
variable {P : Program} {w : World} {χ : Nat → Nat → Nat}

/-- No pointer is met. -/
def Ty.deep : Ty → Bool
  | .ptr _ => false | .cons h t => h.deep && t.deep | .st f => f.deep | .arr _ t => t.deep | .sl t => Nat.blt 0 t.size && t.deep | _ => true

/-- Numbers lie in their kinds, lists are no longer than may be. -/
def Ty.wf : (τ : Ty) → τ.den → Prop
  | .int k, x => k.min ≤ x ∧ x ≤ k.max
  | .bool, _ => True
  | .str, s => List.length (α := UInt8) s ≤ maxLen
  | .nl, _ => True
  | .cons h t, x => h.wf x.1 ∧ t.wf x.2
  | .st f, x => f.wf x
  | .arr n t, l => List.length (α := t.den) l = n ∧ ∀ y ∈ (l : List t.den), t.wf y
  | .sl t, l => List.length (α := t.den) l ≤ maxLen ∧ ∀ y ∈ (l : List t.den), t.wf y
  | .ptr t, x => t.wf x

theorem mapM_list {α β γ : Type} {f : α → Option β} {R : γ → List Value → Prop} {g : α → List Value} {wf : γ → Prop} : ∀ {l : List α} {ys : List β}, l.mapM f = some ys → (∀ x y, x ∈ l → f x = some y → ∃ z, R z (g x) ∧ wf z) →
    ∃ zs : List γ, zs.length = l.length ∧ LRep R zs (l.flatMap g) ∧ ∀ z ∈ zs, wf z := by
  intro l
  induction l with
  | nil => intro ys _ _; exact ⟨[], rfl, rfl, fun z h => (by cases h)⟩
  | cons x l ih =>
    intro ys h hf
    simp only [List.mapM_cons, Option.bind_eq_bind, Option.bind_eq_some_iff, Option.pure_def, Option.some.injEq] at h
    obtain ⟨y, hy, ys', hys, rfl⟩ := h
    obtain ⟨z, h1, h2⟩ := hf x y (List.mem_cons_self ..) hy
    obtain ⟨zs, h3, h4, h5⟩ := ih hys fun x y hx => hf x y (List.mem_cons_of_mem _ hx)
    refine ⟨z :: zs, by simp [h3], ⟨g x, l.flatMap g, rfl, h1, h4⟩, fun z' hz => ?_⟩
    rcases List.mem_cons.1 hz with rfl | hz
    · exact h2
    · exact h5 z' hz


theorem flat_range {f : Nat → Value} (sz : Nat) : ∀ n, (List.range n).flatMap (fun i => (List.range sz).map fun k => f (i * sz + k)) = (List.range (n * sz)).map f := by
  intro n
  induction n with
  | zero => simp
  | succ n ih => rw [List.range_succ, List.flatMap_append, ih, Nat.succ_mul, List.range_add, List.map_append]; simp

theorem flat_take {cs : List Value} (sz : Nat) : ∀ n, (List.range n).flatMap (fun i => (cs.drop (i * sz)).take sz) = cs.take (n * sz) := by
  intro n
  induction n with
  | zero => simp
  | succ n ih => rw [List.range_succ, List.flatMap_append, ih, Nat.succ_mul, List.take_add]; simp

theorem cellsOf_ty {τ : Ty} {T : Nat} (h : tyOk P τ (.inl T) = true) : P.cellsOf T = τ.size := by
  obtain ⟨⟨i, z, hi, hs, _⟩, _⟩ := tyOk_is h
  simp [Program.cellsOf, hi, hs]

theorem cells?_is {a : Addr} {n : Nat} {cs : List Value} (h : w.cells? 0 a n = some cs) : cs = (List.range n).map (fun k => (w.cell? (a.add k)).getD undef) ∧ ∀ k, k < n → ∃ v, w.cell? (a.add k) = some v := by
  simp only [World.cells?, Nat.zero_le, if_true] at h
  generalize hf : (fun i => w.cell? (a.add i)) = f at h
  have key : ∀ (l : List Nat) (cs : List Value), l.mapM f = some cs → cs = l.map (fun k => (f k).getD undef) ∧ ∀ k ∈ l, ∃ v, f k = some v := by
    intro l
    induction l with
    | nil => intro cs h; simp at h; subst h; exact ⟨rfl, fun k h => (by cases h)⟩
    | cons x l ih =>
      intro cs h
      simp only [List.mapM_cons, Option.bind_eq_bind, Option.bind_eq_some_iff, Option.pure_def, Option.some.injEq] at h
      obtain ⟨y, hy, ys, hys, rfl⟩ := h
      obtain ⟨h1, h2⟩ := ih ys hys
      refine ⟨by simp [hy, h1], fun k hk => ?_⟩
      rcases List.mem_cons.1 hk with rfl | hk
      · exact ⟨y, hy⟩
      · exact h2 k hk
  have := key _ _ h
  subst hf
  exact ⟨this.1, fun k hk => this.2 k (List.mem_range.2 hk)⟩

theorem add_add (a : Addr) (m k : Nat) : (a.add m).add k = a.add (m + k) := by
  by_cases hm : m = 0
  · subst hm; simp [Addr.add]
  · by_cases hk : k = 0
    · subst hk; simp [Addr.add]
    · simp [Addr.add, hm, hk, Nat.add_assoc]

theorem cell_spot {a : Addr} {v : Value} (h : w.cell? a = some v) : a.spot = none ∧ a.block < w.heap.size := by
  unfold World.cell? at h
  split at h
  · rename_i c _ _ hb
    split at h
    · cases h
    · rename_i hs
      refine ⟨by simpa using hs, heap_lt hb⟩
  · cases h

section
variable {H : Type} {enc : TypeId × Value → H} {sp : Nat → Bool} {held : Bool}

theorem trod_rep (hχ : ∀ b o, b < w.heap.size → χ b o = 0) : ∀ τ : Ty,
    (∀ (T fuel : Nat) (cs : List Value) (d : DataW H) (ps : List MemPlace), tyOk P τ (.inl T) = true → τ.deep = true → DataW.trod enc P w 0 sp held fuel T cs = some (d, ps) → ∃ x, CRep χ w τ x cs ∧ τ.wf x) ∧
    (∀ (fs : List Field) (o : Nat) (cs : List Value) (fuel : Nat) (xs : List (DataW H × List MemPlace)), tyOk P τ (.inr (fs, o)) = true → τ.deep = true → fs.mapM (fun f => DataW.trod enc P w 0 sp held fuel f.type ((cs.drop f.offset).take (P.cellsOf f.type))) = some xs → cs.length = o + τ.size →
      ∃ x, CRep χ w τ x (cs.drop o) ∧ τ.wf x) := by
  intro τ
  induction τ with
  | int k =>
    refine ⟨fun T fuel cs d ps hT _ h => ?_, fun fs o cs fuel xs hT => by simp [tyOk] at hT⟩
    have hu : P.underlying T = some (.int k) := by
      simp only [tyOk, Bool.and_eq_true] at hT
      cases hu : P.underlying T with
      | none => simp [hu] at hT
      | some d => rw [hu] at hT; cases d <;> simp at hT; rw [kindNo_inj hT.1]
    cases fuel with
    | zero => simp [DataW.trod] at h
    | succ fuel =>
      unfold DataW.trod at h
      rw [hu] at h
      match cs, h with
      | [.int k' n], h =>
        simp only at h
        split at h
        · rename_i hc
          obtain ⟨rfl, hw⟩ := hc
          simp only [Lit.wf, Bool.and_eq_true, decide_eq_true_eq] at hw
          exact ⟨n, by simp only [CRep], hw⟩
        · cases h
  | bool =>
    refine ⟨fun T fuel cs d ps hT _ h => ?_, fun fs o cs fuel xs hT => by simp [tyOk] at hT⟩
    have hu : P.underlying T = some .bool := by
      simp only [tyOk, Bool.and_eq_true] at hT
      cases hu : P.underlying T with
      | none => simp [hu] at hT
      | some d => rw [hu] at hT; cases d <;> simp at hT; rfl
    cases fuel with
    | zero => simp [DataW.trod] at h
    | succ fuel =>
      unfold DataW.trod at h
      rw [hu] at h
      match cs, h with
      | [.bool b], h => exact ⟨b, by simp only [CRep], trivial⟩
  | str =>
    refine ⟨fun T fuel cs d ps hT _ h => ?_, fun fs o cs fuel xs hT => by simp [tyOk] at hT⟩
    have hu := tyOk_str hT
    cases fuel with
    | zero => simp [DataW.trod] at h
    | succ fuel =>
      unfold DataW.trod at h
      rw [hu] at h
      match cs, h with
      | [.string b], h =>
        simp only at h
        split at h
        · rename_i hs
          refine ⟨b.data.toList, by simp only [CRep], ?_⟩
          show b.data.toList.length ≤ maxLen
          rw [Array.length_toList]
          exact hs
        · cases h
  | nl =>
    refine ⟨fun T fuel cs d ps hT => by simp [tyOk] at hT, fun fs o cs fuel xs hT _ h hl => ?_⟩
    refine ⟨(), ?_, trivial⟩
    simp only [CRep, Ty.size, Nat.add_zero] at hl ⊢
    simp [hl]
  | cons a b iha ihb =>
    refine ⟨fun T fuel cs d ps hT => by simp [tyOk] at hT, fun fs o cs fuel xs hT hd h hl => ?_⟩
    cases fs with
    | nil => simp [tyOk] at hT
    | cons fd r =>
      simp only [tyOk, Bool.and_eq_true] at hT
      obtain ⟨⟨⟨h1, _⟩, h2⟩, h3⟩ := hT
      have ho := Nat.eq_of_beq_eq_true h1
      simp only [Ty.deep, Bool.and_eq_true] at hd
      simp only [Ty.size] at hl
      simp only [List.mapM_cons, Option.bind_eq_bind, Option.bind_eq_some_iff, Option.pure_def, Option.some.injEq] at h
      obtain ⟨y, hy, ys, hys, rfl⟩ := h
      obtain ⟨x, q1, q2⟩ := iha.1 _ _ _ _ _ h2 hd.1 (show _ = some (y.1, y.2) from hy)
      rw [cellsOf_ty h2, ho] at q1
      obtain ⟨z, q3, q4⟩ := ihb.2 r (o + a.size) cs fuel ys h3 hd.2 hys (by omega)
      refine ⟨(x, z), ?_, q2, q4⟩
      simp only [CRep]
      refine ⟨_, _, ?_, q1, q3⟩
      rw [← List.drop_drop, List.take_append_drop]
  | st f ih =>
    refine ⟨fun T fuel cs d ps hT hd h => ?_, fun fs o cs fuel xs hT => by simp [tyOk] at hT⟩
    obtain ⟨fs, hu, hf⟩ := tyOk_st hT
    have hsz := cellsOf_ty hT
    cases fuel with
    | zero => simp [DataW.trod] at h
    | succ fuel =>
      unfold DataW.trod at h
      rw [hu] at h
      simp only at h
      split at h
      · rename_i hl
        simp only [Option.map_eq_some_iff] at h
        obtain ⟨xs, hxs, _⟩ := h
        obtain ⟨x, h1, h2⟩ := ih.2 fs.toList 0 cs fuel xs hf (by simpa only [Ty.deep] using hd) hxs (by rw [hl, hsz]; simp [Ty.size])
        exact ⟨x, by simpa only [CRep, List.drop_zero] using h1, h2⟩
      · cases h
  | arr n t ih =>
    refine ⟨fun T fuel cs d ps hT hd h => ?_, fun fs o cs fuel xs hT => by simp [tyOk] at hT⟩
    obtain ⟨e, hu, hf⟩ := tyOk_arr hT
    have hsz := cellsOf_ty hT
    have hse := cellsOf_ty hf
    cases fuel with
    | zero => simp [DataW.trod] at h
    | succ fuel =>
      unfold DataW.trod at h
      rw [hu] at h
      simp only at h
      split at h
      · rename_i hl
        simp only [Option.map_eq_some_iff] at h
        obtain ⟨xs, hxs, _⟩ := h
        obtain ⟨zs, h1, h2, h3⟩ := mapM_list (R := CRep χ w t) (g := fun i => (cs.drop (i * t.size)).take t.size) (wf := t.wf) hxs (fun i y _ hy => by
          rw [hse] at hy
          exact ih.1 _ _ _ _ _ hf (by simpa only [Ty.deep] using hd) (show _ = some (y.1, y.2) from hy))
        rw [flat_take] at h2
        simp only [List.length_range] at h1
        rw [List.take_of_length_le (by rw [hl, hsz]; simp [Ty.size])] at h2
        exact ⟨zs, by simp only [CRep]; exact ⟨h1, h2⟩, h1, h3⟩
      · cases h
  | sl t ih =>
    refine ⟨fun T fuel cs d ps hT hd h => ?_, fun fs o cs fuel xs hT => by simp [tyOk] at hT⟩
    obtain ⟨e, hu, hf⟩ := tyOk_sl hT
    have hse := cellsOf_ty hf
    cases fuel with
    | zero => simp [DataW.trod] at h
    | succ fuel =>
      unfold DataW.trod at h
      rw [hu] at h
      match cs, h with
      | [.slice none 0 0], h => exact ⟨[], by simp only [CRep]; exact ⟨none, 0, rfl, .inl trivial⟩, by simp [Ty.wf]⟩
      | [.slice (some a) ln cap], h =>
        simp only at h
        split at h
        · rename_i hc
          simp only [Option.bind_eq_some_iff] at h
          obtain ⟨els, hels, _⟩ := h
          rw [hse] at hels
          obtain ⟨zs, h1, h2, h3⟩ := mapM_list (R := CRep χ w t) (g := fun i => (List.range t.size).map fun k => (w.cell? (a.add (i * t.size + k))).getD undef) (wf := t.wf) hels (fun i y _ hy => by
            simp only [Option.bind_eq_some_iff] at hy
            obtain ⟨cs', hcs, hy⟩ := hy
            obtain ⟨z, q1, q2⟩ := ih.1 _ _ _ _ _ hf (by simp only [Ty.deep, Bool.and_eq_true] at hd; exact hd.2) (show _ = some (y.1, y.2) from hy)
            refine ⟨z, ?_, q2⟩
            have := (cells?_is hcs).1
            rw [this] at q1
            simpa only [add_add] using q1)
          rw [flat_range (f := fun j => (w.cell? (a.add j)).getD undef)] at h2
          simp only [List.length_range] at h1
          refine ⟨zs, ?_, by simp only [Ty.wf]; exact ⟨by omega, h3⟩⟩
          simp only [CRep]
          refine ⟨some a, cap, by rw [h1], ?_⟩
          by_cases hz : zs = []
          · exact .inl hz
          · have hcell : ∀ j, j < ln * t.size → ∃ v, w.cell? (a.add j) = some v := by
              intro j hj
              have hpos : 0 < t.size := by rcases Nat.eq_zero_or_pos t.size with h0 | h0; rw [h0] at hj; simp at hj; exact h0
              have hi : j / t.size < ln := Nat.div_lt_of_lt_mul (by rw [Nat.mul_comm]; exact hj)
              have hmem : ∀ i, i < ln → ∃ y, (w.cells? 0 (a.add (i * t.size)) t.size).bind (DataW.trod enc P w 0 sp held fuel e) = some y := by
                intro i hi
                have key : ∀ (l : List Nat) els, l.mapM (fun i => (w.cells? 0 (a.add (i * t.size)) t.size).bind (DataW.trod enc P w 0 sp held fuel e)) = some els → ∀ i ∈ l, ∃ y, (w.cells? 0 (a.add (i * t.size)) t.size).bind (DataW.trod enc P w 0 sp held fuel e) = some y := by
                  intro l
                  induction l with
                  | nil => intro els _ i h; cases h
                  | cons x l ihl =>
                    intro els h i hi
                    simp only [List.mapM_cons, Option.bind_eq_bind, Option.bind_eq_some_iff, Option.pure_def, Option.some.injEq] at h
                    obtain ⟨y, hy, ys, hys, rfl⟩ := h
                    rcases List.mem_cons.1 hi with rfl | hi
                    · exact ⟨y, by simpa only [Option.bind_eq_some_iff] using hy⟩
                    · exact ihl ys hys i hi
                exact key _ _ hels i (List.mem_range.2 hi)
              obtain ⟨y, hy⟩ := hmem _ hi
              simp only [Option.bind_eq_some_iff] at hy
              obtain ⟨cs', hcs, _⟩ := hy
              obtain ⟨v, hv⟩ := (cells?_is hcs).2 (j % t.size) (Nat.mod_lt _ hpos)
              refine ⟨v, ?_⟩
              have e1 : (a.add (j / t.size * t.size)).add (j % t.size) = a.add j := by
                rw [add_add, Nat.div_add_mod']
              rwa [e1] at hv
            obtain ⟨b, o, s⟩ := a
            simp only [Ty.deep, Bool.and_eq_true] at hd
            have hs1 : 0 < t.size := Nat.le_of_ble_eq_true hd.1
            by_cases hs0 : ln = 0
            · exact .inl (List.length_eq_zero_iff.1 (by omega))
            · have hpos : 0 < ln * t.size := Nat.mul_pos (by omega) (by omega)
              obtain ⟨v, hv⟩ := hcell 0 hpos
              have hsp := (cell_spot hv).1
              have hsp : s = none := by simpa [Addr.add] using hsp
              subst hsp
              refine .inr ⟨b, o, _, rfl, by omega, h2, fun j v hj => ?_⟩
              rw [List.getElem?_map] at hj
              have hjl : j < ln * t.size := by
                rcases Nat.lt_or_ge j (ln * t.size) with h' | h'
                · exact h'
                · rw [List.getElem?_eq_none (by simpa using h')] at hj; simp at hj
              obtain ⟨v', hv'⟩ := hcell j hjl
              rw [List.getElem?_range hjl] at hj
              simp only [Option.map_some, Option.some.injEq] at hj
              rw [hv'] at hj
              simp only [Option.getD_some] at hj
              subst hj
              have e2 : (⟨b, o, none⟩ : Addr).add j = ⟨b, o + j, none⟩ := by
                by_cases hj0 : j = 0
                · subst hj0; simp [Addr.add]
                · simp [Addr.add, hj0]
              rw [e2] at hv'
              exact ⟨hv', hχ b (o + j) (cell_spot hv').2⟩
        · cases h
  | ptr t _ => exact ⟨fun T fuel cs d ps _ hd => by simp [Ty.deep] at hd, fun fs o cs fuel xs _ hd => by simp [Ty.deep] at hd⟩
end
end Go.Am

/- The abstract machine: a law that is asked of plain data, as a call in every world. No condition. -/
namespace Go.Am
open Go Go.RowKit Go.ChangeShapes
variable {P : Program} {w : World}

def enumSh : Nat → List Ty → List (Nat × Sh)
  | _, [] => []
  | i, τ :: r => (i, .val τ) :: enumSh (i + 1) r
def mkA : (i : Nat) → (τs : List Ty) → denL (enumSh i τs) → List AVal
  | _, [], _ => []
  | i, τ :: r, x => .val τ x.1 :: mkA (i + 1) r x.2
def wfL : (i : Nat) → (τs : List Ty) → denL (enumSh i τs) → Prop
  | _, [], _ => True
  | i, τ :: r, x => τ.wf x.1 ∧ wfL (i + 1) r x.2
def tysAre (P : Program) : List Ty → List TypeId → Bool
  | [], [] => true
  | τ :: r, T :: s => tyOk P τ (.inl T) && τ.deep && tysAre P r s
  | _, _ => false

theorem beq_refl : ∀ τ : Ty, Ty.beq τ τ = true := by
  intro τ
  induction τ with
  | int k => simp [Ty.beq]
  | cons a b ha hb => simp [Ty.beq, ha, hb]
  | st f h => simpa [Ty.beq] using h
  | arr n t h => simpa [Ty.beq] using h
  | sl t h => simpa [Ty.beq] using h
  | ptr t h => simpa [Ty.beq] using h
  | _ => rfl
theorem cast_self {τ : Ty} {x : τ.den} : Ty.cast τ x = some x := by
  unfold Ty.cast
  split
  · rfl
  · rename_i h; rw [beq_refl] at h; cases h

theorem parse_mkA : ∀ {τs : List Ty} {i : Nat} {x : denL (enumSh i τs)} {S : St}, (∀ k, (mkA i τs x)[k]? = none ∨ (mkA i τs x)[k]? = some (S.get (i + k))) → (∀ τ ∈ τs, τ.isL = false) → parseSt (enumSh i τs) S = some x := by
  intro τs
  induction τs with
  | nil => intro i x S _ _; rfl
  | cons τ r ih =>
    intro i x S h hl
    simp only [enumSh, parseSt]
    have h0 := h 0
    simp only [mkA, List.getElem?_cons_zero, Nat.add_zero] at h0
    rcases h0 with h0 | h0
    · cases h0
    · injection h0 with h0
      rw [← h0]
      have hx : (Sh.val τ).parse (.val τ x.1) = some x.1 := by
        simp only [Sh.parse, hl τ (List.mem_cons_self ..), cond_false, AVal.as, AVal.asT, cast_self]
      have hr := ih (i := i + 1) (x := x.2) (S := S) (fun k => by
        have := h (k + 1)
        simp only [mkA, List.getElem?_cons_succ] at this
        rw [show i + 1 + k = i + (k + 1) by omega]; exact this) fun τ hτ => hl τ (List.mem_cons_of_mem _ hτ)
      rw [hx, hr]
      rfl

theorem mkA_length : ∀ {τs : List Ty} {i : Nat} {x : denL (enumSh i τs)}, (mkA i τs x).length = τs.length ∧ (enumSh i τs).length = τs.length := by
  intro τs
  induction τs with
  | nil => intro i x; exact ⟨rfl, rfl⟩
  | cons τ r ih => intro i x; simp [mkA, enumSh, (ih (i := i + 1) (x := x.2)).1, (ih (i := i + 1) (x := x.2)).2]

theorem tysAre_notL : ∀ {τs : List Ty} {Ts : List TypeId}, tysAre P τs Ts = true → ∀ τ ∈ τs, τ.isL = false := by
  intro τs
  induction τs with
  | nil => intro Ts _ τ h; cases h
  | cons σ r ih =>
    intro Ts h τ hτ
    cases Ts with
    | nil => simp [tysAre] at h
    | cons T s =>
      simp only [tysAre, Bool.and_eq_true] at h
      rcases List.mem_cons.1 hτ with rfl | hτ
      · exact tyOk_notL h.1.1
      · exact ih h.2 τ hτ

section
variable {H : Type} {enc : TypeId × Value → H}

theorem not_agg {τ : Ty} {T : TypeId} {v : Value} (hT : tyOk P τ (.inl T) = true) (ha : τ.isAgg = false) (hd : τ.deep = true) {base : Nat} (h : Value.okWide P w .any base T v) : ∀ cs, v ≠ .agg cs := by
  intro cs e
  subst e
  obtain ⟨_, hu⟩ := tyOk_is hT
  unfold Value.okWide at h
  cases τ with
  | st f => simp [Ty.isAgg] at ha
  | arr n t => simp [Ty.isAgg] at ha
  | ptr t => simp [Ty.deep] at hd
  | nl => simp [tyOk] at hT
  | cons a b => simp [tyOk] at hT
  | int k =>
    have hu : P.underlying T = some (.int k) := by
      simp only [tyOk, Bool.and_eq_true] at hT
      cases hu : P.underlying T with
      | none => simp [hu] at hT
      | some d => rw [hu] at hT; cases d <;> simp at hT; rw [kindNo_inj hT.1]
    rw [hu] at h
    simp [Cell.okWide, Cell.ok, hu] at h
  | bool =>
    have hu : P.underlying T = some .bool := by
      simp only [tyOk, Bool.and_eq_true] at hT
      cases hu : P.underlying T with
      | none => simp [hu] at hT
      | some d => rw [hu] at hT; cases d <;> simp at hT; rfl
    rw [hu] at h
    simp [Cell.okWide, Cell.ok, hu] at h
  | str =>
    have hu := tyOk_str hT
    rw [hu] at h
    simp [Cell.okWide, Cell.ok, hu] at h
  | sl t =>
    obtain ⟨e, hu, _⟩ := tyOk_sl hT
    rw [hu] at h
    simp [Cell.okWide, Cell.ok, hu] at h

theorem is_agg {τ : Ty} {T : TypeId} {v : Value} (hT : tyOk P τ (.inl T) = true) (ha : τ.isAgg = true) {base : Nat} (h : Value.okWide P w .any base T v) : ∃ cs, v = .agg cs := by
  unfold Value.okWide at h
  cases τ with
  | st f => obtain ⟨fs, hu, _⟩ := tyOk_st hT; rw [hu] at h; obtain ⟨cs, h, _⟩ := h; exact ⟨cs, h⟩
  | arr n t => obtain ⟨e, hu, _⟩ := tyOk_arr hT; rw [hu] at h; obtain ⟨cs, h, _⟩ := h; exact ⟨cs, h⟩
  | _ => simp [Ty.isAgg] at ha

theorem args_rep2 {G : Gh} (hχ : ∀ b o, b < w.heap.size → G.χ b o = 0) : ∀ {τs : List Ty} {Ts : List TypeId} {vs : List Value} {ds : List (DataW H)} {ps : List MemPlace} {i base : Nat}, tysAre P τs Ts = true →
    DataW.TrodAll enc P w 0 (fun _ => true) true Ts vs ds ps → (∀ (j : Nat) t v, Ts[j]? = some t → vs[j]? = some v → Value.okWide P w .any base t v) →
    ∃ x : denL (enumSh i τs), vs.length = τs.length ∧ wfL i τs x ∧ ∀ (k : Nat) A v, (mkA i τs x)[k]? = some A → vs[k]? = some v → ARep G w #[] (some (i + k)) A v := by
  intro τs
  induction τs with
  | nil =>
    intro Ts vs ds ps i base ht h _
    cases Ts with
    | cons T s => simp [tysAre] at ht
    | nil =>
      cases vs with
      | nil => exact ⟨(), rfl, trivial, fun k A v h => by simp [mkA] at h⟩
      | cons v vs => cases ds <;> simp [DataW.TrodAll] at h
  | cons τ r ih =>
    intro Ts vs ds ps i base ht h hok
    cases Ts with
    | nil => simp [tysAre] at ht
    | cons T s =>
      cases vs with
      | nil => simp [DataW.TrodAll] at h
      | cons v vs =>
        cases ds with
        | nil => simp [DataW.TrodAll] at h
        | cons d ds =>
          simp only [tysAre, Bool.and_eq_true] at ht
          obtain ⟨⟨h1, h2⟩, h3⟩ := ht
          simp only [DataW.TrodAll] at h
          obtain ⟨p, q, ⟨fl, hd⟩, hr, _⟩ := h
          obtain ⟨x, hx, hwf⟩ := (trod_rep hχ τ).1 T fl _ d p h1 h2 hd
          obtain ⟨y, hy1, hy2, hy3⟩ := ih (i := i + 1) h3 hr fun j t v ht hv => hok (j + 1) t v (by simpa using ht) (by simpa using hv)
          refine ⟨(x, y), by simp [hy1], ⟨hwf, hy2⟩, fun k A u hA hu => ?_⟩
          cases k with
          | zero =>
            simp only [mkA, List.getElem?_cons_zero, Option.some.injEq] at hA hu
            subst hA; subst hu
            simp only [ARep]
            refine ⟨_, hx, ?_⟩
            have hv := hok 0 T v rfl rfl
            cases ha : τ.isAgg with
            | true =>
              obtain ⟨cs, rfl⟩ := is_agg h1 ha hv
              simp [Value.cells]
            | false =>
              have := not_agg h1 ha h2 hv
              cases v with
              | agg cs => exact absurd rfl (this cs)
              | _ => rfl
          | succ k =>
            simp only [mkA, List.getElem?_cons_succ] at hA hu
            have := hy3 k A u hA hu
            rwa [show i + 1 + k = i + (k + 1) by omega] at this

/-- A law of plain data that answers true: the call, in every world. -/
theorem law_calls {τs : List Ty} {Ts : List TypeId} {f : Nat} {ok : denL (enumSh 0 τs) → Prop} {F : denL (enumSh 0 τs) → Bool} {o : denL (enumSh 0 τs) → denO []} (hs : SpecOk P f (fnSpec (enumSh 0 τs) (.val .bool) [] ok F o))
    (hty : tysAre P τs Ts = true) (hn : Nat.ble τs.length cutNo = true) (hlaw : ∀ x, wfL 0 τs x → ok x ∧ F x = true) {args : Array Value} {ds : List (DataW H)} {ps : List MemPlace} {base : Nat} (hA : DataW.TrodAll enc P w 0 (fun _ => true) true Ts args.toList ds ps)
    (hok : ∀ (j : Nat) t v, Ts[j]? = some t → args.toList[j]? = some v → Value.okWide P w .any base t v) :
    Calls P f args w fun e w' => e = .returned (.bool true) ∧ Below w.heap.size w w' := by
  let G : Gh := ⟨fun b _ => if b < w.heap.size then 0 else 2, fun _ => 0, fun _ => 0⟩
  have hχ : ∀ b o, b < w.heap.size → G.χ b o = 0 := fun b o hb => by simp [G, hb]
  obtain ⟨x, h1, h2, h3⟩ := args_rep2 (G := G) hχ (i := 0) hty hA hok
  obtain ⟨hokx, hFx⟩ := hlaw x h2
  have hlen := mkA_length (τs := τs) (i := 0) (x := x)
  have hn : τs.length ≤ cutNo := Nat.le_of_ble_eq_true hn
  have hpar : parseSt (enumSh 0 τs) (argSt 0 (mkA 0 τs x)) = some x := parse_mkA (fun k => by
    by_cases hk : k < τs.length
    · right
      have := argSt_get (s := k) (args := mkA 0 τs x) (i := 0) (by omega) (by omega) (by omega)
      simp only [Nat.sub_zero] at this
      rw [Nat.zero_add]; exact this.symm
    · left; exact List.getElem?_eq_none (by omega)) (tysAre_notL hty)
  have hsp : fnSpec (enumSh 0 τs) (.val .bool) [] ok F o (mkA 0 τs x) = some ⟨[ok x], .val .bool (F x), [], []⟩ := by
    unfold fnSpec
    rw [hlen.1, hlen.2, Nat.beq_refl, cond_true, hpar]
    rfl
  have hcall := hs.2 _ _ hsp (fun q hq => by simp only [List.mem_singleton] at hq; subst hq; exact hokx) G w args.toList (by rw [h1, hlen.1]) (fun i A v hA hv => by
    have := h3 i A v hA hv
    rwa [Nat.zero_add] at this)
  have : args.toList.toArray = args := by simp
  rw [this] at hcall
  refine hcall.mono ?_
  rintro e w' ⟨v, G', rfl, hfr, hres, _⟩
  simp only [ARep] at hres
  have hv := (VRep_one rfl).1 hres
  simp only [CRep, List.cons.injEq, and_true] at hv
  rw [hv, hFx]
  refine ⟨rfl, hfr.os, hfr.tape, hfr.output, hfr.size, fun k hk => hfr.block k hk fun o => ?_⟩
  rw [hχ k o hk]; omega
end


theorem below_trods {H : Type} {enc : TypeId × Value → H} (hl : laidOutB P = true) : ∀ {Ts : List TypeId} {vs : List Value} {ds : List (DataW H)} {ps : List MemPlace} {W W' : World} {sp : Nat → Bool}, Ts.all (fun t => P.readableRec t && Nat.blt t P.types.size) = true →
    DataW.TrodAll enc P W 0 (fun _ => true) true Ts vs ds ps → Below W.heap.size W W' → (∀ x ∈ ps, x.block < W.heap.size) → (∀ p ∈ ps, sp p.block = true) → DataW.TrodAll enc P W' 0 sp true Ts vs ds ps := by
  intro Ts
  induction Ts with
  | nil => intro vs ds ps W W' sp _ h _ _ _; cases vs <;> cases ds <;> simp_all [DataW.TrodAll]
  | cons T s ih =>
    intro vs ds ps W W' sp ht h hb hlt hsp
    cases vs with
    | nil => simp [DataW.TrodAll] at h
    | cons v vs =>
      cases ds with
      | nil => simp [DataW.TrodAll] at h
      | cons d ds =>
        simp only [List.all_cons, Bool.and_eq_true] at ht
        simp only [DataW.TrodAll] at h ⊢
        obtain ⟨p, q, h1, h2, rfl⟩ := h
        refine ⟨p, q, WideElems.Trod_stays hl ht.1.1 (Nat.blt_eq.mp ht.1.2) h1 (fun x hx => hb.same (hlt x (List.mem_append_left _ hx))) (fun x hx => hsp x (List.mem_append_left _ hx)), ?_, rfl⟩
        exact ih ht.2 h2 hb (fun x hx => hlt x (List.mem_append_right _ hx)) (fun x hx => hsp x (List.mem_append_right _ hx))

theorem trod_len1 {H : Type} {enc : TypeId × Value → H} {T0 : TypeId} {vs : List Value} {ds : List (DataW H)} {ps : List MemPlace} {sp : Nat → Bool} {hd : Bool} (h : DataW.TrodAll enc P w 0 sp hd [T0] vs ds ps) : ∃ d0, ds = [d0] := by
  match vs, ds, h with
  | [_], [d0], _ => exact ⟨d0, rfl⟩
  | [], [], h => simp [DataW.TrodAll] at h
  | [], _ :: _, h => simp [DataW.TrodAll] at h
  | _ :: _, [], h => simp [DataW.TrodAll] at h
  | [_], _ :: _ :: _, h => simp [DataW.TrodAll] at h
  | _ :: _ :: _, _ :: _, h => simp [DataW.TrodAll] at h
theorem trod_len3 {H : Type} {enc : TypeId × Value → H} {T0 T1 T2 : TypeId} {vs : List Value} {ds : List (DataW H)} {ps : List MemPlace} {sp : Nat → Bool} {hd : Bool} (h : DataW.TrodAll enc P w 0 sp hd [T0, T1, T2] vs ds ps) : ∃ d0 d1 d2, ds = [d0, d1, d2] := by
  obtain ⟨v, vs1, d, ds1, a, b, rfl, rfl, rfl, h1, h2⟩ := trodAll_cons h
  obtain ⟨v, vs1, d', ds1, a, b, rfl, rfl, rfl, h1, h2⟩ := trodAll_cons h2
  obtain ⟨v, vs1, d'', ds1, a, b, rfl, rfl, rfl, h1, h2⟩ := trodAll_cons h2
  obtain ⟨rfl, rfl, rfl⟩ := trodAll_nil h2
  exact ⟨d, d', d'', rfl⟩

theorem post_law {H : Type} {enc : TypeId × Value → H} {f : Func} {s : ChangeSpec} {W W' : World} {args : Array Value} {v : Value} {ds gs : List (DataW H)} {before pa pv : List MemPlace}
    (hW : DataW.Whole enc P f.params.toList s.vars false W args.toList ds gs before)
    (hres : ∀ (b : Nat) (sp : Nat → Bool) (hd : Bool), DataW.TrodAll enc P W' b sp hd f.resultTypes.toList (v.resultList f.resultTypes.size) (s.fn H (ds ++ gs)).results [])
    (hargs : ∀ sp : Nat → Bool, (∀ p ∈ before, sp p.block = true) → DataW.TrodAll enc P W' 0 sp true f.params.toList args.toList (s.fn H (ds ++ gs)).args pa)
    (hvars : ∀ sp : Nat → Bool, (∀ p ∈ before, sp p.block = true) → DataW.TrodVars enc P W' sp s.vars (s.fn H (ds ++ gs)).vars pv)
    (hps : before = pa ++ pv) (hk : W.keptBut W' (· ∈ before)) : s.post enc P f false true false false W args v W' := by
  have hold : ∀ p ∈ before, (fun b => decide (b < W.heap.size)) p.block = true := fun p hp => by simpa using hW.lt p hp
  refine ⟨ds, gs, before, [], pa, pv, hW, hres _ _ _, hargs _ hold, hvars _ hold, World.keptBut_mono (fun p hp => ⟨hp, ?_⟩) hk, fun h => by cases h⟩
  rw [hps, List.mem_append] at hp
  exact Or.inr hp

/-! ### For the witness: the zero value of a type, the cells of a listed table. -/
def zeroV (P : Program) (T : TypeId) : Value := ((P.info? T).bind (·.zero)).getD undef
def lit1 : DataW Unit → Value
  | .lit (.int k n) => .int k n
  | _ => undef
def flat1 : DataW Unit → List Value
  | .agg l => l.map lit1
  | .lit (.int k n) => [.int k n]
  | _ => []
def flat2 : DataW Unit → List Value
  | .agg l => l.flatMap flat1
  | _ => []
def putG (h : Array Obj) (g : Nat) (cs : List Value) : Array Obj := h.modify g fun
  | .cells _ t frozen => .cells cs.toArray t frozen
  | o => o
def rangeLen : DataW Unit → Nat
  | .ptr (.agg (.slice l _ :: _)) => l.length
  | _ => 0
def rangeLatin : DataW Unit → Value
  | .ptr (.agg [_, _, d]) => lit1 d
  | _ => undef
/-- The elements of the slice behind a listed pointer to a table of ranges. -/
def rangeCells : DataW Unit → List Value
  | .ptr (.agg (.slice l _ :: _)) => l.flatMap flat1
  | _ => []

end Go.Am

/- Plain laws on counted loops. No condition. -/
namespace Go.Am
open Go

theorem loopN_end {X : Type} {g : X → Bool} {next : X → X} {x : X} (h : g x = false) : ∀ F, loopN g next F x = x := by
  intro F
  cases F with
  | zero => rfl
  | succ F => simp [loopN, h]

/-- A loop by a measure: what holds at the end, and that it ends. -/
theorem loop_ind {X : Type} {g : X → Bool} {next : X → X} (inv : X → Prop) (m : X → Nat) (hstep : ∀ x, inv x → g x = true → inv (next x) ∧ m (next x) < m x) :
    ∀ {x : X}, inv x → m x < fuel → inv (loopEnd g next x) ∧ g (loopEnd g next x) = false := by
  have key : ∀ (F : Nat) (x : X), inv x → m x < F → inv (loopN g next F x) ∧ g (loopN g next F x) = false := by
    intro F
    induction F with
    | zero => intro x _ h; omega
    | succ F ih =>
      intro x hx hm
      simp only [loopN]
      cases hg : g x with
      | false => simp only [cond_false]; exact ⟨hx, hg⟩
      | true =>
        simp only [cond_true]
        have := hstep x hx hg
        exact ih _ this.1 (by omega)
  intro x hx hm
  exact key fuel x hx hm

theorem ends_ind {X : Type} {g : X → Bool} {next : X → X} {ok : X → Prop} (inv : X → Prop) (m : X → Nat) (hok : ∀ x, inv x → ok x) (hstep : ∀ x, inv x → g x = true → inv (next x) ∧ m (next x) < m x) :
    ∀ {x : X}, inv x → m x < fuel → Am.Ends g next ok x := by
  have key : ∀ (F : Nat) (x : X), inv x → m x < F → ∃ k, k < F ∧ Runs g next ok k x := by
    intro F
    induction F with
    | zero => intro x _ h; omega
    | succ F ih =>
      intro x hx hm
      cases hg : g x with
      | false => exact ⟨0, by omega, hok x hx, hg⟩
      | true =>
        have := hstep x hx hg
        obtain ⟨k, hk, hr⟩ := ih _ this.1 (by omega)
        exact ⟨k + 1, by omega, hok x hx, hg, hr⟩
  intro x hx hm
  exact key fuel x hx hm

/-- The loop that looks for the first place at which something is so. -/
theorem scan {g : Int × Unit → Bool} {next : Int × Unit → Int × Unit} {n : Int} {c : Int → Bool} (hn0 : 0 ≤ n) (hn : n < 9223372036854775808) (hg : ∀ x, g x = (decide (x.1 < n) && !(c x.1))) (hx : ∀ x, next x = (x.1 + 1, ())) :
    ∃ j, 0 ≤ j ∧ j ≤ n ∧ loopEnd g next (0, ()) = (j, ()) ∧ (∀ k, 0 ≤ k → k < j → c k = false) ∧ (j < n → c j = true) := by
  have h := loop_ind (g := g) (next := next) (fun x => 0 ≤ x.1 ∧ x.1 ≤ n ∧ ∀ k, 0 ≤ k → k < x.1 → c k = false) (fun x => (n - x.1).toNat) (fun x hi hgx => by
    rw [hg] at hgx
    simp only [Bool.and_eq_true, decide_eq_true_eq, Bool.not_eq_true'] at hgx
    rw [hx]
    refine ⟨⟨by omega, by omega, fun k h1 h2 => ?_⟩, by simp only; omega⟩
    by_cases e : k = x.1
    · rw [e]; exact hgx.2
    · exact hi.2.2 k h1 (by simp only at h2; omega)) (x := (0, ())) ⟨by simp, hn0, fun k h1 h2 => by simp only at h2; omega⟩ (by simp only [fuel]; omega)
  generalize hj : loopEnd g next (0, ()) = e at h
  obtain ⟨⟨h1, h2, h3⟩, h4⟩ := h
  refine ⟨e.1, h1, h2, rfl, h3, fun hlt => ?_⟩
  rw [hg] at h4
  simp only [Bool.and_eq_false_iff, decide_eq_false_iff_not, Bool.not_eq_false'] at h4
  rcases h4 with h4 | h4
  · exact absurd hlt h4
  · exact h4

theorem scan_ends {g : Int × Unit → Bool} {next : Int × Unit → Int × Unit} {ok : Int × Unit → Prop} {n : Int} (hn0 : 0 ≤ n) (hn : n < 9223372036854775808) (hg : ∀ x, g x = true → x.1 < n) (hx : ∀ x, next x = (x.1 + 1, ()))
    (hok : ∀ x : Int × Unit, 0 ≤ x.1 → x.1 ≤ n → ok x) : Am.Ends g next ok (0, ()) :=
  ends_ind (fun x => 0 ≤ x.1 ∧ x.1 ≤ n) (fun x => (n - x.1).toNat) (fun x h => hok x h.1 h.2) (fun x hi hgx => by
    have := hg x hgx
    rw [hx]
    refine ⟨⟨by simp only; omega, by simp only; omega⟩, by simp only; omega⟩) ⟨by simp, hn0⟩ (by simp only [fuel]; omega)

/-- Is something so at some place ahead of n? -/
def anyI (n : Int) (c : Int → Bool) : Bool := (List.range n.toNat).any fun i => c (i : Int)

theorem scan_any {g : Int × Unit → Bool} {next : Int × Unit → Int × Unit} {n : Int} {c : Int → Bool} (hn0 : 0 ≤ n) (hn : n < 9223372036854775808) (hg : ∀ x, g x = (decide (x.1 < n) && !(c x.1))) (hx : ∀ x, next x = (x.1 + 1, ())) :
    (decide ((loopEnd g next (0, ())).1 < n) && c (loopEnd g next (0, ())).1) = anyI n c := by
  obtain ⟨j, h1, h2, h3, h4, h5⟩ := scan hn0 hn hg hx
  rw [h3]
  rw [Bool.eq_iff_iff]
  simp only [Bool.and_eq_true, decide_eq_true_eq, anyI, List.any_eq_true, List.mem_range]
  constructor
  · rintro ⟨h, h'⟩; exact ⟨j.toNat, by omega, by rw [Int.toNat_of_nonneg h1]; exact h'⟩
  · rintro ⟨i, hi, hc⟩
    by_cases hj : j < n
    · exact ⟨hj, h5 hj⟩
    · have := h4 (i : Int) (by omega) (by omega)
      rw [this] at hc; cases hc

theorem anyI_congr {n m : Int} {c d : Int → Bool} (h : n = m) (h' : ∀ i, 0 ≤ i → i < n → c i = d i) : anyI n c = anyI m d := by
  subst h
  unfold anyI
  rw [Bool.eq_iff_iff]
  simp only [List.any_eq_true, List.mem_range]
  constructor
  · rintro ⟨i, hi, hc⟩; exact ⟨i, hi, by rw [← h' i (by omega) (by omega)]; exact hc⟩
  · rintro ⟨i, hi, hc⟩; exact ⟨i, hi, by rw [h' i (by omega) (by omega)]; exact hc⟩

theorem len_nonneg {α : Type} (l : List α) : 0 ≤ len l := by simp [len]

/-- A counted loop that carries a value along. -/
def foldI {A : Type} (step : A → Int → A) : Nat → A → A
  | 0, a => a
  | k + 1, a => step (foldI step k a) (k : Int)

theorem fold_loop {A : Type} {g : A × Int × Unit → Bool} {next : A × Int × Unit → A × Int × Unit} {n : Int} {step : A → Int → A} (hn0 : 0 ≤ n) (hn : n < 9223372036854775808) (hg : ∀ x, g x = decide (x.2.1 < n)) (hx : ∀ x, next x = (step x.1 x.2.1, x.2.1 + 1, ())) (a : A) :
    loopEnd g next (a, 0, ()) = (foldI step n.toNat a, n, ()) := by
  have h := loop_ind (g := g) (next := next) (fun x => 0 ≤ x.2.1 ∧ x.2.1 ≤ n ∧ x.1 = foldI step x.2.1.toNat a) (fun x => (n - x.2.1).toNat) (fun x hi hgx => by
    rw [hg] at hgx
    have hgx := of_decide_eq_true hgx
    rw [hx]
    refine ⟨⟨by simp only; omega, by simp only; omega, ?_⟩, by simp only; omega⟩
    simp only
    have e : (x.2.1 + 1).toNat = x.2.1.toNat + 1 := by omega
    rw [e, foldI, ← hi.2.2, Int.toNat_of_nonneg hi.1]) (x := (a, 0, ())) ⟨by simp, hn0, rfl⟩ (by simp only [fuel]; omega)
  generalize loopEnd g next (a, 0, ()) = e at h
  obtain ⟨⟨h1, h2, h3⟩, h4⟩ := h
  rw [hg] at h4
  have h4 := of_decide_eq_false h4
  obtain ⟨e1, e2, e3⟩ := e
  simp only at h1 h2 h3 h4
  have : e2 = n := by omega
  subst this
  rw [h3]

theorem fold_ends {A : Type} {g : A × Int × Unit → Bool} {next : A × Int × Unit → A × Int × Unit} {ok : A × Int × Unit → Prop} {n : Int} {step : A → Int → A} (hn0 : 0 ≤ n) (hn : n < 9223372036854775808) (hg : ∀ x, g x = decide (x.2.1 < n)) (hx : ∀ x, next x = (step x.1 x.2.1, x.2.1 + 1, ())) (a : A)
    (hok : ∀ i : Int, 0 ≤ i → i ≤ n → ok (foldI step i.toNat a, i, ())) : Am.Ends g next ok (a, 0, ()) :=
  ends_ind (fun x => 0 ≤ x.2.1 ∧ x.2.1 ≤ n ∧ x.1 = foldI step x.2.1.toNat a) (fun x => (n - x.2.1).toNat) (fun x h => by
    have := hok x.2.1 h.1 h.2.1
    rw [← h.2.2] at this
    exact this) (fun x hi hgx => by
    rw [hg] at hgx
    have hgx := of_decide_eq_true hgx
    rw [hx]
    refine ⟨⟨by simp only; omega, by simp only; omega, ?_⟩, by simp only; omega⟩
    simp only
    have e : (x.2.1 + 1).toNat = x.2.1.toNat + 1 := by omega
    rw [e, foldI, ← hi.2.2, Int.toNat_of_nonneg hi.1]) ⟨by simp, hn0, rfl⟩ (by simp only [fuel]; omega)

theorem foldI_inv {A : Type} {step : A → Int → A} (inv : A → Prop) {n : Nat} (hs : ∀ a i, 0 ≤ i → i < (n : Int) → inv a → inv (step a i)) {a : A} (h : inv a) : ∀ k, k ≤ n → inv (foldI step k a) := by
  intro k
  induction k with
  | zero => intro _; exact h
  | succ k ih => intro hk; exact hs _ _ (by omega) (by omega) (ih (by omega))

end Go.Am
