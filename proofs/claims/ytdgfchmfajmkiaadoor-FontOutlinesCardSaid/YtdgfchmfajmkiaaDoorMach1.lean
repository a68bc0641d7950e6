/- The abstract machine, part 1: a typed interpreter for the program's code, and that it is sound. No condition. -/
import Derived.Calls
import Derived.KernelRfl
import Derived.Orders
import Derived.Laws.AppendOwn
import Derived.Below
import Derived.Deep.MidRow
import Derived.IntWalk
import Derived.Laws.StructEq
import Derived.ChangeKeysEq
import Derived.Great.BuildSlice
namespace Go.Am
open Go
inductive Ty where
  | int (k : IntKind) | bool | str | nl | cons (h t : Ty) | st (f : Ty) | arr (n : Nat) (t : Ty) | sl (t : Ty) | ptr (t : Ty)
@[reducible] def Ty.den : Ty → Type
  | .int _ => Int | .bool => Bool | .str => List UInt8 | .nl => Unit | .cons h t => h.den × t.den
  | .st f => f.den | .arr _ t => List t.den | .sl t => List t.den | .ptr t => t.den
def kindNo : IntKind → Nat
  | .i8 => 0 | .i16 => 1 | .i32 => 2 | .i64 => 3 | .u8 => 4 | .u16 => 5 | .u32 => 6 | .u64 => 7
theorem kindNo_inj {a b : IntKind} (h : kindNo a = kindNo b) : a = b := by cases a <;> cases b <;> first | rfl | (simp [kindNo] at h)
def Ty.beq : Ty → Ty → Bool
  | .int k, .int k' => Nat.beq (kindNo k) (kindNo k')
  | .bool, .bool => true
  | .str, .str => true
  | .nl, .nl => true
  | .cons a b, .cons c d => Ty.beq a c && Ty.beq b d
  | .st a, .st b => Ty.beq a b
  | .arr n a, .arr m b => Nat.beq n m && Ty.beq a b
  | .sl a, .sl b => Ty.beq a b
  | .ptr a, .ptr b => Ty.beq a b
  | _, _ => false
theorem Ty.eq_of_beq : ∀ {a b : Ty}, Ty.beq a b = true → a = b := by
  intro a
  induction a with
  | int k => intro b h; cases b <;> simp [Ty.beq] at h; rename_i k'; have := kindNo_inj h; rw [this]
  | bool => intro b h; cases b <;> simp [Ty.beq] at h; rfl
  | str => intro b h; cases b <;> simp [Ty.beq] at h; rfl
  | nl => intro b h; cases b <;> simp [Ty.beq] at h; rfl
  | cons x y hx hy => intro b h; cases b <;> simp [Ty.beq] at h; rw [hx h.1, hy h.2]
  | st x hx => intro b h; cases b <;> simp [Ty.beq] at h; rw [hx h]
  | arr n x hx => intro b h; cases b <;> simp [Ty.beq] at h; rw [h.1, hx h.2]
  | sl x hx => intro b h; cases b <;> simp [Ty.beq] at h; rw [hx h]
  | ptr x hx => intro b h; cases b <;> simp [Ty.beq] at h; rw [hx h]
def Ty.cast {a : Ty} (b : Ty) (x : a.den) : Option b.den :=
  match h : Ty.beq a b with
  | true => some (Ty.eq_of_beq h ▸ x)
  | false => none
def Ty.dflt : (τ : Ty) → τ.den
  | .int _ => (0 : Int) | .bool => false | .str => ([] : List UInt8) | .nl => () | .cons h t => (h.dflt, t.dflt)
  | .st f => f.dflt | .arr n t => List.replicate n t.dflt | .sl t => ([] : List t.den) | .ptr t => t.dflt
def Ty.size : Ty → Nat
  | .int _ => 1 | .bool => 1 | .str => 1 | .nl => 0 | .cons h t => h.size + t.size
  | .st f => f.size | .arr n t => n * t.size | .sl _ => 1 | .ptr _ => 1
def Ty.isAgg : Ty → Bool
  | .st _ => true | .arr _ _ => true | _ => false
def Ty.isL : Ty → Bool
  | .nl => true | .cons _ _ => true | _ => false
def Ty.plain : Ty → Bool
  | .cons h t => !h.isL && h.plain && t.isL && t.plain
  | .st f => f.isL && f.plain
  | .arr _ t => !t.isL && t.plain
  | .sl t => !t.isL && t.plain
  | .ptr t => !t.isL && t.plain
  | _ => true
def Ty.hasSl : Ty → Bool
  | .sl _ => true | .cons h t => h.hasSl || t.hasSl | .st f => f.hasSl | _ => false
def Ty.fty : Ty → Nat → Ty
  | .cons h _, 0 => h
  | .cons _ t, k + 1 => t.fty k
  | _, _ => .nl
def Ty.fget : (f : Ty) → (k : Nat) → f.den → (f.fty k).den
  | .cons _ _, 0, x => x.1
  | .cons _ t, k + 1, x => t.fget k x.2
  | .int _, _, _ => () | .bool, _, _ => () | .str, _, _ => () | .nl, _, _ => () | .st _, _, _ => () | .arr _ _, _, _ => () | .sl _, _, _ => () | .ptr _, _, _ => ()
def Ty.fset : (f : Ty) → (k : Nat) → (f.fty k).den → f.den → f.den
  | .cons _ _, 0, y, x => (y, x.2)
  | .cons _ t, k + 1, y, x => (x.1, t.fset k y x.2)
  | .int _, _, _, x => x | .bool, _, _, x => x | .str, _, _, x => x | .nl, _, _, x => x | .st _, _, _, x => x | .arr _ _, _, _, x => x | .sl _, _, _, x => x | .ptr _, _, _, x => x
def Ty.foff : Ty → Nat → Nat
  | .cons _ _, 0 => 0
  | .cons h t, k + 1 => h.size + t.foff k
  | _, _ => 0
def Ty.flen : Ty → Nat
  | .cons _ t => t.flen + 1
  | _ => 0
def Ty.eqb : (τ : Ty) → τ.den → τ.den → Bool
  | .int _, x, y => @BEq.beq Int _ x y
  | .bool, x, y => @BEq.beq Bool _ x y
  | .str, x, y => @BEq.beq (List UInt8) _ x y
  | .nl, _, _ => true
  | .cons h t, x, y => h.eqb x.1 y.1 && t.eqb x.2 y.2
  | .st f, x, y => f.eqb x y
  | .arr n t, x, y => (List.range n).all fun i => t.eqb (List.getD (α := t.den) x i t.dflt) (List.getD (α := t.den) y i t.dflt)
  | .sl _, _, _ => false
  | .ptr _, _, _ => false
def Ty.cmp : Ty → Bool
  | .int _ => true | .bool => true | .str => true | .nl => true | .cons h t => h.cmp && t.cmp | .st f => f.cmp | .arr _ t => t.cmp | .sl _ => false | .ptr _ => false
def Ty.noPtr : Ty → Bool
  | .ptr _ => false | .cons h t => h.noPtr && t.noPtr | .st f => f.noPtr | .arr _ t => t.noPtr | _ => true
def Ty.eqs : Ty → Bool
  | .bool => true | .st _ => true | .arr _ _ => true | _ => false
def Ty.ht : Ty → Nat
  | .cons h t => max h.ht t.ht | .st f => f.ht + 1 | .arr _ t => t.ht + 1 | _ => 0
abbrev Path := List (Nat ⊕ Int)
def Ty.pty : Ty → Path → Ty
  | τ, [] => τ
  | .st f, .inl k :: p => (f.fty k).pty p
  | .arr _ t, .inr _ :: p => t.pty p
  | _, _ => .nl
def Ty.poff : Ty → Path → Nat
  | _, [] => 0
  | .st f, .inl k :: p => f.foff k + (f.fty k).poff p
  | .arr _ t, .inr i :: p => i.toNat * t.size + t.poff p
  | _, _ => 0
inductive AVal where
  | junk
  | val (τ : Ty) (x : τ.den)
  | opt (s : Nat) (want g : Bool) (A : AVal)
  | nil
  | nn (b : Bool)
  | own (t : Ty) (l : List t.den) (T : Nat) (m : Bool)
  | box (τ : Ty) (c : AVal)
  | ref (s : Nat) (τ : Ty) (p : Path)
  | eref (s : Nat) (T : Nat) (t : Ty) (i : Int) (p : Path)
  | nl
  | cons (h t : AVal)
  | agg (f : Ty) (c : AVal)
  | tup (c : AVal)
  | fn (f : Nat) (c : AVal)
  | raw
  | rref (s : Nat)
  | fptr (f : Nat) (caps : List (Option (Nat × Ty)))
  | ownh (t : Ty) (l : List (List t.den)) (T i U : Nat) (m : Bool)
abbrev St := List (Nat × AVal)
def cutNo : Nat := 1000000
def St.get : St → Nat → AVal
  | [], _ => .junk
  | (s, A) :: r, n => bif Nat.beq s n then A else bif Nat.beq s cutNo then .junk else St.get r n
def AVal.nth : AVal → Nat → AVal
  | .cons h _, 0 => h
  | .cons _ t, k + 1 => t.nth k
  | _, _ => .junk
def AVal.setNth : AVal → Nat → AVal → AVal
  | .cons _ t, 0, B => .cons B t
  | .cons h t, k + 1, B => .cons h (t.setNth k B)
  | A, _, _ => A
def zeroA : Ty → AVal
  | .sl _ => .nil
  | .nl => .nl
  | .cons h t => .cons (zeroA h) (zeroA t)
  | .st f => bif f.hasSl then .agg f (zeroA f) else .val (.st f) f.dflt
  | .int k => .val (.int k) (0 : Int)
  | .bool => .val .bool false
  | .str => .val .str ([] : List UInt8)
  | .arr n t => .val (.arr n t) (Ty.dflt (.arr n t))
  | .ptr _ => .junk
def constA : Value → AVal
  | .bool b => .val .bool b
  | .int k n => .val (.int k) n
  | .string s => .val .str s.data.toList
  | .slice none 0 0 => .nil
  | _ => .junk
def explode : (f : Ty) → f.den → AVal
  | .cons h t, x => .cons (.val h x.1) (explode t x.2)
  | _, _ => .nl
def asNil : (τ : Ty) → Option τ.den
  | .sl _ => some []
  | _ => none
def asNl : (τ : Ty) → Option τ.den
  | .nl => some ()
  | _ => none
def asSt (g : (f : Ty) → Option f.den) : (τ : Ty) → Option τ.den
  | .st f => g f
  | _ => none
def asCons (g g' : (f : Ty) → Option f.den) : (τ : Ty) → Option τ.den
  | .cons h t => match g h, g' t with | some x, some y => some (x, y) | _, _ => none
  | _ => none
def AVal.asT : AVal → (τ : Ty) → Option τ.den
  | .val τ' x, τ => bif τ'.isL then none else Ty.cast τ x
  | .nil, τ => asNil τ
  | .own t l _ m, τ => bif m then none else Ty.cast (a := .sl t) τ l
  | .agg f c, τ => bif Ty.beq (.st f) τ then asSt (AVal.asT c) τ else none
  | .nl, τ => asNl τ
  | .cons a b, τ => asCons (AVal.asT a) (AVal.asT b) τ
  | _, _ => none
def AVal.as (τ : Ty) (A : AVal) : Option τ.den := A.asT τ
def Ty.isSl : Ty → Bool
  | .sl _ => true | _ => false
def fitsCons (g g' : Ty → Bool) : Ty → Bool
  | .cons h t => g h && g' t
  | _ => false
def AVal.fitsT : AVal → Ty → Bool
  | .val τ' _, τ => Ty.beq τ' τ && !τ'.isL
  | .nil, τ => τ.isSl
  | .own t _ _ _, τ => Ty.beq (.sl t) τ
  | .agg f c, τ => Ty.beq (.st f) τ && AVal.fitsT c f
  | .nl, τ => Ty.beq .nl τ
  | .cons a b, τ => fitsCons (AVal.fitsT a) (AVal.fitsT b) τ
  | _, _ => false
def AVal.fits (τ : Ty) (A : AVal) : Bool := A.fitsT τ
def AVal.laxT : AVal → Ty → Bool
  | .val τ' _, τ => Ty.beq τ' τ && !τ'.isL
  | .nil, τ => τ.isSl
  | .own t _ _ _, τ => Ty.beq (.sl t) τ
  | .agg f c, τ => Ty.beq (.st f) τ && AVal.laxT c f
  | .nl, τ => Ty.beq .nl τ
  | .cons a b, τ => fitsCons (AVal.laxT a) (AVal.laxT b) τ
  | .junk, τ => τ.isSl
  | _, _ => false
def AVal.fld (k : Nat) : AVal → AVal
  | .val (.st f) x => .val (f.fty k) (f.fget k x)
  | .agg _ c => c.nth k
  | _ => .junk
def AVal.ix (i : Int) : AVal → AVal
  | .val (.arr _ t) l => .val t (List.getD (α := t.den) l i.toNat t.dflt)
  | _ => .junk
def AVal.at (c : AVal) : Path → AVal
  | [] => c
  | .inl k :: p => (c.fld k).at p
  | .inr i :: p => (c.ix i).at p
def AVal.put : Path → AVal → AVal → AVal
  | [], _, B => B
  | .inl k :: p, .agg f c, B => .agg f (c.setNth k (AVal.put p (c.nth k) B))
  | .inl k :: p, .val (.st f) x, B =>
    let C := AVal.put p (.val (f.fty k) (f.fget k x)) B
    match AVal.as (f.fty k) C with
    | some y => .val (.st f) (f.fset k y x)
    | none => .agg f ((explode f x).setNth k C)
  | .inr i :: p, .val (.arr n t) l, B =>
    match AVal.as t (AVal.put p (.val t (List.getD (α := t.den) l i.toNat t.dflt)) B) with
    | some y => .val (.arr n t) (List.set (α := t.den) l i.toNat y)
    | none => .junk
  | _, _, _ => .junk
def AVal.hasTag (T : Nat) : AVal → Bool
  | .own _ _ T' _ => Nat.beq T T'
  | .eref _ T' _ _ _ => Nat.beq T T'
  | .ownh _ _ T' _ U _ => Nat.beq T T' || Nat.beq T U
  | .opt _ _ _ A => A.hasTag T
  | .box _ c => c.hasTag T
  | .cons h t => h.hasTag T || t.hasTag T
  | .agg _ c => c.hasTag T
  | .tup c => c.hasTag T
  | .fn _ c => c.hasTag T
  | _ => false
def capIs (s : Nat) : Option (Nat × Ty) → Bool
  | some (k, _) => Nat.beq s k
  | none => false
def AVal.hasRef (s : Nat) : AVal → Bool
  | .ref s' _ _ => Nat.beq s s'
  | .rref s' => Nat.beq s s'
  | .fptr _ caps => caps.any (capIs s)
  | .opt _ _ _ A => A.hasRef s
  | .box _ c => c.hasRef s
  | .cons h t => h.hasRef s || t.hasRef s
  | .agg _ c => c.hasRef s
  | .tup c => c.hasRef s
  | .fn _ c => c.hasRef s
  | _ => false
def AVal.mapOwn (g : (t : Ty) → List t.den → Nat → Bool → AVal) (h : Nat → Nat → Ty → Int → Path → AVal) : AVal → AVal
  | .own t l T m => g t l T m
  | .eref s T t i p => h s T t i p
  | .opt s w b A => .opt s w b (A.mapOwn g h)
  | .box τ c => bif (c.mapOwn g h).laxT τ then .box τ (c.mapOwn g h) else .junk
  | .cons x y => .cons (x.mapOwn g h) (y.mapOwn g h)
  | .agg f c => bif (c.mapOwn g h).laxT f then .agg f (c.mapOwn g h) else .junk
  | .tup c => .tup (c.mapOwn g h)
  | .fn f c => .fn f (c.mapOwn g h)
  | .ownh _ _ _ _ _ _ => .junk
  | A => A
def AVal.retag (T U : Nat) : AVal → AVal :=
  AVal.mapOwn (fun t l T' m => .own t l (bif Nat.beq T T' then U else T') m) (fun s T' t i p => .eref s (bif Nat.beq T T' then U else T') t i p)
def AVal.retagH (T U : Nat) : AVal → AVal
  | .ownh t l T' i V m => .ownh t l (bif Nat.beq T T' then U else T') i (bif Nat.beq T V then U else V) m
  | A => A.retag T U
def AVal.lose (T : Nat) : AVal → AVal :=
  AVal.mapOwn (fun t l T' m => bif Nat.beq T T' then (bif m then .junk else .val (.sl t) l) else .own t l T' m) (fun s T' t i p => bif Nat.beq T T' then .junk else .eref s T' t i p)
def AVal.gone (T : Nat) : AVal → AVal :=
  AVal.mapOwn (fun t l T' m => bif Nat.beq T T' then .junk else .own t l T' m) (fun s T' t i p => bif Nat.beq T T' then .junk else .eref s T' t i p)
def AVal.hung (d : Nat) : AVal → Bool
  | .opt s _ _ A => Nat.beq s d || A.hung d
  | .cons a b => a.hung d || b.hung d
  | .tup c => c.hung d
  | .fn _ c => c.hung d
  | _ => false
def AVal.hasOpt : AVal → Bool
  | .opt _ _ _ _ => true
  | .cons a b => a.hasOpt || b.hasOpt
  | .tup c => c.hasOpt
  | .fn _ c => c.hasOpt
  | _ => false
structure GTab where
  tab : List (Nat × (τ : Ty) × τ.den)
abbrev GlobTab : Type := Inhabited GTab
def GlobTab.tab [i : GlobTab] : List (Nat × (τ : Ty) × τ.den) := (@default GTab i).tab
def Ty.nsl : Ty → Nat
  | .sl _ => 1 | .cons h t => h.nsl + t.nsl | .st f => f.nsl | _ => 0
def AVal.pos : AVal → Ty → Nat → AVal
  | .own t l _ m, _, b => .own t l b m
  | .agg f c, _, b => .agg f (c.pos f b)
  | .cons x y, .cons h t, b => .cons (x.pos h b) (y.pos t (b + h.nsl))
  | .cons _ _, _, _ => .junk
  | A, _, _ => A
def AVal.tags : AVal → Ty → Nat → List (Nat × Nat)
  | .own _ _ T _, _, b => [(T, b)]
  | .agg f c, _, b => c.tags f b
  | .cons x y, .cons h t, b => x.tags h b ++ y.tags t (b + h.nsl)
  | _, _, _ => []
def Ty.noMem : Ty → Bool
  | .sl _ => false | .ptr _ => false | .cons h t => h.noMem && t.noMem | .st f => f.noMem | .arr _ t => t.noMem | _ => true
def AVal.scal : AVal → Bool
  | .val τ _ => τ.noMem
  | .nil => true
  | .own t _ _ _ => t.noMem
  | .tup c => c.scal
  | .nl => true
  | .cons a b => a.scal && b.scal
  | _ => false
def AVal.pureL : AVal → Bool
  | .nl => true
  | .cons (.val _ _) t => t.pureL
  | .cons .nil t => t.pureL
  | .cons (.fn _ .nl) t => t.pureL
  | _ => false
end Go.Am
namespace Go.Am
open Go
structure CallOut where
  ok : List Prop
  res : AVal
  outs : List (Nat × AVal)
  eats : List Nat
abbrev Spec := List AVal → Option CallOut
structure Comp where
  kind : Nat
  g : Option Bool
  d : St
structure Out where
  ok : List Prop
  comps : List Comp
structure Ctx where
  tys : List (Nat × Ty)
  fns : List (Nat × Spec)
  loops : List (Nat × (St → Option Out))
  gh : List (Nat × List (Nat × Nat × Nat × Nat))
  wrap : Bool
  n : Nat
  keep : List Nat
  wr : List Nat
  wants : List (Nat × List Nat) := []
  exts : List (Nat × (List AVal → Option (List Prop × AVal))) := []
  maps : List (Nat × (Ty × Ty)) := []
  fts : List Nat := []
  clones : List (Nat × Nat) := []
def look {α : Type} (dflt : α) : List (Nat × α) → Nat → α
  | [], _ => dflt
  | (k, a) :: r, n => bif Nat.beq k n then a else look dflt r n
def Ctx.ty (c : Ctx) (T : Nat) : Ty := look .nl c.tys T
def notNl : Ty → Bool
  | .nl => false | _ => true
def Ctx.is (c : Ctx) (T : Nat) (τ : Ty) : Bool := Ty.beq τ (c.ty T) && notNl τ
def Ctx.mapTy (c : Ctx) (T : Nat) : Option (Ty × Ty) := look none (c.maps.map fun e => (e.1, some e.2)) T
@[reducible] def mapT (k v : Ty) : Ty := .cons k (.cons v .nl)
def mfind (k v : Ty) (x : k.den) : List (k.den × v.den × Unit) → Option v.den
  | [] => none
  | e :: r => bif k.eqb x e.1 then some e.2.1 else mfind k v x r
def mset (k v : Ty) (x : k.den) (y : v.den) : List (k.den × v.den × Unit) → List (k.den × v.den × Unit)
  | [] => [(x, y, ())]
  | e :: r => bif k.eqb x e.1 then (x, y, ()) :: r else e :: mset k v x y r
def InR (r : Int) : Prop := -9223372036854775808 ≤ r ∧ r ≤ 9223372036854775807
def globA : List (Nat × (τ : Ty) × τ.den) → Nat → AVal
  | [], _ => .junk
  | (k, ⟨τ, x⟩) :: r, g => bif Nat.beq k g then .val (.ptr τ) x else globA r g
def arg [GlobTab] (S : St) : Operand → AVal
  | .tmp t => match S.get t with | .box τ _ => .ref t τ [] | .raw => .rref t | A => A
  | .const v => constA v
  | .func f => .fn f .nl
  | .global g => globA GlobTab.tab g
def content (S : St) : AVal → AVal
  | .ref s _ _ => S.get s
  | .eref s _ _ _ _ => S.get s
  | .rref s => S.get s
  | _ => .junk
def gand : Option Bool → Option Bool → Option Bool
  | none, g => g
  | some a, none => some a
  | some a, some b => some (a && b)
abbrev Gd := Option (Nat × Bool × Bool)
def guardOf (dsts : List (Option Nat)) (S : St) : Option (Nat × Bool) → Option Gd
  | none => some none
  | some (j, want) =>
    match dsts[j]? with
    | some (some s) => match S.get s with
      | .val .bool b => some (some (s, want, bif want then b else !b))
      | .opt _ _ g (.val .bool b) => some (some (s, want, g && (bif want then b else !b)))
      | _ => none
    | _ => none
def strip1 (gd : Gd) : AVal → AVal
  | .opt s w _ A => match gd with
    | some (s', w', _) => bif Nat.beq s s' && (w == w') then A else .junk
    | none => .junk
  | A => A
def litInt : Operand → Option Int
  | .const (.int _ n) => some n
  | _ => none
def isI64 : IntKind → Bool
  | .i64 => true | _ => false
def arith (wrap : Bool) (k : IntKind) (r : Int) : List Prop × AVal :=
  bif !wrap && isI64 k then ([InR r], .val (.int k) r) else ([], .val (.int k) (k.wrap r))
def nonzero (y : Operand) (b : Int) : List Prop :=
  match litInt y with
  | some n => bif n == 0 then [False] else []
  | none => [b ≠ 0]
def nonneg (y : Operand) (b : Int) : List Prop :=
  match litInt y with
  | some n => bif decide (0 ≤ n) then [] else [False]
  | none => [0 ≤ b]
def bitsOf (k : IntKind) (f : BitVec k.bits → BitVec k.bits → BitVec k.bits) (a b : Int) : Int :=
  k.wrap ((f (BitVec.ofInt k.bits a) (BitVec.ofInt k.bits b)).toNat)
def intBin (wrap : Bool) (op : BinOp) (k : IntKind) (a b : Int) (y : Operand) : Option (List Prop × AVal) :=
  match op with
  | .add => some (arith wrap k (a + b))
  | .sub => some (arith wrap k (a - b))
  | .mul => some (arith wrap k (a * b))
  | .quo => some (nonzero y b ++ (arith wrap k (a.tdiv b)).1, (arith wrap k (a.tdiv b)).2)
  | .rem => some (nonzero y b, .val (.int k) (a.tmod b))
  | .and => some ([], .val (.int k) (bitsOf k (fun x y => x &&& y) a b))
  | .or => some ([], .val (.int k) (bitsOf k (fun x y => x ||| y) a b))
  | .xor => some ([], .val (.int k) (bitsOf k (fun x y => x ^^^ y) a b))
  | .andNot => some ([], .val (.int k) (bitsOf k (fun x y => x &&& ~~~y) a b))
  | .eql => some ([], .val .bool (a == b))
  | .neq => some ([], .val .bool (a != b))
  | .lss => some ([], .val .bool (decide (a < b)))
  | .leq => some ([], .val .bool (decide (a ≤ b)))
  | .gtr => some ([], .val .bool (decide (a > b)))
  | .geq => some ([], .val .bool (decide (a ≥ b)))
  | _ => none
def shiftBin (wrap : Bool) (op : BinOp) (k : IntKind) (a b : Int) (y : Operand) : Option (List Prop × AVal) :=
  match op with
  | .shl => some (nonneg y b ++ (arith wrap k (a * 2 ^ (min b.toNat k.bits))).1, (arith wrap k (a * 2 ^ (min b.toNat k.bits))).2)
  | .shr => some (nonneg y b, .val (.int k) (a.fdiv (2 ^ (min b.toNat k.bits))))
  | _ => none
def isShift : BinOp → Bool
  | .shl => true | .shr => true | _ => false
def strBin (op : BinOp) (a b : List UInt8) : Option (List Prop × AVal) :=
  match op with
  | .add => some ([((a.length + b.length : Nat) : Int) ≤ 9223372036854775807], .val .str (a ++ b))
  | .eql => some ([], .val .bool (a == b))
  | .neq => some ([], .val .bool (!(a == b)))
  | .lss => some ([], .val .bool (Op.bytesLess a b))
  | .leq => some ([], .val .bool (Op.bytesLess a b || a == b))
  | .gtr => some ([], .val .bool (!(Op.bytesLess a b || a == b)))
  | .geq => some ([], .val .bool (!(Op.bytesLess a b)))
  | _ => none
def eqBin (op : BinOp) (τ : Ty) (x y : AVal) : Option (List Prop × AVal) :=
  match τ.cmp && τ.eqs, AVal.as τ x, AVal.as τ y with
  | true, some a, some b =>
    match op with
    | .eql => some ([], .val .bool (τ.eqb a b))
    | .neq => some ([], .val .bool (!(τ.eqb a b)))
    | _ => none
  | _, _, _ => none
def nilRes (op : BinOp) (p : List Prop) (b : Bool) : Option (List Prop × AVal) :=
  match op with
  | .eql => some (p, .val .bool b)
  | .neq => some (p, .val .bool (!b))
  | _ => none
def eqNil (c : Ctx) (op : BinOp) (T : Nat) (x : AVal) : Option (List Prop × AVal) :=
  match c.ty T with
  | .sl _ => (match x with
    | .nil => nilRes op [] true
    | .nn b => nilRes op [] b
    | .val (.sl t) l => nilRes op [0 < List.length (α := t.den) l] false
    | .own t l _ _ => bif t.isL then none else nilRes op [0 < l.length] false
    | _ => none)
  | _ => none
def binA (c : Ctx) (op : BinOp) (T : Nat) (x y : AVal) (oy : Operand) : Option (List Prop × AVal) :=
  match x, y with
  | .val (.int k) a, .val (.int k') b =>
    bif isShift op then shiftBin c.wrap op k a b oy
    else bif Nat.beq (kindNo k) (kindNo k') then intBin c.wrap op k a b oy else none
  | .val .str a, .val .str b => strBin op a b
  | x, .nil => eqNil c op T x
  | x, y => eqBin op (c.ty T) x y
def unA (c : Ctx) (op : UnOp) (x : AVal) : Option (List Prop × AVal) :=
  match op, x with
  | .not, .val .bool b => some ([], .val .bool (!b))
  | .neg, .val (.int k) n => some (arith c.wrap k (Int.sub 0 n))
  | .xor, .val (.int k) n => some ([], .val (.int k) (bitsOf k (fun x y => x ^^^ y) (if k.signed then -1 else k.max) n))
  | _, _ => none
def convA (c : Ctx) (src dst : Nat) (x : AVal) : Option (List Prop × AVal) :=
  match c.ty src, c.ty dst, x with
  | .int _, .int k, .val (.int _) n => some ([], .val (.int k) (k.wrap n))
  | .str, .str, .val .str s => some ([], .val .str s)
  | _, _, _ => none
def bounds (ix : Operand) (i : Int) (n : Int) : List Prop :=
  match litInt ix with
  | some _ => [0 ≤ i ∧ i < n]
  | none => [0 ≤ i ∧ i < n]
def indexAddrA (c : Ctx) (T : Nat) (x : AVal) (s : Nat) (i : AVal) (ix : Operand) : Option (List Prop × AVal) :=
  match x, i with
  | .val (.sl t) l, .val (.int _) i => bif c.is T (.sl t) then some (bounds ix i (List.length (α := t.den) l : Int), .val (.ptr t) (List.getD (α := t.den) l i.toNat t.dflt)) else none
  | .own t l U m, .val (.int _) i =>
    bif c.is T (.sl t) then
      (bif m then some (bounds ix i (l.length : Int), .eref s U t i [])
       else some (bounds ix i (l.length : Int), .val (.ptr t) (List.getD (α := t.den) l i.toNat t.dflt))) else none
  | .ownh t l U _ V m, .val (.int _) i => bif c.is T (.sl (.sl t)) && (m || !(Nat.beq U V)) then some (bounds ix i (List.length (α := List t.den) l : Int), .eref s U (.sl t) i []) else none
  | .val (.ptr (.arr n t)) l, .val (.int _) i => bif c.is T (.arr n t) then some (bounds ix i (n : Int), .val (.ptr t) (List.getD (α := t.den) l i.toNat t.dflt)) else none
  | .ref s τ p, .val (.int _) i =>
    match τ.pty p with
    | .arr n t => bif c.is T (.arr n t) then some (bounds ix i (n : Int), .ref s τ (p ++ [.inr i])) else none
    | _ => none
  | .eref s U t j p, .val (.int _) i =>
    match t.pty p with
    | .arr n t' => bif c.is T (.arr n t') then some (bounds ix i (n : Int), .eref s U t j (p ++ [.inr i])) else none
    | _ => none
  | _, _ => none
def indexA (c : Ctx) (T : Nat) (x i : AVal) (ix : Operand) : Option (List Prop × AVal) :=
  match x, i with
  | .val .str s, .val (.int _) i => bif c.is T .str then some (bounds ix i (List.length (α := UInt8) s : Int), .val (.int .u8) ((List.getD (α := UInt8) s i.toNat 0).toNat : Int)) else none
  | .val (.arr n t) l, .val (.int _) i => bif c.is T (.arr n t) then some (bounds ix i (n : Int), .val t (List.getD (α := t.den) l i.toNat t.dflt)) else none
  | _, _ => none
def fieldAddrA (c : Ctx) (T : Nat) (x : AVal) (k : Nat) : Option (List Prop × AVal) :=
  match x with
  | .val (.ptr (.st f)) v => bif c.is T (.st f) && Nat.blt k f.flen && Nat.blt 0 (f.fty k).size then some ([], .val (.ptr (f.fty k)) (f.fget k v)) else none
  | .ref s τ p =>
    match τ.pty p with
    | .st f => bif c.is T (.st f) && Nat.blt k f.flen && Nat.blt 0 (f.fty k).size then some ([], .ref s τ (p ++ [.inl k])) else none
    | _ => none
  | .eref s U t i p =>
    match t.pty p with
    | .st f => bif c.is T (.st f) && Nat.blt k f.flen && Nat.blt 0 (f.fty k).size then some ([], .eref s U t i (p ++ [.inl k])) else none
    | _ => none
  | _ => none
def fieldA (c : Ctx) (T : Nat) (x : AVal) (k : Nat) : Option (List Prop × AVal) :=
  match x with
  | .val (.st f) v => bif c.is T (.st f) && Nat.blt k f.flen then some ([], .val (f.fty k) (f.fget k v)) else none
  | .agg f a => bif c.is T (.st f) && Nat.blt k f.flen then some ([], a.nth k) else none
  | _ => none
def capA (f : Nat) (caps : List (Option (Nat × Ty))) : List (Option (Nat × Ty)) → AVal
  | [] => .nl
  | some (k, τ) :: r => .cons (.ref k τ []) (capA f caps r)
  | none :: r => .cons (.fptr f caps) (capA f caps r)
def capsOf (s : Nat) : AVal → Option (List (Option (Nat × Ty)))
  | .nl => some []
  | .cons (.ref k τ []) t => (match capsOf s t with | some r => some (some (k, τ) :: r) | none => none)
  | .cons (.rref s') t => bif Nat.beq s s' then (match capsOf s t with | some r => some (none :: r) | none => none) else none
  | _ => none
def loadA (c : Ctx) (T : Nat) (x cont : AVal) : Option (List Prop × AVal) :=
  match x with
  | .fptr f caps => bif c.fts.any (Nat.beq T) then some ([], .fn f (capA f caps caps)) else none
  | .val (.ptr t) v => bif c.is T t then some ([], .val t v) else none
  | .ref _ τ p =>
    match cont with
    | .box τ' k => bif Ty.beq τ' τ && c.is T (τ.pty p) && AVal.fits (τ.pty p) (k.at p) then some ([], k.at p) else none
    | _ => none
  | .eref _ U t i p =>
    match cont with
    | .ownh t' l U' j V m => bif Ty.beq (.sl t') t && Nat.beq U' U && c.is T (.sl t') && p.isEmpty && !(Nat.beq U' V) then some ([i.toNat = j ∧ i < (List.length (α := List t'.den) l : Int)], .own t' (List.getD (α := List t'.den) l j []) V m) else none
    | .own t' l U' _ => bif Ty.beq t' t && Nat.beq U' U && c.is T (t.pty p) && AVal.fits (t.pty p) ((AVal.val t' (List.getD (α := t'.den) l i.toNat t'.dflt)).at p) then some ([i < (l.length : Int)], (AVal.val t' (List.getD (α := t'.den) l i.toNat t'.dflt)).at p) else none
    | _ => none
  | _ => none
def storeA (c : Ctx) (T : Nat) (x cont v : AVal) : Option (Nat × AVal) :=
  match x with
  | .ref s τ p =>
    match cont with
    | .box τ' k =>
      bif Ty.beq τ' τ && c.is T (τ.pty p) && AVal.fits (τ.pty p) v && AVal.laxT (k.at p) (τ.pty p) && AVal.laxT (AVal.put p k v) τ then some (s, .box τ (AVal.put p k v)) else none
    | _ => none
  | _ => none
def layF (parts : List (Nat × AVal)) (z : AVal) : AVal := parts.foldl (fun a q => a.setNth q.1 q.2) z
def layL (t : Ty) : List (Nat × AVal) → List t.den → Option (List t.den)
  | [], l => some l
  | (k, A) :: r, l => match AVal.as t A with | some x => layL t r (l.set k x) | none => none
def partsFit (f : Ty) (parts : List (Nat × AVal)) : Bool := parts.all fun q => Nat.blt q.1 f.flen && AVal.fits (f.fty q.1) q.2
def buildA (c : Ctx) (T : Nat) (parts : List (Nat × AVal)) : Option (List Prop × AVal) :=
  match c.ty T with
  | .st f =>
    bif partsFit f parts && f.noPtr then
      (bif f.hasSl then some ([], .agg f (layF parts (zeroA f)))
       else match AVal.as f (layF parts (zeroA f)) with | some x => some ([], .val (.st f) x) | none => none)
    else none
  | .arr n t => bif parts.all (fun q => Nat.blt q.1 n) && t.noPtr then (match layL t parts (List.replicate n t.dflt) with | some l => some ([], .val (.arr n t) l) | none => none) else none
  | _ => none
def buildNilA (c : Ctx) (T len dst : Nat) (parts : List (Nat × AVal)) : Option (List Prop × AVal) :=
  match parts with
  | [(0, .nil)] => bif c.wr.any (Nat.beq dst) && Nat.beq len 1 then
      (match c.ty T with
       | .sl (.sl s) => bif !s.isL then some ([], .ownh s [[]] dst 0 (100000 + dst) true) else none
       | _ => none) else none
  | _ => none
def buildSliceA (c : Ctx) (T len dst : Nat) (parts : List (Nat × AVal)) : Option (List Prop × AVal) :=
  match c.ty T with
  | .sl t => bif parts.all (fun q => Nat.blt q.1 len) && Nat.ble (len * t.size) 16777216 && Nat.blt 0 t.size && t.noPtr then (match layL t parts (List.replicate len t.dflt) with | some l => some ([], .own t l dst true) | none => none) else none
  | _ => none
def lenA (c : Ctx) (Ts : List Nat) (x : AVal) : Option (List Prop × AVal) :=
  match Ts with
  | T :: _ =>
    (match x with
     | .val .str s => bif c.is T .str then some ([], .val (.int .i64) (List.length (α := UInt8) s : Int)) else none
     | .val (.sl t) l => bif c.is T (.sl t) then some ([], .val (.int .i64) (List.length (α := t.den) l : Int)) else none
     | .own t l _ _ => bif c.is T (.sl t) then some ([], .val (.int .i64) (l.length : Int)) else none
     | .ownh t l U _ V _ => bif c.is T (.sl (.sl t)) && !(Nat.beq U V) then some ([], .val (.int .i64) (List.length (α := List t.den) l : Int)) else none
     | .nil => bif c.is T (c.ty T) && (c.ty T).isSl then some ([], .val (.int .i64) (0 : Int)) else none
     | _ => none)
  | [] => none
def optInt : Option AVal → Option (Option Int)
  | none => some none
  | some (.val (.int _) n) => some (some n)
  | some _ => none
def cutL {α : Type} (l : List α) (lo hi : Option Int) : List Prop × List α :=
  match lo, hi with
  | none, none => ([], l)
  | none, some h => ([0 ≤ h ∧ h ≤ (l.length : Int)], l.take h.toNat)
  | some a, none => ([0 ≤ a ∧ a ≤ (l.length : Int)], l.drop a.toNat)
  | some a, some h => ([0 ≤ a ∧ a ≤ h ∧ h ≤ (l.length : Int)], (l.take h.toNat).drop a.toNat)
def sliceA (c : Ctx) (T : Nat) (x : AVal) (lo hi : Option AVal) : Option (List Prop × AVal) :=
  match optInt lo, optInt hi with
  | some a, some b =>
    match x with
    | .val .str s => bif c.is T .str then some ((cutL (α := UInt8) s a b).1, .val .str (cutL (α := UInt8) s a b).2) else none
    | .val (.sl t) l => bif c.is T (.sl t) then some ((cutL (α := t.den) l a b).1, .val (.sl t) (cutL (α := t.den) l a b).2) else none
    | .own t l U m => bif c.is T (.sl t) then some ((cutL l a b).1, bif m then .ownh t [(cutL l a b).2] U 0 U false else .val (.sl t) (cutL l a b).2) else none
    | _ => none
  | _, _ => none
def mkAsks (n m : Int) : List Prop := [0 ≤ n ∧ n ≤ m ∧ m ≤ 4294967296]
def mkSliceA (c : Ctx) (T dst : Nat) (n m : AVal) : Option (List Prop × AVal) :=
  match c.ty T, n, m with
  | .sl t, .val (.int _) n, .val (.int _) m => bif Nat.blt 0 t.size && t.noPtr then some (mkAsks n m, .own t (List.replicate (Int.toNat n) t.dflt) dst true) else none
  | _, _, _ => none
def lookupA (c : Ctx) (T : Nat) (x y : AVal) (ok : Bool) : Option (List Prop × AVal) :=
  match c.mapTy T with
  | some (k, v) =>
    match x with
    | .own t l _ _ =>
      match Ty.cast (a := .sl t) (.sl (mapT k v)) l, AVal.as k y with
      | some m, some q => bif ok then some ([], .tup (.cons (.val v ((mfind k v q m).getD v.dflt)) (.cons (.val .bool (mfind k v q m).isSome) .nl))) else some ([], .val v ((mfind k v q m).getD v.dflt))
      | _, _ => none
    | _ => none
  | none => none
def mkMapA (c : Ctx) (T dst : Nat) : Option (List Prop × AVal) :=
  match c.mapTy T with
  | some (k, v) => some ([], .own (mapT k v) [] dst true)
  | none => none
def imax (x y : Int) : Int := if y > x then y else x
def imin (x y : Int) : Int := if y < x then y else x
def foldA (f : Int → Int → Int) : AVal → List AVal → Option AVal
  | A, [] => some A
  | .val (.int k) x, .val (.int k') y :: r => bif Nat.beq (kindNo k) (kindNo k') then foldA f (.val (.int k) (f x y)) r else none
  | _, _ => none
def isIntA : AVal → Bool
  | .val (.int _) _ => true | _ => false
def maxA (f : Int → Int → Int) : List AVal → Option (List Prop × AVal)
  | A :: r => bif isIntA A then (match foldA f A r with | some B => some ([], B) | none => none) else none
  | [] => none
def AVal.clen : AVal → Nat
  | .cons _ t => t.clen + 1
  | _ => 0
def extractA (x : AVal) (k : Nat) : Option (List Prop × AVal) :=
  match x with
  | .tup a => bif Nat.blt k a.clen then some ([], a.nth k) else none
  | _ => none
end Go.Am
namespace Go.Am
open Go
def opsOf : Op → List Operand
  | .move x => [x] | .assign x => [x] | .box _ x => [x] | .load _ a => [a] | .store _ a v => [a, v] | .nilCheck x => [x]
  | .pick x a b => [x, a, b]
  | .binOp _ _ x y _ => [x, y] | .unOp _ _ x => [x] | .convert _ _ x => [x]
  | .build _ ps => ps.toList.map (·.2) | .buildSlice _ _ ps => ps.toList.map (·.2)
  | .makeSlice _ a b => [a, b]
  | .slice _ x lo hi mx => x :: (lo.toList ++ (hi.toList ++ mx.toList))
  | .fieldAddr _ x _ => [x] | .field _ x _ => [x] | .indexAddr _ x i => [x, i] | .index _ x i => [x, i] | .extract t _ => [t]
  | .makeFunc _ _ cs => cs.toList
  | .lookup _ x i _ => [x, i]
  | .mapUpdate _ m k v => [m, k, v]
  | .call { callee := .value f, args, .. } => f :: args.toList
  | .call { callee := .builtin _, args, .. } => args.toList
  | _ => []
def AVal.toL : AVal → List AVal
  | .cons h t => h :: t.toL
  | _ => []
def AVal.ofL : List AVal → AVal
  | [] => .nl
  | A :: r => .cons A (AVal.ofL r)
def ysOf : Op → List AVal → List AVal
  | .call { callee := .value _, .. }, .fn _ cs :: r => r ++ cs.toL
  | _, xs => xs
def tmpsOf : List Operand → List Nat
  | [] => []
  | .tmp t :: r => t :: tmpsOf r
  | _ :: r => tmpsOf r
def slotOf : Operand → Nat
  | .tmp t => t | _ => 0
def zipParts (ps : List (Nat × Operand)) (xs : List AVal) : List (Nat × AVal) := List.zipWith (fun p A => (p.1, A)) ps xs
def refs : List AVal → List Nat
  | [] => []
  | .ref s _ _ :: r => s :: refs r
  | .eref s _ _ _ _ :: r => s :: refs r
  | .rref s :: r => s :: refs r
  | _ :: r => refs r
def handed : AVal → AVal → AVal
  | .ref _ τ [], .box τ' k => bif Ty.beq τ' τ then (match AVal.as τ k with | some x => .box τ (.val τ x) | none => .junk) else .junk
  | .val τ x, _ => .val τ x
  | .nil, _ => .nil
  | .own t l _ m, _ => bif m then .junk else .val (.sl t) l
  | .agg f a, _ => match AVal.as (.st f) (.agg f a) with | some x => .val (.st f) x | none => .junk
  | .fn f cs, _ => bif cs.pureL then .fn f cs else .junk
  | _, _ => .junk
def isBoxA : AVal → Bool
  | .box _ _ => true | _ => false
def covers (outs : List (Nat × AVal)) : Nat → List AVal → Bool
  | _, [] => true
  | i, A :: r => (!(isBoxA A) || outs.any (fun e => Nat.beq e.1 i)) && covers outs (i + 1) r
def resOk : AVal → Bool
  | .junk => true | .val _ _ => true | .nil => true | .own _ _ T _ => Nat.blt T 4 | .agg _ c => resOk c | .nl => true | .cons a b => resOk a && resOk b | .tup c => resOk c
  | _ => false
def properL : AVal → Bool
  | .nl => true | .cons _ t => properL t | _ => false
def refsOnce : List AVal → Bool
  | [] => true
  | .ref s _ _ :: r => !((refs r).any (Nat.beq s)) && refsOnce r
  | _ :: r => refsOnce r
def callSpec (fns : List (Nat × Spec)) (f : Nat) (args : List AVal) : Option CallOut :=
  match fns with
  | [] => none
  | (g, sp) :: r => bif Nat.beq g f then (match sp args with | some o => some o | none => callSpec r f args) else callSpec r f args
def AVal.tagTo (d : Nat) : AVal → AVal
  | .own t l T m => .own t l (T * 100000 + d) m
  | .cons h t => .cons (h.tagTo d) (t.tagTo d)
  | .agg f c => .agg f (c.tagTo d)
  | .tup c => .tup (c.tagTo d)
  | A => A
def isValA : AVal → Bool
  | .val _ _ => true | _ => false
def outsTo (ys args : List AVal) : List (Nat × AVal) → Option St
  | [] => some []
  | (i, k) :: r =>
    match ys[i]?, args[i]?, outsTo ys args r with
    | some (.ref s τ []), some (.box τ' _), some u => bif Ty.beq τ' τ && AVal.fits τ k && isValA k then some ((s, .box τ k) :: u) else none
    | _, _, _ => none
def allHanded : List AVal → List AVal → Bool
  | .ref _ _ [] :: r, A :: l => isBoxA A && allHanded r l
  | _ :: r, _ :: l => allHanded r l
  | _, _ => true
def optArg : Option Operand → List AVal → Option AVal × List AVal
  | none, xs => (none, xs)
  | some _, A :: r => (some A, r)
  | some _, [] => (some .junk, [])
def coreA (c : Ctx) (d : Nat) (op : Op) (xs ks : List AVal) : Option (List Prop × AVal) :=
  match op, xs, ks with
  | .move _, [A], _ => some ([], A)
  | .assign _, [A], _ => some ([], A)
  | .box T _, [A], _ => bif c.is T (c.ty T) && AVal.fits (c.ty T) A then some ([], .box (c.ty T) A) else none
  | .alloc T, [], _ => bif c.fts.any (Nat.beq T) then some ([], .raw) else bif c.is T (c.ty T) && (c.ty T).noPtr then some ([], .box (c.ty T) (zeroA (c.ty T))) else none
  | .load T _, [A], [k] => loadA c T A k
  | .nilCheck _, [A], _ => match A with | .val (.ptr _) _ => some ([], A) | .ref _ _ _ => some ([], A) | .eref _ _ _ _ _ => some ([], A) | .fn _ _ => some ([], A) | _ => none
  | .binOp o T _ y _, [A, B], _ => binA c o T A B y
  | .unOp o _ _, [A], _ => unA c o A
  | .convert s t _, [A], _ => convA c s t A
  | .build T ps, xs, _ => buildA c T (zipParts ps.toList xs)
  | .buildSlice T n ps, xs, _ => (match buildNilA c T n d (zipParts ps.toList xs) with | some r => some r | none => buildSliceA c T n d (zipParts ps.toList xs))
  | .makeSlice T _ _, [A, B], _ => mkSliceA c T d A B
  | .slice T _ lo hi none, A :: r, _ => sliceA c T A (optArg lo r).1 (optArg hi (optArg lo r).2).1
  | .fieldAddr T _ k, [A], _ => fieldAddrA c T A k
  | .field T _ k, [A], _ => fieldA c T A k
  | .indexAddr T x i, [A, B], _ => indexAddrA c T A (slotOf x) B i
  | .index T _ i, [A, B], _ => indexA c T A B i
  | .extract _ k, [A], _ => extractA A k
  | .lookup T _ _ ok, [A, B], _ => lookupA c T A B ok
  | .makeMap T none, [], _ => mkMapA c T d
  | .makeFunc (.func f) fs _, cs, _ => match fs.toList with | [] => some ([], .fn f (AVal.ofL cs)) | _ => none
  | .call { callee := .builtin .len, argTypes, .. }, [A], _ => lenA c argTypes.toList A
  | .call { callee := .builtin .max, .. }, xs, _ => maxA imax xs
  | .call { callee := .builtin .min, .. }, xs, _ => maxA imin xs
  | _, _, _ => none
def fresh : AVal → Bool
  | .box _ _ => true
  | .own _ _ _ _ => true
  | .ownh _ _ _ _ _ _ => true
  | .raw => true
  | _ => false
def tagged (T : Nat) (h : AVal → AVal) (S : St) : St → St
  | [] => []
  | (s, _) :: r => bif (S.get s).hasTag T then (s, h (S.get s)) :: tagged T h S r else tagged T h S r
def noTag (T : Nat) (S : St) : Bool := S.all fun e => !(e.2.hasTag T)
def noRef (s : Nat) (S : St) : Bool := S.all fun e => !(e.2.hasRef s)
def noTagV (T : Nat) (S : St) : Bool := S.all fun e => !((S.get e.1).hasTag T)
def AVal.setEl0 (T : Nat) (t : Ty) (i : Nat) (y : t.den) : AVal → AVal :=
  AVal.mapOwn (fun t' l T' m => bif Nat.beq T T' then (match Ty.cast t' y with | some y' => bif m then .own t' (l.set i y') T' m else .junk | none => .junk) else .own t' l T' m) (fun s T' t i p => .eref s T' t i p)
def AVal.setEl (T : Nat) (t : Ty) (i : Nat) (y : t.den) : AVal → AVal
  | .ownh t' l T' j U m => bif Nat.beq T U && m && !(Nat.beq T' U) then (match Ty.cast t' y with | some y' => .ownh t' (List.set (α := List t'.den) l j ((List.getD (α := List t'.den) l j []).set i y')) T' j U m | none => .junk) else .junk
  | A => A.setEl0 T t i y
def AVal.setHole (T : Nat) (s : Ty) (i : Nat) (x : List s.den) (V : Nat) (m : Bool) : AVal → AVal :=
  AVal.mapOwn (fun t0 l0 T0 m0 => bif Nat.beq T T0 then (match Ty.cast (a := .sl t0) (.sl (.sl s)) l0 with | some l1 => bif m0 then .ownh s (List.set (α := List s.den) l1 i x) T i V m else .junk | none => .junk) else .own t0 l0 T0 m0) (fun s T' t i p => .eref s T' t i p)
def srcA (t : Ty) : AVal → Option (List t.den)
  | .own t' l _ _ => Ty.cast (a := .sl t') (.sl t) l
  | .nn _ => some []
  | B => AVal.as (.sl t) B
def appendA (c : Ctx) (T d : Nat) (A B : AVal) : Option (List Prop × AVal × Option Nat) :=
  match c.ty T with
  | .sl t =>
    bif !(Nat.blt 0 t.size) then none else
    match srcA t B with
    | some l2 =>
      match A with
      | .nil => some ([(l2.length : Int) ≤ 4294967296], .own t l2 d true, none)
      | .own t' l U m => match Ty.cast (a := .sl t') (.sl t) l with
        | some l1 => some ([((List.length (α := t.den) l1 + l2.length : Nat) : Int) ≤ 4294967296], .own t (List.append (α := t.den) l1 l2) d m, some U)
        | none => none
      | _ => none
    | none => none
  | _ => none
def pickArg (gd : Gd) (sc : Operand) (want : Bool) : AVal → AVal
  | .opt s w g A => match sc with
    | .tmp c => bif Nat.beq s c && (w == want) then A else strip1 gd (.opt s w g A)
    | _ => strip1 gd (.opt s w g A)
  | A => A
def under (gd : Gd) (A : AVal) : AVal :=
  match gd with
  | none => A
  | some (s, w, g) => .opt s w g A
def underP (gd : Gd) (l : List Prop) : List Prop :=
  match gd with
  | none => l
  | some (_, _, g) => l.map fun p => g = true → p
def holey : AVal → Bool
  | .own _ _ _ m => m | _ => false
def holeStore (c : Ctx) (T U : Nat) (t : Ty) (i : Int) (p : Path) (t' : Ty) (n : Nat) (U' : Nat) (v : AVal) (S : St) : Option (List Prop × St × Bool) :=
  match v with
  | .own s x V m => bif Ty.beq t' t && Ty.beq (.sl s) t' && Nat.beq U' U && c.is T (.sl s) && p.isEmpty && !(Nat.beq V U) && !s.isL then
      some ([i < (n : Int)], tagged U (AVal.setHole U s i.toNat x V m) S S, true) else none
  | _ => none
def AVal.fill (U : Nat) (t : Ty) (i : Nat) (x : List t.den) (V : Nat) (m : Bool) : AVal → AVal
  | .ownh t' l T' j U' true => bif Nat.beq T' U && Nat.beq U' U then (match Ty.cast (a := .sl t) (.sl t') x with | some x' => .ownh t' (List.set (α := List t'.den) l i x') U i V m | none => .junk) else .junk
  | A => A.gone U
def filled (c : Ctx) (U : Nat) (t : Ty) (i : Nat) (x : List t.den) (V : Nat) (m : Bool) (s0 : Nat) (S : St) : St → St
  | [] => []
  | (s, _) :: r => bif (S.get s).hasTag U then (s, bif Nat.beq s s0 || c.wr.any (Nat.beq s) then (S.get s).fill U t i x V m else (S.get s).gone U) :: filled c U t i x V m s0 S r else filled c U t i x V m s0 S r
def fillAsks (U : Nat) (i : Int) : AVal → List Prop
  | .ownh t l T j U' true => bif Nat.beq T U && Nat.beq U' U then [i.toNat = j ∧ i < (List.length (α := List t.den) l : Int)] else []
  | _ => []
def fillAsksL (U : Nat) (i : Int) (s0 : Nat) (S : St) : List Nat → List Prop
  | [] => []
  | s :: r => (bif Nat.beq s s0 then [] else fillAsks U i (S.get s)) ++ fillAsksL U i s0 S r
def fillStore (c : Ctx) (T s U : Nat) (t : Ty) (i : Int) (p : Path) (t' : Ty) (l : List (List t'.den)) (U' j U2 : Nat) (v : AVal) (S : St) : Option (List Prop × St × Bool) :=
  match v with
  | .own s' x V m => bif Ty.beq (.sl t') t && Nat.beq U' U2 && Nat.beq U' U && c.is T (.sl t') && p.isEmpty && !(Nat.beq V U) && !t'.isL then
      (match Ty.cast (a := .sl s') (.sl t') x with
       | some x' => some ((i.toNat = j ∧ i < (List.length (α := List t'.den) l : Int)) :: fillAsksL U i s S c.wr, filled c U t' i.toNat x' V m s S S, true)
       | none => none) else none
  | _ => none
def storeStep (c : Ctx) (T : Nat) (A k v : AVal) (S : St) : Option (List Prop × St × Bool) :=
  match A with
  | .eref s U t i p => match k with
    | .ownh t' l U' j U2 true => fillStore c T s U t i p t' l U' j U2 v S
    | .own t' l U' true => bif holey v then holeStore c T U t i p t' l.length U' v S else bif Ty.beq t' t && Nat.beq U' U && c.is T (t'.pty p) && AVal.fits (t'.pty p) v then
        (match AVal.as t' (AVal.put p (.val t' (List.getD (α := t'.den) l i.toNat t'.dflt)) v) with
         | some y => some ([i < (l.length : Int)], tagged U (AVal.setEl U t' i.toNat y) S S, true)
         | none => none) else none
    | _ => none
  | .rref s => (match k, v with
    | .raw, .fn f cs => bif c.fts.any (Nat.beq T) then (match capsOf s cs with | some caps => some ([], [(s, .fptr f caps)], false) | none => none) else none
    | _, _ => none)
  | A => match storeA c T A k v with | some u => some ([], [u], false) | none => none
def AVal.setMap (T : Nat) (k v : Ty) (x : k.den) (y : v.den) : AVal → AVal :=
  AVal.mapOwn (fun t' l T' m => bif Nat.beq T T' then (match Ty.cast (a := .sl t') (.sl (mapT k v)) l with | some l' => .own (mapT k v) (mset k v x y l') T' m | none => .junk) else .own t' l T' m) (fun s T' t i p => .eref s T' t i p)
def mapStep (c : Ctx) (T : Nat) (A B C : AVal) (S : St) : Option (List Prop × St × Bool) :=
  match c.mapTy T with
  | some (k, v) =>
    match A with
    | .own t l U _ =>
      match Ty.cast (a := .sl t) (.sl (mapT k v)) l, AVal.as k B, AVal.as v C with
      | some _, some x, some y => some ([], tagged U (AVal.setMap U k v x y) S S, true)
      | _, _, _ => none
    | _ => none
  | none => none
def appendH (c : Ctx) (T d : Nat) (A B : AVal) : Option (List Prop × AVal × Nat) :=
  match B with
  | .ownh s [[]] T' 0 V m =>
    (match A with
     | .own t' l U true => bif c.is T (.sl (.sl s)) && !(Nat.beq V U) && !(Nat.beq T' V) && !(Nat.beq V d) then
        (match Ty.cast (a := .sl t') (.sl (.sl s)) l with
         | some l1 => some ([((List.length (α := List s.den) l1 + 1 : Nat) : Int) ≤ 4294967296], .ownh s (List.append (α := List s.den) l1 [[]]) d (List.length (α := List s.den) l1) V m, U)
         | none => none) else none
     | _ => none)
  | _ => none
def appendStep (c : Ctx) (d T : Nat) (A B : AVal) (S : St) : Option (List Prop × St × Bool) :=
  bif noTag d S then
    (match appendH c T d A B with
     | some (p, R, U) => some (p, (d, R) :: tagged U (AVal.lose U) S S, true)
     | none => (match appendA c T d A B with
       | some (p, R, some U) => some (p, (d, R) :: tagged U (AVal.lose U) S S, true)
       | some (p, R, none) => some (p, [(d, R)], true)
       | none => none)) else none
def callStep (c : Ctx) (gd : Gd) (dst : Option Nat) (f : Nat) (ys ks : List AVal) (S : St) : Option (List Prop × St × Bool) :=
  match callSpec c.fns f (List.zipWith handed ys ks) with
  | none => none
  | some co => bif !(covers co.outs 0 (List.zipWith handed ys ks) && resOk co.res && refsOnce ys && allHanded ys (List.zipWith handed ys ks)) then none else match outsTo ys (List.zipWith handed ys ks) co.outs, co.eats with
    | some u, [] =>
      (match gd with
       | none => (match dst with
         | none => some (co.ok, u, false)
         | some d => bif noTag d S && noTag (100000 + d) S && noTag (200000 + d) S && noTag (300000 + d) S then some (co.ok, (d, co.res.tagTo d) :: u, false) else none)
       | some _ => (match dst, u, co.res with
         | some d, [], .val τ x => some (underP gd co.ok, [(d, under gd (.val τ x))], false)
         | _, _, _ => none))
    | _, _ => none
def nodupN : List Nat → Bool
  | [] => true
  | a :: r => !(r.any (Nat.beq a)) && nodupN r
def pbase (i : Nat) : Nat := 400000 + 100 * i
def hbox (i : Nat) : AVal → List (Nat × Nat)
  | .ref s _ [] => [(s, i)]
  | _ => []
def hboxes : Nat → List AVal → List (Nat × Nat)
  | i, Y :: r => hbox i Y ++ hboxes (i + 1) r
  | _, [] => []
def lkB : List (Nat × Nat) → Nat → Option Nat
  | [], _ => none
  | (s, i) :: r, k => bif Nat.beq s k then some i else lkB r k
def capsTo (HB : List (Nat × Nat)) : List (Option (Nat × Ty)) → Option (List (Option (Nat × Ty)))
  | [] => some []
  | none :: r => (match capsTo HB r with | some l => some (none :: l) | none => none)
  | some (k, τ) :: r => (match lkB HB k, capsTo HB r with | some i, some l => some (some (i, τ) :: l) | _, _ => none)
def handH (HB : List (Nat × Nat)) (wants : List Nat) (i : Nat) : AVal → AVal → AVal
  | .ref _ τ [], .box τ' k => bif Ty.beq τ' τ then .box τ (k.pos τ (pbase i)) else .junk
  | .own t l _ m, _ => bif wants.any (Nat.beq i) then .own t l (pbase i) m else bif m then .junk else .val (.sl t) l
  | .agg f a, _ => bif wants.any (Nat.beq i) then .agg f (a.pos f (pbase i)) else match AVal.as (.st f) (.agg f a) with | some x => .val (.st f) x | none => .junk
  | .val τ x, _ => .val τ x
  | .nil, _ => .nil
  | .fn f cs, _ => bif cs.pureL then .fn f cs else .junk
  | .fptr f caps, _ => (match capsTo HB caps with | some l => .fptr f l | none => .junk)
  | _, _ => .junk
def handL (HB : List (Nat × Nat)) (wants : List Nat) : Nat → List AVal → List AVal → List AVal
  | i, Y :: r, k :: s => handH HB wants i Y k :: handL HB wants (i + 1) r s
  | _, _, _ => []
def htags (wants : List Nat) (i : Nat) : AVal → AVal → List (Nat × Nat)
  | .ref _ τ [], .box _ c => c.tags τ (pbase i)
  | .own _ _ T _, _ => bif wants.any (Nat.beq i) then [(T, pbase i)] else []
  | .agg f c, _ => bif wants.any (Nat.beq i) then c.tags f (pbase i) else []
  | _, _ => []
def htagsL (wants : List Nat) : Nat → List AVal → List AVal → List (Nat × Nat)
  | i, Y :: r, k :: s => htags wants i Y k ++ htagsL wants (i + 1) r s
  | _, _, _ => []
def posOk (l : List (Nat × Nat)) : Bool := l.all fun p => Nat.beq p.1 p.2
structure Bor where
  U : Nat
  T : Nat
  t : Ty
  l : List t.den
  l' : List t.den
  m : Bool
def borsOf : AVal → AVal → Option (List Bor)
  | .own t l U _, k => (match k with
    | .own t' l' T m' => (match Ty.cast (a := .sl t') (.sl t) l' with | some l2 => bif Nat.blt 0 t.size then some [⟨U, T, t, l, l2, m'⟩] else none | none => none)
    | _ => none)
  | .agg f c, k => (match k with | .agg f' c' => bif Ty.beq f f' then borsOf c c' else none | _ => none)
  | .cons a b, k => (match k with | .cons a' b' => (match borsOf a a', borsOf b b' with | some x, some y => some (x ++ y) | _, _ => none) | _ => none)
  | .val _ _, _ => some []
  | .nil, _ => some []
  | .nl, _ => some []
  | _, _ => none
def borLook : List Bor → Nat → Option Bor
  | [], _ => none
  | b :: r, T => bif Nat.beq b.U T then some b else borLook r T
def AVal.turn (bs : List Bor) (L : List Nat) : AVal → AVal :=
  AVal.mapOwn (fun t l T m => match borLook bs T with
    | some b => (match Ty.cast (a := .sl b.t) (.sl t) b.l' with | some l2 => .own t l2 T b.m | none => .junk)
    | none => bif L.any (Nat.beq T) then (bif m then .junk else .val (.sl t) l) else .own t l T m)
    (fun s T t i p => bif L.any (Nat.beq T) then .junk else .eref s T t i p)
def AVal.turnH (bs : List Bor) (L : List Nat) : AVal → AVal
  | .ownh t l T i U _ => bif !(Nat.beq T U) && !(L.any (Nat.beq T)) then .ownh t l T i T true else .junk
  | A => A.turn bs L
def AVal.borAsks (bs : List Bor) : AVal → List Prop
  | .own _ l T _ => match borLook bs T with | some b => [l.length = b.l.length] | none => []
  | .opt _ _ _ A => A.borAsks bs
  | .box _ c => c.borAsks bs
  | .cons a b => a.borAsks bs ++ b.borAsks bs
  | .agg _ c => c.borAsks bs
  | .tup c => c.borAsks bs
  | .fn _ c => c.borAsks bs
  | _ => []
def anyTag (L : List Nat) (A : AVal) : Bool := L.any fun T => A.hasTag T
def turned (bs : List Bor) (L : List Nat) (S : St) : St → St
  | [] => []
  | (s, _) :: r => bif anyTag L (S.get s) then (s, (S.get s).turnH bs L) :: turned bs L S r else turned bs L S r
def turnAsks (bs : List Bor) (L : List Nat) (S : St) : Nat → List Prop
  | 0 => []
  | s + 1 => turnAsks bs L S s ++ (bif anyTag L (S.get s) then (S.get s).borAsks bs else [])
def out1 (Y : AVal) (i : Nat) (k : AVal) : Option (St × List Bor × List (Nat × Nat)) :=
  match Y with
  | .ref s τ [] => bif AVal.fits τ k && posOk (k.tags τ (pbase i)) then some ([(s, .box τ (k.pos τ (pbase s)))], [], k.tags τ (pbase s)) else none
  | Y => match borsOf Y k with | some bs => some ([], bs, bs.map fun b => (b.T, b.U)) | none => none
def outsH (ys : List AVal) : List (Nat × AVal) → Option (St × List Bor × List (Nat × Nat))
  | [] => some ([], [], [])
  | (i, k) :: r =>
    match ys[i]?, outsH ys r with
    | some Y, some (u, bs, K) => (match out1 Y i k with | some (u', bs', K') => some (u' ++ u, bs' ++ bs, K' ++ K) | none => none)
    | _, _ => none
def resK (dst : Option Nat) : List (Nat × Nat) :=
  match dst with
  | some d => [(0, d), (1, 100000 + d), (2, 200000 + d), (3, 300000 + d)]
  | none => []
def callH (c : Ctx) (dst : Option Nat) (f : Nat) (ys : List AVal) (S : St) : Option (List Prop × St × Bool) :=
  match callSpec c.fns f (handL (hboxes 0 ys) (look [] c.wants f) 0 ys (ys.map (content S))) with
  | none => none
  | some co => match outsH ys co.outs with
    | none => none
    | some (u, bs, K) =>
      bif covers co.outs 0 (handL (hboxes 0 ys) (look [] c.wants f) 0 ys (ys.map (content S))) && resOk co.res && allHanded ys (handL (hboxes 0 ys) (look [] c.wants f) 0 ys (ys.map (content S))) &&
        nodupN ((hboxes 0 ys).map (·.1)) && nodupN ((htagsL (look [] c.wants f) 0 ys (ys.map (content S))).map (·.1)) && nodupN ((htagsL (look [] c.wants f) 0 ys (ys.map (content S))).map (·.2)) &&
        nodupN ((resK dst ++ K).map (·.1)) && nodupN ((resK dst ++ K).map (·.2)) && nodupN ((match dst with | some d => [d] | none => []) ++ u.map (·.1)) then
        some (co.ok ++ (bs.map (fun b => 0 < b.l.length) ++ turnAsks bs ((htagsL (look [] c.wants f) 0 ys (ys.map (content S))).map (·.1) ++ (resK dst ++ K).map (·.2)) S c.n),
          (match dst with | some d => (d, co.res.tagTo d) :: u | none => u) ++ turned bs ((htagsL (look [] c.wants f) 0 ys (ys.map (content S))).map (·.1) ++ (resK dst ++ K).map (·.2)) S S, true)
      else none
def AVal.lent : AVal → AVal := AVal.mapOwn (fun t l _ _ => bif t.isL then .junk else .val (.sl t) l) (fun _ _ _ _ _ => .junk)
def lendA : AVal → AVal → AVal
  | .ref _ τ [], .box τ' k => bif Ty.beq τ' τ then (match AVal.as τ k.lent with | some x => .val (.ptr τ) x | none => .junk) else .junk
  | .own t l _ _, _ => bif t.isL then .junk else .val (.sl t) l
  | .ownh t l T _ U m, _ => bif Nat.beq T U && !m then (match l with | [x] => .val (.sl t) x | _ => .junk) else .junk
  | .agg f a, _ => (match AVal.as (.st f) (.agg f a.lent) with | some x => .val (.st f) x | none => .junk)
  | .val τ x, _ => .val τ x
  | .nil, _ => .nil
  | .fn f cs, _ => bif cs.pureL then .fn f cs else .junk
  | _, _ => .junk
def callL (c : Ctx) (dst : Option Nat) (f : Nat) (ys ks : List AVal) (S : St) : Option (List Prop × St × Bool) :=
  match callSpec c.fns f (List.zipWith lendA ys ks) with
  | none => none
  | some co => match co.outs, dst with
    | [], some d => bif resOk co.res && co.res.scal && noTag d S && noTag (100000 + d) S && noTag (200000 + d) S && noTag (300000 + d) S then some (co.ok, [(d, co.res.tagTo d)], false) else none
    | _, _ => none
def callExt (exts : List (Nat × (List AVal → Option (List Prop × AVal)))) (f : Nat) (ys : List AVal) : Option (List Prop × AVal) :=
  match exts with
  | [] => none
  | (g, e) :: r => bif Nat.beq g f then e ys else callExt r f ys
def extStep (c : Ctx) (gd : Gd) (dst : Option Nat) (f : Nat) (ys : List AVal) : Option (List Prop × St × Bool) :=
  match callExt c.exts f ys, dst with
  | some (p, .val τ x), some d => some (underP gd p, [(d, under gd (.val τ x))], false)
  | some (p, .tup a), some d => match gd with | none => bif resOk (.tup a) && AVal.scal (.tup a) && !(a.hung d) then some (p, [(d, .tup a)], false) else none | some _ => none
  | _, _ => none
def orElseO {α : Type} (x y : Option α) : Option α := match x with | some a => some a | none => y
def callC (c : Ctx) (dst : Option Nat) (f : Nat) (ys : List AVal) (S : St) : Option (List Prop × St × Bool) :=
  match ys, dst with
  | [.ownh t [x] T _ U false], some d => bif Nat.beq T U && c.clones.any (fun p => Nat.beq p.1 f && Nat.beq p.2 t.size) && noTag d S then
      some ([0 < List.length (α := t.den) x ∧ (List.length (α := t.den) x : Int) ≤ 4294967296], [(d, .own t x d true)], true) else none
  | _, _ => none
def callG (c : Ctx) (gd : Gd) (dst : Option Nat) (f : Nat) (ys : List AVal) (S : St) : Option (List Prop × St × Bool) :=
  match callL c dst f ys (ys.map (content S)) S with
  | some (p, [(d, .own t l T m)], _) => some (underP gd p, [(d, under gd (.own t l T m))], true)
  | _ => none
def callLH (c : Ctx) (gd : Gd) (dst : Option Nat) (f : Nat) (ys : List AVal) (S : St) : Option (List Prop × St × Bool) :=
  match gd with
  | none => orElseO (callL c dst f ys (ys.map (content S)) S) (orElseO (callC c dst f ys S) (callH c dst f ys S))
  | some q => callG c (some q) dst f ys S
def callAny (c : Ctx) (gd : Gd) (dst : Option Nat) (f : Nat) (ys : List AVal) (S : St) : Option (List Prop × St × Bool) :=
  orElseO (extStep c gd dst f ys) (orElseO (callStep c gd dst f ys (ys.map (content S)) S) (callLH c gd dst f ys S))
def pickStep (gd : Gd) (dst : Option Nat) (x : Operand) (xs0 : List AVal) : Option (List Prop × St × Bool) :=
  match dst, xs0 with
  | some d, [C, A, B] =>
    match strip1 gd C, pickArg gd x true A, pickArg gd x false B with
    | .val .bool b, .val τ a, .val _ y => match Ty.cast τ y with
      | some z => some ([], [(d, under gd (.val τ (cond b a z)))], false)
      | none => none
    | _, _, _ => none
  | _, _ => none
def makes : Op → Bool
  | .box _ _ => true | .alloc _ => true | .buildSlice _ _ _ => true | .makeSlice _ _ _ => true | .makeMap _ _ => true | _ => false
def gMk (gd : Gd) (d : Nat) (p : List Prop) (A : AVal) (S : St) : Option (List Prop × St × Bool) :=
  match gd, A with
  | some q, .own t l T _ => bif noRef d S && noTag d S && Nat.beq T d && !t.isL then some (underP (some q) p, [(d, under (some q) (.val (.sl t) l))], false) else none
  | _, _ => none
def coreStep (c : Ctx) (gd : Gd) (dst : Option Nat) (op : Op) (xs ks : List AVal) (S : St) : Option (List Prop × St × Bool) :=
  match dst with
  | none => none
  | some d => match coreA c d op xs ks with
    | none => none
    | some (p, A) =>
      bif makes op then (bif gd.isNone && noRef d S && noTag d S then some (p, [(d, A)], false) else gMk gd d p A S)
      else some (underP gd p, [(d, under gd A)], false)
def kindOp : Op → Nat
  | .pick _ _ _ => 0
  | .store _ _ _ => 1
  | .mapUpdate _ _ _ _ => 1
  | .call { callee := .builtin .append, .. } => 2
  | .call { callee := .value _, .. } => 3
  | .makeInterface _ _ => 4
  | .panic _ => 4
  | _ => 5
def stepG (c : Ctx) (gd : Gd) (o : Oper) (S : St) (xs0 xs : List AVal) : Option (List Prop × St × Bool) :=
  match kindOp o.op with
  | 0 => (match o.op with | .pick x _ _ => pickStep gd o.dst x xs0 | _ => none)
  | 1 => (match gd, o.dst, o.op, xs with
    | none, none, .store T _ _, [A, v] => storeStep c T A (content S A) v S
    | none, none, .mapUpdate T _ _ _, [A, k, v] => mapStep c T A k v S
    | _, _, _, _ => none)
  | 2 => (match gd, o.dst, o.op, xs with
    | none, some d, .call { argTypes, .. }, [A, B] => (match argTypes.toList with
      | [T, T'] => bif Nat.beq T T' then appendStep c d T A B S else none
      | _ => none)
    | _, _, _, _ => none)
  | 3 => (match xs with
    | .fn f cs :: r => bif properL cs then callAny c gd o.dst f (r ++ cs.toL) S else none
    | _ => none)
  | 4 => (match gd with | none => some ([False], [], false) | some _ => none)
  | _ => coreStep c gd o.dst o.op xs ((xs.map (content S)).map (strip1 gd)) S
def stepA0 [GlobTab] (c : Ctx) (dsts : List (Option Nat)) (o : Oper) (S : St) : Option (List Prop × St × Bool) :=
  match guardOf dsts S o.guard with
  | none => none
  | some gd => stepG c gd o S ((opsOf o.op).map (arg S)) (((opsOf o.op).map (arg S)).map (strip1 gd))
def frzU (c : Ctx) (S : St) : St → Option St
  | (d, .own t l T true) :: u => bif Nat.beq T d && !(c.wr.any (Nat.beq d)) then (bif noTag T (u ++ S) && !t.isL then some ((d, .own t l T false) :: u) else none) else some ((d, .own t l T true) :: u)
  | u => some u
def isMk : Op → Bool
  | .buildSlice _ _ _ => true
  | .makeSlice _ _ _ => true
  | .call { callee := .builtin .append, .. } => true
  | _ => false
def stepA [GlobTab] (c : Ctx) (dsts : List (Option Nat)) (o : Oper) (S : St) : Option (List Prop × St × Bool) :=
  match stepA0 c dsts o S with
  | none => none
  | some (p, u, h) => bif isMk o.op then (match frzU c S u with | some u' => some (p, u', h) | none => none) else some (p, u, h)
def bare : AVal → AVal
  | .opt _ _ _ A => A
  | A => A
structure Tr where
  heavy : Bool
  rd : List Nat
  dst : Option Nat
  u : St
def guardSlot (dsts : List (Option Nat)) : Option (Nat × Bool) → List Nat
  | some (j, _) => (match dsts[j]? with | some (some s) => [s] | _ => [])
  | none => []
def trOf [GlobTab] (dsts : List (Option Nat)) (o : Oper) (S : St) (u : St) (heavy : Bool) : Tr :=
  ⟨heavy, tmpsOf (opsOf o.op) ++ (guardSlot dsts o.guard ++ refs (ysOf o.op ((opsOf o.op).map (fun x => bare (arg S x))))), o.dst, u⟩
def hangs (u : St) (A : AVal) : Bool := u.any fun e => A.hung e.1
def runOps [GlobTab] (c : Ctx) (dsts : List (Option Nat)) : List Oper → St → St → Option (List Prop × St × List Tr)
  | [], _, U => some ([], U, [])
  | o :: r, S, U =>
    match stepA c dsts o (U ++ S) with
    | none => none
    | some (p, u, h) => bif (u ++ U).any (fun e => hangs u e.2) || !(u.all fun e => Nat.blt e.1 c.n) then none else
      match runOps c dsts r S (u ++ U) with
      | none => none
      | some (p', u', t') => some (p ++ p', u', trOf dsts o (U ++ S) u h :: t')
def apart : List Nat → List Nat → Bool
  | [], _ => true
  | a :: r, l => !(l.any (Nat.beq a)) && apart r l
def quiet1 (d : Nat) (A : AVal) : Bool := !(A.hasRef d) && (!(A.hasTag d) && (!(A.hasTag (100000 + d)) && (!(A.hasTag (200000 + d)) && !(A.hasTag (300000 + d)))))
def quiet (d : Option Nat) (u u' : St) : Bool := u'.all fun e => !(hangs u e.2) && (match d with | some d => quiet1 d e.2 | none => true)
def clash (t t' : Tr) : Bool :=
  t.heavy || (t'.heavy || !(apart (t.u.map (·.1)) t'.rd && (apart (t.u.map (·.1)) (t'.u.map (·.1)) && (apart t.rd (t'.u.map (·.1)) && quiet t.dst t.u t'.u))))
def bitsAfter (acc : List Nat) : List Edge → Nat
  | [] => 0
  | e :: r => bif Region.binds .any e then Nat.lor (Nat.lor (Nat.pow 2 e.on) (acc.getD e.on 0)) (bitsAfter acc r) else bitsAfter acc r
def ahead : List Oper → List Nat → List Nat
  | [], acc => acc
  | o :: r, acc => ahead r (acc ++ [bitsAfter acc o.after.toList])
def edgesBack : Nat → List Oper → Bool
  | _, [] => true
  | i, o :: r => o.after.toList.all (fun e => !(Region.binds .any e) || Nat.blt e.on i) && edgesBack (i + 1) r
def ordered1 (k bits : Nat) (t : Tr) : Nat → List Tr → Bool
  | _, [] => true
  | i, t' :: r => (Nat.blt i k || (!(clash t' t) || Nat.testBit bits i)) && ordered1 k bits t (i + 1) r
def ordered (k : Nat) (trs : List Tr) : List Nat → List Tr → Bool
  | b :: bs, t :: r => ordered1 k b t 0 trs && ordered k (trs ++ [t]) bs r
  | [], [] => true
  | _, _ => false
def firstOk [GlobTab] (c : Ctx) (S : St) (o : Oper) : Bool :=
  match o.guard, o.dst with
  | none, some _ => (match o.op, (opsOf o.op).map (arg S) with
    | .move _, _ => true
    | .call { callee := .builtin .len, argTypes, .. }, [.ownh t _ U _ V _] => (match argTypes.toList with | [T] => c.is T (.sl (.sl t)) && !(Nat.beq U V) | _ => false)
    | .binOp .sub _ _ _ _, [.val (.int k) _, .val (.int k') _] => Nat.beq (kindNo k) (kindNo k')
    | _, _ => false)
  | _, _ => false
def freeOf (ops : Array Oper) (i : Nat) (oi : Oper) : Nat → List Oper → Bool
  | _, [] => true
  | j, oj :: r => (Nat.ble j i || (oj.after.toList.any (fun e => Region.binds .any e && Nat.beq e.on i) || oi.apart ops oj)) && freeOf ops i oi (j + 1) r
def firsts [GlobTab] (c : Ctx) (ops : List Oper) (S : St) : Nat → List Oper → List Tr → St → Nat
  | i, o :: r, t :: ts, U => bif firstOk c (U ++ S) o && freeOf ops.toArray i o 0 ops then firsts c ops S (i + 1) r ts (t.u ++ U) else i
  | i, _, _, _ => i
def tagAt (k : Nat) : AVal → Option Nat
  | .own _ _ T _ => some T
  | .box _ a => match a.fld k with | .own _ _ T _ => some T | _ => none
  | .ownh _ _ T _ U _ => bif Nat.beq T U then none else some U
  | _ => none
def stillAt (k : Nat) : AVal → AVal
  | .ownh t l T _ _ _ => .own (.sl t) l T true
  | .own t l T _ => bif t.isL then .junk else .own t l T false
  | .box τ (.agg f a) => match a.nth k with
    | .own t l T _ => bif t.isL then .junk else bif ((a.gone T).setNth k (.own t l T false)).fitsT f then .box τ (.agg f ((a.gone T).setNth k (.own t l T false))) else .junk
    | _ => .junk
  | _ => .junk
def refd (s : Nat) (h : AVal → AVal) (S : St) : St → St
  | [] => []
  | (k, _) :: r => bif (S.get k).hasRef s then (k, h (S.get k)) :: refd s h S r else refd s h S r
def unref (s : Nat) (τ : Ty) (x : τ.den) : AVal → AVal
  | .ref s' τ' [] => bif Nat.beq s s' && Ty.beq τ' τ then .val (.ptr τ) x else .junk
  | _ => .junk
def freezeA (S : St) (s : Nat) : Option St :=
  match S.get s with
  | .box τ c => (match AVal.as τ c with | some x => some ((s, .val (.ptr τ) x) :: refd s (unref s τ x) S S) | none => none)
  | _ => none
def ghost1 (S : St) : Nat × Nat × Nat × Nat → Option St
  | (kind, s, k, U) =>
    bif Nat.beq kind 3 then freezeA S s else
    bif Nat.beq kind 4 then (bif Nat.beq k U then some [] else bif noTagV U S then some (tagged k (AVal.retagH k U) S S) else none) else
    bif Nat.beq kind 5 then some (tagged k (AVal.lose k) S S) else
    match tagAt k (S.get s) with
    | none => none
    | some T =>
      match kind with
      | 0 => bif Nat.beq T U then some [] else bif noTagV U S then some (tagged T (AVal.retagH T U) S S) else none
      | 1 => some ((s, stillAt k (S.get s)) :: tagged T (AVal.gone T) S S)
      | _ => some (tagged T (AVal.lose T) S S)
def ghosts : List (Nat × Nat × Nat × Nat) → St → Option St
  | [], _ => some []
  | g :: r, S => match ghost1 S g with
    | none => none
    | some u => match ghosts r (u ++ S) with
      | none => none
      | some u' => some (u' ++ u)
def regionA [GlobTab] (c : Ctx) (gh : List (Nat × Nat × Nat × Nat)) (ops : List Oper) (draw : Bool) (S : St) : Option (List Prop × St) :=
  bif S.any (fun e => e.2.hasOpt) then none else
  match runOps c (ops.map (·.dst)) ops S [] with
  | none => none
  | some (p, u0, t) =>
    let u := u0.map fun e => (e.1, bif e.2.hasOpt then .junk else e.2)
    bif !draw || (edgesBack 0 ops && (ordered 0 [] (ahead ops []) t || ordered (firsts c ops S 0 ops t []) [] (ahead ops []) t)) then
      (match ghosts gh (u ++ S) with
       | some u' => bif u'.all (fun e => Nat.blt e.1 c.n) then some (p, u' ++ u) else none
       | none => none)
    else none
def ovA (g : Bool) (t : Ty) (l : List t.den) (m : Bool) (τ' : Ty) (y : τ'.den) : AVal :=
  bif m then .junk else match Ty.cast (.sl t) y with | some z => .val (.sl t) (cond g l z) | none => .junk
def voA (g : Bool) (τ : Ty) (x : τ.den) (t : Ty) (l : List t.den) (m : Bool) : AVal :=
  bif m then .junk else match Ty.cast (a := .sl t) τ l with | some z => .val τ (cond g x z) | none => .junk
def mergeA (g : Bool) : AVal → AVal → AVal
  | .val τ x, .val _ y => match Ty.cast τ y with | some z => .val τ (cond g x z) | none => .junk
  | .nil, .nil => .nil
  | .nil, .val (.sl t) y => .val (.sl t) (cond g [] y)
  | .val (.sl t) x, .nil => .val (.sl t) (cond g x [])
  | .nil, .own t l T m => bif t.plain && !t.isL then .own t (cond g [] l) T m else .junk
  | .own t l T m, .nil => bif t.plain && !t.isL then .own t (cond g l []) T m else .junk
  | .own t l _ m, .val τ' y => ovA g t l m τ' y
  | .val τ x, .own t l _ m => voA g τ x t l m
  | .own t l T m, .own t' l' T' m' => bif Nat.beq T T' && (m == m') then (match Ty.cast (a := .sl t') (.sl t) l' with | some l2 => .own t (cond g l l2) T m | none => .junk) else .junk
  | .box τ a, .box τ' b => bif Ty.beq τ τ' && AVal.fits τ (mergeA g a b) then .box τ (mergeA g a b) else .junk
  | .ref s τ [], .ref s' τ' [] => bif Nat.beq s s' && Ty.beq τ τ' then .ref s τ [] else .junk
  | .nl, .nl => .nl
  | .cons a b, .cons a' b' => .cons (mergeA g a a') (mergeA g b b')
  | .agg f a, .agg f' b => bif Ty.beq f f' && AVal.fits f (mergeA g a b) then .agg f (mergeA g a b) else .junk
  | .agg f a, .val (.st f') y => match AVal.as (.st f') (.agg f a) with | some x => .val (.st f') (cond g x y) | none => .junk
  | .val (.st f) x, .agg f' b => match AVal.as (.st f) (.agg f' b) with | some y => .val (.st f) (cond g x y) | none => .junk
  | .tup a, .tup b => .tup (mergeA g a b)
  | .ownh t l T i U m, .ownh t' l' T' i' U' m' => bif Nat.beq T T' && Nat.beq U U' && (m == m') then (match Ty.cast (a := .sl (.sl t')) (.sl (.sl t)) l' with | some l2 => .ownh t (cond g l l2) T (cond g i i') U m | none => .junk) else .junk
  | _, _ => .junk
def St.has (s : Nat) (S : St) : Bool := S.any fun e => Nat.beq e.1 s
def mergeD (g : Bool) (d1 d2 S : St) : St → St
  | [] => []
  | (s, _) :: r => (s, bif Nat.beq s cutNo then .junk else mergeA g (St.get (d1 ++ S) s) (St.get (d2 ++ S) s)) :: mergeD g d1 d2 S r
def noCut (d : St) : St := d.filter fun e => !(Nat.beq e.1 cutNo)
def onlyCut (d : St) : St := d.filter fun e => Nat.beq e.1 cutNo
def merge2 (g : Bool) (d1 d2 S : St) : St := mergeD g d1 d2 S (noCut d1 ++ (noCut d2 ++ (onlyCut d1 ++ onlyCut d2)))
def findC (k : Nat) : List Comp → Option Comp
  | [] => none
  | x :: r => bif Nat.beq x.kind k then some x else findC k r
def dropC (k : Nat) (l : List Comp) : List Comp := l.filter fun x => !(Nat.beq x.kind k)
def gor (a b : Option Bool) : Option Bool :=
  match a, b with
  | some x, some y => some (x || y)
  | _, _ => none
def condG (t : Bool) (x y : Option Comp) : Option Bool :=
  match x, y with
  | some a, some b => (match a.g, b.g with | none, none => none | ga, gb => some (cond t (ga.getD true) (gb.getD true)))
  | some a, none => gand a.g (some t)
  | none, some b => gand b.g (some (!t))
  | none, none => none
def condC (t : Bool) (S : St) (la lb : List Comp) : List Comp → List Comp
  | [] => []
  | x :: r =>
    { kind := x.kind, g := condG t (findC x.kind la) (findC x.kind lb),
      d := match findC x.kind la, findC x.kind lb with
        | some a, some b => merge2 t a.d b.d S
        | some a, none => a.d
        | none, some b => b.d
        | none, none => [] } :: condC t S la lb r
def AllP : List Prop → Prop
  | [] => True
  | [p] => p
  | p :: r => p ∧ AllP r
def impl (b : Prop) : List Prop → List Prop
  | [] => []
  | p :: r => [b → AllP (p :: r)]
def imp (g : Option Bool) (l : List Prop) : List Prop :=
  match g with
  | none => l
  | some b => impl (b = true) l
def condOut (t : Bool) (S : St) (a b : Out) : Out :=
  { ok := impl (t = true) a.ok ++ impl (t = false) b.ok,
    comps := condC t S a.comps b.comps (a.comps ++ b.comps.filter fun x => (findC x.kind a.comps).isNone) }
def seqC (n : Comp) (S : St) (la : List Comp) : List Comp → List Comp
  | [] => []
  | x :: r =>
    (match findC x.kind la with
     | some a => { kind := x.kind, g := gor a.g (gand n.g x.g), d := merge2 (a.g.getD true) a.d (x.d ++ n.d) S }
     | none => { kind := x.kind, g := gand n.g x.g, d := x.d ++ n.d }) :: seqC n S la r
def seqOut (n : Comp) (S : St) (a b : Out) : Out :=
  { ok := a.ok ++ imp n.g b.ok,
    comps := seqC n S (dropC 0 a.comps) b.comps ++ (dropC 0 a.comps).filter fun x => (findC x.kind b.comps).isNone }
def blockOut (id : Nat) (S : St) (a : Out) : Out :=
  match findC 0 a.comps, findC (id + 2) a.comps with
  | _, none => a
  | none, some e => { a with comps := { e with kind := 0 } :: dropC (id + 2) a.comps }
  | some n, some e => { a with comps := { kind := 0, g := gor e.g n.g, d := merge2 (e.g.getD true) e.d n.d S } :: dropC 0 (dropC (id + 2) a.comps) }
def firstRegion : Code → Nat
  | .region id _ _ => id
  | .seq a _ => firstRegion a
  | .block _ a => firstRegion a
  | .loop a => firstRegion a
  | .scope a => firstRegion a
  | _ => 0
def eval [GlobTab] (c : Ctx) : Code → St → Option Out
  | .skip, _ => some { ok := [], comps := [⟨0, none, []⟩] }
  | .region id ops draw, S => match ghosts (look [] c.gh (2 * id)) S with
    | none => none
    | some v => bif !(v.all (fun e => Nat.blt e.1 c.n)) then none else match regionA c (look [] c.gh (2 * id + 1)) ops.toList draw (v ++ S) with
      | some (p, u) => some { ok := p, comps := [⟨0, none, u ++ v⟩] }
      | none => none
  | .seq a b, S => match eval c a S with
    | none => none
    | some oa => match findC 0 oa.comps with
      | none => some oa
      | some n => match eval c b (n.d ++ S) with
        | none => none
        | some ob => some (seqOut n S oa ob)
  | .cond x a b, S => match arg S x with
    | .val .bool t => match eval c a S, eval c b S with
      | some oa, some ob => some (condOut t S oa ob)
      | _, _ => none
    | _ => none
  | .block id a, S => match eval c a S with
    | some oa => some (blockOut id S oa)
    | none => none
  | .loop a, S => look (fun _ => none) c.loops (firstRegion a) S
  | .exit id, _ => some { ok := [], comps := [⟨id + 2, none, []⟩] }
  | .ret, _ => some { ok := [], comps := [⟨1, none, []⟩] }
  | _, _ => none
end Go.Am
namespace Go.Am
open Go Go.RowKit
def cBox (s : Nat) : Nat := 2 * s + 4
def cArr (T : Nat) : Nat := 2 * T + 5
def Cells (χ : Nat → Nat → Nat) (w : World) (b o : Nat) (vs : List Value) : Prop :=
  ∀ j v, vs[j]? = some v → w.cell? ⟨b, o + j, none⟩ = some v ∧ χ b (o + j) = 0
def LRep {α : Type} (R : α → List Value → Prop) : List α → List Value → Prop
  | [], us => us = []
  | x :: l, us => ∃ vs ws, us = vs ++ ws ∧ R x vs ∧ LRep R l ws
def CRep (χ : Nat → Nat → Nat) (w : World) : (τ : Ty) → τ.den → List Value → Prop
  | .int k, x, vs => vs = [.int k x]
  | .bool, x, vs => vs = [.bool x]
  | .str, x, vs => vs = [.string ⟨List.toArray x⟩]
  | .nl, _, vs => vs = []
  | .cons h t, x, vs => ∃ us ws, vs = us ++ ws ∧ CRep χ w h x.1 us ∧ CRep χ w t x.2 ws
  | .st f, x, vs => CRep χ w f x vs
  | .arr n t, l, vs => List.length (α := t.den) l = n ∧ LRep (CRep χ w t) l vs
  | .sl t, l, vs => ∃ a cap, vs = [.slice a (List.length (α := t.den) l) cap] ∧ (l = ([] : List t.den) ∨ ∃ b o us, a = some ⟨b, o, none⟩ ∧ List.length (α := t.den) l ≤ cap ∧ LRep (CRep χ w t) l us ∧ Cells χ w b o us)
  | .ptr t, x, vs => ∃ b o us, vs = [.pointer (some ⟨b, o, none⟩)] ∧ CRep χ w t x us ∧ Cells χ w b o us
def VRep (χ : Nat → Nat → Nat) (w : World) (τ : Ty) (x : τ.den) (v : Value) : Prop :=
  ∃ vs, CRep χ w τ x vs ∧ (bif τ.isAgg then v = .agg vs.toArray else vs = [v])
structure Gh where
  χ : Nat → Nat → Nat
  β : Nat → Nat
  γ : Nat → Nat
def VarTy (t : Ty) : Prop := t.plain = true ∧ t.isL = false
def SRep (G : Gh) (w : World) (t : Ty) (l : List t.den) (T : Nat) (m : Bool) (v : Value) : Prop :=
  VarTy t ∧ ((v = .slice none 0 0 ∧ l = []) ∨
  ∃ cap cur e us, v = .slice (some ⟨G.γ T, 0, none⟩) l.length cap ∧ w.heap[G.γ T]? = some (.cells cur e (0, 0)) ∧ l.length ≤ cap ∧ cap ≤ maxLen ∧ cur.size = cap * t.size ∧
    LRep (CRep G.χ w t) l us ∧ cur.toList.take (l.length * t.size) = us ∧ (∀ o, G.χ (G.γ T) o = if m = false ∧ o < l.length * t.size then 0 else cArr T))
def ERep (χ : Nat → Nat → Nat) (w : World) (k v : Ty) : List (k.den × v.den × Unit) → List MapEntry → Prop
  | [], es => es = []
  | x :: l, es => ∃ e r, es = e :: r ∧ VRep χ w k x.1 e.key ∧ VRep χ w v x.2.1 e.val ∧ ERep χ w k v l r
def MapAt (G : Gh) (w : World) (k e : Ty) (l : List (k.den × e.den × Unit)) (T : Nat) (v : Value) : Prop :=
  ∃ es clock, v = .map (some (G.γ T)) ∧ w.heap[G.γ T]? = some (.map es clock) ∧ ERep G.χ w k e l es.toList ∧ ∀ o, G.χ (G.γ T) o = cArr T
def MRep (G : Gh) (w : World) (t : Ty) (l : List t.den) (T : Nat) (v : Value) : Prop :=
  ∃ k e, ∃ l' : List (k.den × e.den × Unit), t = mapT k e ∧ HEq l l' ∧ MapAt G w k e l' T v
def ORep (G : Gh) (w : World) (t : Ty) (l : List t.den) (T : Nat) (m : Bool) (v : Value) : Prop := SRep G w t l T m v ∨ (m = true ∧ MRep G w t l T v)
def TRep (G : Gh) (w : World) (τ : Ty) : AVal → List Value → Prop
  | .val τ' x, vs => τ' = τ ∧ τ'.isL = false ∧ CRep G.χ w τ' x vs
  | .nil, vs => τ.isSl = true ∧ vs = [.slice none 0 0]
  | .junk, vs => τ.isSl = true ∧ ∃ v, vs = [v] ∧ v.oneCell' = true
  | .own t l T m, vs => τ = .sl t ∧ ∃ v, vs = [v] ∧ ORep G w t l T m v
  | .agg f c, vs => τ = .st f ∧ TRep G w f c vs
  | .nl, vs => τ = .nl ∧ vs = []
  | .cons a b, vs => ∃ h t us ws, τ = .cons h t ∧ vs = us ++ ws ∧ TRep G w h a us ∧ TRep G w t b ws
  | _, _ => False
def BoxAt (G : Gh) (w : World) (s : Nat) (τ : Ty) (c : AVal) : Prop :=
  VarTy τ ∧ ∃ cur e, w.heap[G.β s]? = some (.cells cur e (0, 0)) ∧ TRep G w τ c cur.toList ∧ ∀ o, G.χ (G.β s) o = cBox s
def PathOk : Ty → Path → Prop
  | _, [] => True
  | .st f, .inl k :: p => k < f.flen ∧ PathOk (f.fty k) p
  | .arr n t, .inr i :: p => 0 ≤ i ∧ i < (n : Int) ∧ PathOk t p
  | _, _ => False
def capV (G : Gh) (v : Value) : Option (Nat × Ty) → Value
  | some (k, _) => .pointer (some ⟨G.β k, 0, none⟩)
  | none => v
def WRep (G : Gh) (w : World) (t : Ty) (l : List (List t.den)) (T : Nat) (v : Value) : Prop :=
  ∃ x a cap, l = [x] ∧ v = .slice a (List.length (α := t.den) x) cap ∧ (x = ([] : List t.den) ∨ ∃ o us cur e, a = some ⟨G.γ T, o, none⟩ ∧ List.length (α := t.den) x ≤ cap ∧ w.heap[G.γ T]? = some (.cells cur e (0, 0)) ∧
    LRep (CRep G.χ w t) x us ∧ (∀ j u, us[j]? = some u → cur.toList[o + j]? = some u) ∧ ∀ o, G.χ (G.γ T) o = cArr T)
def KRep (G : Gh) (w : World) (t : Ty) (l : List (List t.den)) (T i : Nat) (v : Value) : Prop :=
  (v = .slice none 0 0 ∧ l = []) ∨ ∃ cap cur e, v = .slice (some ⟨G.γ T, 0, none⟩) (List.length (α := List t.den) l) cap ∧ w.heap[G.γ T]? = some (.cells cur e (0, 0)) ∧ List.length (α := List t.den) l ≤ cap ∧ cap ≤ maxLen ∧ cur.size = cap ∧ (∀ o, G.χ (G.γ T) o = cArr T) ∧
    ∀ (j : Nat) (x : List t.den), l[j]? = some x → j ≠ i → ∃ u, cur.toList[j]? = some u ∧ CRep G.χ w (.sl t) x [u]
def HRep (G : Gh) (w : World) (t : Ty) (l : List (List t.den)) (T i U : Nat) (m : Bool) (v : Value) : Prop :=
  VarTy t ∧ ((T = U ∧ ((m = false ∧ WRep G w t l T v) ∨ (m = true ∧ KRep G w t l T i v))) ∨ T ≠ U ∧ ((v = .slice none 0 0 ∧ l = []) ∨ ∃ cap cur e, v = .slice (some ⟨G.γ T, 0, none⟩) (List.length (α := List t.den) l) cap ∧ w.heap[G.γ T]? = some (.cells cur e (0, 0)) ∧ List.length (α := List t.den) l ≤ cap ∧ cap ≤ maxLen ∧ cur.size = cap ∧ (∀ o, G.χ (G.γ T) o = cArr T) ∧
    ∀ (j : Nat) (x : List t.den), l[j]? = some x → ∃ u, cur.toList[j]? = some u ∧ if j = i then SRep G w t x U m u else CRep G.χ w (.sl t) x [u]))
def ARep (G : Gh) (w : World) (tm : Array Value) : Option Nat → AVal → Value → Prop
  | _, .junk, _ => True
  | _, .val τ x, v => VRep G.χ w τ x v
  | _, .opt s' want g A, v => (tm.getD s' undef = .bool want ↔ g = true) ∧ (g = true → ARep G w tm none A v) ∧ (g = false → v = undef)
  | _, .nil, v => v = .slice none 0 0
  | _, .nn b, v => ∃ a cap, v = .slice a 0 cap ∧ a.isNone = b
  | _, .own t l T m, v => ORep G w t l T m v
  | some s, .box τ c, v => v = .pointer (some ⟨G.β s, 0, none⟩) ∧ BoxAt G w s τ c
  | none, .box _ _, _ => False
  | _, .ref s' τ p, v => PathOk τ p ∧ v = .pointer (some ⟨G.β s', τ.poff p, none⟩)
  | _, .eref _ T t i p, v => 0 ≤ i ∧ PathOk t p ∧ v = .pointer (some ⟨G.γ T, i.toNat * t.size + t.poff p, none⟩)
  | _, .agg f c, v => ∃ vs, v = .agg vs.toArray ∧ TRep G w f c vs
  | _, .nl, v => v = .tuple #[]
  | _, .cons a b, v => ∃ x xs, v = .tuple (x :: xs).toArray ∧ ARep G w tm none a x ∧ ARep G w tm none b (.tuple xs.toArray)
  | _, .tup c, v => ARep G w tm none c v
  | _, .fn f c, v => ∃ vs, v = .func (.func f) #[] vs ∧ ARep G w tm none c (.tuple vs)
  | some s, .raw, v => v = .pointer (some ⟨G.β s, 0, none⟩) ∧ ∃ u e, w.heap[G.β s]? = some (.cells #[u] e (0, 0)) ∧ ∀ o, G.χ (G.β s) o = cBox s
  | none, .raw, _ => False
  | _, .rref s', v => v = .pointer (some ⟨G.β s', 0, none⟩)
  | _, .ownh t l T i U m, v => HRep G w t l T i U m v
  | _, .fptr f caps, v => ∃ b, v = .pointer (some ⟨b, 0, none⟩) ∧ G.χ b 0 = 0 ∧ w.cell? ⟨b, 0, none⟩ = some (.func (.func f) #[] (caps.map (capV G v)).toArray)
structure Ext (X Y : Nat → Prop) (G : Gh) (w : World) (G' : Gh) (w' : World) : Prop where
  prot : ∀ b o, b < w.heap.size → G.χ b o = 0 → G'.χ b o = 0 ∧ w'.cell? ⟨b, o, none⟩ = w.cell? ⟨b, o, none⟩
  block : ∀ b, b < w.heap.size → (∀ o, ¬ X (G.χ b o)) → w'.heap[b]? = w.heap[b]? ∧ ∀ o, G'.χ b o = G.χ b o
  size : w.heap.size ≤ w'.heap.size
  box : ∀ s, ¬ Y (cBox s) → G'.β s = G.β s
  tag : ∀ T, ¬ Y (cArr T) → G'.γ T = G.γ T
  sub : ∀ n, Y n → X n
def GlobOk [GlobTab] (χ : Nat → Nat → Nat) (w : World) : Prop :=
  ∀ g τ (x : τ.den), (g, ⟨τ, x⟩) ∈ GlobTab.tab → ∃ vs, CRep χ w τ x vs ∧ Cells χ w g 0 vs
structure Frame0 (χ0 : Nat → Nat → Nat) (w0 : World) (χ : Nat → Nat → Nat) (w : World) : Prop where
  os : w.os = w0.os
  tape : w.tape = w0.tape
  output : w.output = w0.output
  size : w0.heap.size ≤ w.heap.size
  block : ∀ b, b < w0.heap.size → (∀ o, χ0 b o ≤ 1) → w.heap[b]? = w0.heap[b]?
  cell : ∀ b o, b < w0.heap.size → χ0 b o ≤ 1 → χ b o = χ0 b o ∧ w.cell? ⟨b, o, none⟩ = w0.cell? ⟨b, o, none⟩
structure Rel [GlobTab] (n : Nat) (χ0 : Nat → Nat → Nat) (w0 : World) (S : St) (a : Act) (w : World) (G : Gh) : Prop where
  len : a.tmps.size = n
  defers : a.defers = []
  reps : ∀ s, ARep G w a.tmps (some s) (S.get s) (a.tmps.getD s undef)
  frame : Frame0 χ0 w0 G.χ w
  glob : GlobOk G.χ w
theorem LRep_mono {α : Type} {R R' : α → List Value → Prop} (h : ∀ x vs, R x vs → R' x vs) : ∀ {l us}, LRep R l us → LRep R' l us := by
  intro l
  induction l with
  | nil => intro us hu; exact hu
  | cons x l ih => rintro us ⟨vs, ws, rfl, hx, hl⟩; exact ⟨vs, ws, rfl, h _ _ hx, ih hl⟩
theorem LRep_length {α : Type} {R : α → List Value → Prop} {k : Nat} (h : ∀ x vs, R x vs → vs.length = k) : ∀ {l us}, LRep R l us → us.length = l.length * k := by
  intro l
  induction l with
  | nil => intro us hu; simp [LRep] at hu; simp [hu]
  | cons x l ih => rintro us ⟨vs, ws, rfl, hx, hl⟩; simp [h _ _ hx, ih hl, Nat.add_mul, Nat.add_comm]
theorem CRep_length {χ : Nat → Nat → Nat} {w : World} : ∀ {τ : Ty} {x : τ.den} {vs : List Value}, CRep χ w τ x vs → vs.length = τ.size := by
  intro τ
  induction τ with
  | int k => intro x vs h; simp only [CRep] at h; simp [h, Ty.size]
  | bool => intro x vs h; simp only [CRep] at h; simp [h, Ty.size]
  | str => intro x vs h; simp only [CRep] at h; simp [h, Ty.size]
  | nl => intro x vs h; simp only [CRep] at h; simp [h, Ty.size]
  | cons a b ha hb => intro x vs h; simp only [CRep] at h; obtain ⟨us, ws, rfl, h1, h2⟩ := h; simp [ha h1, hb h2, Ty.size]
  | st f hf => intro x vs h; simp only [CRep] at h; simp [hf h, Ty.size]
  | arr n t ht => intro x vs h; simp only [CRep] at h; obtain ⟨h1, h2⟩ := h; have := LRep_length (k := t.size) (fun _ _ h => ht h) h2; rw [this, h1]; rfl
  | sl t ht => intro x vs h; simp only [CRep] at h; obtain ⟨a, cap, rfl, _⟩ := h; simp [Ty.size]
  | ptr t ht => intro x vs h; simp only [CRep] at h; obtain ⟨b, o, us, rfl, _⟩ := h; simp [Ty.size]
theorem Cells_mono {χ χ' : Nat → Nat → Nat} {w w' : World} (h : ∀ b o, b < w.heap.size → χ b o = 0 → χ' b o = 0 ∧ w'.cell? ⟨b, o, none⟩ = w.cell? ⟨b, o, none⟩)
    {b o : Nat} {vs : List Value} (hc : Cells χ w b o vs) : Cells χ' w' b o vs := by
  intro j v hv
  obtain ⟨h1, h2⟩ := hc j v hv
  have hb : b < w.heap.size := by
    by_cases hb : b < w.heap.size
    · exact hb
    · have : w.heap[b]? = none := Array.getElem?_eq_none (by omega)
      simp [World.cell?, this] at h1
  have := h _ _ hb h2
  exact ⟨by rw [this.2]; exact h1, this.1⟩
theorem CRep_mono {χ χ' : Nat → Nat → Nat} {w w' : World} (h : ∀ b o, b < w.heap.size → χ b o = 0 → χ' b o = 0 ∧ w'.cell? ⟨b, o, none⟩ = w.cell? ⟨b, o, none⟩) :
    ∀ {τ : Ty} {x : τ.den} {vs : List Value}, CRep χ w τ x vs → CRep χ' w' τ x vs := by
  intro τ
  induction τ with
  | int k => intro x vs hc; exact hc
  | bool => intro x vs hc; exact hc
  | str => intro x vs hc; exact hc
  | nl => intro x vs hc; exact hc
  | cons a b ha hb => intro x vs hc; simp only [CRep] at hc ⊢; obtain ⟨us, ws, rfl, h1, h2⟩ := hc; exact ⟨us, ws, rfl, ha h1, hb h2⟩
  | st f hf => intro x vs hc; simp only [CRep] at hc ⊢; exact hf hc
  | arr n t ht => intro x vs hc; simp only [CRep] at hc ⊢; exact ⟨hc.1, LRep_mono (fun _ _ h => ht h) hc.2⟩
  | sl t ht =>
    intro x vs hc; simp only [CRep] at hc ⊢
    obtain ⟨a, cap, rfl, hc⟩ := hc
    refine ⟨a, cap, rfl, ?_⟩
    rcases hc with hc | ⟨b, o, us, h1, h2, h3, h4⟩
    · exact .inl hc
    · exact .inr ⟨b, o, us, h1, h2, LRep_mono (fun _ _ h => ht h) h3, Cells_mono h h4⟩
  | ptr t ht =>
    intro x vs hc; simp only [CRep] at hc ⊢
    obtain ⟨b, o, us, rfl, h1, h2⟩ := hc
    exact ⟨b, o, us, rfl, ht h1, Cells_mono h h2⟩
theorem GlobOk_mono [GlobTab] {χ χ' : Nat → Nat → Nat} {w w' : World} (h : ∀ b o, b < w.heap.size → χ b o = 0 → χ' b o = 0 ∧ w'.cell? ⟨b, o, none⟩ = w.cell? ⟨b, o, none⟩)
    (hc : GlobOk χ w) : GlobOk χ' w' := by
  intro g τ x hm
  obtain ⟨vs, h1, h2⟩ := hc g τ x hm
  exact ⟨vs, CRep_mono h h1, Cells_mono h h2⟩
theorem VRep_mono {χ χ' : Nat → Nat → Nat} {w w' : World} (h : ∀ b o, b < w.heap.size → χ b o = 0 → χ' b o = 0 ∧ w'.cell? ⟨b, o, none⟩ = w.cell? ⟨b, o, none⟩)
    {τ : Ty} {x : τ.den} {v : Value} (hc : VRep χ w τ x v) : VRep χ' w' τ x v := by
  obtain ⟨vs, h1, h2⟩ := hc
  exact ⟨vs, CRep_mono h h1, h2⟩
theorem Ext.refl (X : Nat → Prop) (G : Gh) (w : World) : Ext X X G w G w := ⟨fun _ _ _ h => ⟨h, rfl⟩, fun _ _ _ => ⟨rfl, fun _ => rfl⟩, Nat.le_refl _, fun _ _ => rfl, fun _ _ => rfl, fun _ h => h⟩
def AVal.names (X Y : Nat → Prop) : Option Nat → AVal → Prop
  | _, .own _ _ T _ => X (cArr T)
  | _, .opt _ _ _ A => A.names X Y none
  | some s, .box _ c => X (cBox s) ∨ c.names X Y none
  | none, .box _ c => c.names X Y none
  | _, .ref s' _ _ => Y (cBox s')
  | _, .eref _ T _ _ _ => Y (cArr T)
  | _, .ownh _ _ T _ U _ => X (cArr T) ∨ X (cArr U)
  | _, .cons a b => a.names X Y none ∨ b.names X Y none
  | _, .agg _ c => c.names X Y none
  | _, .tup c => c.names X Y none
  | _, .fn _ c => c.names X Y none
  | some s, .raw => X (cBox s)
  | _, .rref s' => Y (cBox s')
  | _, .fptr _ caps => ∃ k τ, some (k, τ) ∈ caps ∧ Y (cBox k)
  | _, _ => False
theorem heap_lt {w : World} {b : Nat} {o : Obj} (h : w.heap[b]? = some o) : b < w.heap.size := (Array.getElem?_eq_some_iff.1 h).1
theorem ERep_mono {χ χ' : Nat → Nat → Nat} {w w' : World} (h : ∀ b o, b < w.heap.size → χ b o = 0 → χ' b o = 0 ∧ w'.cell? ⟨b, o, none⟩ = w.cell? ⟨b, o, none⟩) {k v : Ty} :
    ∀ {l : List (k.den × v.den × Unit)} {es : List MapEntry}, ERep χ w k v l es → ERep χ' w' k v l es := by
  intro l
  induction l with
  | nil => intro es h; exact h
  | cons x l ih => rintro es ⟨e, r, rfl, h1, h2, h3⟩; exact ⟨e, r, rfl, VRep_mono h h1, VRep_mono h h2, ih h3⟩
theorem SRep_ext {X Y : Nat → Prop} {G G' : Gh} {w w' : World} (hx : Ext X Y G w G' w') (h0 : ¬ X 0) {t : Ty} {l : List t.den} {T : Nat} {m : Bool} {v : Value} (hn : ¬ X (cArr T))
    (h : SRep G w t l T m v) : SRep G' w' t l T m v := by
  refine ⟨h.1, ?_⟩
  rcases h.2 with h | ⟨cap, cur, e, us, h1, h2, h3, h4, h5, h6, h7, h8⟩
  · exact .inl h
  · have hb := hx.block (G.γ T) (heap_lt h2) (fun o => by rw [h8 o]; split <;> assumption)
    have hg := hx.tag T (fun h => hn (hx.sub _ h))
    refine .inr ⟨cap, cur, e, us, by rw [hg]; exact h1, by rw [hg, hb.1]; exact h2, h3, h4, h5, LRep_mono (fun _ _ h => CRep_mono hx.prot h) h6, h7, fun o => ?_⟩
    rw [hg, hb.2 o]; exact h8 o
theorem KRep_ext {X Y : Nat → Prop} {G G' : Gh} {w w' : World} (hx : Ext X Y G w G' w') {t : Ty} {l : List (List t.den)} {T i : Nat} {v : Value} (hT : ¬ X (cArr T)) (h : KRep G w t l T i v) : KRep G' w' t l T i v := by
  rcases h with h | ⟨cap, cur, e, h1, h2, h3, h4, h5, h6, h7⟩
  · exact .inl h
  have hb := hx.block (G.γ T) (heap_lt h2) (fun o => by rw [h6 o]; exact hT)
  have hg := hx.tag T (fun h => hT (hx.sub _ h))
  refine .inr ⟨cap, cur, e, by rw [hg]; exact h1, by rw [hg, hb.1]; exact h2, h3, h4, h5, fun o => by rw [hg, hb.2 o]; exact h6 o, fun j x hj hne => ?_⟩
  obtain ⟨u, hu, hr⟩ := h7 j x hj hne
  exact ⟨u, hu, CRep_mono hx.prot hr⟩
theorem HRep_ext {X Y : Nat → Prop} {G G' : Gh} {w w' : World} (hx : Ext X Y G w G' w') (h0 : ¬ X 0) {t : Ty} {l : List (List t.den)} {T i U : Nat} {m : Bool} {v : Value} (hT : ¬ X (cArr T)) (hU : ¬ X (cArr U))
    (h : HRep G w t l T i U m v) : HRep G' w' t l T i U m v := by
  obtain ⟨hv, ⟨he, ⟨hm, x, a, cap, h1, h2, h3⟩ | ⟨hm, hK⟩⟩ | ⟨hne, h | ⟨cap, cur, e, h1, h2, h3, h4, h5, h6, h7⟩⟩⟩ := h
  rotate_left
  · exact ⟨hv, .inl ⟨he, .inr ⟨hm, KRep_ext hx hT hK⟩⟩⟩
  rotate_right
  · refine ⟨hv, .inl ⟨he, .inl ⟨hm, x, a, cap, h1, h2, ?_⟩⟩⟩
    rcases h3 with h3 | ⟨o, us, cur, e, g1, g2, g3, g4, g5, g6⟩
    · exact .inl h3
    · have hb := hx.block (G.γ T) (heap_lt g3) (fun o => by rw [g6 o]; exact hT)
      have hg := hx.tag T (fun h => hT (hx.sub _ h))
      exact .inr ⟨o, us, cur, e, by rw [hg]; exact g1, g2, by rw [hg, hb.1]; exact g3, LRep_mono (fun _ _ h => CRep_mono hx.prot h) g4, g5, fun o => by rw [hg, hb.2 o]; exact g6 o⟩
  · exact ⟨hv, .inr ⟨hne, .inl h⟩⟩
  have hb := hx.block (G.γ T) (heap_lt h2) (fun o => by rw [h6 o]; exact hT)
  have hg := hx.tag T (fun h => hT (hx.sub _ h))
  refine ⟨hv, .inr ⟨hne, .inr ⟨cap, cur, e, by rw [hg]; exact h1, by rw [hg, hb.1]; exact h2, h3, h4, h5, fun o => by rw [hg, hb.2 o]; exact h6 o, fun j x hj => ?_⟩⟩⟩
  obtain ⟨u, hu, hr⟩ := h7 j x hj
  refine ⟨u, hu, ?_⟩
  split
  · rename_i e; rw [if_pos e] at hr; exact SRep_ext hx h0 hU hr
  · rename_i e; rw [if_neg e] at hr; exact CRep_mono hx.prot hr
theorem MRep_ext {X Y : Nat → Prop} {G G' : Gh} {w w' : World} (hx : Ext X Y G w G' w') {t : Ty} {l : List t.den} {T : Nat} {v : Value} (hn : ¬ X (cArr T))
    (h : MRep G w t l T v) : MRep G' w' t l T v := by
  obtain ⟨k, e, l', ht, hl, es, clock, h1, h2, h3, h4⟩ := h
  have hb := hx.block (G.γ T) (heap_lt h2) (fun o => by rw [h4 o]; exact hn)
  have hg := hx.tag T (fun h => hn (hx.sub _ h))
  exact ⟨k, e, l', ht, hl, es, clock, by rw [hg]; exact h1, by rw [hg, hb.1]; exact h2, ERep_mono hx.prot h3, fun o => by rw [hg, hb.2 o]; exact h4 o⟩
theorem ORep_ext {X Y : Nat → Prop} {G G' : Gh} {w w' : World} (hx : Ext X Y G w G' w') (h0 : ¬ X 0) {t : Ty} {l : List t.den} {T : Nat} {m : Bool} {v : Value} (hn : ¬ X (cArr T))
    (h : ORep G w t l T m v) : ORep G' w' t l T m v := h.imp (SRep_ext hx h0 hn) fun h => ⟨h.1, MRep_ext hx hn h.2⟩
theorem MRep_move {G G' : Gh} {w w' : World} {t : Ty} {l : List t.den} {T U : Nat} {v : Value} (hγ : G'.γ U = G.γ T) (hh : w'.heap[G.γ T]? = w.heap[G.γ T]?)
    (hp : ∀ b o, b < w.heap.size → G.χ b o = 0 → G'.χ b o = 0 ∧ w'.cell? ⟨b, o, none⟩ = w.cell? ⟨b, o, none⟩) (hc : (∀ o, G.χ (G.γ T) o = cArr T) → ∀ o, G'.χ (G.γ T) o = cArr U) (h : MRep G w t l T v) : MRep G' w' t l U v := by
  obtain ⟨k, e, l', ht, hl, es, clock, h1, h2, h3, h4⟩ := h
  exact ⟨k, e, l', ht, hl, es, clock, by rw [hγ]; exact h1, by rw [hγ, hh]; exact h2, ERep_mono hp h3, fun o => by rw [hγ]; exact hc h4 o⟩
theorem ORep_move {G G' : Gh} {w w' : World} {t : Ty} {l : List t.den} {T U : Nat} {m : Bool} {v : Value} (hs : SRep G w t l T m v → SRep G' w' t l U m v) (hγ : G'.γ U = G.γ T) (hh : w'.heap[G.γ T]? = w.heap[G.γ T]?)
    (hp : ∀ b o, b < w.heap.size → G.χ b o = 0 → G'.χ b o = 0 ∧ w'.cell? ⟨b, o, none⟩ = w.cell? ⟨b, o, none⟩) (hc : MRep G w t l T v → (∀ o, G.χ (G.γ T) o = cArr T) → ∀ o, G'.χ (G.γ T) o = cArr U) (h : ORep G w t l T m v) : ORep G' w' t l U m v :=
  h.imp hs fun h => ⟨h.1, MRep_move hγ hh hp (hc h.2) h.2⟩
theorem ORep_false {G : Gh} {w : World} {t : Ty} {l : List t.den} {T : Nat} {v : Value} (h : ORep G w t l T false v) : SRep G w t l T false v := h.elim id fun h => (by cases h.1)
theorem ORep_slice {G : Gh} {w : World} {t : Ty} {l : List t.den} {T : Nat} {m : Bool} {v : Value} (h : ORep G w t l T m v) (ht : t.isL = false) : SRep G w t l T m v := by
  rcases h with h | ⟨_, k, e, _, rfl, _⟩
  · exact h
  · simp [Ty.isL] at ht
theorem TRep_ext {X Y : Nat → Prop} {G G' : Gh} {w w' : World} (hx : Ext X Y G w G' w') (h0 : ¬ X 0) : ∀ {c : AVal} {τ : Ty} {vs : List Value}, ¬ c.names X Y none → TRep G w τ c vs → TRep G' w' τ c vs := by
  intro c
  induction c with
  | val τ' x => intro τ vs _ h; simp only [TRep] at h ⊢; exact ⟨h.1, h.2.1, CRep_mono hx.prot h.2.2⟩
  | junk => intro τ vs _ h; simp only [TRep] at h ⊢; exact h
  | nil => intro τ vs _ h; simp only [TRep] at h ⊢; exact h
  | own t l T m => intro τ vs hn h; simp only [AVal.names] at hn; simp only [TRep] at h ⊢; obtain ⟨h1, v, h2, h3⟩ := h; exact ⟨h1, v, h2, ORep_ext hx h0 hn h3⟩
  | agg f a ih => intro τ vs hn h; simp only [AVal.names] at hn; simp only [TRep] at h ⊢; exact ⟨h.1, ih hn h.2⟩
  | nl => intro τ vs _ h; simp only [TRep] at h ⊢; exact h
  | cons a b iha ihb =>
    intro τ vs hn h; simp only [TRep] at h ⊢
    simp only [AVal.names, not_or] at hn
    obtain ⟨h1, t1, us, ws, e, h2, h3, h4⟩ := h
    exact ⟨h1, t1, us, ws, e, h2, iha hn.1 h3, ihb hn.2 h4⟩
  | _ => intro τ vs _ h; simp only [TRep] at h
theorem ARep_ext {X Y : Nat → Prop} {G G' : Gh} {w w' : World} (hx : Ext X Y G w G' w') (h0 : ¬ X 0) (tm : Array Value) :
    ∀ {A : AVal} {s : Option Nat} {v : Value}, ¬ A.names X Y s → ARep G w tm s A v → ARep G' w' tm s A v := by
  intro A
  induction A with
  | val τ x => intro s v _ h; simp only [ARep] at h ⊢; exact VRep_mono hx.prot h
  | junk => intro s v _ _; simp only [ARep]
  | nil => intro s v _ h; simp only [ARep] at h ⊢; exact h
  | nn b => intro s v _ h; simp only [ARep] at h ⊢; exact h
  | own t l T m => intro s v hn h; simp only [ARep] at h ⊢; simp only [AVal.names] at hn; exact ORep_ext hx h0 hn h
  | opt s' want g A ih => intro s v hn h; simp only [ARep] at h ⊢; simp only [AVal.names] at hn; exact ⟨h.1, fun hg => ih hn (h.2.1 hg), h.2.2⟩
  | box τ c ih =>
    intro s v hn h
    cases s with
    | none => simp only [ARep] at h
    | some s =>
      simp only [AVal.names, not_or] at hn
      simp only [ARep] at h ⊢
      obtain ⟨h1, hvt, cur, e, h2, h3, h4⟩ := h
      have hb := hx.block (G.β s) (heap_lt h2) (fun o => by rw [h4 o]; exact hn.1)
      have hg := hx.box s (fun h => hn.1 (hx.sub _ h))
      exact ⟨by rw [hg]; exact h1, hvt, cur, e, by rw [hg, hb.1]; exact h2, TRep_ext hx h0 hn.2 h3, fun o => by rw [hg, hb.2 o]; exact h4 o⟩
  | ref s' τ p => intro s v hn h; simp only [AVal.names] at hn; simp only [ARep] at h ⊢; rw [hx.box s' hn]; exact h
  | eref _ T t i p => intro s v hn h; simp only [AVal.names] at hn; simp only [ARep] at h ⊢; rw [hx.tag T hn]; exact h
  | ownh t l T i U m => intro s v hn h; simp only [AVal.names, not_or] at hn; simp only [ARep] at h ⊢; exact HRep_ext hx h0 hn.1 hn.2 h
  | agg f c _ => intro s v hn h; simp only [AVal.names] at hn; simp only [ARep] at h ⊢; obtain ⟨vs, h1, h2⟩ := h; exact ⟨vs, h1, TRep_ext hx h0 hn h2⟩
  | nl => intro s v _ h; simp only [ARep] at h ⊢; exact h
  | cons a b iha ihb =>
    intro s v hn h
    simp only [AVal.names, not_or] at hn
    simp only [ARep] at h ⊢
    obtain ⟨x, xs, h1, h2, h3⟩ := h
    exact ⟨x, xs, h1, iha hn.1 h2, ihb hn.2 h3⟩
  | tup c ih => intro s v hn h; simp only [AVal.names] at hn; simp only [ARep] at h ⊢; exact ih hn h
  | fn f c ih => intro s v hn h; simp only [AVal.names] at hn; simp only [ARep] at h ⊢; obtain ⟨vs, h1, h2⟩ := h; exact ⟨vs, h1, ih hn h2⟩
  | raw =>
    intro s v hn h
    cases s with
    | none => simp only [ARep] at h
    | some s =>
      simp only [AVal.names] at hn
      simp only [ARep] at h ⊢
      obtain ⟨h1, u, e, h2, h3⟩ := h
      have hb := hx.block (G.β s) (heap_lt h2) (fun o => by rw [h3 o]; exact hn)
      have hg := hx.box s (fun h => hn (hx.sub _ h))
      exact ⟨by rw [hg]; exact h1, u, e, by rw [hg, hb.1]; exact h2, fun o => by rw [hg, hb.2 o]; exact h3 o⟩
  | rref s' => intro s v hn h; simp only [AVal.names] at hn; simp only [ARep] at h ⊢; rw [hx.box s' hn]; exact h
  | fptr f caps =>
    intro s v hn h
    simp only [AVal.names] at hn
    simp only [ARep] at h ⊢
    obtain ⟨b, h1, h2, h3⟩ := h
    have hb : b < w.heap.size := by
      by_cases hb : b < w.heap.size
      · exact hb
      · have : w.heap[b]? = none := Array.getElem?_eq_none (by omega)
        simp [World.cell?, this] at h3
    obtain ⟨h4, h5⟩ := hx.prot b 0 hb h2
    refine ⟨b, h1, h4, ?_⟩
    rw [h5, h3]
    congr 3
    refine List.map_congr_left fun q hq => ?_
    cases q with
    | none => rfl
    | some q => obtain ⟨k, τ⟩ := q; simp only [capV]; rw [hx.box k (fun hY => hn ⟨k, τ, hq, hY⟩)]
theorem ARep_tm {G : Gh} {w : World} {tm tm' : Array Value} {A : AVal} : ∀ {s : Option Nat} {v : Value}, (∀ d, A.hung d = true → tm'.getD d undef = tm.getD d undef) → ARep G w tm s A v → ARep G w tm' s A v := by
  induction A with
  | opt s' want g A ih =>
    intro s v ht h; simp only [ARep] at h ⊢
    refine ⟨by rw [ht s' (by simp [AVal.hung])]; exact h.1, fun hg => ih (fun d hd => ht d (by simp [AVal.hung, hd])) (h.2.1 hg), h.2.2⟩
  | cons a b iha ihb =>
    intro s v ht h; simp only [ARep] at h ⊢
    obtain ⟨x, xs, h1, h2, h3⟩ := h
    exact ⟨x, xs, h1, iha (fun d hd => ht d (by simp [AVal.hung, hd])) h2, ihb (fun d hd => ht d (by simp [AVal.hung, hd])) h3⟩
  | tup c ih => intro s v ht h; simp only [ARep] at h ⊢; exact ih (fun d hd => ht d (by simp [AVal.hung, hd])) h
  | fn f c ih => intro s v ht h; simp only [ARep] at h ⊢; obtain ⟨vs, h1, h2⟩ := h; exact ⟨vs, h1, ih (fun d hd => ht d (by simp [AVal.hung, hd])) h2⟩
  | box τ c _ => intro s v _ h; cases s <;> simp only [ARep] at h ⊢; exact h
  | raw => intro s v _ h; cases s <;> simp only [ARep] at h ⊢; exact h
  | _ => intro s v _ h; simp only [ARep] at h ⊢; try exact h
theorem ARep_none {G : Gh} {w : World} {tm : Array Value} {A : AVal} {s : Option Nat} {v : Value} (h : ARep G w tm s A v) (hb : ∀ τ c, A ≠ .box τ c) (hr : A ≠ .raw) : ARep G w tm none A v := by
  cases A <;> first | (exfalso; exact hb _ _ rfl) | (exfalso; exact hr rfl) | (simp only [ARep] at h ⊢; try exact h)
theorem ARep_some {G : Gh} {w : World} {tm : Array Value} {A : AVal} {s : Option Nat} {v : Value} (h : ARep G w tm none A v) : ARep G w tm s A v := by
  cases A <;> (simp only [ARep] at h ⊢; try exact h)
end Go.Am
namespace Go.Am
open Go Go.RowKit
variable {P : Program}
def zcells : Ty → List Value
  | .int k => [.int k 0] | .bool => [.bool false] | .str => [.string ⟨#[]⟩] | .nl => [] | .cons h t => zcells h ++ zcells t
  | .st f => zcells f | .arr n t => (List.replicate n (zcells t)).flatten | .sl _ => [.slice none 0 0] | .ptr _ => [.pointer none]
def atomEq : Value → Value → Bool
  | .int k n, .int k' m => Nat.beq (kindNo k) (kindNo k') && (n == m)
  | .bool a, .bool b => a == b
  | .string a, .string b => a.data.toList.isEmpty && b.data.toList.isEmpty
  | .slice none 0 0, .slice none 0 0 => true
  | .pointer none, .pointer none => true
  | _, _ => false
theorem atomEq_eq {a b : Value} (h : atomEq a b = true) : a = b := by
  unfold atomEq at h
  split at h
  · simp at h; rw [kindNo_inj h.1, h.2]
  · simp at h; rw [h]
  · rename_i a b
    simp at h
    obtain ⟨⟨a⟩⟩ := a; obtain ⟨⟨b⟩⟩ := b
    simp_all
  · rfl
  · rfl
  · cases h
def atomsEq : List Value → List Value → Bool
  | [], [] => true
  | a :: r, b :: s => atomEq a b && atomsEq r s
  | _, _ => false
theorem atomsEq_eq : ∀ {a b : List Value}, atomsEq a b = true → a = b := by
  intro a
  induction a with
  | nil => intro b h; cases b <;> simp [atomsEq] at h ⊢
  | cons x r ih => intro b h; cases b <;> simp [atomsEq] at h; rw [atomEq_eq h.1, ih h.2]
def isAggV : Value → Bool
  | .agg _ => true | _ => false
def infoOk (P : Program) (T : Nat) (τ : Ty) : Bool :=
  match P.info? T with
  | some i => Nat.beq i.size τ.size && Nat.ble i.bytes 32768 && !(P.eqGuardType P.depth T) && Nat.ble τ.ht 9000 && (match i.zero with | some v => atomsEq v.cells.toList (zcells τ) && (isAggV v == τ.isAgg) | none => false)
  | none => false
def tyOk (P : Program) : Ty → Nat ⊕ (List Field × Nat) → Bool
  | .int k, .inl T => (match P.underlying T with | some (.int k') => Nat.beq (kindNo k') (kindNo k) | _ => false) && infoOk P T (.int k)
  | .bool, .inl T => (match P.underlying T with | some .bool => true | _ => false) && infoOk P T .bool
  | .str, .inl T => (match P.underlying T with | some .string => true | _ => false) && infoOk P T .str
  | .nl, .inr ([], _) => true
  | .cons h t, .inr (fd :: r, o) => Nat.beq fd.offset o && !(fd.name == "_") && tyOk P h (.inl fd.type) && tyOk P t (.inr (r, o + h.size))
  | .st f, .inl T => (match P.underlying T with | some (.struct fs) => tyOk P f (.inr (fs.toList, 0)) && !(P.stoodInHeld T) | _ => false) && infoOk P T (.st f)
  | .arr n t, .inl T => (match P.underlying T with | some (.array m e) => Nat.beq m n && tyOk P t (.inl e) | _ => false) && infoOk P T (.arr n t)
  | .sl t, .inl T => (match P.underlying T with | some (.slice e) => tyOk P t (.inl e) | _ => false) && infoOk P T (.sl t)
  | .ptr t, .inl T => (match P.underlying T with | some (.pointer e) => tyOk P t (.inl e) | _ => false) && infoOk P T (.ptr t)
  | _, _ => false
def tysOk (P : Program) (l : List (Nat × Ty)) : Bool := l.all fun e => tyOk P e.2 (.inl e.1)
theorem look_mem {l : List (Nat × Ty)} {T : Nat} : look Ty.nl l T = .nl ∨ (T, look Ty.nl l T) ∈ l := by
  induction l with
  | nil => exact .inl rfl
  | cons e r ih =>
    obtain ⟨k, τ⟩ := e
    simp only [look]
    cases hk : Nat.beq k T with
    | true => have := Nat.eq_of_beq_eq_true hk; subst this; simp
    | false =>
      simp only [cond_false]
      rcases ih with h | h
      · exact .inl h
      · exact .inr (List.mem_cons_of_mem _ h)
theorem tyOk_of {c : Ctx} (h : tysOk P c.tys = true) (T : Nat) (hn : c.ty T ≠ .nl) : tyOk P (c.ty T) (.inl T) = true := by
  rcases look_mem (l := c.tys) (T := T) with h' | h'
  · exact absurd h' hn
  · exact (List.all_eq_true.1 h) _ h'
structure TyIs (P : Program) (T : Nat) (τ : Ty) : Prop where
  info : ∃ i z, P.info? T = some i ∧ i.size = τ.size ∧ i.bytes ≤ 32768 ∧ i.zero = some z ∧ z.cells.toList = zcells τ ∧ isAggV z = τ.isAgg
  und : ∃ d, P.underlying T = some d ∧ d.isRow = τ.isAgg
theorem infoOk_is {T : Nat} {τ : Ty} (h : infoOk P T τ = true) : ∃ i z, P.info? T = some i ∧ i.size = τ.size ∧ i.bytes ≤ 32768 ∧ i.zero = some z ∧ z.cells.toList = zcells τ ∧ isAggV z = τ.isAgg := by
  unfold infoOk at h
  split at h
  · rename_i i hi
    split at h
    · rename_i v hv
      simp only [Bool.and_eq_true, beq_iff_eq] at h
      exact ⟨i, v, hi, Nat.eq_of_beq_eq_true h.1.1.1.1, Nat.le_of_ble_eq_true h.1.1.1.2, hv, atomsEq_eq h.2.1, h.2.2⟩
    · simp at h
  · cases h
theorem infoOk_guard {T : Nat} {τ : Ty} (h : infoOk P T τ = true) : P.eqGuardType P.depth T = false := by
  unfold infoOk at h
  split at h
  · split at h
    · simp only [Bool.and_eq_true, Bool.not_eq_true'] at h
      exact h.1.1.2
    · simp at h
  · cases h
theorem infoOk_ht {T : Nat} {τ : Ty} (h : infoOk P T τ = true) : τ.ht ≤ 9000 := by
  unfold infoOk at h
  split at h
  · split at h
    · simp only [Bool.and_eq_true, Bool.not_eq_true'] at h
      exact Nat.le_of_ble_eq_true h.1.2
    · simp at h
  · cases h
theorem tyOk_ht {τ : Ty} {T : Nat} (h : tyOk P τ (.inl T) = true) : τ.ht ≤ 9000 := by
  cases τ <;> simp only [tyOk, Bool.and_eq_true] at h <;> first | exact infoOk_ht h.2 | cases h
theorem tyOk_guard {τ : Ty} {T : Nat} (h : tyOk P τ (.inl T) = true) : P.eqGuardType P.depth T = false := by
  cases τ <;> simp only [tyOk, Bool.and_eq_true] at h <;> first | exact infoOk_guard h.2 | cases h
theorem tyOk_is {τ : Ty} {T : Nat} (h : tyOk P τ (.inl T) = true) : TyIs P T τ := by
  cases τ with
  | nl => simp [tyOk] at h
  | cons a b => simp [tyOk] at h
  | int k => simp only [tyOk, Bool.and_eq_true] at h; refine ⟨infoOk_is h.2, ?_⟩; cases hu : P.underlying T with
    | none => simp [hu] at h
    | some d => refine ⟨d, rfl, ?_⟩; rw [hu] at h; cases d <;> simp_all [TypeDesc.isRow, Ty.isAgg]
  | bool => simp only [tyOk, Bool.and_eq_true] at h; refine ⟨infoOk_is h.2, ?_⟩; cases hu : P.underlying T with
    | none => simp [hu] at h
    | some d => refine ⟨d, rfl, ?_⟩; rw [hu] at h; cases d <;> simp_all [TypeDesc.isRow, Ty.isAgg]
  | str => simp only [tyOk, Bool.and_eq_true] at h; refine ⟨infoOk_is h.2, ?_⟩; cases hu : P.underlying T with
    | none => simp [hu] at h
    | some d => refine ⟨d, rfl, ?_⟩; rw [hu] at h; cases d <;> simp_all [TypeDesc.isRow, Ty.isAgg]
  | st f => simp only [tyOk, Bool.and_eq_true] at h; refine ⟨infoOk_is h.2, ?_⟩; cases hu : P.underlying T with
    | none => simp [hu] at h
    | some d => refine ⟨d, rfl, ?_⟩; rw [hu] at h; cases d <;> simp_all [TypeDesc.isRow, Ty.isAgg]
  | arr n t => simp only [tyOk, Bool.and_eq_true] at h; refine ⟨infoOk_is h.2, ?_⟩; cases hu : P.underlying T with
    | none => simp [hu] at h
    | some d => refine ⟨d, rfl, ?_⟩; rw [hu] at h; cases d <;> simp_all [TypeDesc.isRow, Ty.isAgg]
  | sl t => simp only [tyOk, Bool.and_eq_true] at h; refine ⟨infoOk_is h.2, ?_⟩; cases hu : P.underlying T with
    | none => simp [hu] at h
    | some d => refine ⟨d, rfl, ?_⟩; rw [hu] at h; cases d <;> simp_all [TypeDesc.isRow, Ty.isAgg]
  | ptr t => simp only [tyOk, Bool.and_eq_true] at h; refine ⟨infoOk_is h.2, ?_⟩; cases hu : P.underlying T with
    | none => simp [hu] at h
    | some d => refine ⟨d, rfl, ?_⟩; rw [hu] at h; cases d <;> simp_all [TypeDesc.isRow, Ty.isAgg]
theorem tyOk_field {f : Ty} : ∀ {fs : List Field} {o k : Nat}, tyOk P f (.inr (fs, o)) = true → k < f.flen →
    ∃ fd, fs[k]? = some fd ∧ fd.offset = o + f.foff k ∧ tyOk P (f.fty k) (.inl fd.type) = true ∧ fd.name ≠ "_" := by
  induction f with
  | cons h t _ iht =>
    intro fs o k hk hl
    cases fs with
    | nil => simp [tyOk] at hk
    | cons fd r =>
      simp only [tyOk, Bool.and_eq_true] at hk
      obtain ⟨⟨⟨h1, h2⟩, h3⟩, h4⟩ := hk
      have h1 := Nat.eq_of_beq_eq_true h1
      cases k with
      | zero => exact ⟨fd, rfl, by simp [Ty.foff, h1], by simpa [Ty.fty] using h3, by simpa using h2⟩
      | succ k =>
        simp only [Ty.flen] at hl
        obtain ⟨fd', h5, h6, h7, h8⟩ := iht h4 (k := k) (by omega)
        exact ⟨fd', by simpa using h5, by simp [Ty.foff]; omega, by simpa [Ty.fty] using h7, h8⟩
  | _ => intro fs o k hk hl; simp [Ty.flen] at hl
theorem tyOk_st {f : Ty} {T : Nat} (h : tyOk P (.st f) (.inl T) = true) : ∃ fs, P.underlying T = some (.struct fs) ∧ tyOk P f (.inr (fs.toList, 0)) = true := by
  simp only [tyOk, Bool.and_eq_true] at h
  cases hu : P.underlying T with
  | none => simp [hu] at h
  | some d => rw [hu] at h; cases d <;> simp_all
theorem tyOk_stood {f : Ty} {T : Nat} (h : tyOk P (.st f) (.inl T) = true) : P.stoodInHeld T = false := by
  simp only [tyOk, Bool.and_eq_true] at h
  cases hu : P.underlying T with
  | none => simp [hu] at h
  | some d => rw [hu] at h; cases d <;> simp_all
theorem tyOk_arr {n : Nat} {t : Ty} {T : Nat} (h : tyOk P (.arr n t) (.inl T) = true) : ∃ e, P.underlying T = some (.array n e) ∧ tyOk P t (.inl e) = true := by
  simp only [tyOk, Bool.and_eq_true] at h
  cases hu : P.underlying T with
  | none => simp [hu] at h
  | some d =>
    rw [hu] at h
    cases d <;> simp_all
theorem tyOk_sl {t : Ty} {T : Nat} (h : tyOk P (.sl t) (.inl T) = true) : ∃ e, P.underlying T = some (.slice e) ∧ tyOk P t (.inl e) = true := by
  simp only [tyOk, Bool.and_eq_true] at h
  cases hu : P.underlying T with
  | none => simp [hu] at h
  | some d => rw [hu] at h; cases d <;> simp_all
theorem tyOk_ptr {t : Ty} {T : Nat} (h : tyOk P (.ptr t) (.inl T) = true) : ∃ e, P.underlying T = some (.pointer e) ∧ tyOk P t (.inl e) = true := by
  simp only [tyOk, Bool.and_eq_true] at h
  cases hu : P.underlying T with
  | none => simp [hu] at h
  | some d => rw [hu] at h; cases d <;> simp_all
theorem tyOk_int {k : IntKind} {T : Nat} (h : tyOk P (.int k) (.inl T) = true) : P.underlying T = some (.int k) := by
  simp only [tyOk, Bool.and_eq_true] at h
  cases hu : P.underlying T with
  | none => simp [hu] at h
  | some d => rw [hu] at h; cases d <;> simp_all; exact (kindNo_inj h.1)
theorem tyOk_bool {T : Nat} (h : tyOk P .bool (.inl T) = true) : P.underlying T = some .bool := by
  simp only [tyOk, Bool.and_eq_true] at h
  cases hu : P.underlying T with
  | none => simp [hu] at h
  | some d => rw [hu] at h; cases d <;> simp_all
theorem tyOk_str {T : Nat} (h : tyOk P .str (.inl T) = true) : P.underlying T = some .string := by
  simp only [tyOk, Bool.and_eq_true] at h
  cases hu : P.underlying T with
  | none => simp [hu] at h
  | some d => rw [hu] at h; cases d <;> simp_all
theorem ty_notL {τ : Ty} {T : Nat} (h : tyOk P τ (.inl T) = true) : τ.isL = false := by
  cases τ <;> first | rfl | simp [tyOk] at h
theorem path_isL {t : Ty} {q : Path} {T : Nat} (hq : PathOk t q) (h : tyOk P (t.pty q) (.inl T) = true) : t.isL = false := by
  cases q with
  | nil => exact ty_notL h
  | cons e r =>
    cases t <;> first | rfl | (exfalso; cases e <;> simp [PathOk] at hq)
theorem tyOk_slL {t : Ty} {T : Nat} (h : tyOk P (.sl t) (.inl T) = true) : t.isL = false := by
  obtain ⟨e, _, h⟩ := tyOk_sl h
  exact ty_notL h
end Go.Am
namespace Go.Am
open Go Go.RowKit
variable {P : Program}
def seg (vs : List Value) (o n : Nat) : List Value := (vs.drop o).take n
def spl (vs : List Value) (o : Nat) (ys : List Value) : List Value := vs.take o ++ (ys ++ vs.drop (o + ys.length))
theorem seg_length {vs : List Value} {o n : Nat} (h : o + n ≤ vs.length) : (seg vs o n).length = n := by simp [seg]; omega
theorem seg_getElem? (vs : List Value) (o n j : Nat) : (seg vs o n)[j]? = if j < n then vs[o + j]? else none := by
  simp only [seg, List.getElem?_take, List.getElem?_drop]
theorem seg_seg (vs : List Value) (o n o' n' : Nat) (h : o' + n' ≤ n) : seg (seg vs o n) o' n' = seg vs (o + o') n' := by
  apply List.ext_getElem?
  intro j
  simp only [seg_getElem?]
  by_cases hj : j < n'
  · simp only [hj, if_true]; rw [if_pos (by omega)]; congr 1; omega
  · simp [hj]
theorem seg_all (vs : List Value) : seg vs 0 vs.length = vs := by simp [seg]
theorem seg_left (us ws : List Value) : seg (us ++ ws) 0 us.length = us := by simp [seg]
theorem seg_right (us ws : List Value) (o n : Nat) : seg (us ++ ws) (us.length + o) n = seg ws o n := by
  unfold seg; rw [List.drop_append, List.drop_of_length_le (by omega), List.nil_append]; congr 2; omega
theorem spl_length {vs ys : List Value} {o : Nat} (h : o + ys.length ≤ vs.length) : (spl vs o ys).length = vs.length := by simp [spl]; omega
theorem spl_left (us ws ys : List Value) (h : ys.length = us.length) : spl (us ++ ws) 0 ys = ys ++ ws := by
  simp [spl, h]
theorem spl_right (us ws ys : List Value) (o : Nat) : spl (us ++ ws) (us.length + o) ys = us ++ spl ws o ys := by
  unfold spl
  rw [List.take_append, List.take_of_length_le (by omega), List.drop_append, List.drop_of_length_le (by omega), List.nil_append, List.append_assoc]
  congr 3
  · omega
  · congr 1; omega
theorem spl_nil (vs : List Value) (o : Nat) : spl vs o [] = vs := by simp [spl]
theorem spl_all (vs ys : List Value) (h : ys.length = vs.length) : spl vs 0 ys = ys := by simp [spl, h]
theorem spl_getElem? (vs ys : List Value) (o j : Nat) (h : o + ys.length ≤ vs.length) :
    (spl vs o ys)[j]? = if o ≤ j ∧ j < o + ys.length then ys[j - o]? else vs[j]? := by
  unfold spl
  by_cases h1 : j < o
  · rw [List.getElem?_append_left (by simp; omega)]
    simp [h1]; omega
  · rw [List.getElem?_append_right (by simp; omega)]
    have hl : (vs.take o).length = o := by simp; omega
    rw [hl]
    by_cases h2 : j < o + ys.length
    · rw [List.getElem?_append_left (by omega), if_pos ⟨by omega, h2⟩]
    · rw [List.getElem?_append_right (by omega), if_neg (by omega), List.getElem?_drop]
      congr 1; omega
theorem spl_spl (vs ys : List Value) (o n o' : Nat) (h : o + n ≤ vs.length) (h' : o' + ys.length ≤ n) : spl vs o (spl (seg vs o n) o' ys) = spl vs (o + o') ys := by
  have hl : (seg vs o n).length = n := seg_length h
  have hl' : (spl (seg vs o n) o' ys).length = n := by rw [spl_length (by omega), hl]
  apply List.ext_getElem?
  intro j
  rw [spl_getElem? vs _ o j (by omega), spl_getElem? vs ys (o + o') j (by omega), hl']
  by_cases h1 : o ≤ j ∧ j < o + n
  · rw [if_pos h1, spl_getElem? _ _ _ _ (by omega)]
    by_cases h2 : o' ≤ j - o ∧ j - o < o' + ys.length
    · rw [if_pos h2, if_pos (by omega)]; congr 1; omega
    · rw [if_neg h2, if_neg (by omega), seg_getElem?, if_pos (by omega)]; congr 1; omega
  · rw [if_neg h1, if_neg (by omega)]
theorem LRep_get {α : Type} {R : α → List Value → Prop} {k : Nat} (hk : ∀ x vs, R x vs → vs.length = k) (d : α) :
    ∀ {l : List α} {us : List Value} {i : Nat}, LRep R l us → i < l.length → R (l.getD i d) (seg us (i * k) k) := by
  intro l
  induction l with
  | nil => intro us i _ hi; simp at hi
  | cons x l ih =>
    rintro us i ⟨vs, ws, rfl, hx, hl⟩ hi
    have hv := hk _ _ hx
    cases i with
    | zero => simp only [Nat.zero_mul, List.getD_cons_zero]; rw [← hv, seg_left]; exact hx
    | succ i =>
      simp only [List.getD_cons_succ]
      rw [show (i + 1) * k = vs.length + i * k from by rw [hv, Nat.add_mul]; omega, seg_right]
      exact ih hl (by simpa using hi)
theorem LRep_set {α : Type} {R : α → List Value → Prop} {k : Nat} (hk : ∀ x vs, R x vs → vs.length = k) {y : α} {ys : List Value} (hy : R y ys) :
    ∀ {l : List α} {us : List Value} {i : Nat}, LRep R l us → i < l.length → LRep R (l.set i y) (spl us (i * k) ys) := by
  intro l
  induction l with
  | nil => intro us i _ hi; simp at hi
  | cons x l ih =>
    rintro us i ⟨vs, ws, rfl, hx, hl⟩ hi
    have hv := hk _ _ hx
    have hyl := hk _ _ hy
    cases i with
    | zero => simp only [Nat.zero_mul, List.set_cons_zero]; rw [spl_left _ _ _ (by omega)]; exact ⟨ys, ws, rfl, hy, hl⟩
    | succ i =>
      simp only [List.set_cons_succ]
      rw [show (i + 1) * k = vs.length + i * k from by rw [hv, Nat.add_mul]; omega, spl_right]
      exact ⟨vs, _, rfl, hx, ih hl (by simpa using hi)⟩
theorem LRep_append {α : Type} {R : α → List Value → Prop} : ∀ {l m : List α} {us ws : List Value}, LRep R l us → LRep R m ws → LRep R (l ++ m) (us ++ ws) := by
  intro l
  induction l with
  | nil => intro m us ws h hm; simp only [LRep] at h; subst h; simpa using hm
  | cons x l ih => rintro m us ws ⟨vs, ws', rfl, hx, hl⟩ hm; exact ⟨vs, ws' ++ ws, by simp, hx, ih hl hm⟩
theorem LRep_take {α : Type} {R : α → List Value → Prop} {k : Nat} (hk : ∀ x vs, R x vs → vs.length = k) :
    ∀ {l : List α} {us : List Value} (n : Nat), LRep R l us → LRep R (l.take n) (us.take (n * k)) := by
  intro l
  induction l with
  | nil => intro us n h; simp only [LRep] at h; subst h; simp [LRep]
  | cons x l ih =>
    rintro us n ⟨vs, ws, rfl, hx, hl⟩
    have hv := hk _ _ hx
    cases n with
    | zero => simp [LRep]
    | succ n =>
      simp only [List.take_succ_cons]
      refine ⟨vs, ws.take (n * k), ?_, hx, ih n hl⟩
      rw [List.take_append, List.take_of_length_le (by rw [hv, Nat.add_mul]; omega), show (n + 1) * k - vs.length = n * k from by rw [hv, Nat.add_mul]; omega]
theorem LRep_drop {α : Type} {R : α → List Value → Prop} {k : Nat} (hk : ∀ x vs, R x vs → vs.length = k) :
    ∀ {l : List α} {us : List Value} (n : Nat), LRep R l us → LRep R (l.drop n) (us.drop (n * k)) := by
  intro l
  induction l with
  | nil => intro us n h; simp only [LRep] at h; subst h; simp [LRep]
  | cons x l ih =>
    rintro us n ⟨vs, ws, rfl, hx, hl⟩
    have hv := hk _ _ hx
    cases n with
    | zero => simp only [Nat.zero_mul, List.drop_zero]; exact ⟨vs, ws, rfl, hx, hl⟩
    | succ n =>
      simp only [List.drop_succ_cons]
      have e : (vs ++ ws).drop ((n + 1) * k) = ws.drop (n * k) := by
        rw [List.drop_append, List.drop_of_length_le (l := vs) (by rw [hv, Nat.add_mul]; omega), show (n + 1) * k - vs.length = n * k from by rw [hv, Nat.add_mul]; omega, List.nil_append]
      rw [e]
      exact ih n hl
theorem LRep_replicate {α : Type} {R : α → List Value → Prop} {x : α} {vs : List Value} (h : R x vs) : ∀ n, LRep R (List.replicate n x) (List.replicate n vs).flatten := by
  intro n
  induction n with
  | zero => simp [LRep]
  | succ n ih => exact ⟨vs, _, by simp [List.replicate_succ], h, ih⟩
theorem foff_le {f : Ty} : ∀ {k : Nat}, k < f.flen → f.foff k + (f.fty k).size ≤ f.size := by
  induction f with
  | cons h t _ iht =>
    intro k hk
    cases k with
    | zero => simp [Ty.foff, Ty.fty, Ty.size]
    | succ k => simp only [Ty.flen] at hk; have := iht (k := k) (by omega); simp [Ty.foff, Ty.fty, Ty.size]; omega
  | _ => intro k hk; simp [Ty.flen] at hk
theorem CRep_fget {χ : Nat → Nat → Nat} {w : World} {f : Ty} : ∀ {k : Nat} {x : f.den} {vs : List Value}, k < f.flen → CRep χ w f x vs → CRep χ w (f.fty k) (f.fget k x) (seg vs (f.foff k) (f.fty k).size) := by
  induction f with
  | cons h t _ iht =>
    intro k x vs hk hc
    simp only [CRep] at hc
    obtain ⟨us, ws, rfl, h1, h2⟩ := hc
    have hl := CRep_length h1
    cases k with
    | zero => simp only [Ty.fty, Ty.fget, Ty.foff]; rw [← hl, seg_left]; exact h1
    | succ k =>
      simp only [Ty.flen] at hk
      simp only [Ty.fty, Ty.fget, Ty.foff]
      rw [← hl, seg_right]
      exact iht (by omega) h2
  | _ => intro k x vs hk; simp [Ty.flen] at hk
theorem CRep_fset {χ : Nat → Nat → Nat} {w : World} {f : Ty} : ∀ {k : Nat} {x : f.den} {y : (f.fty k).den} {vs ys : List Value}, k < f.flen → CRep χ w f x vs → CRep χ w (f.fty k) y ys → CRep χ w f (f.fset k y x) (spl vs (f.foff k) ys) := by
  induction f with
  | cons h t _ iht =>
    intro k x y vs ys hk hc hy
    simp only [CRep] at hc
    obtain ⟨us, ws, rfl, h1, h2⟩ := hc
    have hl := CRep_length h1
    cases k with
    | zero =>
      simp only [Ty.fty] at y hy
      have hyl := CRep_length hy
      simp only [Ty.fset, Ty.foff]; rw [spl_left _ _ _ (by omega)]; exact ⟨ys, ws, rfl, hy, h2⟩
    | succ k =>
      simp only [Ty.flen] at hk
      simp only [Ty.fset, Ty.foff]
      rw [← hl, spl_right]
      exact ⟨us, _, rfl, h1, iht (by omega) h2 hy⟩
  | _ => intro k x y vs ys hk; simp [Ty.flen] at hk
theorem TRep_length {G : Gh} {w : World} : ∀ {c : AVal} {τ : Ty} {vs : List Value}, TRep G w τ c vs → vs.length = τ.size := by
  intro c
  induction c with
  | val τ' x => intro τ vs h; simp only [TRep] at h; rw [← h.1]; exact CRep_length h.2.2
  | nil => intro τ vs h; simp only [TRep] at h; obtain ⟨h1, rfl⟩ := h; cases τ <;> simp [Ty.isSl] at h1; rfl
  | own t l T m => intro τ vs h; simp only [TRep] at h; obtain ⟨rfl, v, rfl, _⟩ := h; rfl
  | agg f a ih => intro τ vs h; simp only [TRep] at h; obtain ⟨rfl, h⟩ := h; have := ih (τ := f) h; simpa only [Ty.size] using this
  | nl => intro τ vs h; simp only [TRep] at h; obtain ⟨rfl, rfl⟩ := h; rfl
  | junk => intro τ vs h; simp only [TRep] at h; obtain ⟨h1, v, rfl, _⟩ := h; cases τ <;> simp [Ty.isSl] at h1; rfl
  | cons a b iha ihb => intro τ vs h; simp only [TRep] at h; obtain ⟨h, t, us, ws, rfl, rfl, h1, h2⟩ := h; simp [iha h1, ihb h2, Ty.size]
  | _ => intro τ vs h; simp only [TRep] at h
theorem TRep_cons_inv {G : Gh} {w : World} {h t : Ty} {c : AVal} {vs : List Value} (hc : TRep G w (.cons h t) c vs) : ∃ a b us ws, c = .cons a b ∧ vs = us ++ ws ∧ TRep G w h a us ∧ TRep G w t b ws := by
  cases c with
  | cons a b => simp only [TRep] at hc; obtain ⟨h', t', us, ws, e, rfl, h1, h2⟩ := hc; injection e with e1 e2; subst e1; subst e2; exact ⟨a, b, us, ws, rfl, rfl, h1, h2⟩
  | val τ' x => simp only [TRep] at hc; obtain ⟨rfl, h, _⟩ := hc; simp [Ty.isL] at h
  | nil => simp [TRep, Ty.isSl] at hc
  | junk => simp [TRep, Ty.isSl] at hc
  | _ => simp [TRep] at hc
theorem TRep_nth {G : Gh} {w : World} {f : Ty} : ∀ {c : AVal} {k : Nat} {vs : List Value}, k < f.flen → TRep G w f c vs → TRep G w (f.fty k) (c.nth k) (seg vs (f.foff k) (f.fty k).size) := by
  induction f with
  | cons h t _ iht =>
    intro c k vs hk hc
    obtain ⟨a, b, us, ws, rfl, rfl, h1, h2⟩ := TRep_cons_inv hc
    have hl := TRep_length h1
    cases k with
    | zero => simp only [Ty.fty, AVal.nth, Ty.foff]; rw [← hl, seg_left]; exact h1
    | succ k =>
      simp only [Ty.flen] at hk
      simp only [Ty.fty, AVal.nth, Ty.foff]
      rw [← hl, seg_right]
      exact iht (by omega) h2
  | _ => intro c k vs hk; simp [Ty.flen] at hk
theorem TRep_setNth {G : Gh} {w : World} {f : Ty} : ∀ {c B : AVal} {k : Nat} {vs ys : List Value}, k < f.flen → TRep G w f c vs → TRep G w (f.fty k) B ys → TRep G w f (c.setNth k B) (spl vs (f.foff k) ys) := by
  induction f with
  | cons h t _ iht =>
    intro c B k vs ys hk hc hB
    obtain ⟨a, b, us, ws, rfl, rfl, h1, h2⟩ := TRep_cons_inv hc
    have hl := TRep_length h1
    cases k with
    | zero =>
      simp only [Ty.fty] at hB
      have hyl := TRep_length hB
      simp only [AVal.setNth, Ty.foff]; rw [spl_left _ _ _ (by omega)]; simp only [TRep]; exact ⟨h, t, ys, ws, rfl, rfl, hB, h2⟩
    | succ k =>
      simp only [Ty.flen] at hk
      simp only [AVal.setNth, Ty.foff]
      rw [← hl, spl_right]
      simp only [TRep]
      exact ⟨h, t, us, _, rfl, rfl, h1, iht (by omega) h2 hB⟩
  | _ => intro c B k vs ys hk; simp [Ty.flen] at hk
theorem tyOk_notL {τ : Ty} {T : Nat} (h : tyOk P τ (.inl T) = true) : τ.isL = false := by
  cases τ <;> first | rfl | (simp [tyOk] at h)
theorem tyOk_isL {τ : Ty} {x : List Field × Nat} (h : tyOk P τ (.inr x) = true) : τ.isL = true := by
  cases τ <;> first | rfl | (simp [tyOk] at h)
theorem tyOk_plain : ∀ {τ : Ty} {x : Nat ⊕ (List Field × Nat)}, tyOk P τ x = true → τ.plain = true := by
  intro τ
  induction τ with
  | cons h t ihh iht =>
    intro x hx
    rcases x with x | ⟨fs, o⟩
    · simp [tyOk] at hx
    · cases fs with
      | nil => simp [tyOk] at hx
      | cons fd r =>
        simp only [tyOk, Bool.and_eq_true] at hx
        simp [Ty.plain, ihh hx.1.2, iht hx.2, tyOk_notL hx.1.2, tyOk_isL hx.2]
  | st f ih =>
    intro x hx
    rcases x with x | x
    · obtain ⟨fs, _, h⟩ := tyOk_st hx; simp [Ty.plain, ih h, tyOk_isL h]
    · simp [tyOk] at hx
  | arr n t ih =>
    intro x hx
    rcases x with x | x
    · obtain ⟨e, _, h⟩ := tyOk_arr hx; simp [Ty.plain, ih h, tyOk_notL h]
    · simp [tyOk] at hx
  | sl t ih =>
    intro x hx
    rcases x with x | x
    · obtain ⟨e, _, h⟩ := tyOk_sl hx; simp [Ty.plain, ih h, tyOk_notL h]
    · simp [tyOk] at hx
  | ptr t ih =>
    intro x hx
    rcases x with x | x
    · obtain ⟨e, _, h⟩ := tyOk_ptr hx; simp [Ty.plain, ih h, tyOk_notL h]
    · simp [tyOk] at hx
  | _ => intro x _; rfl
theorem plain_fty {f : Ty} : ∀ {k : Nat}, f.plain = true → k < f.flen → (f.fty k).isL = false ∧ (f.fty k).plain = true := by
  induction f with
  | cons h t _ iht =>
    intro k hp hk
    simp only [Ty.plain, Bool.and_eq_true, Bool.not_eq_true'] at hp
    cases k with
    | zero => exact ⟨hp.1.1.1, hp.1.1.2⟩
    | succ k => simp only [Ty.flen] at hk; exact iht hp.2 (by omega)
  | _ => intro k _ hk; simp [Ty.flen] at hk
theorem CRep_explode {G : Gh} {w : World} {f : Ty} : ∀ {x : f.den} {vs : List Value}, f.isL = true → f.plain = true → CRep G.χ w f x vs → TRep G w f (explode f x) vs := by
  induction f with
  | cons h t _ iht =>
    intro x vs hl hp hc
    simp only [Ty.plain, Bool.and_eq_true, Bool.not_eq_true'] at hp
    simp only [CRep] at hc
    obtain ⟨us, ws, rfl, h1, h2⟩ := hc
    simp only [explode, TRep]
    exact ⟨h, t, us, ws, rfl, rfl, ⟨rfl, hp.1.1.1, h1⟩, iht hp.1.2 hp.2 h2⟩
  | nl => intro x vs _ _ hc; simp only [CRep] at hc; simp only [explode, TRep]; exact ⟨trivial, hc⟩
  | _ => intro x vs hl; simp [Ty.isL] at hl
theorem cast_eq {a b : Ty} {x : a.den} {y : b.den} (h : Ty.cast b x = some y) : ∃ e : a = b, e ▸ x = y := by
  unfold Ty.cast at h
  split at h
  · rename_i hb
    exact ⟨Ty.eq_of_beq hb, by injection h⟩
  · cases h
theorem ORep_CRep {G : Gh} {w : World} {t : Ty} {l : List t.den} {T : Nat} {v : Value} (h : ORep G w t l T false v) : CRep G.χ w (.sl t) l [v] := by
  simp only [CRep]
  rcases (ORep_false h).2 with ⟨rfl, rfl⟩ | ⟨cap, cur, e, us, rfl, h2, h3, h4, h5, h6, h7, h8⟩
  · exact ⟨none, 0, rfl, .inl rfl⟩
  · refine ⟨_, cap, rfl, ?_⟩
    refine .inr ⟨G.γ T, 0, us, rfl, h3, h6, fun j u hu => ?_⟩
    have hul := LRep_length (k := t.size) (fun _ _ h => CRep_length h) h6
    have hj : j < l.length * t.size := by rw [← hul]; exact (List.getElem?_eq_some_iff.1 hu).1
    rw [← h7, List.getElem?_take, if_pos hj] at hu
    refine ⟨?_, by rw [h8, if_pos ⟨rfl, by omega⟩]⟩
    simp only [World.cell?, h2]
    simpa using hu
theorem as_CRep {G : Gh} {w : World} : ∀ {A : AVal} {τ : Ty} {x : τ.den} {vs : List Value}, AVal.as τ A = some x → TRep G w τ A vs → CRep G.χ w τ x vs := by
  intro A
  induction A with
  | val τ' y =>
    intro τ x vs h ht
    simp only [AVal.as, AVal.asT] at h
    simp only [TRep] at ht
    rw [ht.2.1, cond_false] at h
    obtain ⟨e, rfl⟩ := cast_eq h
    subst e
    exact ht.2.2
  | nil =>
    intro τ x vs h ht
    simp only [TRep] at ht
    obtain ⟨h1, rfl⟩ := ht
    cases τ with
    | sl t =>
      have h : (some [] : Option (List t.den)) = some x := h
      injection h with h
      subst h
      simp only [CRep]
      exact ⟨none, 0, rfl, .inl (by first | rfl | trivial)⟩
    | _ => simp [Ty.isSl] at h1
  | own t l T m =>
    intro τ x vs h ht
    simp only [AVal.as, AVal.asT] at h
    simp only [TRep] at ht
    obtain ⟨rfl, v, rfl, ho⟩ := ht
    cases m with
    | true => simp only [cond_true] at h; cases h
    | false =>
      simp only [cond_false] at h
      obtain ⟨e, rfl⟩ := cast_eq h
      exact ORep_CRep ho
  | agg f c ih =>
    intro τ x vs h ht
    simp only [TRep] at ht
    obtain ⟨rfl, ht⟩ := ht
    simp only [AVal.as, AVal.asT] at h
    cases hb : Ty.beq (.st f) (.st f) with
    | false => rw [hb, cond_false] at h; cases h
    | true =>
      rw [hb, cond_true] at h
      simp only [CRep]
      exact ih h ht
  | nl =>
    intro τ x vs h ht
    simp only [TRep] at ht
    obtain ⟨rfl, rfl⟩ := ht
    simp only [CRep]
  | cons a b iha ihb =>
    intro τ x vs h ht
    simp only [TRep] at ht
    obtain ⟨h1, t1, us, ws, rfl, rfl, h2, h3⟩ := ht
    simp only [AVal.as, AVal.asT, asCons] at h
    split at h
    · rename_i y z hy hz
      injection h with h
      subst h
      simp only [CRep]
      exact ⟨us, ws, rfl, iha hy h2, ihb hz h3⟩
    · cases h
  | junk => intro τ x vs h ht; simp only [AVal.as, AVal.asT] at h; cases h
  | _ => intro τ x vs h ht; simp only [TRep] at ht
theorem TRep_at {G : Gh} {w : World} : ∀ {p : Path} {τ : Ty} {c : AVal} {vs : List Value}, τ.plain = true → τ.isL = false → PathOk τ p → TRep G w τ c vs →
    (TRep G w (τ.pty p) (c.at p) (seg vs (τ.poff p) (τ.pty p).size) ∧ τ.poff p + (τ.pty p).size ≤ τ.size ∧ (τ.pty p).plain = true ∧ (τ.pty p).isL = false) := by
  intro p
  induction p with
  | nil => intro τ c vs hp hl _ h; have := TRep_length h; simp only [Ty.pty, AVal.at, Ty.poff]; rw [← this, seg_all]; exact ⟨h, by omega, hp, hl⟩
  | cons x p ih =>
    intro τ c vs hp hl hk h
    rcases x with k | i
    · cases τ <;> simp only [PathOk] at hk
      rename_i f
      simp only [Ty.plain, Bool.and_eq_true] at hp
      have hpf := plain_fty hp.2 hk.1
      have hle := foff_le hk.1
      have hc : TRep G w (f.fty k) (c.fld k) (seg vs (f.foff k) (f.fty k).size) := by
        cases c with
        | val τ' x => simp only [TRep] at h; obtain ⟨rfl, _, h⟩ := h; simp only [AVal.fld, TRep]; simp only [CRep] at h; exact ⟨trivial, hpf.1, CRep_fget hk.1 h⟩
        | agg f' a => simp only [TRep] at h; obtain ⟨e, h⟩ := h; injection e with e; subst e; simp only [AVal.fld]; exact TRep_nth hk.1 h
        | nil => simp [TRep, Ty.isSl] at h
        | junk => simp [TRep, Ty.isSl] at h
        | _ => simp [TRep] at h
      obtain ⟨h1, h2, h3, h4⟩ := ih hpf.2 hpf.1 hk.2 hc
      simp only [Ty.pty, AVal.at, Ty.poff, Ty.size]
      rw [seg_seg _ _ _ _ _ h2] at h1
      exact ⟨h1, by omega, h3, h4⟩
    · cases τ <;> simp only [PathOk] at hk
      rename_i n t
      simp only [Ty.plain, Bool.and_eq_true, Bool.not_eq_true'] at hp
      cases c with
      | val τ' x =>
        simp only [TRep] at h
        obtain ⟨rfl, _, h⟩ := h
        simp only [CRep] at h
        obtain ⟨h1, h2⟩ := h
        have hi : i.toNat < List.length (α := t.den) x := by omega
        have hg := LRep_get (k := t.size) (fun _ _ h => CRep_length h) t.dflt h2 hi
        have hc : TRep G w t (.val t (List.getD (α := t.den) x i.toNat t.dflt)) (seg vs (i.toNat * t.size) t.size) := (by simp only [TRep]; exact ⟨trivial, hp.1, hg⟩)
        obtain ⟨h3, h4, h5, h6⟩ := ih hp.2 hp.1 hk.2.2 hc
        simp only [Ty.pty, AVal.at, Ty.poff, Ty.size, AVal.ix]
        rw [seg_seg _ _ _ _ _ h4] at h3
        refine ⟨h3, ?_, h5, h6⟩
        have : i.toNat * t.size + t.size ≤ n * t.size := by rw [← Nat.succ_mul]; exact Nat.mul_le_mul_right _ (by omega)
        omega
      | nil => simp [TRep, Ty.isSl] at h
      | junk => simp [TRep, Ty.isSl] at h
      | _ => simp [TRep] at h
theorem as_fits : ∀ {A : AVal} {τ : Ty} {x : τ.den}, AVal.as τ A = some x → A.fitsT τ = true := by
  intro A
  induction A with
  | val τ' y =>
    intro τ x h
    simp only [AVal.as, AVal.asT] at h
    cases hl : τ'.isL with
    | true => rw [hl, cond_true] at h; cases h
    | false =>
      rw [hl, cond_false] at h
      simp only [AVal.fitsT, hl, Bool.not_false, Bool.and_true]
      unfold Ty.cast at h
      split at h
      · assumption
      · cases h
  | nil => intro τ x h; cases τ <;> first | rfl | (simp only [AVal.as, AVal.asT, asNil] at h; cases h)
  | own t l T m =>
    intro τ x h
    simp only [AVal.as, AVal.asT] at h
    cases m with
    | true => simp only [cond_true] at h; cases h
    | false =>
      simp only [cond_false] at h
      simp only [AVal.fitsT]
      unfold Ty.cast at h
      split at h
      · assumption
      · cases h
  | agg f c ih =>
    intro τ x h
    simp only [AVal.as, AVal.asT] at h
    cases hb : Ty.beq (.st f) τ with
    | false => rw [hb, cond_false] at h; cases h
    | true =>
      rw [hb, cond_true] at h
      have := Ty.eq_of_beq hb; subst this
      simp only [AVal.fitsT, hb, Bool.true_and]
      exact ih h
  | nl => intro τ x h; cases τ <;> first | rfl | (simp only [AVal.as, AVal.asT, asNl] at h; cases h)
  | cons a b iha ihb =>
    intro τ x h
    cases τ with
    | cons h1 t1 =>
      simp only [AVal.as, AVal.asT, asCons] at h
      split at h
      · rename_i y z hy hz
        simp only [AVal.fitsT, fitsCons, Bool.and_eq_true]
        exact ⟨iha hy, ihb hz⟩
      · cases h
    | _ => simp only [AVal.as, AVal.asT, asCons] at h; cases h
  | _ => intro τ x h; simp only [AVal.as, AVal.asT] at h; cases h
theorem fits_lax : ∀ {A : AVal} {τ : Ty}, A.fitsT τ = true → A.laxT τ = true := by
  intro A
  induction A with
  | agg f c ih => intro τ h; simp only [AVal.fitsT, AVal.laxT, Bool.and_eq_true] at h ⊢; exact ⟨h.1, ih h.2⟩
  | cons a b iha ihb =>
    intro τ h
    cases τ with
    | cons h1 t1 => simp only [AVal.fitsT, AVal.laxT, fitsCons, Bool.and_eq_true] at h ⊢; exact ⟨iha h.1, ihb h.2⟩
    | _ => simp [AVal.fitsT, fitsCons] at h
  | val τ' y => intro τ h; exact h
  | nil => intro τ h; exact h
  | own t l T m => intro τ h; exact h
  | nl => intro τ h; exact h
  | _ => intro τ h; simp [AVal.fitsT] at h
theorem lax_setNth {G : Gh} {w : World} {f : Ty} : ∀ {c B : AVal} {k : Nat} {vs : List Value}, k < f.flen → TRep G w f c vs → (c.setNth k B).laxT f = true → B.laxT (f.fty k) = true := by
  induction f with
  | cons h t _ iht =>
    intro c B k vs hk hc hf
    obtain ⟨a, b, us, ws, rfl, rfl, h1, h2⟩ := TRep_cons_inv hc
    cases k with
    | zero => simp only [AVal.setNth, AVal.laxT, fitsCons, Bool.and_eq_true] at hf; exact hf.1
    | succ k =>
      simp only [Ty.flen] at hk
      simp only [AVal.setNth, AVal.laxT, fitsCons, Bool.and_eq_true] at hf
      exact iht (by omega) h2 hf.2
  | _ => intro c B k vs hk; simp [Ty.flen] at hk
theorem TRep_put {G : Gh} {w : World} : ∀ {p : Path} {τ : Ty} {c B : AVal} {vs ys : List Value}, τ.plain = true → τ.isL = false → PathOk τ p → TRep G w τ c vs → TRep G w (τ.pty p) B ys →
    (AVal.put p c B).laxT τ = true → TRep G w τ (AVal.put p c B) (spl vs (τ.poff p) ys) := by
  intro p
  induction p with
  | nil => intro τ c B vs ys hp hl _ h hB _; simp only [Ty.pty] at hB; have := TRep_length h; have := TRep_length hB; simp only [AVal.put, Ty.poff]; rw [spl_all _ _ (by omega)]; exact hB
  | cons x p ih =>
    intro τ c B vs ys hp hl hk h hB hj
    have hat := TRep_at hp hl hk h
    rcases x with k | i
    · cases τ <;> simp only [PathOk] at hk
      rename_i f
      simp only [Ty.plain, Bool.and_eq_true] at hp
      have hpf := plain_fty hp.2 hk.1
      have hle := foff_le hk.1
      have hyl := TRep_length hB
      simp only [Ty.pty] at hyl hB hat
      simp only [Ty.poff, Ty.size] at hat ⊢
      have hvl := TRep_length h
      simp only [Ty.size] at hvl
      cases c with
      | val τ' x =>
        simp only [TRep] at h
        obtain ⟨rfl, _, h⟩ := h
        simp only [CRep] at h
        have hg : TRep G w (f.fty k) (.val (f.fty k) (f.fget k x)) (seg vs (f.foff k) (f.fty k).size) := (by simp only [TRep]; exact ⟨trivial, hpf.1, CRep_fget hk.1 h⟩)
        have hat2 := TRep_at hpf.2 hpf.1 hk.2 hg
        simp only [AVal.put] at hj ⊢
        have hC := fun hn => ih (B := B) hpf.2 hpf.1 hk.2 hg hB hn
        cases hy : AVal.as (f.fty k) (AVal.put p (.val (f.fty k) (f.fget k x)) B) with
        | some y =>
          simp only [hy] at hj ⊢
          have := CRep_fset hk.1 h (as_CRep hy (hC (fits_lax (as_fits hy))))
          rw [spl_spl _ _ _ _ _ (by omega) (by omega)] at this
          simp only [TRep]
          exact ⟨trivial, rfl, by simpa only [CRep] using this⟩
        | none =>
          simp only [hy] at hj ⊢
          have hex := CRep_explode hp.1 hp.2 h
          simp only [AVal.laxT, Bool.and_eq_true] at hj
          have := TRep_setNth hk.1 hex (hC (lax_setNth hk.1 hex hj.2))
          rw [spl_spl _ _ _ _ _ (by omega) (by omega)] at this
          simp only [TRep]
          exact ⟨trivial, this⟩
      | agg f' a =>
        simp only [TRep] at h
        obtain ⟨e, h⟩ := h
        injection e with e; subst e
        have hg := TRep_nth hk.1 h
        have hat2 := TRep_at hpf.2 hpf.1 hk.2 hg
        simp only [AVal.put] at hj ⊢
        simp only [AVal.laxT, Bool.and_eq_true] at hj
        have := TRep_setNth hk.1 h (ih hpf.2 hpf.1 hk.2 hg hB (lax_setNth hk.1 h hj.2))
        rw [spl_spl _ _ _ _ _ (by omega) (by omega)] at this
        simp only [TRep]
        exact ⟨trivial, this⟩
      | nil => simp [TRep, Ty.isSl] at h
      | junk => simp [TRep, Ty.isSl] at h
      | _ => simp [TRep] at h
    · cases τ <;> simp only [PathOk] at hk
      rename_i n t
      simp only [Ty.plain, Bool.and_eq_true, Bool.not_eq_true'] at hp
      have hyl := TRep_length hB
      have hvl := TRep_length h
      simp only [Ty.pty, Ty.size] at hyl hB hvl
      cases c with
      | val τ' x =>
        simp only [TRep] at h
        obtain ⟨rfl, _, h⟩ := h
        simp only [CRep] at h
        obtain ⟨h1, h2⟩ := h
        have hi : i.toNat < List.length (α := t.den) x := by omega
        have hg := LRep_get (k := t.size) (fun _ _ h => CRep_length h) t.dflt h2 hi
        have hc : TRep G w t (.val t (List.getD (α := t.den) x i.toNat t.dflt)) (seg vs (i.toNat * t.size) t.size) := (by simp only [TRep]; exact ⟨trivial, hp.1, hg⟩)
        have hat2 := TRep_at hp.2 hp.1 hk.2.2 hc
        have hsz : i.toNat * t.size + t.size ≤ n * t.size := by rw [← Nat.succ_mul]; exact Nat.mul_le_mul_right _ (by omega)
        simp only [AVal.put] at hj ⊢
        cases hy : AVal.as t (AVal.put p (.val t (List.getD (α := t.den) x i.toNat t.dflt)) B) with
        | none => simp only [hy, AVal.laxT] at hj; cases hj
        | some y =>
          simp only [hy] at hj ⊢
          have hn := fits_lax (as_fits hy)
          have := LRep_set (R := CRep G.χ w t) (k := t.size) (fun _ _ h => CRep_length h) (as_CRep hy (ih hp.2 hp.1 hk.2.2 hc hB hn)) h2 hi
          rw [spl_spl _ _ _ _ _ (by omega) (by omega)] at this
          simp only [TRep, Ty.poff]
          exact ⟨trivial, rfl, by simp only [CRep]; exact ⟨(List.length_set (α := t.den)).trans h1, this⟩⟩
      | nil => simp [TRep, Ty.isSl] at h
      | junk => simp [TRep, Ty.isSl] at h
      | _ => simp [TRep] at h
end Go.Am
namespace Go.Am
open Go Go.RowKit
variable {P : Program} {c : Ctx} {G : Gh} {w : World} {tm : Array Value}
theorem is_tyOk (hty : tysOk P c.tys = true) {T : Nat} {τ : Ty} (h : c.is T τ = true) : tyOk P τ (.inl T) = true := by
  simp only [Ctx.is, Bool.and_eq_true] at h
  have e := Ty.eq_of_beq h.1
  rw [e]
  exact tyOk_of hty T (by rw [← e]; intro h'; rw [h'] at h; simp [notNl] at h)
theorem VRep_int {χ : Nat → Nat → Nat} {k : IntKind} {n : Int} {v : Value} : VRep χ w (.int k) n v ↔ v = .int k n := by
  constructor
  · rintro ⟨vs, h1, h2⟩
    simp only [CRep] at h1
    simp only [Ty.isAgg, cond_false] at h2
    rw [h1] at h2
    injection h2 with h2 _
    exact h2.symm
  · rintro rfl
    exact ⟨[.int k n], by simp only [CRep], by simp [Ty.isAgg]⟩
theorem VRep_bool {χ : Nat → Nat → Nat} {b : Bool} {v : Value} : VRep χ w .bool b v ↔ v = .bool b := by
  constructor
  · rintro ⟨vs, h1, h2⟩
    simp only [CRep] at h1
    simp only [Ty.isAgg, cond_false] at h2
    rw [h1] at h2
    injection h2 with h2 _
    exact h2.symm
  · rintro rfl
    exact ⟨[.bool b], by simp only [CRep], by simp [Ty.isAgg]⟩
theorem VRep_str {χ : Nat → Nat → Nat} {s : List UInt8} {v : Value} : VRep χ w .str s v ↔ v = .string ⟨s.toArray⟩ := by
  constructor
  · rintro ⟨vs, h1, h2⟩
    simp only [CRep] at h1
    simp only [Ty.isAgg, cond_false] at h2
    rw [h1] at h2
    injection h2 with h2 _
    exact h2.symm
  · rintro rfl
    exact ⟨[.string ⟨s.toArray⟩], by simp only [CRep], by simp [Ty.isAgg]⟩
theorem VRep_one {χ : Nat → Nat → Nat} {τ : Ty} {x : τ.den} {v : Value} (h : τ.isAgg = false) : VRep χ w τ x v ↔ CRep χ w τ x [v] := by
  constructor
  · rintro ⟨vs, h1, h2⟩
    rw [h, cond_false] at h2
    rw [← h2]; exact h1
  · intro h1
    exact ⟨[v], h1, by rw [h, cond_false]⟩
theorem VRep_agg {χ : Nat → Nat → Nat} {τ : Ty} {x : τ.den} {v : Value} (h : τ.isAgg = true) : VRep χ w τ x v ↔ ∃ vs, v = .agg vs.toArray ∧ CRep χ w τ x vs := by
  constructor
  · rintro ⟨vs, h1, h2⟩
    rw [h, cond_true] at h2
    exact ⟨vs, h2, h1⟩
  · rintro ⟨vs, h1, h2⟩
    exact ⟨vs, h2, by rw [h, cond_true]; exact h1⟩
def asSlot (τ : Ty) (us : List Value) (u : Value) : Prop := bif τ.isAgg then u = .agg us.toArray else us = [u]
theorem TRep_slot {τ : Ty} {A : AVal} {us : List Value} {u : Value} (h : TRep G w τ A us) (hl : τ.isL = false) (hu : asSlot τ us u) : ARep G w tm none A u := by
  unfold asSlot at hu
  cases A with
  | val τ' x => simp only [TRep] at h; obtain ⟨rfl, h1, h2⟩ := h; simp only [ARep]; exact ⟨us, h2, hu⟩
  | nil => simp only [TRep] at h; obtain ⟨h1, rfl⟩ := h; cases τ <;> simp [Ty.isSl] at h1; simp only [Ty.isAgg, cond_false] at hu; simp only [ARep]; injection hu with hu _; exact hu.symm
  | own t l T m => simp only [TRep] at h; obtain ⟨rfl, v, rfl, h1⟩ := h; simp only [Ty.isAgg, cond_false] at hu; injection hu with hu _; subst hu; simp only [ARep]; exact h1
  | agg f a => simp only [TRep] at h; obtain ⟨rfl, h1⟩ := h; simp only [Ty.isAgg, cond_true] at hu; simp only [ARep]; exact ⟨us, hu, h1⟩
  | nl => simp only [TRep] at h; obtain ⟨rfl, _⟩ := h; simp [Ty.isL] at hl
  | cons a b => simp only [TRep] at h; obtain ⟨_, _, _, _, rfl, _⟩ := h; simp [Ty.isL] at hl
  | junk => simp only [ARep]
  | _ => simp only [TRep] at h
theorem slot_TRep {τ : Ty} {A : AVal} {u : Value} (h : ARep G w tm none A u) (hf : A.fitsT τ = true) (hl : τ.isL = false) : ∃ us, TRep G w τ A us ∧ asSlot τ us u := by
  unfold asSlot
  cases A with
  | val τ' x =>
    simp only [AVal.fitsT, Bool.and_eq_true, Bool.not_eq_true'] at hf
    have e := Ty.eq_of_beq hf.1; subst e
    simp only [ARep] at h
    obtain ⟨us, h1, h2⟩ := h
    exact ⟨us, by simp only [TRep]; exact ⟨trivial, hl, h1⟩, h2⟩
  | nil =>
    simp only [ARep] at h; subst h
    simp only [AVal.fitsT] at hf
    cases τ <;> simp [Ty.isSl] at hf
    exact ⟨[.slice none 0 0], by simp [TRep, Ty.isSl], by simp [Ty.isAgg]⟩
  | own t l T m =>
    simp only [AVal.fitsT] at hf
    have e := Ty.eq_of_beq hf; subst e
    simp only [ARep] at h
    exact ⟨[u], by simp only [TRep]; exact ⟨trivial, u, rfl, h⟩, by simp [Ty.isAgg]⟩
  | agg f a =>
    simp only [AVal.fitsT, Bool.and_eq_true] at hf
    have e := Ty.eq_of_beq hf.1; subst e
    simp only [ARep] at h
    obtain ⟨us, h1, h2⟩ := h
    exact ⟨us, by simp only [TRep]; exact ⟨trivial, h2⟩, by simp [Ty.isAgg, h1]⟩
  | nl => simp only [AVal.fitsT] at hf; have e := Ty.eq_of_beq hf; subst e; simp [Ty.isL] at hl
  | cons a b => simp only [AVal.fitsT] at hf; cases τ <;> simp [fitsCons] at hf; simp [Ty.isL] at hl
  | _ => simp [AVal.fitsT] at hf
theorem as_VRep {τ : Ty} {A : AVal} {x : τ.den} {u : Value} (h : AVal.as τ A = some x) (hl : τ.isL = false) (hr : ARep G w tm none A u) : VRep G.χ w τ x u := by
  obtain ⟨us, h1, h2⟩ := slot_TRep hr (as_fits h) hl
  exact ⟨us, as_CRep h h1, h2⟩
theorem size_one {τ : Ty} {T : Nat} (h : tyOk P τ (.inl T) = true) (ha : τ.isAgg = false) : τ.size = 1 := by
  cases τ <;> simp [Ty.isAgg, tyOk] at h ha <;> rfl
theorem run_isAgg {T : Nat} {d : TypeDesc} (hu : P.underlying T = some d) (w : World) : (isAgg T).run P w = .ok d.isRow w := by
  unfold isAgg
  rw [Sem.run_bind, run_underlying hu w]
  cases d <;> simp [TypeDesc.isRow]
theorem run_loadAt_any {τ : Ty} {T b o : Nat} {us : List Value} (hT : tyOk P τ (.inl T) = true) (hr : w.rangeAt b o us) (hl : us.length = τ.size) :
    ∃ u, (Instr.loadAt T (.pointer (some ⟨b, o, none⟩))).run P w = .ok u w ∧ asSlot τ us u := by
  obtain ⟨⟨i, z, hi, hs, _⟩, d, hu, hd⟩ := tyOk_is hT
  unfold asSlot
  cases ha : τ.isAgg with
  | true => exact ⟨_, run_loadAt_mid w b o T us d hr hu (by rw [hd, ha]) (by simp [hi, hs, hl]), by simp⟩
  | false =>
    have h1 := size_one hT ha
    rw [h1] at hl
    obtain ⟨u, rfl⟩ : ∃ u, us = [u] := by
      cases us with
      | nil => simp at hl
      | cons x r => cases r with
        | nil => exact ⟨x, rfl⟩
        | cons _ _ => simp at hl
    refine ⟨u, ?_, by simp⟩
    have hc := hr 0 u rfl
    have hg := run_isAgg hu w
    rw [hd, ha] at hg
    simp only [Nat.add_zero] at hc
    simp only [Instr.loadAt, Instr.sureAddr, Sem.run_bind, Sem.run_pure, Result.andThen_ok, loadVar, hg]
    simp [hc]
theorem Cells_range {χ : Nat → Nat → Nat} {b o : Nat} {us : List Value} (h : Cells χ w b o us) : w.rangeAt b o us := fun j v hv => (h j v hv).1
theorem block_range {b : Nat} {cur : Array Value} {e : TypeId} {fr : Nat × Nat} (h : w.heap[b]? = some (.cells cur e fr)) (o n : Nat) : w.rangeAt b o (seg cur.toList o n) := by
  intro j v hv
  rw [seg_getElem?] at hv
  split at hv
  · simp only [World.cell?, h]; simpa using hv
  · cases hv
def refSlot : AVal → Option Nat
  | .ref s _ _ => some s
  | .eref s _ _ _ _ => some s
  | .rref s => some s
  | _ => none
theorem TRep_box_ty {s : Nat} {τ : Ty} {k : AVal} {u : Value} (h : ARep G w tm (some s) (.box τ k) u) : VarTy τ ∧ ∃ cur e, w.heap[G.β s]? = some (.cells cur e (0, 0)) ∧ TRep G w τ k cur.toList ∧ (∀ o, G.χ (G.β s) o = cBox s) := by
  simp only [ARep] at h
  exact h.2
def ftOk (P : Program) (T : Nat) : Bool :=
  match P.info? T, P.underlying T with
  | some i, some d => Nat.beq i.size 1 && !d.isRow && (match i.zero with | some z => Nat.beq z.cells.size 1 | none => false)
  | _, _ => false
def ftsOk (P : Program) (l : List Nat) : Bool := l.all (ftOk P)
theorem ftOk_is {l : List Nat} (h : ftsOk P l = true) {T : Nat} (hT : l.any (Nat.beq T) = true) : ∃ i d z u, P.info? T = some i ∧ P.underlying T = some d ∧ i.size = 1 ∧ d.isRow = false ∧ i.zero = some z ∧ z.cells = #[u] := by
  obtain ⟨T', hm, hb⟩ := List.any_eq_true.1 hT
  have := Nat.eq_of_beq_eq_true hb
  subst this
  have := List.all_eq_true.1 h _ hm
  unfold ftOk at this
  split at this
  · rename_i i d hi hd
    simp only [Bool.and_eq_true, Bool.not_eq_true'] at this
    obtain ⟨⟨h1, h2⟩, h3⟩ := this
    split at h3
    · rename_i z hz
      have h3 := Nat.eq_of_beq_eq_true h3
      obtain ⟨u, hu⟩ := Array.size_eq_one_iff.1 h3
      exact ⟨i, d, z, u, hi, hd, Nat.eq_of_beq_eq_true h1, h2, hz, hu⟩
    · cases h3
  · cases this
theorem capA_rep {f : Nat} {caps : List (Option (Nat × Ty))} {v : Value} (hv : ARep G w tm none (.fptr f caps) v) : ∀ r, ARep G w tm none (capA f caps r) (.tuple (r.map (capV G v)).toArray) := by
  intro r
  induction r with
  | nil => simp only [capA, ARep, List.map_nil]
  | cons q r ih =>
    cases q with
    | none => simp only [capA]; rw [ARep]; exact ⟨v, r.map (capV G v), by simp [capV], hv, ih⟩
    | some q =>
      obtain ⟨k, τ⟩ := q
      simp only [capA]
      rw [ARep]
      refine ⟨.pointer (some ⟨G.β k, 0, none⟩), r.map (capV G v), by simp [capV], ?_, ih⟩
      simp only [ARep]
      exact ⟨by simp only [PathOk], by simp [Ty.poff]⟩
theorem loadA_sound (hty : tysOk P c.tys = true) (hft : ftsOk P c.fts = true) {T : Nat} {x k A : AVal} {v : Value} {p : List Prop} (hx : ARep G w tm none x v) (hk : ∀ s, refSlot x = some s → ∃ u, ARep G w tm (some s) k u)
    (h : loadA c T x k = some (p, A)) (hp : ∀ q ∈ p, q) : ∃ u, (Instr.loadAt T v).run P w = .ok u w ∧ ARep G w tm none A u := by
  cases x with
  | fptr f caps =>
    simp only [loadA] at h
    cases hb : c.fts.any (Nat.beq T) with
    | false => simp [hb] at h
    | true =>
      simp only [hb, cond_true, Option.some.injEq, Prod.mk.injEq] at h
      obtain ⟨rfl, rfl⟩ := h
      obtain ⟨i, d, z, u, hi, hu, _, hrow, _, _⟩ := ftOk_is hft hb
      have hv := hx
      simp only [ARep] at hx
      obtain ⟨b, rfl, _, hc⟩ := hx
      refine ⟨.func (.func f) #[] (caps.map (capV G (.pointer (some ⟨b, 0, none⟩)))).toArray, ?_, ?_⟩
      · have hg := run_isAgg hu w
        rw [hrow] at hg
        simp only [Instr.loadAt, Instr.sureAddr, Sem.run_bind, Sem.run_pure, Result.andThen_ok, loadVar, hg]
        simp [hc]
      · rw [ARep]
        exact ⟨_, rfl, capA_rep hv caps⟩
  | val τ x =>
    cases τ with
    | ptr t =>
      simp only [loadA] at h
      cases hi : c.is T t with
      | false => simp [hi] at h
      | true =>
        simp only [hi, cond_true, Option.some.injEq, Prod.mk.injEq] at h
        obtain ⟨rfl, rfl⟩ := h
        have hT := is_tyOk hty hi
        simp only [ARep] at hx
        rw [VRep_one rfl] at hx
        simp only [CRep] at hx
        obtain ⟨b, o, us, hv, h1, h2⟩ := hx
        injection hv with hv _
        subst hv
        obtain ⟨u, h3, h4⟩ := run_loadAt_any hT (Cells_range h2) (CRep_length h1)
        exact ⟨u, h3, by simp only [ARep]; exact ⟨us, h1, h4⟩⟩
    | _ => simp [loadA] at h
  | ref s τ q =>
    simp only [loadA] at h
    cases k with
    | box τ' k =>
      simp only at h
      cases hc : (Ty.beq τ' τ && c.is T (τ.pty q) && AVal.fits (τ.pty q) (k.at q)) with
      | false => simp [hc] at h
      | true =>
        simp only [hc, cond_true, Option.some.injEq, Prod.mk.injEq] at h
        obtain ⟨rfl, rfl⟩ := h
        simp only [Bool.and_eq_true] at hc
        have e := Ty.eq_of_beq hc.1.1; subst e
        have hT := is_tyOk hty hc.1.2
        obtain ⟨u, hu⟩ := hk s rfl
        obtain ⟨⟨hpl, hnl⟩, cur, e, h1, h2, h3⟩ := TRep_box_ty hu
        simp only [ARep] at hx
        obtain ⟨hx1, rfl⟩ := hx
        obtain ⟨h4, h5, h6, h7⟩ := TRep_at hpl hnl hx1 h2
        obtain ⟨u, h8, h9⟩ := run_loadAt_any hT (block_range h1 _ _) (TRep_length h4)
        exact ⟨u, h8, TRep_slot h4 h7 h9⟩
    | _ => simp at h
  | eref s U t i q =>
    simp only [loadA] at h
    cases k with
    | ownh t' l U' j V m =>
      simp only at h
      cases hc : (Ty.beq (.sl t') t && Nat.beq U' U && c.is T (.sl t') && q.isEmpty && !(Nat.beq U' V)) with
      | false => simp only [hc, cond_false] at h; cases h
      | true =>
        simp only [hc, cond_true, Option.some.injEq, Prod.mk.injEq] at h
        obtain ⟨rfl, rfl⟩ := h
        simp only [Bool.and_eq_true] at hc
        obtain ⟨hc, hUV⟩ := hc
        have e := Ty.eq_of_beq hc.1.1.1; subst e
        have e := Nat.eq_of_beq_eq_true hc.1.1.2; subst e
        have hq : q = [] := List.isEmpty_iff.1 hc.2
        subst hq
        have hT := is_tyOk hty hc.1.2
        obtain ⟨u, hu⟩ := hk s rfl
        simp only [ARep] at hu hx
        obtain ⟨hx0, hx1, rfl⟩ := hx
        obtain ⟨hij, hi⟩ := hp _ (List.mem_singleton.2 rfl)
        have hi' : i.toNat < List.length (α := List t'.den) l := by omega
        obtain ⟨hv, ⟨he, _⟩ | ⟨hne, ⟨_, h0⟩ | ⟨cap, cur, e, h1, h2, h3, h4, h5, h6, h7⟩⟩⟩ := hu
        · subst he; simp at hUV
        · rw [h0] at hi'; simp at hi'
        · obtain ⟨u1, hu1, hr⟩ := h7 i.toNat _ (List.getElem?_eq_getElem hi')
          rw [if_pos hij] at hr
          have hr' : w.rangeAt (G.γ U') (i.toNat * (Ty.sl t').size + (Ty.sl t').poff []) [u1] := by
            intro k v hv
            cases k with
            | zero => simp at hv; subst hv; simp only [Ty.size, Ty.poff, World.cell?, h2]; simpa using hu1
            | succ k => simp at hv
          obtain ⟨u2, h13, h14⟩ := run_loadAt_any hT hr' rfl
          refine ⟨u2, h13, ?_⟩
          simp only [asSlot, Ty.isAgg, cond_false] at h14
          injection h14 with h14 _
          subst h14
          simp only [ARep]
          refine .inl ?_
          rw [← hij, List.getD_eq_getElem?_getD, List.getElem?_eq_getElem hi']
          exact hr
    | own t' l U' m =>
      simp only at h
      cases hc : (Ty.beq t' t && Nat.beq U' U && c.is T (t.pty q) && AVal.fits (t.pty q) ((AVal.val t' (List.getD (α := t'.den) l i.toNat t'.dflt)).at q)) with
      | false => simp only [hc, cond_false] at h; cases h
      | true =>
        simp only [hc, cond_true, Option.some.injEq, Prod.mk.injEq] at h
        obtain ⟨rfl, rfl⟩ := h
        simp only [Bool.and_eq_true] at hc
        have e := Ty.eq_of_beq hc.1.1.1; subst e
        have e := Nat.eq_of_beq_eq_true hc.1.1.2; subst e
        have hT := is_tyOk hty hc.1.2
        obtain ⟨u, hu⟩ := hk s rfl
        simp only [ARep] at hu hx
        obtain ⟨hx0, hx1, rfl⟩ := hx
        have hi := hp _ (List.mem_singleton.2 rfl)
        have hi' : i.toNat < l.length := by omega
        obtain ⟨⟨hpl, hnl⟩, hu⟩ := ORep_slice hu (path_isL hx1 hT)
        rcases hu with ⟨_, rfl⟩ | ⟨cap, cur, e, us, _, h2, h3, h4, h5, h6, h7, h8⟩
        · simp at hi'
        · have hul := LRep_length (k := t'.size) (fun _ _ h => CRep_length h) h6
          have hg := LRep_get (k := t'.size) (fun _ _ h => CRep_length h) t'.dflt h6 hi'
          have hsz : i.toNat * t'.size + t'.size ≤ l.length * t'.size := by rw [← Nat.succ_mul]; exact Nat.mul_le_mul_right _ (by omega)
          have hc2 : TRep G w t' (.val t' (List.getD (α := t'.den) l i.toNat t'.dflt)) (seg us (i.toNat * t'.size) t'.size) := by simp only [TRep]; exact ⟨trivial, hnl, hg⟩
          obtain ⟨h9, h10, h11, h12⟩ := TRep_at hpl hnl hx1 hc2
          rw [seg_seg _ _ _ _ _ h10] at h9
          have hr : w.rangeAt (G.γ U') (i.toNat * t'.size + t'.poff q) (seg us (i.toNat * t'.size + t'.poff q) (t'.pty q).size) := by
            intro j v hv
            rw [seg_getElem?] at hv
            split at hv
            · rw [← h7, List.getElem?_take] at hv
              split at hv
              · simp only [World.cell?, h2]; simpa using hv
              · cases hv
            · cases hv
          obtain ⟨u, h13, h14⟩ := run_loadAt_any hT hr (TRep_length h9)
          exact ⟨u, h13, TRep_slot h9 h12 h14⟩
    | _ => simp at h
  | _ => simp [loadA] at h
end Go.Am
namespace Go.Am
open Go Go.RowKit
variable {P : Program} {c : Ctx} {G : Gh} {w : World} {tm : Array Value}
theorem ptr_ARep {s : Option Nat} {t : Ty} {x : t.den} {b o : Nat} {us : List Value} (h1 : CRep G.χ w t x us) (h2 : Cells G.χ w b o us) : ARep G w tm s (.val (.ptr t) x) (.pointer (some ⟨b, o, none⟩)) := by
  simp only [ARep]
  refine (VRep_one rfl).2 ?_
  simp only [CRep]
  exact ⟨b, o, us, rfl, h1, h2⟩
theorem CRep_get {χ : Nat → Nat → Nat} {t : Ty} {l : List t.den} {us : List Value} {i : Nat} (h : LRep (CRep χ w t) l us) (hi : i < l.length) : CRep χ w t (l.getD i t.dflt) (seg us (i * t.size) t.size) :=
  LRep_get (R := CRep χ w t) (k := t.size) (fun _ _ h => CRep_length h) t.dflt h hi
theorem bytes_get (s : List UInt8) (n : Nat) (h : n < s.length) : ((⟨s.toArray⟩ : ByteArray))[n]? = some (s.getD n 0) := by
  rw [List.getD_eq_getElem?_getD, List.getElem?_eq_getElem h]
  rw [getElem?_pos (c := (⟨s.toArray⟩ : ByteArray)) (i := n) (by simpa [ByteArray.size] using h)]
  rfl
theorem run_sizeOf_ty {τ : Ty} {T : Nat} (h : tyOk P τ (.inl T) = true) (w : World) : (sizeOf T).run P w = .ok τ.size w := by
  obtain ⟨⟨i, z, hi, hs, _⟩, _⟩ := tyOk_is h
  simp [sizeOf, typeInfo, hi, hs]
theorem Cells_seg {χ : Nat → Nat → Nat} {b o : Nat} {us : List Value} (h : Cells χ w b o us) (q n : Nat) : Cells χ w b (o + q) (seg us q n) := by
  intro j v hv
  rw [seg_getElem?] at hv
  split at hv
  · have := h _ _ hv
    rw [← Nat.add_assoc] at this
    exact this
  · cases hv
theorem poff_append {p : Path} : ∀ {τ : Ty} {x : Nat ⊕ Int}, PathOk τ p → τ.poff (p ++ [x]) = τ.poff p + (τ.pty p).poff [x] := by
  induction p with
  | nil => intro τ x _; simp [Ty.poff, Ty.pty]
  | cons y p ih =>
    intro τ x h
    rcases y with k | i
    · cases τ <;> simp only [PathOk] at h
      simp only [List.cons_append, Ty.pty, Ty.poff]; rw [ih h.2]; omega
    · cases τ <;> simp only [PathOk] at h
      simp only [List.cons_append, Ty.pty, Ty.poff]; rw [ih h.2.2]; omega
theorem PathOk_append {p : Path} : ∀ {τ : Ty} {x : Nat ⊕ Int}, PathOk τ p → PathOk (τ.pty p) [x] → PathOk τ (p ++ [x]) := by
  induction p with
  | nil => intro τ x _ h; exact h
  | cons y p ih =>
    intro τ x h hx
    rcases y with k | i
    · cases τ <;> simp only [PathOk] at h
      simp only [List.cons_append, PathOk]; exact ⟨h.1, ih h.2 hx⟩
    · cases τ <;> simp only [PathOk] at h
      simp only [List.cons_append, PathOk]; exact ⟨h.1, h.2.1, ih h.2.2 hx⟩
theorem run_fieldAt {f : Ty} {T b o k : Nat} (hT : tyOk P (.st f) (.inl T) = true) (hk : k < f.flen) (hs : 0 < (f.fty k).size) (w : World) :
    (Instr.fieldAt T (.pointer (some ⟨b, o, none⟩)) k).run P w = .ok (.pointer (some ⟨b, o + f.foff k, none⟩)) w := by
  obtain ⟨fs, h1, h2⟩ := tyOk_st hT
  obtain ⟨fd, h3, h4, h5, _⟩ := tyOk_field h2 hk
  rw [Array.getElem?_toList] at h3
  have h6 := run_sizeOf_ty h5 w
  simp only [Instr.fieldAt, Sem.run_bind, run_underlying h1 w, Result.andThen_ok, h3, Instr.sureAddr, Sem.run_pure, fieldPlace, h6]
  rw [if_neg (by omega)]
  simp [Addr.add_mid, h4]
theorem fieldAddrA_sound (hty : tysOk P c.tys = true) {T k : Nat} {x A : AVal} {v : Value} {p : List Prop} (hx : ARep G w tm none x v) (h : fieldAddrA c T x k = some (p, A)) :
    ∃ u, (Instr.fieldAt T v k).run P w = .ok u w ∧ ARep G w tm none A u := by
  cases x with
  | val τ x =>
    cases τ with
    | ptr t =>
      cases t with
      | st f =>
        simp only [fieldAddrA] at h
        cases hi : (c.is T (.st f) && Nat.blt k f.flen && Nat.blt 0 (f.fty k).size) with
        | false => simp [hi] at h
        | true =>
          simp only [hi, cond_true, Option.some.injEq, Prod.mk.injEq] at h
          obtain ⟨rfl, rfl⟩ := h
          simp only [Bool.and_eq_true] at hi
          have hT := is_tyOk hty hi.1.1
          have hk : k < f.flen := Nat.le_of_ble_eq_true hi.1.2
          have hs : 0 < (f.fty k).size := Nat.le_of_ble_eq_true hi.2
          simp only [ARep] at hx
          rw [VRep_one rfl] at hx
          simp only [CRep] at hx
          obtain ⟨b, o, us, hv, h1, h2⟩ := hx
          injection hv with hv _
          subst hv
          refine ⟨_, run_fieldAt hT hk hs w, ?_⟩
          exact ptr_ARep (CRep_fget hk h1) (Cells_seg h2 _ _)
      | _ => simp [fieldAddrA] at h
    | _ => simp [fieldAddrA] at h
  | ref s τ q =>
    simp only [fieldAddrA] at h
    split at h
    · rename_i f hf
      cases hi : (c.is T (.st f) && Nat.blt k f.flen && Nat.blt 0 (f.fty k).size) with
      | false => simp [hi] at h
      | true =>
        simp only [hi, cond_true, Option.some.injEq, Prod.mk.injEq] at h
        obtain ⟨rfl, rfl⟩ := h
        simp only [Bool.and_eq_true] at hi
        have hT := is_tyOk hty hi.1.1
        have hk : k < f.flen := Nat.le_of_ble_eq_true hi.1.2
        have hs : 0 < (f.fty k).size := Nat.le_of_ble_eq_true hi.2
        simp only [ARep] at hx
        obtain ⟨hq, rfl⟩ := hx
        refine ⟨_, run_fieldAt hT hk hs w, ?_⟩
        simp only [ARep]
        refine ⟨PathOk_append hq (by rw [hf]; simp only [PathOk]; exact ⟨hk, trivial⟩), ?_⟩
        rw [poff_append hq, hf]
        simp [Ty.poff]
    · cases h
  | eref s U t i q =>
    simp only [fieldAddrA] at h
    split at h
    · rename_i f hf
      cases hi : (c.is T (.st f) && Nat.blt k f.flen && Nat.blt 0 (f.fty k).size) with
      | false => simp [hi] at h
      | true =>
        simp only [hi, cond_true, Option.some.injEq, Prod.mk.injEq] at h
        obtain ⟨rfl, rfl⟩ := h
        simp only [Bool.and_eq_true] at hi
        have hT := is_tyOk hty hi.1.1
        have hk : k < f.flen := Nat.le_of_ble_eq_true hi.1.2
        have hs : 0 < (f.fty k).size := Nat.le_of_ble_eq_true hi.2
        simp only [ARep] at hx
        obtain ⟨h0, hq, rfl⟩ := hx
        refine ⟨_, run_fieldAt hT hk hs w, ?_⟩
        simp only [ARep]
        refine ⟨h0, PathOk_append hq (by rw [hf]; simp only [PathOk]; exact ⟨hk, trivial⟩), ?_⟩
        rw [poff_append hq, hf]
        simp [Ty.poff, Nat.add_assoc]
    · cases h
  | _ => simp [fieldAddrA] at h
theorem bounds_in {ix : Operand} {i n : Int} (h : ∀ q ∈ bounds ix i n, q) : 0 ≤ i ∧ i < n := by
  unfold bounds at h
  split at h <;> exact h _ (List.mem_singleton.2 rfl)
theorem run_indexAt_sl {t : Ty} {T : Nat} {k : IntKind} {i : Int} {a : Option Addr} {b o len cap : Nat} (hT : tyOk P (.sl t) (.inl T) = true) (ha : a = some ⟨b, o, none⟩) (hi : 0 ≤ i ∧ i < (len : Int)) (w : World) :
    (Instr.indexAt T (.slice a len cap) (.int k i)).run P w = .ok (.pointer (some ⟨b, o + i.toNat * t.size, none⟩)) w := by
  obtain ⟨e, h1, h2⟩ := tyOk_sl hT
  have h3 := run_sizeOf_ty h2 w
  subst ha
  simp only [Instr.indexAt, asIntOf, Sem.run_bind, Sem.run_pure, Result.andThen_ok, run_underlying h1 w]
  simp [hi, h3, Addr.add_mid]
theorem run_indexAt_arr {t : Ty} {T n : Nat} {k : IntKind} {i : Int} {b o : Nat} (hT : tyOk P (.arr n t) (.inl T) = true) (hi : 0 ≤ i ∧ i < (n : Int)) (w : World) :
    (Instr.indexAt T (.pointer (some ⟨b, o, none⟩)) (.int k i)).run P w = .ok (.pointer (some ⟨b, o + i.toNat * t.size, none⟩)) w := by
  obtain ⟨e, h1, h2⟩ := tyOk_arr hT
  have h3 := run_sizeOf_ty h2 w
  simp only [Instr.indexAt, asIntOf, Sem.run_bind, Sem.run_pure, Result.andThen_ok, run_underlying h1 w, Instr.sureAddr]
  simp [hi, h3, Addr.add_mid]
theorem indexAddrA_sound (hty : tysOk P c.tys = true) {T s : Nat} {x y A : AVal} {v u : Value} {ix : Operand} {p : List Prop} (hx : ARep G w tm none x v) (hy : ARep G w tm none y u)
    (h : indexAddrA c T x s y ix = some (p, A)) (hp : ∀ q ∈ p, q) : ∃ r, (Instr.indexAt T v u).run P w = .ok r w ∧ ARep G w tm none A r := by
  have hy' : ∀ k (i : Int), y = .val (.int k) i → u = .int k i := by rintro k i rfl; simp only [ARep] at hy; exact VRep_int.1 hy
  unfold indexAddrA at h
  split at h
  · rename_i t l k i
    have := hy' _ _ rfl; subst this
    cases hi : c.is T (.sl t) with
    | false => simp [hi] at h
    | true =>
      simp only [hi, cond_true, Option.some.injEq, Prod.mk.injEq] at h
      obtain ⟨rfl, rfl⟩ := h
      have hb := bounds_in hp
      have hT := is_tyOk hty hi
      simp only [ARep] at hx
      rw [VRep_one rfl] at hx
      simp only [CRep] at hx
      obtain ⟨a, cap, hv, hx⟩ := hx
      injection hv with hv _
      subst hv
      rcases hx with rfl | ⟨b, o, us, ha, h1, h2, h3⟩
      · simp at hb; omega
      · refine ⟨_, run_indexAt_sl hT ha hb w, ?_⟩
        exact ptr_ARep (CRep_get h2 (by omega)) (Cells_seg h3 _ _)
  · rename_i t l U m k i
    have := hy' _ _ rfl; subst this
    cases hi : c.is T (.sl t) with
    | false => simp [hi] at h
    | true =>
      simp only [hi, cond_true] at h
      have hT := is_tyOk hty hi
      cases m with
      | true =>
        simp only [cond_true, Option.some.injEq, Prod.mk.injEq] at h
        obtain ⟨rfl, rfl⟩ := h
        have hb := bounds_in hp
        simp only [ARep] at hx
        rcases (ORep_slice hx (tyOk_slL hT)).2 with ⟨_, rfl⟩ | ⟨cap, cur, e, us, rfl, h2, h3, h4, h5, h6, h7, h8⟩
        · simp at hb; omega
        · refine ⟨_, run_indexAt_sl hT rfl hb w, ?_⟩
          simp only [ARep]
          exact ⟨hb.1, trivial, by simp [Ty.poff]⟩
      | false =>
        simp only [cond_false, Option.some.injEq, Prod.mk.injEq] at h
        obtain ⟨rfl, rfl⟩ := h
        have hb := bounds_in hp
        simp only [ARep] at hx
        have hx2 := ORep_CRep hx
        simp only [CRep] at hx2
        obtain ⟨a, cap, hv, hx3⟩ := hx2
        injection hv with hv _
        subst hv
        rcases hx3 with he | ⟨b, o, us, ha, h1, h2, h3⟩
        · rw [he] at hb; simp at hb; omega
        · refine ⟨_, run_indexAt_sl hT ha hb w, ?_⟩
          exact ptr_ARep (CRep_get h2 (by omega)) (Cells_seg h3 _ _)
  · rename_i t l U j V m k i
    have := hy' _ _ rfl; subst this
    cases hi : (c.is T (.sl (.sl t)) && (m || !(Nat.beq U V))) with
    | false => simp only [hi, cond_false, reduceCtorEq] at h
    | true =>
      simp only [hi, cond_true, Option.some.injEq, Prod.mk.injEq] at h
      obtain ⟨rfl, rfl⟩ := h
      simp only [Bool.and_eq_true] at hi
      obtain ⟨hi, hUV⟩ := hi
      have hT := is_tyOk hty hi
      have hb := bounds_in hp
      simp only [ARep] at hx
      obtain ⟨_, ⟨he, ⟨rfl, _⟩ | ⟨_, ⟨_, rfl⟩ | ⟨cap, cur, e, rfl, _⟩⟩⟩ | ⟨_, ⟨_, rfl⟩ | ⟨cap, cur, e, rfl, _⟩⟩⟩ := hx
      · subst he; simp at hUV
      · simp at hb; omega
      · refine ⟨_, run_indexAt_sl hT rfl hb w, ?_⟩
        simp only [ARep]
        exact ⟨hb.1, trivial, by simp [Ty.poff]⟩
      · simp at hb; omega
      · refine ⟨_, run_indexAt_sl hT rfl hb w, ?_⟩
        simp only [ARep]
        exact ⟨hb.1, trivial, by simp [Ty.poff]⟩
  · rename_i n t l k i
    have := hy' _ _ rfl; subst this
    cases hi : c.is T (.arr n t) with
    | false => simp [hi] at h
    | true =>
      simp only [hi, cond_true, Option.some.injEq, Prod.mk.injEq] at h
      obtain ⟨rfl, rfl⟩ := h
      have hb := bounds_in hp
      have hT := is_tyOk hty hi
      simp only [ARep] at hx
      rw [VRep_one rfl] at hx
      simp only [CRep] at hx
      obtain ⟨b, o, us, hv, ⟨h1, h2⟩, h3⟩ := hx
      injection hv with hv _
      subst hv
      refine ⟨_, run_indexAt_arr hT hb w, ?_⟩
      exact ptr_ARep (CRep_get h2 (by omega)) (Cells_seg h3 _ _)
  · rename_i s' τ q k i
    have := hy' _ _ rfl; subst this
    split at h
    · rename_i n t hf
      cases hi : c.is T (.arr n t) with
      | false => simp [hi] at h
      | true =>
        simp only [hi, cond_true, Option.some.injEq, Prod.mk.injEq] at h
        obtain ⟨rfl, rfl⟩ := h
        have hb := bounds_in hp
        have hT := is_tyOk hty hi
        simp only [ARep] at hx
        obtain ⟨hq, rfl⟩ := hx
        refine ⟨_, run_indexAt_arr hT hb w, ?_⟩
        simp only [ARep]
        refine ⟨PathOk_append hq (by rw [hf]; simp only [PathOk]; exact ⟨hb.1, hb.2, trivial⟩), ?_⟩
        rw [poff_append hq, hf]
        simp [Ty.poff]
    · cases h
  · rename_i s' U t' j q k i
    have := hy' _ _ rfl; subst this
    split at h
    · rename_i n t hf
      cases hi : c.is T (.arr n t) with
      | false => simp [hi] at h
      | true =>
        simp only [hi, cond_true, Option.some.injEq, Prod.mk.injEq] at h
        obtain ⟨rfl, rfl⟩ := h
        have hb := bounds_in hp
        have hT := is_tyOk hty hi
        simp only [ARep] at hx
        obtain ⟨h0, hq, rfl⟩ := hx
        refine ⟨_, run_indexAt_arr hT hb w, ?_⟩
        simp only [ARep]
        refine ⟨h0, PathOk_append hq (by rw [hf]; simp only [PathOk]; exact ⟨hb.1, hb.2, trivial⟩), ?_⟩
        rw [poff_append hq, hf]
        simp [Ty.poff, Nat.add_assoc]
    · cases h
  · cases h
theorem run_part {τ : Ty} {T o : Nat} {us : List Value} (hT : tyOk P τ (.inl T) = true) (ho : o + τ.size ≤ us.length) (w : World) :
    ∃ u, (part T us.toArray o).run P w = .ok u w ∧ asSlot τ (seg us o τ.size) u := by
  obtain ⟨⟨i, z, hi, hs, _⟩, d, hu, hd⟩ := tyOk_is hT
  unfold part asSlot
  rw [Sem.run_bind, run_isAgg hu w, hd]
  cases ha : τ.isAgg with
  | true =>
    refine ⟨.agg (seg us o τ.size).toArray, ?_, by simp⟩
    simp [run_sizeOf_ty hT w, seg]
  | false =>
    have h1 := size_one hT ha
    rw [h1] at ho ⊢
    have hlt : o < us.length := by omega
    refine ⟨us[o], ?_, ?_⟩
    · simp [List.getElem?_eq_getElem hlt]
    · simp only [cond_false]
      apply List.ext_getElem?
      intro j
      rw [seg_getElem?]
      cases j with
      | zero => simp [List.getElem?_eq_getElem hlt]
      | succ j => simp
theorem indexA_sound (hty : tysOk P c.tys = true) {T : Nat} {x y A : AVal} {v u : Value} {ix : Operand} {p : List Prop} (hx : ARep G w tm none x v) (hy : ARep G w tm none y u)
    (h : indexA c T x y ix = some (p, A)) (hp : ∀ q ∈ p, q) : ∃ r, (Instr.index T v u).run P w = .ok r w ∧ ARep G w tm none A r := by
  have hy' : ∀ k (i : Int), y = .val (.int k) i → u = .int k i := by rintro k i rfl; simp only [ARep] at hy; exact VRep_int.1 hy
  unfold indexA at h
  split at h
  · rename_i s k i
    have := hy' _ _ rfl; subst this
    cases hi : c.is T .str with
    | false => simp [hi] at h
    | true =>
      simp only [hi, cond_true, Option.some.injEq, Prod.mk.injEq] at h
      obtain ⟨rfl, rfl⟩ := h
      have hb := bounds_in hp
      have hT := tyOk_str (is_tyOk hty hi)
      simp only [ARep] at hx
      have hv := VRep_str.1 hx
      subst hv
      have hlt : i.toNat < List.length (α := UInt8) s := by omega
      have hg := bytes_get s i.toNat hlt
      refine ⟨.int .u8 ((List.getD (α := UInt8) s i.toNat 0).toNat : Int), ?_, ?_⟩
      · simp only [Instr.index, asIntOf, Sem.run_bind, Sem.run_pure, Result.andThen_ok, run_underlying hT w, hb.1, if_true, hg]
      · simp only [ARep]; exact VRep_int.2 rfl
  · rename_i n t l k i
    have := hy' _ _ rfl; subst this
    cases hi : c.is T (.arr n t) with
    | false => simp [hi] at h
    | true =>
      simp only [hi, cond_true, Option.some.injEq, Prod.mk.injEq] at h
      obtain ⟨rfl, rfl⟩ := h
      have hb := bounds_in hp
      have hT := is_tyOk hty hi
      obtain ⟨e, h1, h2⟩ := tyOk_arr hT
      simp only [ARep] at hx
      obtain ⟨vs, rfl, hx2⟩ := (VRep_agg rfl).1 hx
      simp only [CRep] at hx2
      have hlen := LRep_length (k := t.size) (fun _ _ h => CRep_length h) hx2.2
      have hlt : i.toNat < List.length (α := t.den) l := by omega
      have hle : i.toNat * t.size + t.size ≤ vs.length := by rw [hlen, ← Nat.succ_mul]; exact Nat.mul_le_mul_right _ (by omega)
      obtain ⟨r, h3, h4⟩ := run_part h2 hle w
      refine ⟨r, ?_, ?_⟩
      · simp only [Instr.index, asIntOf, Sem.run_bind, Sem.run_pure, Result.andThen_ok, run_underlying h1 w]
        rw [if_pos hb]
        simpa only [Sem.run_bind, Result.andThen_ok, run_sizeOf_ty h2 w] using h3
      · simp only [ARep]
        exact ⟨_, CRep_get hx2.2 hlt, h4⟩
  · cases h
theorem fieldA_sound (hty : tysOk P c.tys = true) {T k : Nat} {x A : AVal} {v : Value} {p : List Prop} (hx : ARep G w tm none x v) (h : fieldA c T x k = some (p, A)) :
    ∃ u, (Instr.field T v k).run P w = .ok u w ∧ ARep G w tm none A u := by
  unfold fieldA at h
  split at h
  · rename_i f x
    cases hi : (c.is T (.st f) && Nat.blt k f.flen) with
    | false => simp [hi] at h
    | true =>
      simp only [hi, cond_true, Option.some.injEq, Prod.mk.injEq] at h
      obtain ⟨rfl, rfl⟩ := h
      simp only [Bool.and_eq_true] at hi
      have hT := is_tyOk hty hi.1
      have hk : k < f.flen := Nat.le_of_ble_eq_true hi.2
      obtain ⟨fs, h1, h2⟩ := tyOk_st hT
      obtain ⟨fd, h3, h4, h5, _⟩ := tyOk_field h2 hk
      rw [Array.getElem?_toList] at h3
      simp only [ARep] at hx
      obtain ⟨vs, rfl, hx2⟩ := (VRep_agg rfl).1 hx
      simp only [CRep] at hx2
      have hle := foff_le hk
      have hvl := CRep_length hx2
      obtain ⟨u, h6, h7⟩ := run_part h5 (o := f.foff k) (us := vs) (by omega) w
      refine ⟨u, ?_, ?_⟩
      · simp only [Instr.field, Sem.run_bind, run_underlying h1 w, Result.andThen_ok, h3, asAgg, Sem.run_pure, h4, Nat.zero_add]; exact h6
      · simp only [ARep]; exact ⟨_, CRep_fget hk hx2, h7⟩
  · rename_i f a
    cases hi : (c.is T (.st f) && Nat.blt k f.flen) with
    | false => simp [hi] at h
    | true =>
      simp only [hi, cond_true, Option.some.injEq, Prod.mk.injEq] at h
      obtain ⟨rfl, rfl⟩ := h
      simp only [Bool.and_eq_true] at hi
      have hT := is_tyOk hty hi.1
      have hk : k < f.flen := Nat.le_of_ble_eq_true hi.2
      obtain ⟨fs, h1, h2⟩ := tyOk_st hT
      obtain ⟨fd, h3, h4, h5, _⟩ := tyOk_field h2 hk
      rw [Array.getElem?_toList] at h3
      simp only [ARep] at hx
      obtain ⟨vs, rfl, hx⟩ := hx
      have hle := foff_le hk
      have hvl := TRep_length hx
      obtain ⟨u, h6, h7⟩ := run_part h5 (o := f.foff k) (us := vs) (by omega) w
      refine ⟨u, ?_, TRep_slot (TRep_nth hk hx) (tyOk_notL h5) h7⟩
      simp only [Instr.field, Sem.run_bind, run_underlying h1 w, Result.andThen_ok, h3, asAgg, Sem.run_pure, h4, Nat.zero_add]; exact h6
  · cases h
end Go.Am
namespace Go.Am
open Go Go.RowKit
variable {P : Program} {c : Ctx} {G : Gh} {w : World} {tm : Array Value}
theorem seg_drop_cells {xs us ws : List Value} {o n : Nat} (h : seg xs o n = us ++ ws) (hn : us.length + ws.length = n) : seg xs o us.length = us ∧ seg xs (o + us.length) ws.length = ws := by
  have hl : o + n ≤ xs.length ∨ n = 0 := by
    by_cases hz : n = 0
    · exact .inr hz
    · left
      have := congrArg List.length h
      simp [seg] at this
      omega
  constructor
  · have := seg_seg xs o n 0 us.length (by omega)
    rw [h, seg_left] at this
    simpa using this.symm
  · have := seg_seg xs o n us.length ws.length (by omega)
    rw [h] at this
    have h2 := seg_right us ws 0 ws.length
    simp only [Nat.add_zero] at h2
    rw [h2, seg_all] at this
    exact this.symm
theorem run_equalIn_ty : ∀ {τ : Ty},
    (∀ {T d : Nat} {x y : Value} {a b : τ.den}, tyOk P τ (.inl T) = true → τ.cmp = true → τ.ht ≤ d → VRep G.χ w τ a x → VRep G.χ w τ b y → (Op.equalIn (d + 1) T x y).run P w = .ok (τ.eqb a b) w) ∧
    (∀ {fs : List Field} {o d : Nat} {xs ys : List Value} {a b : τ.den}, tyOk P τ (.inr (fs, o)) = true → τ.cmp = true → τ.ht ≤ d → o + τ.size ≤ xs.length → o + τ.size ≤ ys.length →
      CRep G.χ w τ a (seg xs o τ.size) → CRep G.χ w τ b (seg ys o τ.size) → (Op.eqFields (d + 1) xs.toArray ys.toArray fs).run P w = .ok (τ.eqb a b) w) := by
  intro τ
  induction τ with
  | int k =>
    refine ⟨?_, fun h => by simp [tyOk] at h⟩
    intro T d x y a b hT _ _ hx hy
    rw [VRep_int.1 hx, VRep_int.1 hy]
    exact run_equalIn_int w d T k k a b (tyOk_int hT)
  | bool =>
    refine ⟨?_, fun h => by simp [tyOk] at h⟩
    intro T d x y a b hT _ _ hx hy
    rw [VRep_bool.1 hx, VRep_bool.1 hy]
    exact run_equalIn_bool w d T a b (tyOk_bool hT)
  | str =>
    refine ⟨?_, fun h => by simp [tyOk] at h⟩
    intro T d x y a b hT _ _ hx hy
    rw [VRep_str.1 hx, VRep_str.1 hy, run_equalIn_string w d T _ _ (tyOk_str hT)]
    simp only [ByteArray.toList_eq, Ty.eqb]
  | nl =>
    refine ⟨fun h => by simp [tyOk] at h, ?_⟩
    intro fs o d xs ys a b hT _ _ _ _ _ _
    cases fs with
    | nil => simp [Op.eqFields, Ty.eqb]
    | cons f fs => simp [tyOk] at hT
  | cons h t ihh iht =>
    refine ⟨fun h => by simp [tyOk] at h, ?_⟩
    intro fs o d xs ys a b hT hc hd hlx hly hx hy
    cases fs with
    | nil => simp [tyOk] at hT
    | cons fd r =>
      simp only [tyOk, Bool.and_eq_true] at hT
      obtain ⟨⟨⟨h1, h2⟩, h3⟩, h4⟩ := hT
      have h1 := Nat.eq_of_beq_eq_true h1
      simp only [Ty.cmp, Bool.and_eq_true] at hc
      simp only [Ty.ht] at hd
      simp only [Ty.size] at hlx hly hx hy
      simp only [CRep] at hx hy
      obtain ⟨us, ws, e1, hu, hw⟩ := hx
      obtain ⟨us', ws', e2, hu', hw'⟩ := hy
      have l1 := CRep_length hu
      have l2 := CRep_length hw
      have l3 := CRep_length hu'
      have l4 := CRep_length hw'
      obtain ⟨s1, s2⟩ := seg_drop_cells e1 (by omega)
      obtain ⟨s3, s4⟩ := seg_drop_cells e2 (by omega)
      obtain ⟨p1, q1, q2⟩ := run_part h3 (o := o) (us := xs) (by omega) w
      obtain ⟨p2, q3, q4⟩ := run_part h3 (o := o) (us := ys) (by omega) w
      have hn : fd.name ≠ "_" := by simpa using h2
      obtain ⟨ihh1, _⟩ := ihh
      obtain ⟨_, iht2⟩ := iht
      have he := ihh1 (d := d) (x := p1) (y := p2) (a := a.1) (b := b.1) h3 hc.1 (by omega) ⟨us, hu, by rw [← s1, l1]; exact q2⟩ ⟨us', hu', by rw [← s3, l3]; exact q4⟩
      have hr := iht2 (fs := r) (o := o + h.size) (d := d) (xs := xs) (ys := ys) (a := a.2) (b := b.2) h4 hc.2 (by omega) (by omega) (by omega) (by rw [← l2, ← l1, s2]; exact hw) (by rw [← l4, ← l3, s4]; exact hw')
      simp only [Op.eqFields, hn, ne_eq, not_false_eq_true, if_true, h1, Sem.run_bind, q1, q3, Result.andThen_ok, he, Ty.eqb]
      cases hb : h.eqb a.1 b.1 with
      | true => simpa using hr
      | false => simp
  | st f ih =>
    refine ⟨?_, fun h => by simp [tyOk] at h⟩
    intro T d x y a b hT hc hd hx hy
    obtain ⟨fs, h1, h2⟩ := tyOk_st hT
    obtain ⟨xs, rfl, hx'⟩ := (VRep_agg rfl).1 hx
    obtain ⟨ys, rfl, hy'⟩ := (VRep_agg rfl).1 hy
    clear hx hy
    have hx := hx'
    have hy := hy'
    clear hx' hy'
    simp only [CRep] at hx hy
    have l1 := CRep_length hx
    have l2 := CRep_length hy
    simp only [Ty.ht] at hd
    have hfo : P.fieldsOf T = fs := by simp [Program.fieldsOf, h1]
    have hu : P.underlying T = some (.struct (P.fieldsOf T)) := by rw [hfo]; exact h1
    rw [run_equalIn_struct w d T _ _ hu (tyOk_stood hT), hfo]
    obtain ⟨d', rfl⟩ : ∃ d', d = d' + 1 := ⟨d - 1, by omega⟩
    obtain ⟨_, ih2⟩ := ih
    exact ih2 (d := d') h2 hc (by omega) (by omega) (by omega) (by rw [← l1, seg_all]; exact hx) (by rw [← l2, seg_all]; exact hy)
  | arr n t ih =>
    refine ⟨?_, fun h => by simp [tyOk] at h⟩
    intro T d x y a b hT hc hd hx hy
    obtain ⟨e, h1, h2⟩ := tyOk_arr hT
    obtain ⟨xs, rfl, hx'⟩ := (VRep_agg rfl).1 hx
    obtain ⟨ys, rfl, hy'⟩ := (VRep_agg rfl).1 hy
    clear hx hy
    have hx := hx'
    have hy := hy'
    clear hx' hy'
    simp only [CRep] at hx hy
    simp only [Ty.ht] at hd
    simp only [Ty.cmp] at hc
    obtain ⟨⟨i, z, hi, hs, _⟩, _⟩ := tyOk_is h2
    rw [run_equalIn_array w d _ _ h1 hi]
    obtain ⟨d', rfl⟩ : ∃ d', d = d' + 1 := ⟨d - 1, by omega⟩
    have hce : P.cellsOf e = t.size := by simp [Program.cellsOf, hi, hs]
    rw [hce]
    have l1 := LRep_length (k := t.size) (fun _ _ h => CRep_length h) hx.2
    have l2 := LRep_length (k := t.size) (fun _ _ h => CRep_length h) hy.2
    obtain ⟨ih1, _⟩ := ih
    have key : ∀ is : List Nat, (∀ j ∈ is, j < n) → (Op.eqItems (d' + 1) e t.size xs.toArray ys.toArray is).run P w = .ok (is.all fun i => t.eqb (List.getD (α := t.den) a i t.dflt) (List.getD (α := t.den) b i t.dflt)) w := by
      intro is
      induction is with
      | nil => intro _; simp [Op.eqItems]
      | cons j is ihl =>
        intro hj
        have hjn : j < n := hj j (by simp)
        have hle : j * t.size + t.size ≤ n * t.size := by rw [← Nat.succ_mul]; exact Nat.mul_le_mul_right _ (by omega)
        obtain ⟨p1, q1, q2⟩ := run_part h2 (o := j * t.size) (us := xs) (by rw [l1, hx.1]; exact hle) w
        obtain ⟨p2, q3, q4⟩ := run_part h2 (o := j * t.size) (us := ys) (by rw [l2, hy.1]; exact hle) w
        have he := ih1 (d := d') (x := p1) (y := p2) (a := List.getD (α := t.den) a j t.dflt) (b := List.getD (α := t.den) b j t.dflt) h2 hc (by omega)
          ⟨_, CRep_get hx.2 (by rw [hx.1]; exact hjn), q2⟩ ⟨_, CRep_get hy.2 (by rw [hy.1]; exact hjn), q4⟩
        have hr := ihl (fun k hk => hj k (by simp [hk]))
        simp only [Op.eqItems, Sem.run_bind, q1, q3, Result.andThen_ok, he]
        rw [List.all_cons]
        cases hb : t.eqb (List.getD (α := t.den) a j t.dflt) (List.getD (α := t.den) b j t.dflt) with
        | true => simpa using hr
        | false => simp
    exact key (List.range n) (fun j hj => by simpa using hj)
  | sl t _ => exact ⟨fun _ h => by simp [Ty.cmp] at h, fun h => by simp [tyOk] at h⟩
  | ptr t _ => exact ⟨fun _ h => by simp [Ty.cmp] at h, fun h => by simp [tyOk] at h⟩
end Go.Am
namespace Go.Am
open Go Go.RowKit
variable {P : Program} {c : Ctx} {G : Gh} {w : World} {tm : Array Value}
theorem arith_sound {wr : Bool} {k : IntKind} {r : Int} (h : ∀ q ∈ (arith wr k r).1, q) : ARep G w tm none (arith wr k r).2 (.int k (k.wrap r)) := by
  unfold arith at h ⊢
  cases hc : (!wr && isI64 k) with
  | true =>
    simp only [hc, cond_true] at h ⊢
    simp only [Bool.and_eq_true] at hc
    have hk : k = .i64 := by cases k <;> simp [isI64] at hc ⊢
    have hr := h _ (List.mem_singleton.2 rfl)
    subst hk
    simp only [ARep]
    rw [IntWalk.i64_in r hr]
    exact VRep_int.2 rfl
  | false =>
    simp only [cond_false]
    simp only [ARep]
    exact VRep_int.2 rfl
theorem litInt_eval {a : Act} {y : Operand} {n : Int} {k : IntKind} {b : Int} (h : litInt y = some n) (hy : a.eval y = .int k b) : n = b := by
  unfold litInt at h
  split at h
  · simp only [Act.eval, Value.int.injEq] at hy
    injection h with h
    rw [← h]; exact hy.2
  · cases h
theorem nonzero_sound {a : Act} {y : Operand} {k : IntKind} {b : Int} (hy : a.eval y = .int k b) (h : ∀ q ∈ nonzero y b, q) : b ≠ 0 := by
  unfold nonzero at h
  split at h
  · rename_i n hn
    have := litInt_eval hn hy; subst this
    intro he
    subst he
    exact h False (by simp)
  · exact h _ (List.mem_singleton.2 rfl)
theorem nonneg_sound {a : Act} {y : Operand} {k : IntKind} {b : Int} (hy : a.eval y = .int k b) (h : ∀ q ∈ nonneg y b, q) : 0 ≤ b := by
  unfold nonneg at h
  split at h
  · rename_i n hn
    have := litInt_eval hn hy; subst this
    by_cases he : 0 ≤ n
    · exact he
    · exact (h False (by simp [he])).elim
  · exact h _ (List.mem_singleton.2 rfl)
theorem run_eqGuard_int {op : BinOp} {T : Nat} {x y : Operand} {k k' : IntKind} {a b : Int} (w : World) : (eqGuard op T x y (.int k a) (.int k' b)).run P w = .ok () w := by
  cases op <;> simp [eqGuard]
theorem run_eqGuard_str {op : BinOp} {T : Nat} {x y : Operand} {a b : ByteArray} (w : World) : (eqGuard op T x y (.string a) (.string b)).run P w = .ok () w := by
  cases op <;> simp [eqGuard]
theorem run_eqGuard_bool {op : BinOp} {T : Nat} {x y : Operand} {a b : Bool} (w : World) : (eqGuard op T x y (.bool a) (.bool b)).run P w = .ok () w := by
  cases op <;> simp [eqGuard]
theorem int_ARep {s : Option Nat} {k : IntKind} {n : Int} : ARep G w tm s (.val (.int k) n) (.int k n) := by simp only [ARep]; exact VRep_int.2 rfl
theorem bool_ARep {s : Option Nat} {b : Bool} : ARep G w tm s (.val .bool b) (.bool b) := by simp only [ARep]; exact VRep_bool.2 rfl
theorem str_ARep {s : Option Nat} {b : List UInt8} : ARep G w tm s (.val .str b) (.string ⟨b.toArray⟩) := by simp only [ARep]; exact VRep_str.2 rfl
theorem pair_eq {α β : Type} {x : α × β} {p : α} {A : β} (h : x = (p, A)) : x.1 = p ∧ x.2 = A := by rw [h]; exact ⟨rfl, rfl⟩
theorem intBin_sound {ac : Act} {wr : Bool} {op : BinOp} {k : IntKind} {a b : Int} {oy : Operand} {p : List Prop} {A : AVal} {T : Nat} (hoy : ac.eval oy = .int k b) (hs : isShift op = false)
    (h : intBin wr op k a b oy = some (p, A)) (hp : ∀ q ∈ p, q) : ∃ r, (binOp op T (.int k a) (.int k b)).run P w = .ok r w ∧ ARep G w tm none A r := by
  cases op <;> simp only [intBin, Option.some.injEq] at h
  case add => obtain ⟨rfl, rfl⟩ := pair_eq h; exact ⟨_, by simp [binOp, Op.intArith], arith_sound hp⟩
  case sub => obtain ⟨rfl, rfl⟩ := pair_eq h; exact ⟨_, by simp [binOp, Op.intArith], arith_sound hp⟩
  case mul => obtain ⟨rfl, rfl⟩ := pair_eq h; exact ⟨_, by simp [binOp, Op.intArith], arith_sound hp⟩
  case quo =>
    simp only [Prod.mk.injEq] at h; obtain ⟨rfl, rfl⟩ := h
    have hb := nonzero_sound hoy (fun q hq => hp q (List.mem_append_left _ hq))
    exact ⟨_, by simp [binOp, Op.intDiv, hb], arith_sound (fun q hq => hp q (List.mem_append_right _ hq))⟩
  case rem =>
    simp only [Prod.mk.injEq] at h; obtain ⟨rfl, rfl⟩ := h
    have hb := nonzero_sound hoy hp
    exact ⟨_, by simp [binOp, Op.intDiv, hb], int_ARep⟩
  case and => simp only [Prod.mk.injEq] at h; obtain ⟨rfl, rfl⟩ := h; exact ⟨_, by simp only [binOp]; rw [if_neg (by simp)]; rfl, int_ARep⟩
  case or => simp only [Prod.mk.injEq] at h; obtain ⟨rfl, rfl⟩ := h; exact ⟨_, by simp only [binOp]; rw [if_neg (by simp)]; rfl, int_ARep⟩
  case xor => simp only [Prod.mk.injEq] at h; obtain ⟨rfl, rfl⟩ := h; exact ⟨_, by simp only [binOp]; rw [if_neg (by simp)]; rfl, int_ARep⟩
  case andNot => simp only [Prod.mk.injEq] at h; obtain ⟨rfl, rfl⟩ := h; exact ⟨_, by simp only [binOp]; rw [if_neg (by simp)]; rfl, int_ARep⟩
  case eql => simp only [Prod.mk.injEq] at h; obtain ⟨rfl, rfl⟩ := h; exact ⟨_, by simp [binOp, Op.intCmp], bool_ARep⟩
  case neq => simp only [Prod.mk.injEq] at h; obtain ⟨rfl, rfl⟩ := h; exact ⟨_, by simp [binOp, Op.intCmp], bool_ARep⟩
  case lss => simp only [Prod.mk.injEq] at h; obtain ⟨rfl, rfl⟩ := h; exact ⟨_, by simp [binOp, Op.intCmp], bool_ARep⟩
  case leq => simp only [Prod.mk.injEq] at h; obtain ⟨rfl, rfl⟩ := h; exact ⟨_, by simp [binOp, Op.intCmp], bool_ARep⟩
  case gtr => simp only [Prod.mk.injEq] at h; obtain ⟨rfl, rfl⟩ := h; exact ⟨_, by simp [binOp, Op.intCmp], bool_ARep⟩
  case geq => simp only [Prod.mk.injEq] at h; obtain ⟨rfl, rfl⟩ := h; exact ⟨_, by simp [binOp, Op.intCmp], bool_ARep⟩
  all_goals cases h
theorem shiftBin_sound {ac : Act} {wr : Bool} {op : BinOp} {k k' : IntKind} {a b : Int} {oy : Operand} {p : List Prop} {A : AVal} {T : Nat} (hoy : ac.eval oy = .int k' b)
    (h : shiftBin wr op k a b oy = some (p, A)) (hp : ∀ q ∈ p, q) : ∃ r, (binOp op T (.int k a) (.int k' b)).run P w = .ok r w ∧ ARep G w tm none A r := by
  cases op <;> simp only [shiftBin, Option.some.injEq, Prod.mk.injEq] at h
  case shl =>
    obtain ⟨rfl, rfl⟩ := h
    have hb := nonneg_sound hoy (fun q hq => hp q (List.mem_append_left _ hq))
    exact ⟨_, by simp [binOp, Op.shift, Int.not_lt.2 hb], arith_sound (fun q hq => hp q (List.mem_append_right _ hq))⟩
  case shr =>
    obtain ⟨rfl, rfl⟩ := h
    have hb := nonneg_sound hoy hp
    exact ⟨_, by simp [binOp, Op.shift, Int.not_lt.2 hb], int_ARep⟩
  all_goals cases h
theorem strBin_sound {op : BinOp} {a b : List UInt8} {p : List Prop} {A : AVal} {T : Nat}
    (h : strBin op a b = some (p, A)) (hp : ∀ q ∈ p, q) : ∃ r, (binOp op T (.string ⟨a.toArray⟩) (.string ⟨b.toArray⟩)).run P w = .ok r w ∧ ARep G w tm none A r := by
  cases op <;> simp only [strBin, Option.some.injEq, Prod.mk.injEq] at h
  case add =>
    obtain ⟨rfl, rfl⟩ := h
    have hb := hp _ (List.mem_singleton.2 rfl)
    refine ⟨.string ⟨(a ++ b).toArray⟩, ?_, str_ARep⟩
    have e : (⟨a.toArray⟩ ++ ⟨b.toArray⟩ : ByteArray) = ⟨(a ++ b).toArray⟩ := by
      apply ByteArray.ext
      simp [ByteArray.data_append]
    have hsz : ((⟨a.toArray⟩ : ByteArray).size + (⟨b.toArray⟩ : ByteArray).size : Nat) = a.length + b.length := by simp [ByteArray.size]
    simp only [binOp, Op.stringOp, hsz]
    rw [if_neg (by simp [IntKind.max, IntKind.bits, IntKind.signed]; omega), e]
    simp
  case eql => obtain ⟨rfl, rfl⟩ := h; exact ⟨_, by simp only [binOp, Op.stringOp, ByteArray.toList_eq]; rfl, bool_ARep⟩
  case neq => obtain ⟨rfl, rfl⟩ := h; exact ⟨_, by simp only [binOp, Op.stringOp, ByteArray.toList_eq]; rfl, bool_ARep⟩
  case lss => obtain ⟨rfl, rfl⟩ := h; exact ⟨_, by simp only [binOp, Op.stringOp, ByteArray.toList_eq]; rfl, bool_ARep⟩
  case leq => obtain ⟨rfl, rfl⟩ := h; exact ⟨_, by simp only [binOp, Op.stringOp, ByteArray.toList_eq]; rfl, bool_ARep⟩
  case gtr => obtain ⟨rfl, rfl⟩ := h; exact ⟨_, by simp only [binOp, Op.stringOp, ByteArray.toList_eq]; rfl, bool_ARep⟩
  case geq => obtain ⟨rfl, rfl⟩ := h; exact ⟨_, by simp only [binOp, Op.stringOp, ByteArray.toList_eq]; rfl, bool_ARep⟩
  all_goals cases h
theorem eqs_shape {χ : Nat → Nat → Nat} {τ : Ty} {a b : τ.den} {x y : Value} (h : τ.eqs = true) (hx : VRep χ w τ a x) (hy : VRep χ w τ b y) : (∃ p q, x = .bool p ∧ y = .bool q) ∨ (∃ p q, x = .agg p ∧ y = .agg q) := by
  cases τ with
  | bool => exact .inl ⟨_, _, VRep_bool.1 hx, VRep_bool.1 hy⟩
  | st f => obtain ⟨xs, rfl, _⟩ := (VRep_agg rfl).1 hx; obtain ⟨ys, rfl, _⟩ := (VRep_agg rfl).1 hy; exact .inr ⟨_, _, rfl, rfl⟩
  | arr n t => obtain ⟨xs, rfl, _⟩ := (VRep_agg rfl).1 hx; obtain ⟨ys, rfl, _⟩ := (VRep_agg rfl).1 hy; exact .inr ⟨_, _, rfl, rfl⟩
  | _ => simp [Ty.eqs] at h
theorem eqBin_sound (hty : tysOk P c.tys = true) {op : BinOp} {T : Nat} {x y A : AVal} {v u : Value} {ox oy : Operand} {p : List Prop} (hx : ARep G w tm none x v) (hy : ARep G w tm none y u)
    (h : eqBin op (c.ty T) x y = some (p, A)) : ∃ r, (do eqGuard op T ox oy v u; binOp op T v u : Sem Value).run P w = .ok r w ∧ ARep G w tm none A r := by
  unfold eqBin at h
  split at h
  · rename_i a b hc ha hb
    simp only [Bool.and_eq_true] at hc
    have hT := tyOk_of hty T (by intro e; rw [e] at hc; simp [Ty.eqs] at hc)
    have hl := tyOk_notL hT
    have hvx := as_VRep ha hl hx
    have hvy := as_VRep hb hl hy
    have he : (Op.equal T v u).run P w = .ok ((c.ty T).eqb a b) w := (run_equalIn_ty (G := G) (P := P) (w := w)).1 (d := 9999) hT hc.1 (by have := tyOk_ht hT; omega) hvx hvy
    have hshape := eqs_shape hc.2 hvx hvy
    have hg : (eqGuard op T ox oy v u).run P w = .ok () w := by
      rcases hshape with ⟨p, q, rfl, rfl⟩ | ⟨p, q, rfl, rfl⟩
      · exact run_eqGuard_bool w
      · exact run_eqGuard_agg w op T ox oy _ _ (tyOk_guard hT)
    have hb2 : ∀ o : BinOp, o = .eql ∨ o = .neq → (binOp o T v u).run P w = .ok (.bool (if o = .eql then (c.ty T).eqb a b else !((c.ty T).eqb a b))) w := by
      intro o ho
      rcases hshape with ⟨p, q, rfl, rfl⟩ | ⟨p, q, rfl, rfl⟩ <;> rcases ho with rfl | rfl <;> simp [binOp, he]
    split at h
    · simp only [Option.some.injEq, Prod.mk.injEq] at h
      obtain ⟨rfl, rfl⟩ := h
      exact ⟨_, by rw [Sem.run_bind, hg, Result.andThen_ok, hb2 .eql (.inl rfl)]; rfl, bool_ARep⟩
    · simp only [Option.some.injEq, Prod.mk.injEq] at h
      obtain ⟨rfl, rfl⟩ := h
      exact ⟨_, by rw [Sem.run_bind, hg, Result.andThen_ok, hb2 .neq (.inr rfl)]; rfl, bool_ARep⟩
    · cases h
  · cases h
theorem eqNil_sound (hty : tysOk P c.tys = true) {op : BinOp} {T : Nat} {x A : AVal} {v u : Value} {ox oy : Operand} {p : List Prop} (hx : ARep G w tm none x v) (hu : u = .slice none 0 0)
    (h : eqNil c op T x = some (p, A)) (hp : ∀ q ∈ p, q) : ∃ r, (do eqGuard op T ox oy v u; binOp op T v u : Sem Value).run P w = .ok r w ∧ ARep G w tm none A r := by
  subst hu
  unfold eqNil at h
  split at h
  · rename_i t0 hT
    have hT' := tyOk_of hty T (by rw [hT]; simp)
    rw [hT] at hT'
    obtain ⟨e, hu, _⟩ := tyOk_sl hT'
    have key : ∀ (a : Option Addr) n cap (b : Bool) q, b = a.isNone → nilRes op q b = some (p, A) → v = .slice a n cap → ∃ r, (do eqGuard op T ox oy v (.slice none 0 0); binOp op T v (.slice none 0 0) : Sem Value).run P w = .ok r w ∧ ARep G w tm none A r := by
      intro a n cap b q hb hr hv
      subst hv
      have hg : (eqGuard op T ox oy (.slice a n cap) (.slice none 0 0)).run P w = .ok () w := by cases op <;> simp [eqGuard]
      have he : (Op.equal T (.slice a n cap) (.slice none 0 0)).run P w = .ok b w := by
        subst hb
        have hd : ∀ d : Nat, (Op.equalIn (d + 1) T (.slice a n cap) (.slice none 0 0)).run P w = .ok a.isNone w := by
          intro d
          cases a <;> simp [Op.equalIn, run_underlying hu w]
        exact hd 9999
      unfold nilRes at hr
      split at hr
      · simp only [Option.some.injEq, Prod.mk.injEq] at hr
        obtain ⟨rfl, rfl⟩ := hr
        exact ⟨_, by rw [Sem.run_bind, hg, Result.andThen_ok]; simp [binOp, he], bool_ARep⟩
      · simp only [Option.some.injEq, Prod.mk.injEq] at hr
        obtain ⟨rfl, rfl⟩ := hr
        exact ⟨_, by rw [Sem.run_bind, hg, Result.andThen_ok]; simp [binOp, he], bool_ARep⟩
      · cases hr
    have hq : ∀ q b, nilRes op [q] b = some (p, A) → q := by
      intro q b hr
      unfold nilRes at hr
      split at hr
      · simp only [Option.some.injEq, Prod.mk.injEq] at hr; obtain ⟨rfl, _⟩ := hr; exact hp _ (List.mem_singleton.2 rfl)
      · simp only [Option.some.injEq, Prod.mk.injEq] at hr; obtain ⟨rfl, _⟩ := hr; exact hp _ (List.mem_singleton.2 rfl)
      · cases hr
    split at h
    · simp only [ARep] at hx; exact key none 0 0 true _ rfl h hx
    · simp only [ARep] at hx; obtain ⟨a, cap, rfl, hb⟩ := hx; exact key a 0 cap _ _ hb.symm h rfl
    · rename_i t l
      have hpos := hq _ _ h
      simp only [ARep] at hx
      rw [VRep_one rfl] at hx
      simp only [CRep] at hx
      obtain ⟨a, cap, hv, hx⟩ := hx
      injection hv with hv _
      rcases hx with hx | ⟨b, o, us, ha, _⟩
      · rw [hx] at hpos; simp at hpos
      · exact key a _ cap false _ (by rw [ha]; rfl) h hv
    · rename_i t l T' m
      cases htl : t.isL with
      | true => simp only [htl, cond_true] at h; cases h
      | false =>
      simp only [htl, cond_false] at h
      have hpos := hq _ _ h
      simp only [ARep] at hx
      rcases (ORep_slice hx htl).2 with ⟨_, hl⟩ | ⟨cap, cur, e, us, h1, _⟩
      · rw [hl] at hpos; simp at hpos
      · exact key _ _ cap false _ rfl h h1
    · cases h
  · cases h
theorem binA_sound (hty : tysOk P c.tys = true) {ac : Act} {op : BinOp} {T : Nat} {x y A : AVal} {v : Value} {ox oy : Operand} {p : List Prop} (hx : ARep G w tm none x v) (hy : ARep G w tm none y (ac.eval oy))
    (h : binA c op T x y oy = some (p, A)) (hp : ∀ q ∈ p, q) : ∃ r, (do eqGuard op T ox oy v (ac.eval oy); binOp op T v (ac.eval oy) : Sem Value).run P w = .ok r w ∧ ARep G w tm none A r := by
  unfold binA at h
  split at h
  · rename_i k a k' b
    simp only [ARep] at hx hy
    have hv := VRep_int.1 hx
    have hu := VRep_int.1 hy
    subst hv
    cases hs : isShift op with
    | true =>
      simp only [hs, cond_true] at h
      obtain ⟨r, h1, h2⟩ := shiftBin_sound (P := P) (w := w) (G := G) (tm := tm) (T := T) hu h hp
      exact ⟨r, by rw [hu, Sem.run_bind, run_eqGuard_int, Result.andThen_ok, h1], h2⟩
    | false =>
      simp only [hs, cond_false] at h
      cases hk : Nat.beq (kindNo k) (kindNo k') with
      | false => simp [hk] at h
      | true =>
        simp only [hk, cond_true] at h
        have := kindNo_inj (Nat.eq_of_beq_eq_true hk)
        subst this
        obtain ⟨r, h1, h2⟩ := intBin_sound (P := P) (w := w) (G := G) (tm := tm) (T := T) hu hs h hp
        exact ⟨r, by rw [hu, Sem.run_bind, run_eqGuard_int, Result.andThen_ok, h1], h2⟩
  · rename_i a b
    simp only [ARep] at hx hy
    have hv := VRep_str.1 hx
    have hu := VRep_str.1 hy
    subst hv
    obtain ⟨r, h1, h2⟩ := strBin_sound (P := P) (w := w) (G := G) (tm := tm) (T := T) h hp
    exact ⟨r, by rw [hu, Sem.run_bind, run_eqGuard_str, Result.andThen_ok, h1], h2⟩
  · simp only [ARep] at hy; exact eqNil_sound hty hx hy h hp
  · exact eqBin_sound hty hx hy h
theorem unA_sound {op : UnOp} {x A : AVal} {v : Value} {p : List Prop} (hx : ARep G w tm none x v) (h : unA c op x = some (p, A)) (hp : ∀ q ∈ p, q) :
    ∃ r, (Op.unary op v).run P w = .ok r w ∧ ARep G w tm none A r := by
  unfold unA at h
  split at h
  · simp only [Option.some.injEq, Prod.mk.injEq] at h
    obtain ⟨rfl, rfl⟩ := h
    simp only [ARep] at hx
    rw [VRep_bool.1 hx]
    exact ⟨_, by simp [Op.unary], bool_ARep⟩
  · simp only [Option.some.injEq] at h
    simp only [ARep] at hx
    rw [VRep_int.1 hx]
    have h1 := congrArg Prod.fst h
    have h2 := congrArg Prod.snd h
    simp only at h1 h2
    subst h1; subst h2
    exact ⟨_, rfl, arith_sound hp⟩
  · simp only [Option.some.injEq, Prod.mk.injEq] at h
    obtain ⟨rfl, rfl⟩ := h
    simp only [ARep] at hx
    rw [VRep_int.1 hx]
    exact ⟨_, rfl, int_ARep⟩
  · cases h
theorem convA_sound (hty : tysOk P c.tys = true) {src dst : Nat} {x A : AVal} {v : Value} {p : List Prop} (hx : ARep G w tm none x v) (h : convA c src dst x = some (p, A)) :
    ∃ r, (convert src dst v).run P w = .ok r w ∧ ARep G w tm none A r := by
  unfold convA at h
  split at h
  · rename_i k0 k k1 n e1 e2
    simp only [Option.some.injEq, Prod.mk.injEq] at h
    obtain ⟨rfl, rfl⟩ := h
    have h1 := tyOk_of hty src (by rw [e1]; simp)
    have h2 := tyOk_of hty dst (by rw [e2]; simp)
    rw [e1] at h1
    rw [e2] at h2
    simp only [ARep] at hx
    rw [VRep_int.1 hx]
    exact ⟨_, by simp [convert, run_underlying (tyOk_int h1), run_underlying (tyOk_int h2), Conv.intToInt], int_ARep⟩
  · rename_i s e1 e2
    simp only [Option.some.injEq, Prod.mk.injEq] at h
    obtain ⟨rfl, rfl⟩ := h
    have h1 := tyOk_of hty src (by rw [e1]; simp)
    have h2 := tyOk_of hty dst (by rw [e2]; simp)
    rw [e1] at h1
    rw [e2] at h2
    simp only [ARep] at hx
    rw [VRep_str.1 hx]
    exact ⟨_, by simp [convert, run_underlying (tyOk_str h1), run_underlying (tyOk_str h2)], str_ARep⟩
  · cases h
theorem lenA_sound (hty : tysOk P c.tys = true) {ats : Array TypeId} {ty : TypeId} {x A : AVal} {v : Value} {p : List Prop} (hx : ARep G w tm none x v) (h : lenA c ats.toList x = some (p, A)) :
    ∃ r, (Builtin.len_ ats ty #[v]).run P w = .ok r w ∧ ARep G w tm none A r := by
  unfold lenA at h
  split at h
  · rename_i T r e
    have ha : ats[0]? = some T := by rw [← Array.getElem?_toList, e]; rfl
    split at h
    · rename_i s
      cases hi : c.is T .str with
      | false => simp [hi] at h
      | true =>
        simp only [hi, cond_true, Option.some.injEq, Prod.mk.injEq] at h
        obtain ⟨rfl, rfl⟩ := h
        simp only [ARep] at hx
        rw [VRep_str.1 hx]
        exact ⟨.int .i64 (List.length (α := UInt8) s : Int), by simp [Builtin.len_, ha, run_underlying (tyOk_str (is_tyOk hty hi)), goInt]; rfl, int_ARep⟩
    · rename_i t l
      cases hi : c.is T (.sl t) with
      | false => simp [hi] at h
      | true =>
        simp only [hi, cond_true, Option.some.injEq, Prod.mk.injEq] at h
        obtain ⟨rfl, rfl⟩ := h
        obtain ⟨e', h1, h2⟩ := tyOk_sl (is_tyOk hty hi)
        simp only [ARep] at hx
        have hx2 := (VRep_one rfl).1 hx
        simp only [CRep] at hx2
        obtain ⟨a, cap, hv, _⟩ := hx2
        injection hv with hv _
        rw [hv]
        exact ⟨_, by simp [Builtin.len_, ha, run_underlying h1, goInt], int_ARep⟩
    · rename_i t l U m
      cases hi : c.is T (.sl t) with
      | false => simp [hi] at h
      | true =>
        simp only [hi, cond_true, Option.some.injEq, Prod.mk.injEq] at h
        obtain ⟨rfl, rfl⟩ := h
        obtain ⟨e', h1, h2⟩ := tyOk_sl (is_tyOk hty hi)
        simp only [ARep] at hx
        rcases (ORep_slice hx (tyOk_slL (is_tyOk hty hi))).2 with ⟨hv, hl⟩ | ⟨cap, cur, e, us, hv, _⟩
        · rw [hv, hl]; exact ⟨_, by simp [Builtin.len_, ha, run_underlying h1, goInt], int_ARep⟩
        · rw [hv]; exact ⟨_, by simp [Builtin.len_, ha, run_underlying h1, goInt], int_ARep⟩
    · rename_i t l U j V m
      cases hi : (c.is T (.sl (.sl t)) && !(Nat.beq U V)) with
      | false => simp [hi] at h
      | true =>
        simp only [hi, cond_true, Option.some.injEq, Prod.mk.injEq] at h
        obtain ⟨rfl, rfl⟩ := h
        simp only [Bool.and_eq_true] at hi
        obtain ⟨hi, hUV⟩ := hi
        obtain ⟨e', h1, h2⟩ := tyOk_sl (is_tyOk hty hi)
        simp only [ARep] at hx
        obtain ⟨_, ⟨he, _⟩ | ⟨_, ⟨hv, hl⟩ | ⟨cap, cur, e, hv, _⟩⟩⟩ := hx
        · subst he; simp at hUV
        · rw [hv, hl]; exact ⟨_, by simp [Builtin.len_, ha, run_underlying h1, goInt], int_ARep⟩
        · rw [hv]; exact ⟨_, by simp [Builtin.len_, ha, run_underlying h1, goInt], int_ARep⟩
    · cases hi : (c.is T (c.ty T) && (c.ty T).isSl) with
      | false => simp [hi] at h
      | true =>
        simp only [hi, cond_true, Option.some.injEq, Prod.mk.injEq] at h
        obtain ⟨rfl, rfl⟩ := h
        simp only [Bool.and_eq_true] at hi
        have hT := is_tyOk hty hi.1
        obtain ⟨t, ht⟩ : ∃ t, c.ty T = .sl t := by revert hi; cases c.ty T <;> simp [Ty.isSl]
        rw [ht] at hT
        obtain ⟨e', h1, h2⟩ := tyOk_sl hT
        simp only [ARep] at hx
        rw [hx]
        exact ⟨_, by simp [Builtin.len_, ha, run_underlying h1, goInt], int_ARep⟩
    · cases h
  · cases h
end Go.Am
namespace Go.Am
open Go Go.RowKit
variable {P : Program} {c : Ctx} {G : Gh} {w : World} {tm : Array Value}
theorem run_sliceBound {k : IntKind} {i : Int} {y : Nat} {code : BoundsCode} (h : 0 ≤ i ∧ i ≤ (y : Int)) (w : World) : (Instr.sliceBound (.int k i) y code).run P w = .ok i.toNat w := by
  simp [Instr.sliceBound, asIntOf, h]
theorem run_sliceBounds {b : Bool} {n m : Nat} {lo hi : Option AVal} {vlo vhi : Option Value} {a h : Option Int} (hn : n ≤ m)
    (h1 : optInt lo = some a) (h2 : optInt hi = some h)
    (hlo : ∀ A, lo = some A → ∃ v, vlo = some v ∧ ARep G w tm none A v) (hlo' : lo = none → vlo = none)
    (hhi : ∀ A, hi = some A → ∃ v, vhi = some v ∧ ARep G w tm none A v) (hhi' : hi = none → vhi = none)
    {α : Type} {l : List α} (hl : l.length = n) (hp : ∀ q ∈ (cutL l a h).1, q) :
    ∃ x y, x ≤ y ∧ y ≤ n ∧ (Instr.sliceBounds b n m vlo vhi none).run P w = .ok (x, y, m) w ∧ (cutL l a h).2 = (l.take y).drop x := by
  have opt : ∀ (lo : Option AVal) (a : Option Int) (vlo : Option Value), optInt lo = some a → (∀ A, lo = some A → ∃ v, vlo = some v ∧ ARep G w tm none A v) → (lo = none → vlo = none) →
      (a = none ∧ vlo = none) ∨ ∃ k i, a = some i ∧ vlo = some (.int k i) := by
    intro lo a vlo h1 hlo hlo'
    cases lo with
    | none => simp only [optInt, Option.some.injEq] at h1; exact .inl ⟨h1.symm, hlo' rfl⟩
    | some A =>
      obtain ⟨v, hv, hA⟩ := hlo A rfl
      cases A with
      | val τ x =>
        cases τ with
        | int k => simp only [optInt, Option.some.injEq] at h1; simp only [ARep] at hA; rw [VRep_int.1 hA] at hv; exact .inr ⟨k, x, h1.symm, hv⟩
        | _ => simp [optInt] at h1
      | _ => simp [optInt] at h1
  subst hl
  rcases opt lo a vlo h1 hlo hlo' with ⟨rfl, rfl⟩ | ⟨k, i, rfl, rfl⟩ <;> rcases opt hi h vhi h2 hhi hhi' with ⟨rfl, rfl⟩ | ⟨k', j, rfl, rfl⟩
  · exact ⟨0, l.length, by omega, by omega, by simp [Instr.sliceBounds], by simp [cutL]⟩
  · have hb := hp _ (List.mem_singleton.2 rfl)
    refine ⟨0, j.toNat, by omega, by omega, ?_, by simp [cutL]⟩
    have := run_sliceBound (P := P) (k := k') (i := j) (y := m) (code := if b then .sliceAcap else .sliceAlen) ⟨hb.1, by omega⟩ w
    simp [Instr.sliceBounds, this]
  · have hb := hp _ (List.mem_singleton.2 rfl)
    refine ⟨i.toNat, l.length, by omega, by omega, ?_, by simp [cutL]⟩
    have := run_sliceBound (P := P) (k := k) (i := i) (y := l.length) (code := .sliceB) hb w
    simp [Instr.sliceBounds, this]
  · have hb := hp _ (List.mem_singleton.2 rfl)
    refine ⟨i.toNat, j.toNat, by omega, by omega, ?_, by simp [cutL]⟩
    have h3 := run_sliceBound (P := P) (k := k') (i := j) (y := m) (code := if b then .sliceAcap else .sliceAlen) ⟨by omega, by omega⟩ w
    have h4 := run_sliceBound (P := P) (k := k) (i := i) (y := j.toNat) (code := .sliceB) ⟨hb.1, by omega⟩ w
    simp [Instr.sliceBounds, h3, h4]
theorem bytes_extract (s : List UInt8) (x y : Nat) : (⟨s.toArray⟩ : ByteArray).extract x y = ⟨((s.take y).drop x).toArray⟩ := by
  apply ByteArray.ext
  simp [ByteArray.data_extract, List.drop_take]
theorem run_slice_sl {t : Ty} {T x y cap : Nat} {a : Option Addr} {l : List t.den} {lo hi : Option Value} (hT : tyOk P (.sl t) (.inl T) = true) (hxy : x ≤ y) (hy : y ≤ l.length)
    (hr : CRep G.χ w (.sl t) l [.slice a l.length cap]) (hcap : l.length ≤ cap) (hb : (Instr.sliceBounds true l.length cap lo hi none).run P w = .ok (x, y, cap) w) :
    ∃ r, (Instr.sliceAt T (.slice a l.length cap) lo hi none).run P w = .ok r w ∧ CRep G.χ w (.sl t) ((l.take y).drop x) [r] := by
  obtain ⟨e, h1, h2⟩ := tyOk_sl hT
  refine ⟨.slice (if cap = x then a else a.map (·.add (x * t.size))) (y - x) (cap - x), ?_, ?_⟩
  · simp only [Instr.sliceAt, Sem.run_bind, run_underlying h1 w, Result.andThen_ok, Instr.slice, hb, run_sizeOf_ty h2 w, Sem.run_pure]
  · simp only [CRep] at hr ⊢
    obtain ⟨a', cap', hv, hr⟩ := hr
    simp only [List.cons.injEq, Value.slice.injEq, and_true, true_and] at hv
    obtain ⟨rfl, rfl⟩ := hv
    have hlen : List.length (α := t.den) ((l.take y).drop x) = y - x := by simp; omega
    refine ⟨_, cap - x, by rw [hlen], ?_⟩
    rcases hr with rfl | ⟨b, o, us, ha, h3, h4, h5⟩
    · exact .inl (by simp)
    · by_cases hz : y = x
      · left; subst hz; apply List.eq_nil_of_length_eq_zero; omega
      · right
        have hul := LRep_length (k := t.size) (fun _ _ h => CRep_length h) h4
        rw [if_neg (by omega)]
        subst ha
        refine ⟨b, o + x * t.size, ((us.take (y * t.size)).drop (x * t.size)), by simp [Addr.add_mid], by omega, ?_, ?_⟩
        · exact LRep_drop (k := t.size) (fun _ _ h => CRep_length h) x (LRep_take (k := t.size) (fun _ _ h => CRep_length h) y h4)
        · intro j v hv
          rw [List.getElem?_drop, List.getElem?_take] at hv
          split at hv
          · have := h5 _ _ hv
            rw [← Nat.add_assoc] at this
            exact this
          · cases hv
theorem CRep_sl_val {χ : Nat → Nat → Nat} {t : Ty} {l : List t.den} {v : Value} (h : CRep χ w (.sl t) l [v]) : ∃ a cap, v = .slice a l.length cap ∧ l.length ≤ cap := by
  simp only [CRep] at h
  obtain ⟨a, cap, hv, h⟩ := h
  injection hv with hv _
  refine ⟨a, cap, hv, ?_⟩
  rcases h with rfl | ⟨b, o, us, _, h3, _⟩
  · simp
  · exact h3
theorem sl_ARep {s : Option Nat} {t : Ty} {l : List t.den} {v : Value} (h : CRep G.χ w (.sl t) l [v]) : ARep G w tm s (.val (.sl t) l) v := by
  simp only [ARep]; exact (VRep_one rfl).2 h
theorem sliceA_sl {T : Nat} {t : Ty} {l : List t.den} {v : Value} {lo hi : Option AVal} {vlo vhi : Option Value} {a b : Option Int} (hT : tyOk P (.sl t) (.inl T) = true) (hx : CRep G.χ w (.sl t) l [v])
    (ea : optInt lo = some a) (eb : optInt hi = some b)
    (hlo : ∀ A, lo = some A → ∃ v, vlo = some v ∧ ARep G w tm none A v) (hlo' : lo = none → vlo = none)
    (hhi : ∀ A, hi = some A → ∃ v, vhi = some v ∧ ARep G w tm none A v) (hhi' : hi = none → vhi = none)
    (hp : ∀ q ∈ (cutL l a b).1, q) : ∃ r, (Instr.sliceAt T v vlo vhi none).run P w = .ok r w ∧ ARep G w tm none (.val (.sl t) (cutL l a b).2) r := by
  obtain ⟨ad, cap, rfl, hcap⟩ := CRep_sl_val hx
  obtain ⟨x, y, h1, h2, h3, h4⟩ := run_sliceBounds (P := P) (G := G) (w := w) (tm := tm) (b := true) (n := l.length) (m := cap) hcap ea eb hlo hlo' hhi hhi' (l := l) rfl hp
  obtain ⟨r, h5, h6⟩ := run_slice_sl hT h1 h2 hx hcap h3
  exact ⟨r, h5, by rw [h4]; exact sl_ARep h6⟩
theorem sliceA_own {T U : Nat} {t : Ty} {l : List t.den} {v : Value} {lo hi : Option AVal} {vlo vhi : Option Value} {a b : Option Int} (hT : tyOk P (.sl t) (.inl T) = true) (hx : ORep G w t l U true v)
    (ea : optInt lo = some a) (eb : optInt hi = some b)
    (hlo : ∀ A, lo = some A → ∃ v, vlo = some v ∧ ARep G w tm none A v) (hlo' : lo = none → vlo = none)
    (hhi : ∀ A, hi = some A → ∃ v, vhi = some v ∧ ARep G w tm none A v) (hhi' : hi = none → vhi = none)
    (hp : ∀ q ∈ (cutL l a b).1, q) : ∃ r, (Instr.sliceAt T v vlo vhi none).run P w = .ok r w ∧ ARep G w tm none (.ownh t [(cutL l a b).2] U 0 U false) r := by
  obtain ⟨hvt, hs⟩ := ORep_slice hx (tyOk_slL hT)
  obtain ⟨e, h1, h2⟩ := tyOk_sl hT
  simp only [ARep]
  rcases hs with ⟨rfl, rfl⟩ | ⟨cap, cur, e', us, rfl, g2, g3, g4, g5, g6, g7, g8⟩
  · obtain ⟨x, y, q1, q2, q3, q4⟩ := run_sliceBounds (P := P) (G := G) (w := w) (tm := tm) (b := true) (n := 0) (m := 0) (Nat.le_refl _) ea eb hlo hlo' hhi hhi' (l := ([] : List t.den)) rfl hp
    have hxy : x = 0 ∧ y = 0 := by omega
    obtain ⟨rfl, rfl⟩ := hxy
    have q4' : (cutL ([] : List t.den) a b).2 = ([] : List t.den) := by rw [q4]; simp
    rw [q4']
    have q3' : (Instr.sliceBounds true (List.length (α := t.den) []) 0 vlo vhi none).run P w = .ok (0, 0, 0) w := q3
    refine ⟨.slice none 0 0, ?_, hvt, .inl ⟨rfl, .inl ⟨rfl, [], none, 0, rfl, rfl, .inl rfl⟩⟩⟩
    simp only [Instr.sliceAt, Sem.run_bind, run_underlying h1 w, Result.andThen_ok, Instr.slice, q3, run_sizeOf_ty h2 w, Sem.run_pure]
    simp
  · obtain ⟨x, y, q1, q2, q3, q4⟩ := run_sliceBounds (P := P) (G := G) (w := w) (tm := tm) (b := true) (n := l.length) (m := cap) g3 ea eb hlo hlo' hhi hhi' (l := l) rfl hp
    have hlen : List.length (α := t.den) ((l.take y).drop x) = y - x := by simp; omega
    refine ⟨.slice (if cap = x then some ⟨G.γ U, 0, none⟩ else (some (⟨G.γ U, 0, none⟩ : Addr)).map (·.add (x * t.size))) (y - x) (cap - x), by simp only [Instr.sliceAt, Sem.run_bind, run_underlying h1 w, Result.andThen_ok, Instr.slice, q3, run_sizeOf_ty h2 w, Sem.run_pure], hvt, .inl ⟨rfl, .inl ⟨rfl, (l.take y).drop x, _, _, by rw [q4], by rw [hlen], ?_⟩⟩⟩
    by_cases hz : y = x
    · left; subst hz; apply List.eq_nil_of_length_eq_zero; omega
    · right
      rw [if_neg (by omega)]
      refine ⟨0 + x * t.size, (us.take (y * t.size)).drop (x * t.size), cur, e', by simp [Addr.add_mid], by omega, g2, ?_, ?_, fun o => by rw [g8, if_neg (by simp)]⟩
      · exact LRep_drop (k := t.size) (fun _ _ h => CRep_length h) x (LRep_take (k := t.size) (fun _ _ h => CRep_length h) y g6)
      · intro j u hu
        rw [List.getElem?_drop, List.getElem?_take] at hu
        split at hu
        · rw [← g7, List.getElem?_take] at hu
          split at hu
          · rw [Nat.zero_add]; exact hu
          · cases hu
        · cases hu
theorem sliceA_sound (hty : tysOk P c.tys = true) {T : Nat} {x A : AVal} {v : Value} {lo hi : Option AVal} {vlo vhi : Option Value} {p : List Prop} (hx : ARep G w tm none x v)
    (hlo : ∀ A, lo = some A → ∃ v, vlo = some v ∧ ARep G w tm none A v) (hlo' : lo = none → vlo = none)
    (hhi : ∀ A, hi = some A → ∃ v, vhi = some v ∧ ARep G w tm none A v) (hhi' : hi = none → vhi = none)
    (h : sliceA c T x lo hi = some (p, A)) (hp : ∀ q ∈ p, q) : ∃ r, (Instr.sliceAt T v vlo vhi none).run P w = .ok r w ∧ ARep G w tm none A r := by
  unfold sliceA at h
  split at h
  · rename_i a b ea eb
    split at h
    · rename_i s
      cases hi' : c.is T .str with
      | false => simp [hi'] at h
      | true =>
        simp only [hi', cond_true, Option.some.injEq, Prod.mk.injEq] at h
        obtain ⟨rfl, rfl⟩ := h
        have hT := tyOk_str (is_tyOk hty hi')
        simp only [ARep] at hx
        rw [VRep_str.1 hx]
        obtain ⟨x, y, h1, h2, h3, h4⟩ := run_sliceBounds (P := P) (G := G) (w := w) (tm := tm) (b := false) (m := List.length (α := UInt8) s) (Nat.le_refl _) ea eb hlo hlo' hhi hhi' (l := s) rfl hp
        refine ⟨.string ⟨(((List.take y s).drop x)).toArray⟩, ?_, ?_⟩
        · have hsz : (⟨List.toArray s⟩ : ByteArray).size = List.length (α := UInt8) s := by simp [ByteArray.size]
          simp only [Instr.sliceAt, Sem.run_bind, run_underlying hT w, Result.andThen_ok, Instr.slice, hsz, h3, Option.isSome_none, Bool.false_eq_true, if_false, Sem.run_pure, bytes_extract]
        · rw [h4]; exact str_ARep
    · rename_i t l
      cases hi' : c.is T (.sl t) with
      | false => simp [hi'] at h
      | true =>
        simp only [hi', cond_true, Option.some.injEq, Prod.mk.injEq] at h
        obtain ⟨rfl, rfl⟩ := h
        have hT := is_tyOk hty hi'
        simp only [ARep] at hx
        exact sliceA_sl hT ((VRep_one rfl).1 hx) ea eb hlo hlo' hhi hhi' hp
    · rename_i t l U m
      cases hi' : c.is T (.sl t) with
      | false => simp [hi'] at h
      | true =>
        simp only [hi', cond_true, Option.some.injEq, Prod.mk.injEq] at h
        obtain ⟨rfl, rfl⟩ := h
        have hT := is_tyOk hty hi'
        simp only [ARep] at hx
        cases m with
        | true => exact sliceA_own hT hx ea eb hlo hlo' hhi hhi' hp
        | false => exact sliceA_sl hT (ORep_CRep hx) ea eb hlo hlo' hhi hhi' hp
    · cases h
  · cases h
theorem tuple_nth : ∀ {a : AVal} {vs : List Value} {k : Nat}, ARep G w tm none a (.tuple vs.toArray) → k < a.clen → ∃ u, vs[k]? = some u ∧ ARep G w tm none (a.nth k) u := by
  intro a
  induction a with
  | cons h t _ iht =>
    intro vs k hr hk
    simp only [ARep] at hr
    obtain ⟨x, xs, e, h1, h2⟩ := hr
    simp only [Value.tuple.injEq] at e
    have e : vs = x :: xs := by simpa using e
    subst e
    cases k with
    | zero => exact ⟨x, rfl, h1⟩
    | succ k => simp only [AVal.clen] at hk; obtain ⟨u, h3, h4⟩ := iht (k := k) h2 (by omega); exact ⟨u, by simpa using h3, h4⟩
  | _ => intro vs k _ hk; simp [AVal.clen] at hk
theorem tuple_form {a : AVal} {v : Value} (h : ARep G w tm none a v) (hc : 0 < a.clen) : ∃ vs : List Value, v = .tuple vs.toArray := by
  cases a with
  | cons h t => simp only [ARep] at h; obtain ⟨x, xs, e, _⟩ := h; exact ⟨x :: xs, e⟩
  | _ => simp [AVal.clen] at hc
theorem extractA_sound {x A : AVal} {v : Value} {k : Nat} {p : List Prop} (hx : ARep G w tm none x v) (h : extractA x k = some (p, A)) :
    ∃ r, (Instr.extract v k).run P w = .ok r w ∧ ARep G w tm none A r := by
  unfold extractA at h
  split at h
  · rename_i a
    cases hk : Nat.blt k a.clen with
    | false => simp [hk] at h
    | true =>
      simp only [hk, cond_true, Option.some.injEq, Prod.mk.injEq] at h
      obtain ⟨rfl, rfl⟩ := h
      have hk : k < a.clen := Nat.le_of_ble_eq_true hk
      simp only [ARep] at hx
      obtain ⟨vs, rfl⟩ := tuple_form hx (by omega)
      obtain ⟨u, h1, h2⟩ := tuple_nth hx hk
      exact ⟨u, by simp [Instr.extract, h1], h2⟩
  · cases h
def All2 {α β : Type} (R : α → β → Prop) : List α → List β → Prop
  | [], [] => True
  | a :: r, b :: s => R a b ∧ All2 R r s
  | _, _ => False
theorem foldA_sound {f : Int → Int → Int} {g : Value → Value → Sem Value} (hg : ∀ k a b (w : World), (g (.int k a) (.int k b)).run P w = .ok (.int k (f a b)) w) :
    ∀ {r : List AVal} {vs : List Value} {A B : AVal} {v : Value}, isIntA A = true → ARep G w tm none A v → All2 (ARep G w tm none) r vs → foldA f A r = some B →
      ∃ u, (vs.foldlM g v).run P w = .ok u w ∧ ARep G w tm none B u := by
  intro r
  induction r with
  | nil => intro vs A B v hi ha hr h; cases vs with
    | cons _ _ => simp [All2] at hr
    | nil => simp only [foldA, Option.some.injEq] at h; subst h; exact ⟨v, by simp, ha⟩
  | cons x r ih =>
    intro vs A B v hi ha hr h
    cases vs with
    | nil => simp [All2] at hr
    | cons u us =>
      simp only [All2] at hr
      obtain ⟨hx, hr⟩ := hr
      cases A with
      | val τ a =>
        cases τ with
        | int k =>
          cases x with
          | val τ' b =>
            cases τ' with
            | int k' =>
              simp only [foldA] at h
              cases hk : Nat.beq (kindNo k) (kindNo k') with
              | false => simp [hk] at h
              | true =>
                simp only [hk, cond_true] at h
                have := kindNo_inj (Nat.eq_of_beq_eq_true hk); subst this
                simp only [ARep] at ha hx
                have e1 := VRep_int.1 ha; have e2 := VRep_int.1 hx
                subst e1; subst e2
                obtain ⟨z, h1, h2⟩ := ih (v := .int k (f a b)) rfl int_ARep hr h
                exact ⟨z, by simp [List.foldlM_cons, hg, h1], h2⟩
            | _ => simp [foldA] at h
          | _ => simp [foldA] at h
        | _ => simp [isIntA] at hi
      | _ => simp [isIntA] at hi
theorem maxA_sound {f : Int → Int → Int} {g : Value → Value → Sem Value} (hg : ∀ k a b (w : World), (g (.int k a) (.int k b)).run P w = .ok (.int k (f a b)) w)
    {xs : List AVal} {vs : List Value} {A : AVal} {p : List Prop} (hx : All2 (ARep G w tm none) xs vs) (h : maxA f xs = some (p, A)) :
    ∃ v r, vs = v :: r ∧ ∃ u, (r.foldlM g v).run P w = .ok u w ∧ ARep G w tm none A u := by
  cases xs with
  | nil => simp [maxA] at h
  | cons x r =>
   cases vs with
   | nil => simp [All2] at hx
   | cons v us =>
    simp only [All2] at hx
    obtain ⟨hx, hr⟩ := hx
    simp only [maxA] at h
    cases hi : isIntA x with
    | false => simp [hi] at h
    | true =>
      simp only [hi, cond_true] at h
      cases hf : foldA f x r with
      | none => simp [hf] at h
      | some B =>
        simp only [hf, Option.some.injEq, Prod.mk.injEq] at h
        obtain ⟨rfl, rfl⟩ := h
        obtain ⟨u, h1, h2⟩ := foldA_sound hg hi hx hr hf
        exact ⟨v, us, rfl, u, h1, h2⟩
theorem max2_run (k : IntKind) (a b : Int) (w : World) : (Builtin.max2 (.int k a) (.int k b)).run P w = .ok (.int k (imax a b)) w := by simp [Builtin.max2, imax]
theorem min2_run (k : IntKind) (a b : Int) (w : World) : (Builtin.min2 (.int k a) (.int k b)).run P w = .ok (.int k (imin a b)) w := by simp [Builtin.min2, imin]
end Go.Am
namespace Go.Am
open Go Go.RowKit
variable {P : Program} {c : Ctx} {G : Gh} {w : World} {tm : Array Value}
theorem LRep_one {α : Type} {R : α → List Value → Prop} (h : ∀ x vs, R x vs → ∀ u ∈ vs, u.oneCell' = true) : ∀ {l us}, LRep R l us → ∀ u ∈ us, u.oneCell' = true := by
  intro l
  induction l with
  | nil => intro us hu; simp only [LRep] at hu; subst hu; simp
  | cons x l ih => rintro us ⟨vs, ws, rfl, hx, hl⟩ u hu; exact (List.mem_append.1 hu).elim (fun hu => h _ _ hx u hu) (fun hu => ih hl u hu)
theorem CRep_one {χ : Nat → Nat → Nat} : ∀ {τ : Ty} {x : τ.den} {vs : List Value}, CRep χ w τ x vs → ∀ u ∈ vs, u.oneCell' = true := by
  intro τ
  induction τ with
  | int k => intro x vs h u hu; simp only [CRep] at h; subst h; simp at hu; subst hu; rfl
  | bool => intro x vs h u hu; simp only [CRep] at h; subst h; simp at hu; subst hu; rfl
  | str => intro x vs h u hu; simp only [CRep] at h; subst h; simp at hu; subst hu; rfl
  | nl => intro x vs h u hu; simp only [CRep] at h; subst h; simp at hu
  | cons a b ha hb => intro x vs h u hu; simp only [CRep] at h; obtain ⟨us, ws, rfl, h1, h2⟩ := h; exact (List.mem_append.1 hu).elim (fun hu => ha h1 u hu) (fun hu => hb h2 u hu)
  | st f hf => intro x vs h u hu; simp only [CRep] at h; exact hf h u hu
  | arr n t ht => intro x vs h u hu; simp only [CRep] at h; exact LRep_one (fun _ _ h => ht h) h.2 u hu
  | sl t ht => intro x vs h u hu; simp only [CRep] at h; obtain ⟨a, cap, rfl, _⟩ := h; simp at hu; subst hu; rfl
  | ptr t ht => intro x vs h u hu; simp only [CRep] at h; obtain ⟨b, o, us, rfl, _⟩ := h; simp at hu; subst hu; rfl
theorem ORep_one {t : Ty} {l : List t.den} {T : Nat} {m : Bool} {v : Value} (h : ORep G w t l T m v) : v.oneCell' = true := by
  rcases h with h | ⟨_, k, e, l', _, _, es, clock, rfl, _⟩
  · rcases h.2 with ⟨rfl, _⟩ | ⟨cap, cur, e, us, rfl, _⟩ <;> rfl
  · rfl
theorem TRep_one : ∀ {A : AVal} {τ : Ty} {vs : List Value}, TRep G w τ A vs → ∀ u ∈ vs, u.oneCell' = true := by
  intro A
  induction A with
  | val τ' x => intro τ vs h; simp only [TRep] at h; exact CRep_one h.2.2
  | nil => intro τ vs h u hu; simp only [TRep] at h; rw [h.2] at hu; simp at hu; subst hu; rfl
  | own t l T m => intro τ vs h u hu; simp only [TRep] at h; obtain ⟨_, v, rfl, h⟩ := h; simp at hu; subst hu; exact ORep_one h
  | agg f a ih => intro τ vs h; simp only [TRep] at h; exact ih h.2
  | nl => intro τ vs h u hu; simp only [TRep] at h; rw [h.2] at hu; simp at hu
  | junk => intro τ vs h u hu; simp only [TRep] at h; obtain ⟨_, v, rfl, h1⟩ := h; simp at hu; subst hu; exact h1
  | cons a b iha ihb => intro τ vs h u hu; simp only [TRep] at h; obtain ⟨h1, t1, us, ws, _, rfl, h2, h3⟩ := h; exact (List.mem_append.1 hu).elim (fun hu => iha h2 u hu) (fun hu => ihb h3 u hu)
  | _ => intro τ vs h; simp only [TRep] at h
theorem slot_cells {τ : Ty} {us : List Value} {u : Value} (hs : asSlot τ us u) (h1 : ∀ u ∈ us, u.oneCell' = true) : u.cells.toList = us := by
  unfold asSlot at hs
  cases ha : τ.isAgg with
  | true => rw [ha, cond_true] at hs; subst hs; simp [Value.cells]
  | false =>
    rw [ha, cond_false] at hs; subst hs
    have := h1 u (by simp)
    cases u <;> simp_all [Value.cells, Value.oneCell']
theorem dflt_rep {χ : Nat → Nat → Nat} : ∀ {τ : Ty}, τ.noPtr = true → CRep χ w τ τ.dflt (zcells τ) := by
  intro τ
  induction τ with
  | int k => intro _; simp only [CRep, zcells, Ty.dflt]
  | bool => intro _; simp only [CRep, zcells, Ty.dflt]
  | str => intro _; simp only [CRep, zcells, Ty.dflt]
  | nl => intro _; simp only [CRep, zcells]
  | cons a b ha hb => intro h; simp only [Ty.noPtr, Bool.and_eq_true] at h; simp only [CRep, zcells, Ty.dflt]; exact ⟨_, _, rfl, ha h.1, hb h.2⟩
  | st f hf => intro h; simp only [Ty.noPtr] at h; simp only [CRep, zcells, Ty.dflt]; exact hf h
  | arr n t ht => intro h; simp only [Ty.noPtr] at h; simp only [CRep, zcells, Ty.dflt]; exact ⟨by simp, LRep_replicate (ht h) n⟩
  | sl t _ => intro _; simp only [CRep, zcells, Ty.dflt]; exact ⟨none, 0, rfl, .inl (by first | rfl | trivial)⟩
  | ptr t _ => intro h; simp [Ty.noPtr] at h
theorem zero_rep : ∀ {τ : Ty}, τ.noPtr = true → τ.plain = true → TRep G w τ (zeroA τ) (zcells τ) := by
  intro τ
  induction τ with
  | int k => intro _ _; simp only [TRep, zeroA, CRep, zcells]; simp [Ty.isL]
  | bool => intro _ _; simp only [TRep, zeroA, CRep, zcells]; simp [Ty.isL]
  | str => intro _ _; simp only [TRep, zeroA, CRep, zcells]; simp [Ty.isL]
  | nl => intro _ _; simp only [TRep, zeroA, zcells]; simp
  | cons a b ha hb =>
    intro h hp
    simp only [Ty.noPtr, Bool.and_eq_true] at h
    simp only [Ty.plain, Bool.and_eq_true, Bool.not_eq_true'] at hp
    simp only [zeroA, TRep, zcells]
    exact ⟨a, b, _, _, rfl, rfl, ha h.1 hp.1.1.2, hb h.2 hp.2⟩
  | st f hf =>
    intro h hp
    simp only [Ty.noPtr] at h
    simp only [Ty.plain, Bool.and_eq_true] at hp
    simp only [zeroA]
    cases hs : f.hasSl with
    | true => simp only [cond_true, TRep, zcells]; exact ⟨trivial, hf h hp.2⟩
    | false => simp only [cond_false, TRep]; exact ⟨trivial, rfl, dflt_rep (τ := .st f) h⟩
  | arr n t ht => intro h hp; simp only [zeroA, TRep]; exact ⟨trivial, rfl, dflt_rep h⟩
  | sl t _ => intro _ _; simp only [zeroA, TRep, zcells]; simp [Ty.isSl]
  | ptr t _ => intro h; simp [Ty.noPtr] at h
theorem zcells_length : ∀ {τ : Ty}, (zcells τ).length = τ.size := by
  intro τ
  induction τ with
  | cons a b ha hb => simp [zcells, Ty.size, ha, hb]
  | st f hf => simp [zcells, Ty.size, hf]
  | arr n t ht => simp [zcells, Ty.size, ht]
  | _ => rfl
theorem fill_part (cells : Array Value) (off : Nat) (ps : List Value) (h : off + ps.length ≤ cells.size) :
    ((ps.toArray.zipIdx.foldl (fun cs (x : Value × Nat) => cs.setIfInBounds (off + x.2) x.1) cells)).toList = spl cells.toList off ps := by
  have key : ∀ (ps : List Value) (k : Nat) (cells : Array Value), off + k + ps.length ≤ cells.size →
      ((ps.zipIdx k).foldl (fun cs (x : Value × Nat) => cs.setIfInBounds (off + x.2) x.1) cells).toList = spl cells.toList (off + k) ps := by
    intro ps
    induction ps with
    | nil => intro k cells _; simp [spl_nil]
    | cons p ps ih =>
      intro k cells hk
      simp only [List.length_cons] at hk
      simp only [List.zipIdx_cons, List.foldl_cons]
      rw [ih (k + 1) _ (by simp; omega)]
      apply List.ext_getElem?
      intro j
      rw [spl_getElem? _ _ _ _ (by simp; omega), spl_getElem? _ _ _ _ (by simp; omega)]
      simp only [List.length_cons, Array.toList_setIfInBounds, List.getElem?_set]
      by_cases h1 : off + k = j
      · subst h1
        rw [if_neg (by omega), if_pos rfl, if_pos (by simp; omega), if_pos ⟨by omega, by omega⟩]
        simp
      · by_cases h2 : off + (k + 1) ≤ j ∧ j < off + (k + 1) + ps.length
        · rw [if_pos h2, if_pos ⟨by omega, by omega⟩]
          rw [show j - (off + k) = (j - (off + (k + 1))) + 1 from by omega]
          simp
        · rw [if_neg h2, if_neg h1, if_neg (by omega)]
  have := key ps 0 cells (by omega)
  simp only [Nat.add_zero] at this
  rw [← this]
  congr 1
  simp
theorem fill_struct {f : Ty} {places : Nat → Option (Nat × Nat)} (hpl : ∀ k, k < f.flen → places k = some (f.foff k, (f.fty k).size)) :
    ∀ {parts : List (Nat × AVal)} {vs : List Value} {ks : List Nat} {z : AVal} {cells : Array Value}, f.plain = true → partsFit f parts = true → All2 (ARep G w tm none) (parts.map (·.2)) vs → ks = parts.map (·.1) →
      TRep G w f z cells.toList → ∃ cells', Instr.fill places cells (List.zip ks vs) = some cells' ∧ TRep G w f (layF parts z) cells'.toList := by
  intro parts
  induction parts with
  | nil => intro vs ks z cells _ _ hv hk hz; subst hk; exact ⟨cells, by simp [Instr.fill], by simpa [layF] using hz⟩
  | cons q r ih =>
    intro vs ks z cells hp hf hv hk hz
    obtain ⟨k, A⟩ := q
    cases vs with
    | nil => simp [All2] at hv
    | cons v vs =>
      simp only [List.map_cons, All2] at hv
      simp only [partsFit, List.all_cons, Bool.and_eq_true] at hf
      obtain ⟨⟨hk1, hA⟩, hr⟩ := hf
      have hk1 : k < f.flen := Nat.le_of_ble_eq_true hk1
      have hpf := plain_fty hp hk1
      obtain ⟨us, h1, h2⟩ := slot_TRep hv.1 hA hpf.1
      have hc := slot_cells h2 (TRep_one h1)
      have hle := foff_le hk1
      have hcl := TRep_length hz
      have hul := TRep_length h1
      have hvs : v.cells = us.toArray := by rw [← hc]
      subst hk
      simp only [List.map_cons, List.zip_cons_cons, Instr.fill, hpl k hk1]
      have hsz : v.cells.size = (f.fty k).size := by rw [hvs]; simpa using hul
      rw [if_neg (by simp only [hsz]; simp; rw [← Array.length_toList, hcl]; exact hle)]
      have hcell : (Array.foldl (fun cs (x : Value × Nat) => cs.setIfInBounds (f.foff k + x.2) x.1) cells v.cells.zipIdx).toList = spl cells.toList (f.foff k) us := by
        rw [hvs]; exact fill_part cells (f.foff k) us (by rw [← Array.length_toList, hcl]; omega)
      have hz' := TRep_setNth hk1 hz h1
      rw [← hcell] at hz'
      obtain ⟨cells', h3, h4⟩ := ih hp (by simpa [partsFit] using hr) hv.2 rfl hz'
      exact ⟨cells', h3, h4⟩
theorem fill_list {t : Ty} : ∀ {parts : List (Nat × AVal)} {vs : List Value} {ks : List Nat} {l l' : List t.den} {cells : Array Value}, t.isL = false → (∀ q ∈ parts, q.1 < l.length) → All2 (ARep G w tm none) (parts.map (·.2)) vs → ks = parts.map (·.1) →
      LRep (CRep G.χ w t) l cells.toList → layL t parts l = some l' → ∃ cells', Instr.fill (fun i => some (i * t.size, t.size)) cells (List.zip ks vs) = some cells' ∧ LRep (CRep G.χ w t) l' cells'.toList ∧ l'.length = l.length := by
  intro parts
  induction parts with
  | nil => intro vs ks l l' cells _ _ hv hk hz h; subst hk; simp only [layL, Option.some.injEq] at h; subst h; exact ⟨cells, by simp [Instr.fill], hz, rfl⟩
  | cons q r ih =>
    intro vs ks l l' cells hp hlt hv hk hz h
    obtain ⟨k, A⟩ := q
    cases vs with
    | nil => simp [All2] at hv
    | cons v vs =>
      simp only [List.map_cons, All2] at hv
      simp only [layL] at h
      split at h
      · rename_i x hx
        have hk1 : k < l.length := hlt (k, A) (by simp)
        obtain ⟨us, h1, h2⟩ := as_VRep hx hp hv.1
        have hc := slot_cells h2 (CRep_one h1)
        have hul := CRep_length h1
        have hcl := LRep_length (k := t.size) (fun _ _ h => CRep_length h) hz
        have hvs : v.cells = us.toArray := by rw [← hc]
        have hle : k * t.size + t.size ≤ l.length * t.size := by rw [← Nat.succ_mul]; exact Nat.mul_le_mul_right _ (by omega)
        subst hk
        simp only [List.map_cons, List.zip_cons_cons, Instr.fill]
        have hsz : v.cells.size = t.size := by rw [hvs]; simpa using hul
        rw [if_neg (by simp only [hsz]; simp; rw [← Array.length_toList, hcl]; exact hle)]
        have hcell : (Array.foldl (fun cs (x : Value × Nat) => cs.setIfInBounds (k * t.size + x.2) x.1) cells v.cells.zipIdx).toList = spl cells.toList (k * t.size) us := by
          rw [hvs]; exact fill_part cells (k * t.size) us (by rw [← Array.length_toList, hcl]; omega)
        have hz' := LRep_set (R := CRep G.χ w t) (k := t.size) (fun _ _ h => CRep_length h) h1 hz hk1
        rw [← hcell] at hz'
        obtain ⟨cells', h3, h4, h5⟩ := ih hp (fun q hq => by simp; exact hlt q (by simp [hq])) hv.2 rfl hz' h
        exact ⟨cells', h3, h4, by rw [h5]; simp⟩
      · cases h
end Go.Am
