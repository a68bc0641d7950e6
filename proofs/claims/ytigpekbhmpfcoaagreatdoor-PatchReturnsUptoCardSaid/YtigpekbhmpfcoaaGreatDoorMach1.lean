/- The abstract machine, part 1: a typed interpreter for the program's code, and that it is sound. No condition. -/
import Derived.Calls
import Derived.KernelRfl
import Derived.Laws.AppendOwn
import Derived.Below
import Derived.Deep.MidRow
import Derived.IntWalk
import Derived.Laws.StructEq
import Derived.ChangeKeysEq
import Derived.Great.BuildSlice
namespace Go.Am
open Go
inductive Ty where
 | int (k:IntKind) | bool | str | nl | cons (h t:Ty) | st (f:Ty) | arr (n:Nat) (t:Ty) | sl (t:Ty) | ptr (t:Ty)
@[reducible] def Ty.den:Ty → Type
 | .int _=>Int | .bool=>Bool | .str=>List UInt8 | .nl=>Unit | .cons h t=>h.den × t.den
 | .st f=>f.den | .arr _ t=>List t.den | .sl t=>List t.den | .ptr t=>t.den
def zI3:IntKind → Nat
 | .i8=>0 | .i16=>1 | .i32=>2 | .i64=>3 | .u8=>4 | .u16=>5 | .u32=>6 | .u64=>7
theorem zH2 {a b:IntKind} (h:zI3 a = zI3 b):a = b:=by cases a <;> cases b <;> first | rfl | (simp [zI3] at h)
def Ty.beq:Ty → Ty → Bool
 | .int k,.int k'=>Nat.beq (zI3 k) (zI3 k')
 | .bool,.bool=>true
 | .str,.str=>true
 | .nl,.nl=>true
 | .cons a b,.cons c d=>Ty.beq a c && Ty.beq b d
 | .st a,.st b=>Ty.beq a b
 | .arr n a,.arr m b=>Nat.beq n m && Ty.beq a b
 | .sl a,.sl b=>Ty.beq a b
 | .ptr a,.ptr b=>Ty.beq a b
 | _,_=>false
theorem Ty.eq_of_beq:∀ {a b:Ty},Ty.beq a b = true → a = b:=by
 intro a
 induction a with
 | int k=>intro b h; cases b <;> simp [Ty.beq] at h; rename_i k'; have:=zH2 h; rw [this]
 | bool=>intro b h; cases b <;> simp [Ty.beq] at h; rfl
 | str=>intro b h; cases b <;> simp [Ty.beq] at h; rfl
 | nl=>intro b h; cases b <;> simp [Ty.beq] at h; rfl
 | cons x y hx hy=>intro b h; cases b <;> simp [Ty.beq] at h; rw [hx h.1,hy h.2]
 | st x hx=>intro b h; cases b <;> simp [Ty.beq] at h; rw [hx h]
 | arr n x hx=>intro b h; cases b <;> simp [Ty.beq] at h; rw [h.1,hx h.2]
 | sl x hx=>intro b h; cases b <;> simp [Ty.beq] at h; rw [hx h]
 | ptr x hx=>intro b h; cases b <;> simp [Ty.beq] at h; rw [hx h]
def Ty.cast {a:Ty} (b:Ty) (x:a.den):Option b.den :=
 match h:Ty.beq a b with
 | true=>some (Ty.eq_of_beq h ▸ x)
 | false=>none
def Ty.dflt:(τ:Ty) → τ.den
 | .int _=>(0:Int) | .bool=>false | .str=>([]:List UInt8) | .nl=>() | .cons h t=>(h.dflt,t.dflt)
 | .st f=>f.dflt | .arr n t=>List.replicate n t.dflt | .sl t=>([]:List t.den) | .ptr t=>t.dflt
def Ty.size:Ty → Nat
 | .int _=>1 | .bool=>1 | .str=>1 | .nl=>0 | .cons h t=>h.size + t.size
 | .st f=>f.size | .arr n t=>n * t.size | .sl _=>1 | .ptr _=>1
def Ty.isAgg:Ty → Bool
 | .st _=>true | .arr _ _=>true | _=>false
def Ty.isL:Ty → Bool
 | .nl=>true | .cons _ _=>true | _=>false
def Ty.plain:Ty → Bool
 | .cons h t=>!h.isL && h.plain && t.isL && t.plain
 | .st f=>f.isL && f.plain
 | .arr _ t=>!t.isL && t.plain
 | .sl t=>!t.isL && t.plain
 | .ptr t=>!t.isL && t.plain
 | _=>true
def Ty.hasSl:Ty → Bool
 | .sl _=>true | .cons h t=>h.hasSl || t.hasSl | .st f=>f.hasSl | _=>false
def Ty.fty:Ty → Nat → Ty
 | .cons h _,0=>h
 | .cons _ t,k + 1=>t.fty k
 | _,_=>.nl
def Ty.fget:(f:Ty) → (k:Nat) → f.den → (f.fty k).den
 | .cons _ _,0,x=>x.1
 | .cons _ t,k + 1,x=>t.fget k x.2
 | .int _,_,_=>() | .bool,_,_=>() | .str,_,_=>() | .nl,_,_=>() | .st _,_,_=>() | .arr _ _,_,_=>() | .sl _,_,_=>() | .ptr _,_,_=>()
def Ty.fset:(f:Ty) → (k:Nat) → (f.fty k).den → f.den → f.den
 | .cons _ _,0,y,x=>(y,x.2)
 | .cons _ t,k + 1,y,x=>(x.1,t.fset k y x.2)
 | .int _,_,_,x=>x | .bool,_,_,x=>x | .str,_,_,x=>x | .nl,_,_,x=>x | .st _,_,_,x=>x | .arr _ _,_,_,x=>x | .sl _,_,_,x=>x | .ptr _,_,_,x=>x
def Ty.foff:Ty → Nat → Nat
 | .cons _ _,0=>0
 | .cons h t,k + 1=>h.size + t.foff k
 | _,_=>0
def Ty.flen:Ty → Nat
 | .cons _ t=>t.flen + 1
 | _=>0
def Ty.eqb:(τ:Ty) → τ.den → τ.den → Bool
 | .int _,x,y=>@BEq.beq Int _ x y
 | .bool,x,y=>@BEq.beq Bool _ x y
 | .str,x,y=>@BEq.beq (List UInt8) _ x y
 | .nl,_,_=>true
 | .cons h t,x,y=>h.eqb x.1 y.1 && t.eqb x.2 y.2
 | .st f,x,y=>f.eqb x y
 | .arr n t,x,y=>(List.range n).all fun i=>t.eqb (List.getD (α:=t.den) x i t.dflt) (List.getD (α:=t.den) y i t.dflt)
 | .sl _,_,_=>false
 | .ptr _,_,_=>false
def Ty.cmp:Ty → Bool
 | .int _=>true | .bool=>true | .str=>true | .nl=>true | .cons h t=>h.cmp && t.cmp | .st f=>f.cmp | .arr _ t=>t.cmp | .sl _=>false | .ptr _=>false
def Ty.noPtr:Ty → Bool
 | .ptr _=>false | .cons h t=>h.noPtr && t.noPtr | .st f=>f.noPtr | .arr _ t=>t.noPtr | _=>true
def Ty.eqs:Ty → Bool
 | .bool=>true | .st _=>true | .arr _ _=>true | _=>false
def Ty.ht:Ty → Nat
 | .cons h t=>max h.ht t.ht | .st f=>f.ht + 1 | .arr _ t=>t.ht + 1 | _=>0
abbrev yH8:=List (Nat ⊕ Int)
def Ty.pty:Ty → yH8 → Ty
 | τ,[]=>τ
 | .st f,.inl k :: p=>(f.fty k).pty p
 | .arr _ t,.inr _ :: p=>t.pty p
 | _,_=>.nl
def Ty.poff:Ty → yH8 → Nat
 | _,[]=>0
 | .st f,.inl k :: p=>f.foff k + (f.fty k).poff p
 | .arr _ t,.inr i :: p=>i.toNat * t.size + t.poff p
 | _,_=>0
inductive AVal where
 | junk
 | val (τ:Ty) (x:τ.den)
 | opt (s:Nat) (want g:Bool) (A:AVal)
 | nil
 | nn (b:Bool)
 | own (t:Ty) (l:List t.den) (T:Nat) (m:Bool)
 | box (τ:Ty) (c:AVal)
 | ref (s:Nat) (τ:Ty) (p:yH8)
 | eref (s:Nat) (T:Nat) (t:Ty) (i:Int) (p:yH8)
 | nl
 | cons (h t:AVal)
 | agg (f:Ty) (c:AVal)
 | tup (c:AVal)
 | fn (f:Nat) (c:AVal)
 | raw
 | rref (s:Nat)
 | fptr (f:Nat) (caps:List (Option (Nat × Ty)))
 | ownh (t:Ty) (l:List (List t.den)) (T i U:Nat) (m:Bool)
abbrev St:=List (Nat × AVal)
def zA9:Nat:=1000000
def St.get:St → Nat → AVal
 | [],_=>.junk
 | (s,A) :: r,n=>bif Nat.beq s n then A else bif Nat.beq s zA9 then .junk else St.get r n
def AVal.nth:AVal → Nat → AVal
 | .cons h _,0=>h
 | .cons _ t,k + 1=>t.nth k
 | _,_=>.junk
def AVal.setNth:AVal → Nat → AVal → AVal
 | .cons _ t,0,B=>.cons B t
 | .cons h t,k + 1,B=>.cons h (t.setNth k B)
 | A,_,_=>A
def zO8:Ty → AVal
 | .sl _=>.nil
 | .nl=>.nl
 | .cons h t=>.cons (zO8 h) (zO8 t)
 | .st f=>bif f.hasSl then .agg f (zO8 f) else .val (.st f) f.dflt
 | .int k=>.val (.int k) (0:Int)
 | .bool=>.val .bool false
 | .str=>.val .str ([]:List UInt8)
 | .arr n t=>.val (.arr n t) (Ty.dflt (.arr n t))
 | .ptr _=>.junk
def xP7:Value → AVal
 | .bool b=>.val .bool b
 | .int k n=>.val (.int k) n
 | .string s=>.val .str s.data.toList
 | .slice none 0 0=>.nil
 | _=>.junk
def yA7:(f:Ty) → f.den → AVal
 | .cons h t,x=>.cons (.val h x.1) (yA7 t x.2)
 | _,_=>.nl
def xT1:(τ:Ty) → Option τ.den
 | .sl _=>some []
 | _=>none
def xW6:(τ:Ty) → Option τ.den
 | .nl=>some ()
 | _=>none
def xX0 (g:(f:Ty) → Option f.den):(τ:Ty) → Option τ.den
 | .st f=>g f
 | _=>none
def yU4 (g g':(f:Ty) → Option f.den):(τ:Ty) → Option τ.den
 | .cons h t=>match g h,g' t with | some x,some y=>some (x,y) | _,_=>none
 | _=>none
def AVal.asT:AVal → (τ:Ty) → Option τ.den
 | .val τ' x,τ=>bif τ'.isL then none else Ty.cast τ x
 | .nil,τ=>xT1 τ
 | .own t l _ m,τ=>bif m then none else Ty.cast (a:=.sl t) τ l
 | .agg f c,τ=>bif Ty.beq (.st f) τ then xX0 (AVal.asT c) τ else none
 | .nl,τ=>xW6 τ
 | .cons a b,τ=>yU4 (AVal.asT a) (AVal.asT b) τ
 | _,_=>none
def AVal.as (τ:Ty) (A:AVal):Option τ.den:=A.asT τ
def Ty.isSl:Ty → Bool
 | .sl _=>true | _=>false
def zF2 (g g':Ty → Bool):Ty → Bool
 | .cons h t=>g h && g' t
 | _=>false
def AVal.fitsT:AVal → Ty → Bool
 | .val τ' _,τ=>Ty.beq τ' τ && !τ'.isL
 | .nil,τ=>τ.isSl
 | .own t _ _ _,τ=>Ty.beq (.sl t) τ
 | .agg f c,τ=>Ty.beq (.st f) τ && AVal.fitsT c f
 | .nl,τ=>Ty.beq .nl τ
 | .cons a b,τ=>zF2 (AVal.fitsT a) (AVal.fitsT b) τ
 | _,_=>false
def AVal.fits (τ:Ty) (A:AVal):Bool:=A.fitsT τ
def AVal.fld (k:Nat):AVal → AVal
 | .val (.st f) x=>.val (f.fty k) (f.fget k x)
 | .agg _ c=>c.nth k
 | _=>.junk
def AVal.ix (i:Int):AVal → AVal
 | .val (.arr _ t) l=>.val t (List.getD (α:=t.den) l i.toNat t.dflt)
 | _=>.junk
def AVal.at (c:AVal):yH8 → AVal
 | []=>c
 | .inl k :: p=>(c.fld k).at p
 | .inr i :: p=>(c.ix i).at p
def AVal.put:yH8 → AVal → AVal → AVal
 | [],_,B=>B
 | .inl k :: p,.agg f c,B=>.agg f (c.setNth k (AVal.put p (c.nth k) B))
 | .inl k :: p,.val (.st f) x,B =>
  let C:=AVal.put p (.val (f.fty k) (f.fget k x)) B
  match AVal.as (f.fty k) C with
  | some y=>.val (.st f) (f.fset k y x)
  | none=>.agg f ((yA7 f x).setNth k C)
 | .inr i :: p,.val (.arr n t) l,B =>
  match AVal.as t (AVal.put p (.val t (List.getD (α:=t.den) l i.toNat t.dflt)) B) with
  | some y=>.val (.arr n t) (List.set (α:=t.den) l i.toNat y)
  | none=>.junk
 | _,_,_=>.junk
def AVal.hasTag (T:Nat):AVal → Bool
 | .own _ _ T' _=>Nat.beq T T'
 | .eref _ T' _ _ _=>Nat.beq T T'
 | .ownh _ _ T' _ U _=>Nat.beq T T' || Nat.beq T U
 | .opt _ _ _ A=>A.hasTag T
 | .box _ c=>c.hasTag T
 | .cons h t=>h.hasTag T || t.hasTag T
 | .agg _ c=>c.hasTag T
 | .tup c=>c.hasTag T
 | .fn _ c=>c.hasTag T
 | _=>false
def xQ3 (s:Nat):Option (Nat × Ty) → Bool
 | some (k,_)=>Nat.beq s k
 | none=>false
def AVal.hasRef (s:Nat):AVal → Bool
 | .ref s' _ _=>Nat.beq s s'
 | .rref s'=>Nat.beq s s'
 | .fptr _ caps=>caps.any (xQ3 s)
 | .opt _ _ _ A=>A.hasRef s
 | .box _ c=>c.hasRef s
 | .cons h t=>h.hasRef s || t.hasRef s
 | .agg _ c=>c.hasRef s
 | .tup c=>c.hasRef s
 | .fn _ c=>c.hasRef s
 | _=>false
def AVal.mapOwn (g:(t:Ty) → List t.den → Nat → Bool → AVal) (h:Nat → Nat → Ty → Int → yH8 → AVal):AVal → AVal
 | .own t l T m=>g t l T m
 | .eref s T t i p=>h s T t i p
 | .opt s w b A=>.opt s w b (A.mapOwn g h)
 | .box τ c=>bif (c.mapOwn g h).fitsT τ then .box τ (c.mapOwn g h) else .junk
 | .cons x y=>.cons (x.mapOwn g h) (y.mapOwn g h)
 | .agg f c=>bif (c.mapOwn g h).fitsT f then .agg f (c.mapOwn g h) else .junk
 | .tup c=>.tup (c.mapOwn g h)
 | .fn f c=>.fn f (c.mapOwn g h)
 | .ownh _ _ _ _ _ _=>.junk
 | A=>A
def AVal.retag (T U:Nat):AVal → AVal :=
 AVal.mapOwn (fun t l T' m=>.own t l (bif Nat.beq T T' then U else T') m) (fun s T' t i p=>.eref s (bif Nat.beq T T' then U else T') t i p)
def AVal.lose (T:Nat):AVal → AVal :=
 AVal.mapOwn (fun t l T' m=>bif Nat.beq T T' then (bif m then .junk else .val (.sl t) l) else .own t l T' m) (fun s T' t i p=>bif Nat.beq T T' then .junk else .eref s T' t i p)
def AVal.gone (T:Nat):AVal → AVal :=
 AVal.mapOwn (fun t l T' m=>bif Nat.beq T T' then .junk else .own t l T' m) (fun s T' t i p=>bif Nat.beq T T' then .junk else .eref s T' t i p)
def AVal.hung (d:Nat):AVal → Bool
 | .opt s _ _ A=>Nat.beq s d || A.hung d
 | .cons a b=>a.hung d || b.hung d
 | .tup c=>c.hung d
 | .fn _ c=>c.hung d
 | _=>false
def AVal.hasOpt:AVal → Bool
 | .opt _ _ _ _=>true
 | .cons a b=>a.hasOpt || b.hasOpt
 | .tup c=>c.hasOpt
 | .fn _ c=>c.hasOpt
 | _=>false
structure GTab where
 tab:List (Nat × (τ:Ty) × τ.den)
abbrev GlobTab:Type:=Inhabited GTab
def GlobTab.tab [i:GlobTab]:List (Nat × (τ:Ty) × τ.den):=(@default GTab i).tab
def Ty.nsl:Ty → Nat
 | .sl _=>1 | .cons h t=>h.nsl + t.nsl | .st f=>f.nsl | _=>0
def AVal.pos:AVal → Ty → Nat → AVal
 | .own t l _ m,_,b=>.own t l b m
 | .agg f c,_,b=>.agg f (c.pos f b)
 | .cons x y,.cons h t,b=>.cons (x.pos h b) (y.pos t (b + h.nsl))
 | .cons _ _,_,_=>.junk
 | A,_,_=>A
def AVal.tags:AVal → Ty → Nat → List (Nat × Nat)
 | .own _ _ T _,_,b=>[(T,b)]
 | .agg f c,_,b=>c.tags f b
 | .cons x y,.cons h t,b=>x.tags h b ++ y.tags t (b + h.nsl)
 | _,_,_=>[]
def Ty.noMem:Ty → Bool
 | .sl _=>false | .ptr _=>false | .cons h t=>h.noMem && t.noMem | .st f=>f.noMem | .arr _ t=>t.noMem | _=>true
def AVal.scal:AVal → Bool
 | .val τ _=>τ.noMem
 | .nil=>true
 | .own t _ _ _=>t.noMem
 | .tup c=>c.scal
 | .nl=>true
 | .cons a b=>a.scal && b.scal
 | _=>false
def AVal.pureL:AVal → Bool
 | .nl=>true
 | .cons (.val _ _) t=>t.pureL
 | .cons .nil t=>t.pureL
 | .cons (.fn _ .nl) t=>t.pureL
 | _=>false
end Go.Am
namespace Go.Am
open Go
structure CallOut where
 ok:List Prop
 res:AVal
 outs:List (Nat × AVal)
 eats:List Nat
abbrev Spec:=List AVal → Option CallOut
structure Comp where
 kind:Nat
 g:Option Bool
 d:St
structure Out where
 ok:List Prop
 comps:List Comp
structure Ctx where
 tys:List (Nat × Ty)
 fns:List (Nat × Spec)
 loops:List (Nat × (St → Option Out))
 gh:List (Nat × List (Nat × Nat × Nat × Nat))
 wrap:Bool
 n:Nat
 keep:List Nat
 wr:List Nat
 wants:List (Nat × List Nat):=[]
 exts:List (Nat × (List AVal → Option (List Prop × AVal))):=[]
 maps:List (Nat × (Ty × Ty)):=[]
 fts:List Nat:=[]
def yA8 {α:Type} (dflt:α):List (Nat × α) → Nat → α
 | [],_=>dflt
 | (k,a) :: r,n=>bif Nat.beq k n then a else yA8 dflt r n
def Ctx.ty (c:Ctx) (T:Nat):Ty:=yA8 .nl c.tys T
def xT2:Ty → Bool
 | .nl=>false | _=>true
def Ctx.is (c:Ctx) (T:Nat) (τ:Ty):Bool:=Ty.beq τ (c.ty T) && xT2 τ
def Ctx.mapTy (c:Ctx) (T:Nat):Option (Ty × Ty):=yA8 none (c.maps.map fun e=>(e.1,some e.2)) T
@[reducible] def xC7 (k v:Ty):Ty:=.cons k (.cons v .nl)
def yH9 (k v:Ty) (x:k.den):List (k.den × v.den × Unit) → Option v.den
 | []=>none
 | e :: r=>bif k.eqb x e.1 then some e.2.1 else yH9 k v x r
def xL0 (k v:Ty) (x:k.den) (y:v.den):List (k.den × v.den × Unit) → List (k.den × v.den × Unit)
 | []=>[(x,y,())]
 | e :: r=>bif k.eqb x e.1 then (x,y,()) :: r else e :: xL0 k v x y r
def InR (r:Int):Prop:=-9223372036854775808 ≤ r ∧ r ≤ 9223372036854775807
def xC8:List (Nat × (τ:Ty) × τ.den) → Nat → AVal
 | [],_=>.junk
 | (k,⟨τ,x⟩) :: r,g=>bif Nat.beq k g then .val (.ptr τ) x else xC8 r g
def arg [GlobTab] (S:St):Operand → AVal
 | .tmp t=>match S.get t with | .box τ _=>.ref t τ [] | .raw=>.rref t | A=>A
 | .const v=>xP7 v
 | .func f=>.fn f .nl
 | .global g=>xC8 GlobTab.tab g
def zA4 (S:St):AVal → AVal
 | .ref s _ _=>S.get s
 | .eref s _ _ _ _=>S.get s
 | .rref s=>S.get s
 | _=>.junk
def yI:Option Bool → Option Bool → Option Bool
 | none,g=>g
 | some a,none=>some a
 | some a,some b=>some (a && b)
abbrev Gd:=Option (Nat × Bool × Bool)
def zL0 (dsts:List (Option Nat)) (S:St):Option (Nat × Bool) → Option Gd
 | none=>some none
 | some (j,want) =>
  match dsts[j]? with
  | some (some s)=>match S.get s with
   | .val .bool b=>some (some (s,want,bif want then b else !b))
   | .opt _ _ g (.val .bool b)=>some (some (s,want,g && (bif want then b else !b)))
   | _=>none
  | _=>none
def zE7 (gd:Gd):AVal → AVal
 | .opt s w _ A=>match gd with
  | some (s',w',_)=>bif Nat.beq s s' && (w == w') then A else .junk
  | none=>.junk
 | A=>A
def yL7:Operand → Option Int
 | .const (.int _ n)=>some n
 | _=>none
def xQ4:IntKind → Bool
 | .i64=>true | _=>false
def yA9 (wrap:Bool) (k:IntKind) (r:Int):List Prop × AVal :=
 bif !wrap && xQ4 k then ([InR r],.val (.int k) r) else ([],.val (.int k) (k.wrap r))
def yI0 (y:Operand) (b:Int):List Prop :=
 match yL7 y with
 | some n=>bif n == 0 then [False] else []
 | none=>[b ≠ 0]
def yU5 (y:Operand) (b:Int):List Prop :=
 match yL7 y with
 | some n=>bif decide (0 ≤ n) then [] else [False]
 | none=>[0 ≤ b]
def yB (k:IntKind) (f:BitVec k.bits → BitVec k.bits → BitVec k.bits) (a b:Int):Int :=
 k.wrap ((f (BitVec.ofInt k.bits a) (BitVec.ofInt k.bits b)).toNat)
def xC9 (wrap:Bool) (op:BinOp) (k:IntKind) (a b:Int) (y:Operand):Option (List Prop × AVal) :=
 match op with
 | .add=>some (yA9 wrap k (a + b))
 | .sub=>some (yA9 wrap k (a - b))
 | .mul=>some (yA9 wrap k (a * b))
 | .quo=>some (yI0 y b ++ (yA9 wrap k (a.tdiv b)).1,(yA9 wrap k (a.tdiv b)).2)
 | .rem=>some (yI0 y b,.val (.int k) (a.tmod b))
 | .and=>some ([],.val (.int k) (yB k (fun x y=>x &&& y) a b))
 | .or=>some ([],.val (.int k) (yB k (fun x y=>x ||| y) a b))
 | .xor=>some ([],.val (.int k) (yB k (fun x y=>x ^^^ y) a b))
 | .andNot=>some ([],.val (.int k) (yB k (fun x y=>x &&& ~~~y) a b))
 | .eql=>some ([],.val .bool (a == b))
 | .neq=>some ([],.val .bool (a != b))
 | .lss=>some ([],.val .bool (decide (a < b)))
 | .leq=>some ([],.val .bool (decide (a ≤ b)))
 | .gtr=>some ([],.val .bool (decide (a > b)))
 | .geq=>some ([],.val .bool (decide (a ≥ b)))
 | _=>none
def yI1 (wrap:Bool) (op:BinOp) (k:IntKind) (a b:Int) (y:Operand):Option (List Prop × AVal) :=
 match op with
 | .shl=>some (yU5 y b ++ (yA9 wrap k (a * 2 ^ (min b.toNat k.bits))).1,(yA9 wrap k (a * 2 ^ (min b.toNat k.bits))).2)
 | .shr=>some (yU5 y b,.val (.int k) (a.fdiv (2 ^ (min b.toNat k.bits))))
 | _=>none
def yQ0:BinOp → Bool
 | .shl=>true | .shr=>true | _=>false
def xD (op:BinOp) (a b:List UInt8):Option (List Prop × AVal) :=
 match op with
 | .add=>some ([((a.length + b.length:Nat):Int) ≤ 9223372036854775807],.val .str (a ++ b))
 | .eql=>some ([],.val .bool (a == b))
 | .neq=>some ([],.val .bool (!(a == b)))
 | .lss=>some ([],.val .bool (Op.bytesLess a b))
 | .leq=>some ([],.val .bool (Op.bytesLess a b || a == b))
 | .gtr=>some ([],.val .bool (!(Op.bytesLess a b || a == b)))
 | .geq=>some ([],.val .bool (!(Op.bytesLess a b)))
 | _=>none
def xQ5 (op:BinOp) (τ:Ty) (x y:AVal):Option (List Prop × AVal) :=
 match τ.cmp && τ.eqs,AVal.as τ x,AVal.as τ y with
 | true,some a,some b =>
  match op with
  | .eql=>some ([],.val .bool (τ.eqb a b))
  | .neq=>some ([],.val .bool (!(τ.eqb a b)))
  | _=>none
 | _,_,_=>none
def zX3 (op:BinOp) (p:List Prop) (b:Bool):Option (List Prop × AVal) :=
 match op with
 | .eql=>some (p,.val .bool b)
 | .neq=>some (p,.val .bool (!b))
 | _=>none
def xQ6 (c:Ctx) (op:BinOp) (T:Nat) (x:AVal):Option (List Prop × AVal) :=
 match c.ty T with
 | .sl _=>(match x with
  | .nil=>zX3 op [] true
  | .nn b=>zX3 op [] b
  | .val (.sl t) l=>zX3 op [0 < List.length (α:=t.den) l] false
  | .own t l _ _=>bif t.isL then none else zX3 op [0 < l.length] false
  | _=>none)
 | _=>none
def xW (c:Ctx) (op:BinOp) (T:Nat) (x y:AVal) (oy:Operand):Option (List Prop × AVal) :=
 match x,y with
 | .val (.int k) a,.val (.int k') b =>
  bif yQ0 op then yI1 c.wrap op k a b oy
  else bif Nat.beq (zI3 k) (zI3 k') then xC9 c.wrap op k a b oy else none
 | .val .str a,.val .str b=>xD op a b
 | x,.nil=>xQ6 c op T x
 | x,y=>xQ5 op (c.ty T) x y
def unA (c:Ctx) (op:UnOp) (x:AVal):Option (List Prop × AVal) :=
 match op,x with
 | .not,.val .bool b=>some ([],.val .bool (!b))
 | .neg,.val (.int k) n=>some (yA9 c.wrap k (Int.sub 0 n))
 | .xor,.val (.int k) n=>some ([],.val (.int k) (yB k (fun x y=>x ^^^ y) (if k.signed then -1 else k.max) n))
 | _,_=>none
def xQ7 (c:Ctx) (src dst:Nat) (x:AVal):Option (List Prop × AVal) :=
 match c.ty src,c.ty dst,x with
 | .int _,.int k,.val (.int _) n=>some ([],.val (.int k) (k.wrap n))
 | .str,.str,.val .str s=>some ([],.val .str s)
 | _,_,_=>none
def zO9 (ix:Operand) (i:Int) (n:Int):List Prop :=
 match yL7 ix with
 | some _=>[0 ≤ i ∧ i < n]
 | none=>[0 ≤ i ∧ i < n]
def zV8 (c:Ctx) (T:Nat) (x:AVal) (s:Nat) (i:AVal) (ix:Operand):Option (List Prop × AVal) :=
 match x,i with
 | .val (.sl t) l,.val (.int _) i=>bif c.is T (.sl t) then some (zO9 ix i (List.length (α:=t.den) l:Int),.val (.ptr t) (List.getD (α:=t.den) l i.toNat t.dflt)) else none
 | .own t l U m,.val (.int _) i =>
  bif c.is T (.sl t) then
   (bif m then some (zO9 ix i (l.length:Int),.eref s U t i [])
    else some (zO9 ix i (l.length:Int),.val (.ptr t) (List.getD (α:=t.den) l i.toNat t.dflt))) else none
 | .ownh t l U _ _ _,.val (.int _) i=>bif c.is T (.sl (.sl t)) then some (zO9 ix i (List.length (α:=List t.den) l:Int),.eref s U (.sl t) i []) else none
 | .val (.ptr (.arr n t)) l,.val (.int _) i=>bif c.is T (.arr n t) then some (zO9 ix i (n:Int),.val (.ptr t) (List.getD (α:=t.den) l i.toNat t.dflt)) else none
 | .ref s τ p,.val (.int _) i =>
  match τ.pty p with
  | .arr n t=>bif c.is T (.arr n t) then some (zO9 ix i (n:Int),.ref s τ (p ++ [.inr i])) else none
  | _=>none
 | .eref s U t j p,.val (.int _) i =>
  match t.pty p with
  | .arr n t'=>bif c.is T (.arr n t') then some (zO9 ix i (n:Int),.eref s U t j (p ++ [.inr i])) else none
  | _=>none
 | _,_=>none
def xD0 (c:Ctx) (T:Nat) (x i:AVal) (ix:Operand):Option (List Prop × AVal) :=
 match x,i with
 | .val .str s,.val (.int _) i=>bif c.is T .str then some (zO9 ix i (List.length (α:=UInt8) s:Int),.val (.int .u8) ((List.getD (α:=UInt8) s i.toNat 0).toNat:Int)) else none
 | .val (.arr n t) l,.val (.int _) i=>bif c.is T (.arr n t) then some (zO9 ix i (n:Int),.val t (List.getD (α:=t.den) l i.toNat t.dflt)) else none
 | _,_=>none
def zG1 (c:Ctx) (T:Nat) (x:AVal) (k:Nat):Option (List Prop × AVal) :=
 match x with
 | .val (.ptr (.st f)) v=>bif c.is T (.st f) && Nat.blt k f.flen && Nat.blt 0 (f.fty k).size then some ([],.val (.ptr (f.fty k)) (f.fget k v)) else none
 | .ref s τ p =>
  match τ.pty p with
  | .st f=>bif c.is T (.st f) && Nat.blt k f.flen && Nat.blt 0 (f.fty k).size then some ([],.ref s τ (p ++ [.inl k])) else none
  | _=>none
 | .eref s U t i p =>
  match t.pty p with
  | .st f=>bif c.is T (.st f) && Nat.blt k f.flen && Nat.blt 0 (f.fty k).size then some ([],.eref s U t i (p ++ [.inl k])) else none
  | _=>none
 | _=>none
def xD1 (c:Ctx) (T:Nat) (x:AVal) (k:Nat):Option (List Prop × AVal) :=
 match x with
 | .val (.st f) v=>bif c.is T (.st f) && Nat.blt k f.flen then some ([],.val (f.fty k) (f.fget k v)) else none
 | .agg f a=>bif c.is T (.st f) && Nat.blt k f.flen then some ([],a.nth k) else none
 | _=>none
def xQ8 (f:Nat) (caps:List (Option (Nat × Ty))):List (Option (Nat × Ty)) → AVal
 | []=>.nl
 | some (k,τ) :: r=>.cons (.ref k τ []) (xQ8 f caps r)
 | none :: r=>.cons (.fptr f caps) (xQ8 f caps r)
def zS3 (s:Nat):AVal → Option (List (Option (Nat × Ty)))
 | .nl=>some []
 | .cons (.ref k τ []) t=>(match zS3 s t with | some r=>some (some (k,τ) :: r) | none=>none)
 | .cons (.rref s') t=>bif Nat.beq s s' then (match zS3 s t with | some r=>some (none :: r) | none=>none) else none
 | _=>none
def yI2 (c:Ctx) (T:Nat) (x cont:AVal):Option (List Prop × AVal) :=
 match x with
 | .fptr f caps=>bif c.fts.any (Nat.beq T) then some ([],.fn f (xQ8 f caps caps)) else none
 | .val (.ptr t) v=>bif c.is T t then some ([],.val t v) else none
 | .ref _ τ p =>
  match cont with
  | .box τ' k=>bif Ty.beq τ' τ && c.is T (τ.pty p) && AVal.fits (τ.pty p) (k.at p) then some ([],k.at p) else none
  | _=>none
 | .eref _ U t i p =>
  match cont with
  | .ownh t' l U' j V m=>bif Ty.beq (.sl t') t && Nat.beq U' U && c.is T (.sl t') && p.isEmpty then some ([i.toNat = j ∧ i < (List.length (α:=List t'.den) l:Int)],.own t' (List.getD (α:=List t'.den) l j []) V m) else none
  | .own t' l U' _=>bif Ty.beq t' t && Nat.beq U' U && c.is T (t.pty p) && AVal.fits (t.pty p) ((AVal.val t' (List.getD (α:=t'.den) l i.toNat t'.dflt)).at p) then some ([i < (l.length:Int)],(AVal.val t' (List.getD (α:=t'.den) l i.toNat t'.dflt)).at p) else none
  | _=>none
 | _=>none
def xD2 (c:Ctx) (T:Nat) (x cont v:AVal):Option (Nat × AVal) :=
 match x with
 | .ref s τ p =>
  match cont with
  | .box τ' k =>
   bif Ty.beq τ' τ && c.is T (τ.pty p) && AVal.fits (τ.pty p) v && AVal.fits (τ.pty p) (k.at p) && AVal.fits τ (AVal.put p k v) then some (s,.box τ (AVal.put p k v)) else none
  | _=>none
 | _=>none
def xV2 (parts:List (Nat × AVal)) (z:AVal):AVal:=parts.foldl (fun a q=>a.setNth q.1 q.2) z
def xS2 (t:Ty):List (Nat × AVal) → List t.den → Option (List t.den)
 | [],l=>some l
 | (k,A) :: r,l=>match AVal.as t A with | some x=>xS2 t r (l.set k x) | none=>none
def zT4 (f:Ty) (parts:List (Nat × AVal)):Bool:=parts.all fun q=>Nat.blt q.1 f.flen && AVal.fits (f.fty q.1) q.2
def xD3 (c:Ctx) (T:Nat) (parts:List (Nat × AVal)):Option (List Prop × AVal) :=
 match c.ty T with
 | .st f =>
  bif zT4 f parts && f.noPtr then
   (bif f.hasSl then some ([],.agg f (xV2 parts (zO8 f)))
    else match AVal.as f (xV2 parts (zO8 f)) with | some x=>some ([],.val (.st f) x) | none=>none)
  else none
 | .arr n t=>bif parts.all (fun q=>Nat.blt q.1 n) && t.noPtr then (match xS2 t parts (List.replicate n t.dflt) with | some l=>some ([],.val (.arr n t) l) | none=>none) else none
 | _=>none
def yB0 (c:Ctx) (T len dst:Nat) (parts:List (Nat × AVal)):Option (List Prop × AVal) :=
 match c.ty T with
 | .sl t=>bif parts.all (fun q=>Nat.blt q.1 len) && Nat.ble (len * t.size) 16777216 && Nat.blt 0 t.size && t.noPtr then (match xS2 t parts (List.replicate len t.dflt) with | some l=>some ([],.own t l dst true) | none=>none) else none
 | _=>none
def xW0 (c:Ctx) (Ts:List Nat) (x:AVal):Option (List Prop × AVal) :=
 match Ts with
 | T :: _ =>
  (match x with
   | .val .str s=>bif c.is T .str then some ([],.val (.int .i64) (List.length (α:=UInt8) s:Int)) else none
   | .val (.sl t) l=>bif c.is T (.sl t) then some ([],.val (.int .i64) (List.length (α:=t.den) l:Int)) else none
   | .own t l _ _=>bif c.is T (.sl t) then some ([],.val (.int .i64) (l.length:Int)) else none
   | .ownh t l _ _ _ _=>bif c.is T (.sl (.sl t)) then some ([],.val (.int .i64) (List.length (α:=List t.den) l:Int)) else none
   | .nil=>bif c.is T (c.ty T) && (c.ty T).isSl then some ([],.val (.int .i64) (0:Int)) else none
   | _=>none)
 | []=>none
def zP:Option AVal → Option (Option Int)
 | none=>some none
 | some (.val (.int _) n)=>some (some n)
 | some _=>none
def yU6 {α:Type} (l:List α) (lo hi:Option Int):List Prop × List α :=
 match lo,hi with
 | none,none=>([],l)
 | none,some h=>([0 ≤ h ∧ h ≤ (l.length:Int)],l.take h.toNat)
 | some a,none=>([0 ≤ a ∧ a ≤ (l.length:Int)],l.drop a.toNat)
 | some a,some h=>([0 ≤ a ∧ a ≤ h ∧ h ≤ (l.length:Int)],(l.take h.toNat).drop a.toNat)
def xD4 (c:Ctx) (T:Nat) (x:AVal) (lo hi:Option AVal):Option (List Prop × AVal) :=
 match zP lo,zP hi with
 | some a,some b =>
  match x with
  | .val .str s=>bif c.is T .str then some ((yU6 (α:=UInt8) s a b).1,.val .str (yU6 (α:=UInt8) s a b).2) else none
  | .val (.sl t) l=>bif c.is T (.sl t) then some ((yU6 (α:=t.den) l a b).1,.val (.sl t) (yU6 (α:=t.den) l a b).2) else none
  | .own t l _ m=>bif c.is T (.sl t) && !m then some ((yU6 l a b).1,.val (.sl t) (yU6 l a b).2) else none
  | _=>none
 | _,_=>none
def xT3 (n m:Int):List Prop:=[0 ≤ n ∧ n ≤ m ∧ m ≤ 4294967296]
def yU7 (c:Ctx) (T dst:Nat) (n m:AVal):Option (List Prop × AVal) :=
 match c.ty T,n,m with
 | .sl t,.val (.int _) n,.val (.int _) m=>bif Nat.blt 0 t.size && t.noPtr then some (xT3 n m,.own t (List.replicate (Int.toNat n) t.dflt) dst true) else none
 | _,_,_=>none
def yQ1 (c:Ctx) (T:Nat) (x y:AVal) (ok:Bool):Option (List Prop × AVal) :=
 match c.mapTy T with
 | some (k,v) =>
  match x with
  | .own t l _ _ =>
   match Ty.cast (a:=.sl t) (.sl (xC7 k v)) l,AVal.as k y with
   | some m,some q=>bif ok then some ([],.tup (.cons (.val v ((yH9 k v q m).getD v.dflt)) (.cons (.val .bool (yH9 k v q m).isSome) .nl))) else some ([],.val v ((yH9 k v q m).getD v.dflt))
   | _,_=>none
  | _=>none
 | none=>none
def xP8 (c:Ctx) (T dst:Nat):Option (List Prop × AVal) :=
 match c.mapTy T with
 | some (k,v)=>some ([],.own (xC7 k v) [] dst true)
 | none=>none
def xW1 (x y:Int):Int:=if y > x then y else x
def xW2 (x y:Int):Int:=if y < x then y else x
def yL8 (f:Int → Int → Int):AVal → List AVal → Option AVal
 | A,[]=>some A
 | .val (.int k) x,.val (.int k') y :: r=>bif Nat.beq (zI3 k) (zI3 k') then yL8 f (.val (.int k) (f x y)) r else none
 | _,_=>none
def yL9:AVal → Bool
 | .val (.int _) _=>true | _=>false
def xT4 (f:Int → Int → Int):List AVal → Option (List Prop × AVal)
 | A :: r=>bif yL9 A then (match yL8 f A r with | some B=>some ([],B) | none=>none) else none
 | []=>none
def AVal.clen:AVal → Nat
 | .cons _ t=>t.clen + 1
 | _=>0
def yI3 (x:AVal) (k:Nat):Option (List Prop × AVal) :=
 match x with
 | .tup a=>bif Nat.blt k a.clen then some ([],a.nth k) else none
 | _=>none
end Go.Am
namespace Go.Am
open Go
def zC8:Op → List Operand
 | .move x=>[x] | .assign x=>[x] | .box _ x=>[x] | .load _ a=>[a] | .store _ a v=>[a,v] | .nilCheck x=>[x]
 | .pick x a b=>[x,a,b]
 | .binOp _ _ x y _=>[x,y] | .unOp _ _ x=>[x] | .convert _ _ x=>[x]
 | .build _ ps=>ps.toList.map (·.2) | .buildSlice _ _ ps=>ps.toList.map (·.2)
 | .makeSlice _ a b=>[a,b]
 | .slice _ x lo hi mx=>x :: (lo.toList ++ (hi.toList ++ mx.toList))
 | .fieldAddr _ x _=>[x] | .field _ x _=>[x] | .indexAddr _ x i=>[x,i] | .index _ x i=>[x,i] | .extract t _=>[t]
 | .makeFunc _ _ cs=>cs.toList
 | .lookup _ x i _=>[x,i]
 | .mapUpdate _ m k v=>[m,k,v]
 | .call { callee:=.value f,args,.. }=>f :: args.toList
 | .call { callee:=.builtin _,args,.. }=>args.toList
 | _=>[]
def AVal.toL:AVal → List AVal
 | .cons h t=>h :: t.toL
 | _=>[]
def AVal.ofL:List AVal → AVal
 | []=>.nl
 | A :: r=>.cons A (AVal.ofL r)
def xT5:Op → List AVal → List AVal
 | .call { callee:=.value _,.. },.fn _ cs :: r=>r ++ cs.toL
 | _,xs=>xs
def zX4:List Operand → List Nat
 | []=>[]
 | .tmp t :: r=>t :: zX4 r
 | _ :: r=>zX4 r
def xT6:Operand → Nat
 | .tmp t=>t | _=>0
def zE8 (ps:List (Nat × Operand)) (xs:List AVal):List (Nat × AVal):=List.zipWith (fun p A=>(p.1,A)) ps xs
def yI4:List AVal → List Nat
 | []=>[]
 | .ref s _ _ :: r=>s :: yI4 r
 | .eref s _ _ _ _ :: r=>s :: yI4 r
 | .rref s :: r=>s :: yI4 r
 | _ :: r=>yI4 r
def zC9:AVal → AVal → AVal
 | .ref _ τ [],.box τ' k=>bif Ty.beq τ' τ then (match AVal.as τ k with | some x=>.box τ (.val τ x) | none=>.junk) else .junk
 | .val τ x,_=>.val τ x
 | .nil,_=>.nil
 | .own t l _ m,_=>bif m then .junk else .val (.sl t) l
 | .agg f a,_=>match AVal.as (.st f) (.agg f a) with | some x=>.val (.st f) x | none=>.junk
 | .fn f cs,_=>bif cs.pureL then .fn f cs else .junk
 | _,_=>.junk
def zF6:AVal → Bool
 | .box _ _=>true | _=>false
def zT5 (outs:List (Nat × AVal)):Nat → List AVal → Bool
 | _,[]=>true
 | i,A :: r=>(!(zF6 A) || outs.any (fun e=>Nat.beq e.1 i)) && zT5 outs (i + 1) r
def zF7:AVal → Bool
 | .junk=>true | .val _ _=>true | .nil=>true | .own _ _ T _=>Nat.blt T 4 | .agg _ c=>zF7 c | .nl=>true | .cons a b=>zF7 a && zF7 b | .tup c=>zF7 c
 | _=>false
def zI5:AVal → Bool
 | .nl=>true | .cons _ t=>zI5 t | _=>false
def zI8:List AVal → Bool
 | []=>true
 | .ref s _ _ :: r=>!((yI4 r).any (Nat.beq s)) && zI8 r
 | _ :: r=>zI8 r
def zK7 (fns:List (Nat × Spec)) (f:Nat) (args:List AVal):Option CallOut :=
 match fns with
 | []=>none
 | (g,sp) :: r=>bif Nat.beq g f then (match sp args with | some o=>some o | none=>zK7 r f args) else zK7 r f args
def AVal.tagTo (d:Nat):AVal → AVal
 | .own t l T m=>.own t l (T * 100000 + d) m
 | .cons h t=>.cons (h.tagTo d) (t.tagTo d)
 | .agg f c=>.agg f (c.tagTo d)
 | .tup c=>.tup (c.tagTo d)
 | A=>A
def yF6:AVal → Bool
 | .val _ _=>true | _=>false
def yF7 (ys args:List AVal):List (Nat × AVal) → Option St
 | []=>some []
 | (i,k) :: r =>
  match ys[i]?,args[i]?,yF7 ys args r with
  | some (.ref s τ []),some (.box τ' _),some u=>bif Ty.beq τ' τ && AVal.fits τ k && yF6 k then some ((s,.box τ k) :: u) else none
  | _,_,_=>none
def zF:List AVal → List AVal → Bool
 | .ref _ _ [] :: r,A :: l=>zF6 A && zF r l
 | _ :: r,_ :: l=>zF r l
 | _,_=>true
def zJ7:Option Operand → List AVal → Option AVal × List AVal
 | none,xs=>(none,xs)
 | some _,A :: r=>(some A,r)
 | some _,[]=>(some .junk,[])
def yF1 (c:Ctx) (d:Nat) (op:Op) (xs ks:List AVal):Option (List Prop × AVal) :=
 match op,xs,ks with
 | .move _,[A],_=>some ([],A)
 | .assign _,[A],_=>some ([],A)
 | .box T _,[A],_=>bif c.is T (c.ty T) && AVal.fits (c.ty T) A then some ([],.box (c.ty T) A) else none
 | .alloc T,[],_=>bif c.fts.any (Nat.beq T) then some ([],.raw) else bif c.is T (c.ty T) && (c.ty T).noPtr then some ([],.box (c.ty T) (zO8 (c.ty T))) else none
 | .load T _,[A],[k]=>yI2 c T A k
 | .nilCheck _,[A],_=>match A with | .val (.ptr _) _=>some ([],A) | .ref _ _ _=>some ([],A) | .eref _ _ _ _ _=>some ([],A) | .fn _ _=>some ([],A) | _=>none
 | .binOp o T _ y _,[A,B],_=>xW c o T A B y
 | .unOp o _ _,[A],_=>unA c o A
 | .convert s t _,[A],_=>xQ7 c s t A
 | .build T ps,xs,_=>xD3 c T (zE8 ps.toList xs)
 | .buildSlice T n ps,xs,_=>yB0 c T n d (zE8 ps.toList xs)
 | .makeSlice T _ _,[A,B],_=>yU7 c T d A B
 | .slice T _ lo hi none,A :: r,_=>xD4 c T A (zJ7 lo r).1 (zJ7 hi (zJ7 lo r).2).1
 | .fieldAddr T _ k,[A],_=>zG1 c T A k
 | .field T _ k,[A],_=>xD1 c T A k
 | .indexAddr T x i,[A,B],_=>zV8 c T A (xT6 x) B i
 | .index T _ i,[A,B],_=>xD0 c T A B i
 | .extract _ k,[A],_=>yI3 A k
 | .lookup T _ _ ok,[A,B],_=>yQ1 c T A B ok
 | .makeMap T none,[],_=>xP8 c T d
 | .makeFunc (.func f) fs _,cs,_=>match fs.toList with | []=>some ([],.fn f (AVal.ofL cs)) | _=>none
 | .call { callee:=.builtin .len,argTypes,.. },[A],_=>xW0 c argTypes.toList A
 | .call { callee:=.builtin .max,.. },xs,_=>xT4 xW1 xs
 | .call { callee:=.builtin .min,.. },xs,_=>xT4 xW2 xs
 | _,_,_=>none
def xW3:AVal → Bool
 | .box _ _=>true
 | .own _ _ _ _=>true
 | .raw=>true
 | _=>false
def zB6 (T:Nat) (h:AVal → AVal) (S:St):St → St
 | []=>[]
 | (s,_) :: r=>bif (S.get s).hasTag T then (s,h (S.get s)) :: zB6 T h S r else zB6 T h S r
def zD1 (T:Nat) (S:St):Bool:=S.all fun e=>!(e.2.hasTag T)
def zP0 (s:Nat) (S:St):Bool:=S.all fun e=>!(e.2.hasRef s)
def yF8 (T:Nat) (S:St):Bool:=S.all fun e=>!((S.get e.1).hasTag T)
def AVal.setEl0 (T:Nat) (t:Ty) (i:Nat) (y:t.den):AVal → AVal :=
 AVal.mapOwn (fun t' l T' m=>bif Nat.beq T T' then (match Ty.cast t' y with | some y'=>bif m then .own t' (l.set i y') T' m else .junk | none=>.junk) else .own t' l T' m) (fun s T' t i p=>.eref s T' t i p)
def AVal.setEl (T:Nat) (t:Ty) (i:Nat) (y:t.den):AVal → AVal
 | .ownh t' l T' j U m=>bif Nat.beq T U && m then (match Ty.cast t' y with | some y'=>.ownh t' (List.set (α:=List t'.den) l j ((List.getD (α:=List t'.den) l j []).set i y')) T' j U m | none=>.junk) else .junk
 | A=>A.setEl0 T t i y
def AVal.setHole (T:Nat) (s:Ty) (i:Nat) (x:List s.den) (V:Nat) (m:Bool):AVal → AVal :=
 AVal.mapOwn (fun t0 l0 T0 m0=>bif Nat.beq T T0 then (match Ty.cast (a:=.sl t0) (.sl (.sl s)) l0 with | some l1=>bif m0 then .ownh s (List.set (α:=List s.den) l1 i x) T i V m else .junk | none=>.junk) else .own t0 l0 T0 m0) (fun s T' t i p=>.eref s T' t i p)
def xS3 (t:Ty):AVal → Option (List t.den)
 | .own t' l _ _=>Ty.cast (a:=.sl t') (.sl t) l
 | .nn _=>some []
 | B=>AVal.as (.sl t) B
def xD5 (c:Ctx) (T d:Nat) (A B:AVal):Option (List Prop × AVal × Option Nat) :=
 match c.ty T with
 | .sl t =>
  bif !(Nat.blt 0 t.size) then none else
  match xS3 t B with
  | some l2 =>
   match A with
   | .nil=>some ([(l2.length:Int) ≤ 4294967296],.own t l2 d true,none)
   | .own t' l U m=>match Ty.cast (a:=.sl t') (.sl t) l with
    | some l1=>some ([((List.length (α:=t.den) l1 + l2.length:Nat):Int) ≤ 4294967296],.own t (List.append (α:=t.den) l1 l2) d m,some U)
    | none=>none
   | _=>none
  | none=>none
 | _=>none
def zV9 (gd:Gd) (sc:Operand) (want:Bool):AVal → AVal
 | .opt s w g A=>match sc with
  | .tmp c=>bif Nat.beq s c && (w == want) then A else zE7 gd (.opt s w g A)
  | _=>zE7 gd (.opt s w g A)
 | A=>A
def zI9 (gd:Gd) (A:AVal):AVal :=
 match gd with
 | none=>A
 | some (s,w,g)=>.opt s w g A
def yF9 (gd:Gd) (l:List Prop):List Prop :=
 match gd with
 | none=>l
 | some (_,_,g)=>l.map fun p=>g = true → p
def xQ9:AVal → Bool
 | .own _ _ _ m=>m | _=>false
def yB1 (c:Ctx) (T U:Nat) (t:Ty) (i:Int) (p:yH8) (t':Ty) (n:Nat) (U':Nat) (v:AVal) (S:St):Option (List Prop × St × Bool) :=
 match v with
 | .own s x V m=>bif Ty.beq t' t && Ty.beq (.sl s) t' && Nat.beq U' U && c.is T (.sl s) && p.isEmpty && !(Nat.beq V U) && !s.isL then
   some ([i < (n:Int)],zB6 U (AVal.setHole U s i.toNat x V m) S S,true) else none
 | _=>none
def zT6 (c:Ctx) (T:Nat) (A k v:AVal) (S:St):Option (List Prop × St × Bool) :=
 match A with
 | .eref _ U t i p=>match k with
  | .own t' l U' true=>bif xQ9 v then yB1 c T U t i p t' l.length U' v S else bif Ty.beq t' t && Nat.beq U' U && c.is T (t'.pty p) && AVal.fits (t'.pty p) v then
    (match AVal.as t' (AVal.put p (.val t' (List.getD (α:=t'.den) l i.toNat t'.dflt)) v) with
     | some y=>some ([i < (l.length:Int)],zB6 U (AVal.setEl U t' i.toNat y) S S,true)
     | none=>none) else none
  | _=>none
 | .rref s=>(match k,v with
  | .raw,.fn f cs=>bif c.fts.any (Nat.beq T) then (match zS3 s cs with | some caps=>some ([],[(s,.fptr f caps)],false) | none=>none) else none
  | _,_=>none)
 | A=>match xD2 c T A k v with | some u=>some ([],[u],false) | none=>none
def AVal.setMap (T:Nat) (k v:Ty) (x:k.den) (y:v.den):AVal → AVal :=
 AVal.mapOwn (fun t' l T' m=>bif Nat.beq T T' then (match Ty.cast (a:=.sl t') (.sl (xC7 k v)) l with | some l'=>.own (xC7 k v) (xL0 k v x y l') T' m | none=>.junk) else .own t' l T' m) (fun s T' t i p=>.eref s T' t i p)
def yI5 (c:Ctx) (T:Nat) (A B C:AVal) (S:St):Option (List Prop × St × Bool) :=
 match c.mapTy T with
 | some (k,v) =>
  match A with
  | .own t l U _ =>
   match Ty.cast (a:=.sl t) (.sl (xC7 k v)) l,AVal.as k B,AVal.as v C with
   | some _,some x,some y=>some ([],zB6 U (AVal.setMap U k v x y) S S,true)
   | _,_,_=>none
  | _=>none
 | none=>none
def zL2 (c:Ctx) (d T:Nat) (A B:AVal) (S:St):Option (List Prop × St × Bool) :=
 bif zD1 d S then
  (match xD5 c T d A B with
   | some (p,R,some U)=>some (p,(d,R) :: zB6 U (AVal.lose U) S S,true)
   | some (p,R,none)=>some (p,[(d,R)],true)
   | none=>none) else none
def zJ (c:Ctx) (gd:Gd) (dst:Option Nat) (f:Nat) (ys ks:List AVal) (S:St):Option (List Prop × St × Bool) :=
 match zK7 c.fns f (List.zipWith zC9 ys ks) with
 | none=>none
 | some co=>bif !(zT5 co.outs 0 (List.zipWith zC9 ys ks) && zF7 co.res && zI8 ys && zF ys (List.zipWith zC9 ys ks)) then none else match yF7 ys (List.zipWith zC9 ys ks) co.outs,co.eats with
  | some u,[] =>
   (match gd with
    | none=>(match dst with
     | none=>some (co.ok,u,false)
     | some d=>bif zD1 d S && zD1 (100000 + d) S && zD1 (200000 + d) S && zD1 (300000 + d) S then some (co.ok,(d,co.res.tagTo d) :: u,false) else none)
    | some _=>(match dst,u,co.res with
     | some d,[],.val τ x=>some (yF9 gd co.ok,[(d,zI9 gd (.val τ x))],false)
     | _,_,_=>none))
  | _,_=>none
def zO3:List Nat → Bool
 | []=>true
 | a :: r=>!(r.any (Nat.beq a)) && zO3 r
def zS1 (i:Nat):Nat:=400000 + 100 * i
def yL4 (i:Nat):AVal → List (Nat × Nat)
 | .ref s _ []=>[(s,i)]
 | _=>[]
def zO4:Nat → List AVal → List (Nat × Nat)
 | i,Y :: r=>yL4 i Y ++ zO4 (i + 1) r
 | _,[]=>[]
def lkB:List (Nat × Nat) → Nat → Option Nat
 | [],_=>none
 | (s,i) :: r,k=>bif Nat.beq s k then some i else lkB r k
def zX5 (HB:List (Nat × Nat)):List (Option (Nat × Ty)) → Option (List (Option (Nat × Ty)))
 | []=>some []
 | none :: r=>(match zX5 HB r with | some l=>some (none :: l) | none=>none)
 | some (k,τ) :: r=>(match lkB HB k,zX5 HB r with | some i,some l=>some (some (i,τ) :: l) | _,_=>none)
def zI6 (HB:List (Nat × Nat)) (wants:List Nat) (i:Nat):AVal → AVal → AVal
 | .ref _ τ [],.box τ' k=>bif Ty.beq τ' τ then .box τ (k.pos τ (zS1 i)) else .junk
 | .own t l _ m,_=>bif wants.any (Nat.beq i) then .own t l (zS1 i) m else bif m then .junk else .val (.sl t) l
 | .agg f a,_=>bif wants.any (Nat.beq i) then .agg f (a.pos f (zS1 i)) else match AVal.as (.st f) (.agg f a) with | some x=>.val (.st f) x | none=>.junk
 | .val τ x,_=>.val τ x
 | .nil,_=>.nil
 | .fn f cs,_=>bif cs.pureL then .fn f cs else .junk
 | .fptr f caps,_=>(match zX5 HB caps with | some l=>.fptr f l | none=>.junk)
 | _,_=>.junk
def yF2 (HB:List (Nat × Nat)) (wants:List Nat):Nat → List AVal → List AVal → List AVal
 | i,Y :: r,k :: s=>zI6 HB wants i Y k :: yF2 HB wants (i + 1) r s
 | _,_,_=>[]
def yX3 (wants:List Nat) (i:Nat):AVal → AVal → List (Nat × Nat)
 | .ref _ τ [],.box _ c=>c.tags τ (zS1 i)
 | .own _ _ T _,_=>bif wants.any (Nat.beq i) then [(T,zS1 i)] else []
 | .agg f c,_=>bif wants.any (Nat.beq i) then c.tags f (zS1 i) else []
 | _,_=>[]
def zX6 (wants:List Nat):Nat → List AVal → List AVal → List (Nat × Nat)
 | i,Y :: r,k :: s=>yX3 wants i Y k ++ zX6 wants (i + 1) r s
 | _,_,_=>[]
def xL3 (l:List (Nat × Nat)):Bool:=l.all fun p=>Nat.beq p.1 p.2
structure Bor where
 U:Nat
 T:Nat
 t:Ty
 l:List t.den
 l':List t.den
 m:Bool
def zG2:AVal → AVal → Option (List Bor)
 | .own t l U _,k=>(match k with
  | .own t' l' T m'=>(match Ty.cast (a:=.sl t') (.sl t) l' with | some l2=>bif Nat.blt 0 t.size then some [⟨U,T,t,l,l2,m'⟩] else none | none=>none)
  | _=>none)
 | .agg f c,k=>(match k with | .agg f' c'=>bif Ty.beq f f' then zG2 c c' else none | _=>none)
 | .cons a b,k=>(match k with | .cons a' b'=>(match zG2 a a',zG2 b b' with | some x,some y=>some (x ++ y) | _,_=>none) | _=>none)
 | .val _ _,_=>some []
 | .nil,_=>some []
 | .nl,_=>some []
 | _,_=>none
def zW:List Bor → Nat → Option Bor
 | [],_=>none
 | b :: r,T=>bif Nat.beq b.U T then some b else zW r T
def AVal.turn (bs:List Bor) (L:List Nat):AVal → AVal :=
 AVal.mapOwn (fun t l T m=>match zW bs T with
  | some b=>(match Ty.cast (a:=.sl b.t) (.sl t) b.l' with | some l2=>.own t l2 T b.m | none=>.junk)
  | none=>bif L.any (Nat.beq T) then (bif m then .junk else .val (.sl t) l) else .own t l T m)
  (fun s T t i p=>bif L.any (Nat.beq T) then .junk else .eref s T t i p)
def AVal.borAsks (bs:List Bor):AVal → List Prop
 | .own _ l T _=>match zW bs T with | some b=>[l.length = b.l.length] | none=>[]
 | .opt _ _ _ A=>A.borAsks bs
 | .box _ c=>c.borAsks bs
 | .cons a b=>a.borAsks bs ++ b.borAsks bs
 | .agg _ c=>c.borAsks bs
 | .tup c=>c.borAsks bs
 | .fn _ c=>c.borAsks bs
 | _=>[]
def zP1 (L:List Nat) (A:AVal):Bool:=L.any fun T=>A.hasTag T
def zI4 (bs:List Bor) (L:List Nat) (S:St):St → St
 | []=>[]
 | (s,_) :: r=>bif zP1 L (S.get s) then (s,(S.get s).turn bs L) :: zI4 bs L S r else zI4 bs L S r
def zT7 (bs:List Bor) (L:List Nat) (S:St):Nat → List Prop
 | 0=>[]
 | s + 1=>zT7 bs L S s ++ (bif zP1 L (S.get s) then (S.get s).borAsks bs else [])
def xP9 (Y:AVal) (i:Nat) (k:AVal):Option (St × List Bor × List (Nat × Nat)) :=
 match Y with
 | .ref s τ []=>bif AVal.fits τ k && xL3 (k.tags τ (zS1 i)) then some ([(s,.box τ (k.pos τ (zS1 s)))],[],k.tags τ (zS1 s)) else none
 | Y=>match zG2 Y k with | some bs=>some ([],bs,bs.map fun b=>(b.T,b.U)) | none=>none
def xD6 (ys:List AVal):List (Nat × AVal) → Option (St × List Bor × List (Nat × Nat))
 | []=>some ([],[],[])
 | (i,k) :: r =>
  match ys[i]?,xD6 ys r with
  | some Y,some (u,bs,K)=>(match xP9 Y i k with | some (u',bs',K')=>some (u' ++ u,bs' ++ bs,K' ++ K) | none=>none)
  | _,_=>none
def xS4 (dst:Option Nat):List (Nat × Nat) :=
 match dst with
 | some d=>[(0,d),(1,100000 + d),(2,200000 + d),(3,300000 + d)]
 | none=>[]
def xD7 (c:Ctx) (dst:Option Nat) (f:Nat) (ys:List AVal) (S:St):Option (List Prop × St × Bool) :=
 match zK7 c.fns f (yF2 (zO4 0 ys) (yA8 [] c.wants f) 0 ys (ys.map (zA4 S))) with
 | none=>none
 | some co=>match xD6 ys co.outs with
  | none=>none
  | some (u,bs,K) =>
   bif zT5 co.outs 0 (yF2 (zO4 0 ys) (yA8 [] c.wants f) 0 ys (ys.map (zA4 S))) && zF7 co.res && zF ys (yF2 (zO4 0 ys) (yA8 [] c.wants f) 0 ys (ys.map (zA4 S))) &&
    zO3 ((zO4 0 ys).map (·.1)) && zO3 ((zX6 (yA8 [] c.wants f) 0 ys (ys.map (zA4 S))).map (·.1)) && zO3 ((zX6 (yA8 [] c.wants f) 0 ys (ys.map (zA4 S))).map (·.2)) &&
    zO3 ((xS4 dst ++ K).map (·.1)) && zO3 ((xS4 dst ++ K).map (·.2)) && zO3 ((match dst with | some d=>[d] | none=>[]) ++ u.map (·.1)) then
    some (co.ok ++ (bs.map (fun b=>0 < b.l.length) ++ zT7 bs ((zX6 (yA8 [] c.wants f) 0 ys (ys.map (zA4 S))).map (·.1) ++ (xS4 dst ++ K).map (·.2)) S c.n),
     (match dst with | some d=>(d,co.res.tagTo d) :: u | none=>u) ++ zI4 bs ((zX6 (yA8 [] c.wants f) 0 ys (ys.map (zA4 S))).map (·.1) ++ (xS4 dst ++ K).map (·.2)) S S,true)
   else none
def AVal.lent:AVal → AVal:=AVal.mapOwn (fun t l _ _=>bif t.isL then .junk else .val (.sl t) l) (fun _ _ _ _ _=>.junk)
def yB2:AVal → AVal → AVal
 | .ref _ τ [],.box τ' k=>bif Ty.beq τ' τ then (match AVal.as τ k.lent with | some x=>.val (.ptr τ) x | none=>.junk) else .junk
 | .own t l _ _,_=>bif t.isL then .junk else .val (.sl t) l
 | .agg f a,_=>(match AVal.as (.st f) (.agg f a.lent) with | some x=>.val (.st f) x | none=>.junk)
 | .val τ x,_=>.val τ x
 | .nil,_=>.nil
 | .fn f cs,_=>bif cs.pureL then .fn f cs else .junk
 | _,_=>.junk
def yX4 (c:Ctx) (dst:Option Nat) (f:Nat) (ys ks:List AVal) (S:St):Option (List Prop × St × Bool) :=
 match zK7 c.fns f (List.zipWith yB2 ys ks) with
 | none=>none
 | some co=>match co.outs,dst with
  | [],some d=>bif zF7 co.res && co.res.scal && zD1 d S && zD1 (100000 + d) S && zD1 (200000 + d) S && zD1 (300000 + d) S then some (co.ok,[(d,co.res.tagTo d)],true) else none
  | _,_=>none
def yB3 (exts:List (Nat × (List AVal → Option (List Prop × AVal)))) (f:Nat) (ys:List AVal):Option (List Prop × AVal) :=
 match exts with
 | []=>none
 | (g,e) :: r=>bif Nat.beq g f then e ys else yB3 r f ys
def zS7 (c:Ctx) (gd:Gd) (dst:Option Nat) (f:Nat) (ys:List AVal):Option (List Prop × St × Bool) :=
 match yB3 c.exts f ys,dst with
 | some (p,.val τ x),some d=>some (yF9 gd p,[(d,zI9 gd (.val τ x))],false)
 | some (p,.tup a),some d=>match gd with | none=>bif zF7 (.tup a) && AVal.scal (.tup a) && !(a.hung d) then some (p,[(d,.tup a)],false) else none | some _=>none
 | _,_=>none
def zJ8 {α:Type} (x y:Option α):Option α:=match x with | some a=>some a | none=>y
def yU8 (c:Ctx) (gd:Gd) (dst:Option Nat) (f:Nat) (ys:List AVal) (S:St):Option (List Prop × St × Bool) :=
 match gd with
 | none=>zJ8 (yX4 c dst f ys (ys.map (zA4 S)) S) (xD7 c dst f ys S)
 | some _=>none
def yI6 (c:Ctx) (gd:Gd) (dst:Option Nat) (f:Nat) (ys:List AVal) (S:St):Option (List Prop × St × Bool) :=
 zJ8 (zS7 c gd dst f ys) (zJ8 (zJ c gd dst f ys (ys.map (zA4 S)) S) (yU8 c gd dst f ys S))
def zZ5 (gd:Gd) (dst:Option Nat) (x:Operand) (xs0:List AVal):Option (List Prop × St × Bool) :=
 match dst,xs0 with
 | some d,[C,A,B] =>
  match zE7 gd C,zV9 gd x true A,zV9 gd x false B with
  | .val .bool b,.val τ a,.val _ y=>match Ty.cast τ y with
   | some z=>some ([],[(d,zI9 gd (.val τ (cond b a z)))],false)
   | none=>none
  | _,_,_=>none
 | _,_=>none
def zT8:Op → Bool
 | .box _ _=>true | .alloc _=>true | .buildSlice _ _ _=>true | .makeSlice _ _ _=>true | .makeMap _ _=>true | _=>false
def gMk (gd:Gd) (d:Nat) (p:List Prop) (A:AVal) (S:St):Option (List Prop × St × Bool) :=
 match gd,A with
 | some q,.own t l T _=>bif zP0 d S && zD1 d S && Nat.beq T d && !t.isL then some (yF9 (some q) p,[(d,zI9 (some q) (.val (.sl t) l))],false) else none
 | _,_=>none
def zM3 (c:Ctx) (gd:Gd) (dst:Option Nat) (op:Op) (xs ks:List AVal) (S:St):Option (List Prop × St × Bool) :=
 match dst with
 | none=>none
 | some d=>match yF1 c d op xs ks with
  | none=>none
  | some (p,A) =>
   bif zT8 op then (bif gd.isNone && zP0 d S && zD1 d S then some (p,[(d,A)],false) else gMk gd d p A S)
   else some (yF9 gd p,[(d,zI9 gd A)],false)
def zS4:Op → Nat
 | .pick _ _ _=>0
 | .store _ _ _=>1
 | .mapUpdate _ _ _ _=>1
 | .call { callee:=.builtin .append,.. }=>2
 | .call { callee:=.value _,.. }=>3
 | .makeInterface _ _=>4
 | .panic _=>4
 | _=>5
def yQ2 (c:Ctx) (gd:Gd) (o:Oper) (S:St) (xs0 xs:List AVal):Option (List Prop × St × Bool) :=
 match zS4 o.op with
 | 0=>(match o.op with | .pick x _ _=>zZ5 gd o.dst x xs0 | _=>none)
 | 1=>(match gd,o.dst,o.op,xs with
  | none,none,.store T _ _,[A,v]=>zT6 c T A (zA4 S A) v S
  | none,none,.mapUpdate T _ _ _,[A,k,v]=>yI5 c T A k v S
  | _,_,_,_=>none)
 | 2=>(match gd,o.dst,o.op,xs with
  | none,some d,.call { argTypes,.. },[A,B]=>(match argTypes.toList with
   | [T,T']=>bif Nat.beq T T' then zL2 c d T A B S else none
   | _=>none)
  | _,_,_,_=>none)
 | 3=>(match xs with
  | .fn f cs :: r=>bif zI5 cs then yI6 c gd o.dst f (r ++ cs.toL) S else none
  | _=>none)
 | 4=>(match gd with | none=>some ([False],[],false) | some _=>none)
 | _=>zM3 c gd o.dst o.op xs ((xs.map (zA4 S)).map (zE7 gd)) S
def zX7 [GlobTab] (c:Ctx) (dsts:List (Option Nat)) (o:Oper) (S:St):Option (List Prop × St × Bool) :=
 match zL0 dsts S o.guard with
 | none=>none
 | some gd=>yQ2 c gd o S ((zC8 o.op).map (arg S)) (((zC8 o.op).map (arg S)).map (zE7 gd))
def xQ (c:Ctx) (S:St):St → Option St
 | (d,.own t l T true) :: u=>bif Nat.beq T d && !(c.wr.any (Nat.beq d)) then (bif zD1 T (u ++ S) && !t.isL then some ((d,.own t l T false) :: u) else none) else some ((d,.own t l T true) :: u)
 | u=>some u
def xT7:Op → Bool
 | .buildSlice _ _ _=>true
 | .makeSlice _ _ _=>true
 | .call { callee:=.builtin .append,.. }=>true
 | _=>false
def yQ3 [GlobTab] (c:Ctx) (dsts:List (Option Nat)) (o:Oper) (S:St):Option (List Prop × St × Bool) :=
 match zX7 c dsts o S with
 | none=>none
 | some (p,u,h)=>bif xT7 o.op then (match xQ c S u with | some u'=>some (p,u',h) | none=>none) else some (p,u,h)
def bare:AVal → AVal
 | .opt _ _ _ A=>A
 | A=>A
structure Tr where
 heavy:Bool
 rd:List Nat
 dst:Option Nat
 u:St
def yB4 (dsts:List (Option Nat)):Option (Nat × Bool) → List Nat
 | some (j,_)=>(match dsts[j]? with | some (some s)=>[s] | _=>[])
 | none=>[]
def yG [GlobTab] (dsts:List (Option Nat)) (o:Oper) (S:St) (u:St) (heavy:Bool):Tr :=
 ⟨heavy,zX4 (zC8 o.op) ++ (yB4 dsts o.guard ++ yI4 (xT5 o.op ((zC8 o.op).map (fun x=>bare (arg S x))))),o.dst,u⟩
def yX5 (u:St) (A:AVal):Bool:=u.any fun e=>A.hung e.1
def yM [GlobTab] (c:Ctx) (dsts:List (Option Nat)):List Oper → St → St → Option (List Prop × St × List Tr)
 | [],_,U=>some ([],U,[])
 | o :: r,S,U =>
  match yQ3 c dsts o (U ++ S) with
  | none=>none
  | some (p,u,h)=>bif (u ++ U).any (fun e=>yX5 u e.2) || !(u.all fun e=>Nat.blt e.1 c.n) then none else
   match yM c dsts r S (u ++ U) with
   | none=>none
   | some (p',u',t')=>some (p ++ p',u',yG dsts o (U ++ S) u h :: t')
def yX6:List Nat → List Nat → Bool
 | [],_=>true
 | a :: r,l=>!(l.any (Nat.beq a)) && yX6 r l
def yG0 (d:Nat) (A:AVal):Bool:=!(A.hasRef d) && (!(A.hasTag d) && (!(A.hasTag (100000 + d)) && (!(A.hasTag (200000 + d)) && !(A.hasTag (300000 + d)))))
def xL4 (d:Option Nat) (u u':St):Bool:=u'.all fun e=>!(yX5 u e.2) && (match d with | some d=>yG0 d e.2 | none=>true)
def yB5 (t t':Tr):Bool :=
 t.heavy || (t'.heavy || !(yX6 (t.u.map (·.1)) t'.rd && (yX6 (t.u.map (·.1)) (t'.u.map (·.1)) && (yX6 t.rd (t'.u.map (·.1)) && xL4 t.dst t.u t'.u))))
def zE (acc:List Nat):List Edge → Nat
 | []=>0
 | e :: r=>bif Region.binds .any e then Nat.lor (Nat.lor (Nat.pow 2 e.on) (acc.getD e.on 0)) (zE acc r) else zE acc r
def ahead:List Oper → List Nat → List Nat
 | [],acc=>acc
 | o :: r,acc=>ahead r (acc ++ [zE acc o.after.toList])
def zJ9:Nat → List Oper → Bool
 | _,[]=>true
 | i,o :: r=>o.after.toList.all (fun e=>!(Region.binds .any e) || Nat.blt e.on i) && zJ9 (i + 1) r
def zZ6 (bits:Nat) (t:Tr):Nat → List Tr → Bool
 | _,[]=>true
 | i,t' :: r=>(!(yB5 t' t) || Nat.testBit bits i) && zZ6 bits t (i + 1) r
def zP2 (trs:List Tr):List Nat → List Tr → Bool
 | b :: bs,t :: r=>zZ6 b t 0 trs && zP2 (trs ++ [t]) bs r
 | [],[]=>true
 | _,_=>false
def yX7 (k:Nat):AVal → Option Nat
 | .own _ _ T _=>some T
 | .box _ a=>match a.fld k with | .own _ _ T _=>some T | _=>none
 | .ownh _ _ _ _ U _=>some U
 | _=>none
def zF0 (k:Nat):AVal → AVal
 | .ownh t l T _ _ _=>.own (.sl t) l T true
 | .own t l T _=>bif t.isL then .junk else .own t l T false
 | .box τ (.agg f a)=>match a.nth k with
  | .own t l T _=>bif t.isL then .junk else bif ((a.gone T).setNth k (.own t l T false)).fitsT f then .box τ (.agg f ((a.gone T).setNth k (.own t l T false))) else .junk
  | _=>.junk
 | _=>.junk
def yX8 (s:Nat) (h:AVal → AVal) (S:St):St → St
 | []=>[]
 | (k,_) :: r=>bif (S.get k).hasRef s then (k,h (S.get k)) :: yX8 s h S r else yX8 s h S r
def yI7 (s:Nat) (τ:Ty) (x:τ.den):AVal → AVal
 | .ref s' τ' []=>bif Nat.beq s s' && Ty.beq τ' τ then .val (.ptr τ) x else .junk
 | _=>.junk
def yQ4 (S:St) (s:Nat):Option St :=
 match S.get s with
 | .box τ c=>(match AVal.as τ c with | some x=>some ((s,.val (.ptr τ) x) :: yX8 s (yI7 s τ x) S S) | none=>none)
 | _=>none
def xD8 (S:St):Nat × Nat × Nat × Nat → Option St
 | (kind,s,k,U) =>
  bif Nat.beq kind 3 then yQ4 S s else
  bif Nat.beq kind 4 then (bif Nat.beq k U then some [] else bif yF8 U S then some (zB6 k (AVal.retag k U) S S) else none) else
  bif Nat.beq kind 5 then some (zB6 k (AVal.lose k) S S) else
  match yX7 k (S.get s) with
  | none=>none
  | some T =>
   match kind with
   | 0=>bif Nat.beq T U then some [] else bif yF8 U S then some (zB6 T (AVal.retag T U) S S) else none
   | 1=>some ((s,zF0 k (S.get s)) :: zB6 T (AVal.gone T) S S)
   | _=>some (zB6 T (AVal.lose T) S S)
def yG1:List (Nat × Nat × Nat × Nat) → St → Option St
 | [],_=>some []
 | g :: r,S=>match xD8 S g with
  | none=>none
  | some u=>match yG1 r (u ++ S) with
   | none=>none
   | some u'=>some (u' ++ u)
def yQ5 [GlobTab] (c:Ctx) (gh:List (Nat × Nat × Nat × Nat)) (ops:List Oper) (draw:Bool) (S:St):Option (List Prop × St) :=
 bif S.any (fun e=>e.2.hasOpt) then none else
 match yM c (ops.map (·.dst)) ops S [] with
 | none=>none
 | some (p,u0,t) =>
  let u:=u0.map fun e=>(e.1,bif e.2.hasOpt then .junk else e.2)
  bif !draw || (zJ9 0 ops && zP2 [] (ahead ops []) t) then
   (match yG1 gh (u ++ S) with
    | some u'=>bif u'.all (fun e=>Nat.blt e.1 c.n) then some (p,u' ++ u) else none
    | none=>none)
  else none
def ovA (g:Bool) (t:Ty) (l:List t.den) (m:Bool) (τ':Ty) (y:τ'.den):AVal :=
 bif m then .junk else match Ty.cast (.sl t) y with | some z=>.val (.sl t) (cond g l z) | none=>.junk
def voA (g:Bool) (τ:Ty) (x:τ.den) (t:Ty) (l:List t.den) (m:Bool):AVal :=
 bif m then .junk else match Ty.cast (a:=.sl t) τ l with | some z=>.val τ (cond g x z) | none=>.junk
def zA0 (g:Bool):AVal → AVal → AVal
 | .val τ x,.val _ y=>match Ty.cast τ y with | some z=>.val τ (cond g x z) | none=>.junk
 | .nil,.nil=>.nil
 | .nil,.val (.sl t) y=>.val (.sl t) (cond g [] y)
 | .val (.sl t) x,.nil=>.val (.sl t) (cond g x [])
 | .nil,.own t l T m=>bif t.plain && !t.isL then .own t (cond g [] l) T m else .junk
 | .own t l T m,.nil=>bif t.plain && !t.isL then .own t (cond g l []) T m else .junk
 | .own t l _ m,.val τ' y=>ovA g t l m τ' y
 | .val τ x,.own t l _ m=>voA g τ x t l m
 | .own t l T m,.own t' l' T' m'=>bif Nat.beq T T' && (m == m') then (match Ty.cast (a:=.sl t') (.sl t) l' with | some l2=>.own t (cond g l l2) T m | none=>.junk) else .junk
 | .box τ a,.box τ' b=>bif Ty.beq τ τ' && AVal.fits τ (zA0 g a b) then .box τ (zA0 g a b) else .junk
 | .ref s τ [],.ref s' τ' []=>bif Nat.beq s s' && Ty.beq τ τ' then .ref s τ [] else .junk
 | .nl,.nl=>.nl
 | .cons a b,.cons a' b'=>.cons (zA0 g a a') (zA0 g b b')
 | .agg f a,.agg f' b=>bif Ty.beq f f' && AVal.fits f (zA0 g a b) then .agg f (zA0 g a b) else .junk
 | .agg f a,.val (.st f') y=>match AVal.as (.st f') (.agg f a) with | some x=>.val (.st f') (cond g x y) | none=>.junk
 | .val (.st f) x,.agg f' b=>match AVal.as (.st f) (.agg f' b) with | some y=>.val (.st f) (cond g x y) | none=>.junk
 | .tup a,.tup b=>.tup (zA0 g a b)
 | _,_=>.junk
def St.has (s:Nat) (S:St):Bool:=S.any fun e=>Nat.beq e.1 s
def yG2 (g:Bool) (d1 d2 S:St):St → St
 | []=>[]
 | (s,_) :: r=>(s,bif Nat.beq s zA9 then .junk else zA0 g (St.get (d1 ++ S) s) (St.get (d2 ++ S) s)) :: yG2 g d1 d2 S r
def yB6 (d:St):St:=d.filter fun e=>!(Nat.beq e.1 zA9)
def zK (d:St):St:=d.filter fun e=>Nat.beq e.1 zA9
def zK8 (g:Bool) (d1 d2 S:St):St:=yG2 g d1 d2 S (yB6 d1 ++ (yB6 d2 ++ (zK d1 ++ zK d2)))
def zA3 (k:Nat):List Comp → Option Comp
 | []=>none
 | x :: r=>bif Nat.beq x.kind k then some x else zA3 k r
def zH1 (k:Nat) (l:List Comp):List Comp:=l.filter fun x=>!(Nat.beq x.kind k)
def gor (a b:Option Bool):Option Bool :=
 match a,b with
 | some x,some y=>some (x || y)
 | _,_=>none
def zS8 (t:Bool) (x y:Option Comp):Option Bool :=
 match x,y with
 | some a,some b=>(match a.g,b.g with | none,none=>none | ga,gb=>some (cond t (ga.getD true) (gb.getD true)))
 | some a,none=>yI a.g (some t)
 | none,some b=>yI b.g (some (!t))
 | none,none=>none
def xD9 (t:Bool) (S:St) (la lb:List Comp):List Comp → List Comp
 | []=>[]
 | x :: r =>
  {kind:=x.kind,g:=zS8 t (zA3 x.kind la) (zA3 x.kind lb),
   d:=match zA3 x.kind la,zA3 x.kind lb with
    | some a,some b=>zK8 t a.d b.d S
    | some a,none=>a.d
    | none,some b=>b.d
    | none,none=>[] } :: xD9 t S la lb r
def xE:List Prop → Prop
 | []=>True
 | [p]=>p
 | p :: r=>p ∧ xE r
def xT8 (b:Prop):List Prop → List Prop
 | []=>[]
 | p :: r=>[b → xE (p :: r)]
def imp (g:Option Bool) (l:List Prop):List Prop :=
 match g with
 | none=>l
 | some b=>xT8 (b = true) l
def zW0 (t:Bool) (S:St) (a b:Out):Out :=
 {ok:=xT8 (t = true) a.ok ++ xT8 (t = false) b.ok,
  comps:=xD9 t S a.comps b.comps (a.comps ++ b.comps.filter fun x=>(zA3 x.kind a.comps).isNone) }
def xS5 (n:Comp) (S:St) (la:List Comp):List Comp → List Comp
 | []=>[]
 | x :: r =>
  (match zA3 x.kind la with
   | some a=>{ kind:=x.kind,g:=gor a.g (yI n.g x.g),d:=zK8 (a.g.getD true) a.d (x.d ++ n.d) S }
   | none=>{ kind:=x.kind,g:=yI n.g x.g,d:=x.d ++ n.d }) :: xS5 n S la r
def yG3 (n:Comp) (S:St) (a b:Out):Out :=
 {ok:=a.ok ++ imp n.g b.ok,
  comps:=xS5 n S (zH1 0 a.comps) b.comps ++ (zH1 0 a.comps).filter fun x=>(zA3 x.kind b.comps).isNone }
def zZ7 (id:Nat) (S:St) (a:Out):Out :=
 match zA3 0 a.comps,zA3 (id + 2) a.comps with
 | _,none=>a
 | none,some e=>{ a with comps:={ e with kind:=0 } :: zH1 (id + 2) a.comps }
 | some n,some e=>{ a with comps:={ kind:=0,g:=gor e.g n.g,d:=zK8 (e.g.getD true) e.d n.d S } :: zH1 0 (zH1 (id + 2) a.comps) }
def zE1:Code → Nat
 | .region id _ _=>id
 | .seq a _=>zE1 a
 | .block _ a=>zE1 a
 | .loop a=>zE1 a
 | .scope a=>zE1 a
 | _=>0
def eval [GlobTab] (c:Ctx):Code → St → Option Out
 | .skip,_=>some { ok:=[],comps:=[⟨0,none,[]⟩] }
 | .region id ops draw,S=>match yG1 (yA8 [] c.gh (2 * id)) S with
  | none=>none
  | some v=>bif !(v.all (fun e=>Nat.blt e.1 c.n)) then none else match yQ5 c (yA8 [] c.gh (2 * id + 1)) ops.toList draw (v ++ S) with
   | some (p,u)=>some { ok:=p,comps:=[⟨0,none,u ++ v⟩] }
   | none=>none
 | .seq a b,S=>match eval c a S with
  | none=>none
  | some oa=>match zA3 0 oa.comps with
   | none=>some oa
   | some n=>match eval c b (n.d ++ S) with
    | none=>none
    | some ob=>some (yG3 n S oa ob)
 | .cond x a b,S=>match arg S x with
  | .val .bool t=>match eval c a S,eval c b S with
   | some oa,some ob=>some (zW0 t S oa ob)
   | _,_=>none
  | _=>none
 | .block id a,S=>match eval c a S with
  | some oa=>some (zZ7 id S oa)
  | none=>none
 | .loop a,S=>yA8 (fun _=>none) c.loops (zE1 a) S
 | .exit id,_=>some { ok:=[],comps:=[⟨id + 2,none,[]⟩] }
 | .ret,_=>some { ok:=[],comps:=[⟨1,none,[]⟩] }
 | _,_=>none
end Go.Am
namespace Go.Am
open Go Go.RowKit
def zG5 (s:Nat):Nat:=2 * s + 4
def zB2 (T:Nat):Nat:=2 * T + 5
def yI8 (χ:Nat → Nat → Nat) (w:World) (b o:Nat) (vs:List Value):Prop :=
 ∀ j v,vs[j]? = some v → w.cell? ⟨b,o + j,none⟩ = some v ∧ χ b (o + j) = 0
def zJ5 {α:Type} (R:α → List Value → Prop):List α → List Value → Prop
 | [],us=>us = []
 | x :: l,us=>∃ vs ws,us = vs ++ ws ∧ R x vs ∧ zJ5 R l ws
def zB (χ:Nat → Nat → Nat) (w:World):(τ:Ty) → τ.den → List Value → Prop
 | .int k,x,vs=>vs = [.int k x]
 | .bool,x,vs=>vs = [.bool x]
 | .str,x,vs=>vs = [.string ⟨List.toArray x⟩]
 | .nl,_,vs=>vs = []
 | .cons h t,x,vs=>∃ us ws,vs = us ++ ws ∧ zB χ w h x.1 us ∧ zB χ w t x.2 ws
 | .st f,x,vs=>zB χ w f x vs
 | .arr n t,l,vs=>List.length (α:=t.den) l = n ∧ zJ5 (zB χ w t) l vs
 | .sl t,l,vs=>∃ a cap,vs = [.slice a (List.length (α:=t.den) l) cap] ∧ (l = ([]:List t.den) ∨ ∃ b o us,a = some ⟨b,o,none⟩ ∧ List.length (α:=t.den) l ≤ cap ∧ zJ5 (zB χ w t) l us ∧ yI8 χ w b o us)
 | .ptr t,x,vs=>∃ b o us,vs = [.pointer (some ⟨b,o,none⟩)] ∧ zB χ w t x us ∧ yI8 χ w b o us
def zO5 (χ:Nat → Nat → Nat) (w:World) (τ:Ty) (x:τ.den) (v:Value):Prop :=
 ∃ vs,zB χ w τ x vs ∧ (bif τ.isAgg then v = .agg vs.toArray else vs = [v])
structure Gh where
 χ:Nat → Nat → Nat
 β:Nat → Nat
 γ:Nat → Nat
def yB7 (t:Ty):Prop:=t.plain = true ∧ t.isL = false
def yX9 (G:Gh) (w:World) (t:Ty) (l:List t.den) (T:Nat) (m:Bool) (v:Value):Prop :=
 yB7 t ∧ ((v = .slice none 0 0 ∧ l = []) ∨
 ∃ cap cur e us,v = .slice (some ⟨G.γ T,0,none⟩) l.length cap ∧ w.heap[G.γ T]? = some (.cells cur e (0,0)) ∧ l.length ≤ cap ∧ cap ≤ maxLen ∧ cur.size = cap * t.size ∧
  zJ5 (zB G.χ w t) l us ∧ cur.toList.take (l.length * t.size) = us ∧ (∀ o,G.χ (G.γ T) o = if m = false ∧ o < l.length * t.size then 0 else zB2 T))
def yM0 (χ:Nat → Nat → Nat) (w:World) (k v:Ty):List (k.den × v.den × Unit) → List MapEntry → Prop
 | [],es=>es = []
 | x :: l,es=>∃ e r,es = e :: r ∧ zO5 χ w k x.1 e.key ∧ zO5 χ w v x.2.1 e.val ∧ yM0 χ w k v l r
def xL5 (G:Gh) (w:World) (k e:Ty) (l:List (k.den × e.den × Unit)) (T:Nat) (v:Value):Prop :=
 ∃ es clock,v = .map (some (G.γ T)) ∧ w.heap[G.γ T]? = some (.map es clock) ∧ yM0 G.χ w k e l es.toList ∧ ∀ o,G.χ (G.γ T) o = zB2 T
def xS6 (G:Gh) (w:World) (t:Ty) (l:List t.den) (T:Nat) (v:Value):Prop :=
 ∃ k e,∃ l':List (k.den × e.den × Unit),t = xC7 k e ∧ HEq l l' ∧ xL5 G w k e l' T v
def zF8 (G:Gh) (w:World) (t:Ty) (l:List t.den) (T:Nat) (m:Bool) (v:Value):Prop:=yX9 G w t l T m v ∨ (m = true ∧ xS6 G w t l T v)
def zA2 (G:Gh) (w:World) (τ:Ty):AVal → List Value → Prop
 | .val τ' x,vs=>τ' = τ ∧ τ'.isL = false ∧ zB G.χ w τ' x vs
 | .nil,vs=>τ.isSl = true ∧ vs = [.slice none 0 0]
 | .own t l T m,vs=>τ = .sl t ∧ ∃ v,vs = [v] ∧ zF8 G w t l T m v
 | .agg f c,vs=>τ = .st f ∧ zA2 G w f c vs
 | .nl,vs=>τ = .nl ∧ vs = []
 | .cons a b,vs=>∃ h t us ws,τ = .cons h t ∧ vs = us ++ ws ∧ zA2 G w h a us ∧ zA2 G w t b ws
 | _,_=>False
def xW4 (G:Gh) (w:World) (s:Nat) (τ:Ty) (c:AVal):Prop :=
 yB7 τ ∧ ∃ cur e,w.heap[G.β s]? = some (.cells cur e (0,0)) ∧ zA2 G w τ c cur.toList ∧ ∀ o,G.χ (G.β s) o = zG5 s
def zD5:Ty → yH8 → Prop
 | _,[]=>True
 | .st f,.inl k :: p=>k < f.flen ∧ zD5 (f.fty k) p
 | .arr n t,.inr i :: p=>0 ≤ i ∧ i < (n:Int) ∧ zD5 t p
 | _,_=>False
def yL5 (G:Gh) (v:Value):Option (Nat × Ty) → Value
 | some (k,_)=>.pointer (some ⟨G.β k,0,none⟩)
 | none=>v
def xS7 (G:Gh) (w:World) (t:Ty) (l:List (List t.den)) (T i U:Nat) (m:Bool) (v:Value):Prop :=
 yB7 t ∧ T ≠ U ∧ ((v = .slice none 0 0 ∧ l = []) ∨ ∃ cap cur e,v = .slice (some ⟨G.γ T,0,none⟩) (List.length (α:=List t.den) l) cap ∧ w.heap[G.γ T]? = some (.cells cur e (0,0)) ∧ List.length (α:=List t.den) l ≤ cap ∧ cap ≤ maxLen ∧ cur.size = cap ∧ (∀ o,G.χ (G.γ T) o = zB2 T) ∧
  ∀ (j:Nat) (x:List t.den),l[j]? = some x → ∃ u,cur.toList[j]? = some u ∧ if j = i then yX9 G w t x U m u else zB G.χ w (.sl t) x [u])
def zA (G:Gh) (w:World) (tm:Array Value):Option Nat → AVal → Value → Prop
 | _,.junk,_=>True
 | _,.val τ x,v=>zO5 G.χ w τ x v
 | _,.opt s' want g A,v=>(tm.getD s' undef = .bool want ↔ g = true) ∧ (g = true → zA G w tm none A v) ∧ (g = false → v = undef)
 | _,.nil,v=>v = .slice none 0 0
 | _,.nn b,v=>∃ a cap,v = .slice a 0 cap ∧ a.isNone = b
 | _,.own t l T m,v=>zF8 G w t l T m v
 | some s,.box τ c,v=>v = .pointer (some ⟨G.β s,0,none⟩) ∧ xW4 G w s τ c
 | none,.box _ _,_=>False
 | _,.ref s' τ p,v=>zD5 τ p ∧ v = .pointer (some ⟨G.β s',τ.poff p,none⟩)
 | _,.eref _ T t i p,v=>0 ≤ i ∧ zD5 t p ∧ v = .pointer (some ⟨G.γ T,i.toNat * t.size + t.poff p,none⟩)
 | _,.agg f c,v=>∃ vs,v = .agg vs.toArray ∧ zA2 G w f c vs
 | _,.nl,v=>v = .tuple #[]
 | _,.cons a b,v=>∃ x xs,v = .tuple (x :: xs).toArray ∧ zA G w tm none a x ∧ zA G w tm none b (.tuple xs.toArray)
 | _,.tup c,v=>zA G w tm none c v
 | _,.fn f c,v=>∃ vs,v = .func (.func f) #[] vs ∧ zA G w tm none c (.tuple vs)
 | some s,.raw,v=>v = .pointer (some ⟨G.β s,0,none⟩) ∧ ∃ u e,w.heap[G.β s]? = some (.cells #[u] e (0,0)) ∧ ∀ o,G.χ (G.β s) o = zG5 s
 | none,.raw,_=>False
 | _,.rref s',v=>v = .pointer (some ⟨G.β s',0,none⟩)
 | _,.ownh t l T i U m,v=>xS7 G w t l T i U m v
 | _,.fptr f caps,v=>∃ b,v = .pointer (some ⟨b,0,none⟩) ∧ G.χ b 0 = 0 ∧ w.cell? ⟨b,0,none⟩ = some (.func (.func f) #[] (caps.map (yL5 G v)).toArray)
structure Ext (X Y:Nat → Prop) (G:Gh) (w:World) (G':Gh) (w':World):Prop where
 prot:∀ b o,b < w.heap.size → G.χ b o = 0 → G'.χ b o = 0 ∧ w'.cell? ⟨b,o,none⟩ = w.cell? ⟨b,o,none⟩
 block:∀ b,b < w.heap.size → (∀ o,¬ X (G.χ b o)) → w'.heap[b]? = w.heap[b]? ∧ ∀ o,G'.χ b o = G.χ b o
 size:w.heap.size ≤ w'.heap.size
 box:∀ s,¬ Y (zG5 s) → G'.β s = G.β s
 tag:∀ T,¬ Y (zB2 T) → G'.γ T = G.γ T
 sub:∀ n,Y n → X n
def GlobOk [GlobTab] (χ:Nat → Nat → Nat) (w:World):Prop :=
 ∀ g τ (x:τ.den),(g,⟨τ,x⟩) ∈ GlobTab.tab → ∃ vs,zB χ w τ x vs ∧ yI8 χ w g 0 vs
structure Frame0 (χ0:Nat → Nat → Nat) (w0:World) (χ:Nat → Nat → Nat) (w:World):Prop where
 os:w.os = w0.os
 tape:w.tape = w0.tape
 output:w.output = w0.output
 size:w0.heap.size ≤ w.heap.size
 block:∀ b,b < w0.heap.size → (∀ o,χ0 b o ≤ 1) → w.heap[b]? = w0.heap[b]?
 cell:∀ b o,b < w0.heap.size → χ0 b o ≤ 1 → χ b o = χ0 b o ∧ w.cell? ⟨b,o,none⟩ = w0.cell? ⟨b,o,none⟩
structure Rel [GlobTab] (n:Nat) (χ0:Nat → Nat → Nat) (w0:World) (S:St) (a:Act) (w:World) (G:Gh):Prop where
 len:a.tmps.size = n
 defers:a.defers = []
 reps:∀ s,zA G w a.tmps (some s) (S.get s) (a.tmps.getD s undef)
 frame:Frame0 χ0 w0 G.χ w
 glob:GlobOk G.χ w
theorem zC5 {α:Type} {R R':α → List Value → Prop} (h:∀ x vs,R x vs → R' x vs):∀ {l us},zJ5 R l us → zJ5 R' l us:=by
 intro l
 induction l with
 | nil=>intro us hu; exact hu
 | cons x l ih=>rintro us ⟨vs,ws,rfl,hx,hl⟩; exact ⟨vs,ws,rfl,h _ _ hx,ih hl⟩
theorem zB3 {α:Type} {R:α → List Value → Prop} {k:Nat} (h:∀ x vs,R x vs → vs.length = k):∀ {l us},zJ5 R l us → us.length = l.length * k:=by
 intro l
 induction l with
 | nil=>intro us hu; simp [zJ5] at hu; simp [hu]
 | cons x l ih=>rintro us ⟨vs,ws,rfl,hx,hl⟩; simp [h _ _ hx,ih hl,Nat.add_mul,Nat.add_comm]
theorem zA1 {χ:Nat → Nat → Nat} {w:World}:∀ {τ:Ty} {x:τ.den} {vs:List Value},zB χ w τ x vs → vs.length = τ.size:=by
 intro τ
 induction τ with
 | int k=>intro x vs h; simp only [zB] at h; simp [h,Ty.size]
 | bool=>intro x vs h; simp only [zB] at h; simp [h,Ty.size]
 | str=>intro x vs h; simp only [zB] at h; simp [h,Ty.size]
 | nl=>intro x vs h; simp only [zB] at h; simp [h,Ty.size]
 | cons a b ha hb=>intro x vs h; simp only [zB] at h; obtain ⟨us,ws,rfl,h1,h2⟩:=h; simp [ha h1,hb h2,Ty.size]
 | st f hf=>intro x vs h; simp only [zB] at h; simp [hf h,Ty.size]
 | arr n t ht=>intro x vs h; simp only [zB] at h; obtain ⟨h1,h2⟩:=h; have:=zB3 (k:=t.size) (fun _ _ h=>ht h) h2; rw [this,h1]; rfl
 | sl t ht=>intro x vs h; simp only [zB] at h; obtain ⟨a,cap,rfl,_⟩:=h; simp [Ty.size]
 | ptr t ht=>intro x vs h; simp only [zB] at h; obtain ⟨b,o,us,rfl,_⟩:=h; simp [Ty.size]
theorem zW1 {χ χ':Nat → Nat → Nat} {w w':World} (h:∀ b o,b < w.heap.size → χ b o = 0 → χ' b o = 0 ∧ w'.cell? ⟨b,o,none⟩ = w.cell? ⟨b,o,none⟩)
  {b o:Nat} {vs:List Value} (hc:yI8 χ w b o vs):yI8 χ' w' b o vs:=by
 intro j v hv
 obtain ⟨h1,h2⟩:=hc j v hv
 have hb:b < w.heap.size:=by
  by_cases hb:b < w.heap.size
  ·exact hb
  ·have:w.heap[b]? = none:=Array.getElem?_eq_none (by omega)
   simp [World.cell?,this] at h1
 have:=h _ _ hb h2
 exact ⟨by rw [this.2]; exact h1,this.1⟩
theorem zA7 {χ χ':Nat → Nat → Nat} {w w':World} (h:∀ b o,b < w.heap.size → χ b o = 0 → χ' b o = 0 ∧ w'.cell? ⟨b,o,none⟩ = w.cell? ⟨b,o,none⟩) :
  ∀ {τ:Ty} {x:τ.den} {vs:List Value},zB χ w τ x vs → zB χ' w' τ x vs:=by
 intro τ
 induction τ with
 | int k=>intro x vs hc; exact hc
 | bool=>intro x vs hc; exact hc
 | str=>intro x vs hc; exact hc
 | nl=>intro x vs hc; exact hc
 | cons a b ha hb=>intro x vs hc; simp only [zB] at hc ⊢; obtain ⟨us,ws,rfl,h1,h2⟩:=hc; exact ⟨us,ws,rfl,ha h1,hb h2⟩
 | st f hf=>intro x vs hc; simp only [zB] at hc ⊢; exact hf hc
 | arr n t ht=>intro x vs hc; simp only [zB] at hc ⊢; exact ⟨hc.1,zC5 (fun _ _ h=>ht h) hc.2⟩
 | sl t ht =>
  intro x vs hc; simp only [zB] at hc ⊢
  obtain ⟨a,cap,rfl,hc⟩:=hc
  refine ⟨a,cap,rfl,?_⟩
  rcases hc with hc | ⟨b,o,us,h1,h2,h3,h4⟩
  ·exact .inl hc
  ·exact .inr ⟨b,o,us,h1,h2,zC5 (fun _ _ h=>ht h) h3,zW1 h h4⟩
 | ptr t ht =>
  intro x vs hc; simp only [zB] at hc ⊢
  obtain ⟨b,o,us,rfl,h1,h2⟩:=hc
  exact ⟨b,o,us,rfl,ht h1,zW1 h h2⟩
theorem zG [GlobTab] {χ χ':Nat → Nat → Nat} {w w':World} (h:∀ b o,b < w.heap.size → χ b o = 0 → χ' b o = 0 ∧ w'.cell? ⟨b,o,none⟩ = w.cell? ⟨b,o,none⟩)
  (hc:GlobOk χ w):GlobOk χ' w':=by
 intro g τ x hm
 obtain ⟨vs,h1,h2⟩:=hc g τ x hm
 exact ⟨vs,zA7 h h1,zW1 h h2⟩
theorem zD {χ χ':Nat → Nat → Nat} {w w':World} (h:∀ b o,b < w.heap.size → χ b o = 0 → χ' b o = 0 ∧ w'.cell? ⟨b,o,none⟩ = w.cell? ⟨b,o,none⟩)
  {τ:Ty} {x:τ.den} {v:Value} (hc:zO5 χ w τ x v):zO5 χ' w' τ x v:=by
 obtain ⟨vs,h1,h2⟩:=hc
 exact ⟨vs,zA7 h h1,h2⟩
theorem Ext.refl (X:Nat → Prop) (G:Gh) (w:World):Ext X X G w G w:=⟨fun _ _ _ h=>⟨h,rfl⟩,fun _ _ _=>⟨rfl,fun _=>rfl⟩,Nat.le_refl _,fun _ _=>rfl,fun _ _=>rfl,fun _ h=>h⟩
def AVal.names (X Y:Nat → Prop):Option Nat → AVal → Prop
 | _,.own _ _ T _=>X (zB2 T)
 | _,.opt _ _ _ A=>A.names X Y none
 | some s,.box _ c=>X (zG5 s) ∨ c.names X Y none
 | none,.box _ c=>c.names X Y none
 | _,.ref s' _ _=>Y (zG5 s')
 | _,.eref _ T _ _ _=>Y (zB2 T)
 | _,.ownh _ _ T _ U _=>X (zB2 T) ∨ X (zB2 U)
 | _,.cons a b=>a.names X Y none ∨ b.names X Y none
 | _,.agg _ c=>c.names X Y none
 | _,.tup c=>c.names X Y none
 | _,.fn _ c=>c.names X Y none
 | some s,.raw=>X (zG5 s)
 | _,.rref s'=>Y (zG5 s')
 | _,.fptr _ caps=>∃ k τ,some (k,τ) ∈ caps ∧ Y (zG5 k)
 | _,_=>False
theorem zF3 {w:World} {b:Nat} {o:Obj} (h:w.heap[b]? = some o):b < w.heap.size:=(Array.getElem?_eq_some_iff.1 h).1
theorem yB8 {χ χ':Nat → Nat → Nat} {w w':World} (h:∀ b o,b < w.heap.size → χ b o = 0 → χ' b o = 0 ∧ w'.cell? ⟨b,o,none⟩ = w.cell? ⟨b,o,none⟩) {k v:Ty} :
  ∀ {l:List (k.den × v.den × Unit)} {es:List MapEntry},yM0 χ w k v l es → yM0 χ' w' k v l es:=by
 intro l
 induction l with
 | nil=>intro es h; exact h
 | cons x l ih=>rintro es ⟨e,r,rfl,h1,h2,h3⟩; exact ⟨e,r,rfl,zD h h1,zD h h2,ih h3⟩
theorem yI9 {X Y:Nat → Prop} {G G':Gh} {w w':World} (hx:Ext X Y G w G' w') (h0:¬ X 0) {t:Ty} {l:List t.den} {T:Nat} {m:Bool} {v:Value} (hn:¬ X (zB2 T))
  (h:yX9 G w t l T m v):yX9 G' w' t l T m v:=by
 refine ⟨h.1,?_⟩
 rcases h.2 with h | ⟨cap,cur,e,us,h1,h2,h3,h4,h5,h6,h7,h8⟩
 ·exact .inl h
 ·have hb:=hx.block (G.γ T) (zF3 h2) (fun o=>by rw [h8 o]; split <;> assumption)
  have hg:=hx.tag T (fun h=>hn (hx.sub _ h))
  refine .inr ⟨cap,cur,e,us,by rw [hg]; exact h1,by rw [hg,hb.1]; exact h2,h3,h4,h5,zC5 (fun _ _ h=>zA7 hx.prot h) h6,h7,fun o=>?_⟩
  rw [hg,hb.2 o]; exact h8 o
theorem xL6 {X Y:Nat → Prop} {G G':Gh} {w w':World} (hx:Ext X Y G w G' w') (h0:¬ X 0) {t:Ty} {l:List (List t.den)} {T i U:Nat} {m:Bool} {v:Value} (hT:¬ X (zB2 T)) (hU:¬ X (zB2 U))
  (h:xS7 G w t l T i U m v):xS7 G' w' t l T i U m v:=by
 obtain ⟨hv,hne,h | ⟨cap,cur,e,h1,h2,h3,h4,h5,h6,h7⟩⟩:=h
 ·exact ⟨hv,hne,.inl h⟩
 have hb:=hx.block (G.γ T) (zF3 h2) (fun o=>by rw [h6 o]; exact hT)
 have hg:=hx.tag T (fun h=>hT (hx.sub _ h))
 refine ⟨hv,hne,.inr ⟨cap,cur,e,by rw [hg]; exact h1,by rw [hg,hb.1]; exact h2,h3,h4,h5,fun o=>by rw [hg,hb.2 o]; exact h6 o,fun j x hj=>?_⟩⟩
 obtain ⟨u,hu,hr⟩:=h7 j x hj
 refine ⟨u,hu,?_⟩
 split
 ·rename_i e; rw [if_pos e] at hr; exact yI9 hx h0 hU hr
 ·rename_i e; rw [if_neg e] at hr; exact zA7 hx.prot hr
theorem xL7 {X Y:Nat → Prop} {G G':Gh} {w w':World} (hx:Ext X Y G w G' w') {t:Ty} {l:List t.den} {T:Nat} {v:Value} (hn:¬ X (zB2 T))
  (h:xS6 G w t l T v):xS6 G' w' t l T v:=by
 obtain ⟨k,e,l',ht,hl,es,clock,h1,h2,h3,h4⟩:=h
 have hb:=hx.block (G.γ T) (zF3 h2) (fun o=>by rw [h4 o]; exact hn)
 have hg:=hx.tag T (fun h=>hn (hx.sub _ h))
 exact ⟨k,e,l',ht,hl,es,clock,by rw [hg]; exact h1,by rw [hg,hb.1]; exact h2,yB8 hx.prot h3,fun o=>by rw [hg,hb.2 o]; exact h4 o⟩
theorem zE9 {X Y:Nat → Prop} {G G':Gh} {w w':World} (hx:Ext X Y G w G' w') (h0:¬ X 0) {t:Ty} {l:List t.den} {T:Nat} {m:Bool} {v:Value} (hn:¬ X (zB2 T))
  (h:zF8 G w t l T m v):zF8 G' w' t l T m v:=h.imp (yI9 hx h0 hn) fun h=>⟨h.1,xL7 hx hn h.2⟩
theorem xE0 {G G':Gh} {w w':World} {t:Ty} {l:List t.den} {T U:Nat} {v:Value} (hγ:G'.γ U = G.γ T) (hh:w'.heap[G.γ T]? = w.heap[G.γ T]?)
  (hp:∀ b o,b < w.heap.size → G.χ b o = 0 → G'.χ b o = 0 ∧ w'.cell? ⟨b,o,none⟩ = w.cell? ⟨b,o,none⟩) (hc:(∀ o,G.χ (G.γ T) o = zB2 T) → ∀ o,G'.χ (G.γ T) o = zB2 U) (h:xS6 G w t l T v):xS6 G' w' t l U v:=by
 obtain ⟨k,e,l',ht,hl,es,clock,h1,h2,h3,h4⟩:=h
 exact ⟨k,e,l',ht,hl,es,clock,by rw [hγ]; exact h1,by rw [hγ,hh]; exact h2,yB8 hp h3,fun o=>by rw [hγ]; exact hc h4 o⟩
theorem zT9 {G G':Gh} {w w':World} {t:Ty} {l:List t.den} {T U:Nat} {m:Bool} {v:Value} (hs:yX9 G w t l T m v → yX9 G' w' t l U m v) (hγ:G'.γ U = G.γ T) (hh:w'.heap[G.γ T]? = w.heap[G.γ T]?)
  (hp:∀ b o,b < w.heap.size → G.χ b o = 0 → G'.χ b o = 0 ∧ w'.cell? ⟨b,o,none⟩ = w.cell? ⟨b,o,none⟩) (hc:xS6 G w t l T v → (∀ o,G.χ (G.γ T) o = zB2 T) → ∀ o,G'.χ (G.γ T) o = zB2 U) (h:zF8 G w t l T m v):zF8 G' w' t l U m v :=
 h.imp hs fun h=>⟨h.1,xE0 hγ hh hp (hc h.2) h.2⟩
theorem yY {G:Gh} {w:World} {t:Ty} {l:List t.den} {T:Nat} {v:Value} (h:zF8 G w t l T false v):yX9 G w t l T false v:=h.elim id fun h=>(by cases h.1)
theorem zB5 {G:Gh} {w:World} {t:Ty} {l:List t.den} {T:Nat} {m:Bool} {v:Value} (h:zF8 G w t l T m v) (ht:t.isL = false):yX9 G w t l T m v:=by
 rcases h with h | ⟨_,k,e,_,rfl,_⟩
 ·exact h
 ·simp [Ty.isL] at ht
theorem zZ8 {X Y:Nat → Prop} {G G':Gh} {w w':World} (hx:Ext X Y G w G' w') (h0:¬ X 0):∀ {c:AVal} {τ:Ty} {vs:List Value},¬ c.names X Y none → zA2 G w τ c vs → zA2 G' w' τ c vs:=by
 intro c
 induction c with
 | val τ' x=>intro τ vs _ h; simp only [zA2] at h ⊢; exact ⟨h.1,h.2.1,zA7 hx.prot h.2.2⟩
 | nil=>intro τ vs _ h; simp only [zA2] at h ⊢; exact h
 | own t l T m=>intro τ vs hn h; simp only [AVal.names] at hn; simp only [zA2] at h ⊢; obtain ⟨h1,v,h2,h3⟩:=h; exact ⟨h1,v,h2,zE9 hx h0 hn h3⟩
 | agg f a ih=>intro τ vs hn h; simp only [AVal.names] at hn; simp only [zA2] at h ⊢; exact ⟨h.1,ih hn h.2⟩
 | nl=>intro τ vs _ h; simp only [zA2] at h ⊢; exact h
 | cons a b iha ihb =>
  intro τ vs hn h; simp only [zA2] at h ⊢
  simp only [AVal.names,not_or] at hn
  obtain ⟨h1,t1,us,ws,e,h2,h3,h4⟩:=h
  exact ⟨h1,t1,us,ws,e,h2,iha hn.1 h3,ihb hn.2 h4⟩
 | _=>intro τ vs _ h; simp only [zA2] at h
theorem zZ9 {X Y:Nat → Prop} {G G':Gh} {w w':World} (hx:Ext X Y G w G' w') (h0:¬ X 0) (tm:Array Value) :
  ∀ {A:AVal} {s:Option Nat} {v:Value},¬ A.names X Y s → zA G w tm s A v → zA G' w' tm s A v:=by
 intro A
 induction A with
 | val τ x=>intro s v _ h; simp only [zA] at h ⊢; exact zD hx.prot h
 | junk=>intro s v _ _; simp only [zA]
 | nil=>intro s v _ h; simp only [zA] at h ⊢; exact h
 | nn b=>intro s v _ h; simp only [zA] at h ⊢; exact h
 | own t l T m=>intro s v hn h; simp only [zA] at h ⊢; simp only [AVal.names] at hn; exact zE9 hx h0 hn h
 | opt s' want g A ih=>intro s v hn h; simp only [zA] at h ⊢; simp only [AVal.names] at hn; exact ⟨h.1,fun hg=>ih hn (h.2.1 hg),h.2.2⟩
 | box τ c ih =>
  intro s v hn h
  cases s with
  | none=>simp only [zA] at h
  | some s =>
   simp only [AVal.names,not_or] at hn
   simp only [zA] at h ⊢
   obtain ⟨h1,hvt,cur,e,h2,h3,h4⟩:=h
   have hb:=hx.block (G.β s) (zF3 h2) (fun o=>by rw [h4 o]; exact hn.1)
   have hg:=hx.box s (fun h=>hn.1 (hx.sub _ h))
   exact ⟨by rw [hg]; exact h1,hvt,cur,e,by rw [hg,hb.1]; exact h2,zZ8 hx h0 hn.2 h3,fun o=>by rw [hg,hb.2 o]; exact h4 o⟩
 | ref s' τ p=>intro s v hn h; simp only [AVal.names] at hn; simp only [zA] at h ⊢; rw [hx.box s' hn]; exact h
 | eref _ T t i p=>intro s v hn h; simp only [AVal.names] at hn; simp only [zA] at h ⊢; rw [hx.tag T hn]; exact h
 | ownh t l T i U m=>intro s v hn h; simp only [AVal.names,not_or] at hn; simp only [zA] at h ⊢; exact xL6 hx h0 hn.1 hn.2 h
 | agg f c _=>intro s v hn h; simp only [AVal.names] at hn; simp only [zA] at h ⊢; obtain ⟨vs,h1,h2⟩:=h; exact ⟨vs,h1,zZ8 hx h0 hn h2⟩
 | nl=>intro s v _ h; simp only [zA] at h ⊢; exact h
 | cons a b iha ihb =>
  intro s v hn h
  simp only [AVal.names,not_or] at hn
  simp only [zA] at h ⊢
  obtain ⟨x,xs,h1,h2,h3⟩:=h
  exact ⟨x,xs,h1,iha hn.1 h2,ihb hn.2 h3⟩
 | tup c ih=>intro s v hn h; simp only [AVal.names] at hn; simp only [zA] at h ⊢; exact ih hn h
 | fn f c ih=>intro s v hn h; simp only [AVal.names] at hn; simp only [zA] at h ⊢; obtain ⟨vs,h1,h2⟩:=h; exact ⟨vs,h1,ih hn h2⟩
 | raw =>
  intro s v hn h
  cases s with
  | none=>simp only [zA] at h
  | some s =>
   simp only [AVal.names] at hn
   simp only [zA] at h ⊢
   obtain ⟨h1,u,e,h2,h3⟩:=h
   have hb:=hx.block (G.β s) (zF3 h2) (fun o=>by rw [h3 o]; exact hn)
   have hg:=hx.box s (fun h=>hn (hx.sub _ h))
   exact ⟨by rw [hg]; exact h1,u,e,by rw [hg,hb.1]; exact h2,fun o=>by rw [hg,hb.2 o]; exact h3 o⟩
 | rref s'=>intro s v hn h; simp only [AVal.names] at hn; simp only [zA] at h ⊢; rw [hx.box s' hn]; exact h
 | fptr f caps =>
  intro s v hn h
  simp only [AVal.names] at hn
  simp only [zA] at h ⊢
  obtain ⟨b,h1,h2,h3⟩:=h
  have hb:b < w.heap.size:=by
   by_cases hb:b < w.heap.size
   ·exact hb
   ·have:w.heap[b]? = none:=Array.getElem?_eq_none (by omega)
    simp [World.cell?,this] at h3
  obtain ⟨h4,h5⟩:=hx.prot b 0 hb h2
  refine ⟨b,h1,h4,?_⟩
  rw [h5,h3]
  congr 3
  refine List.map_congr_left fun q hq=>?_
  cases q with
  | none=>rfl
  | some q=>obtain ⟨k,τ⟩:=q; simp only [yL5]; rw [hx.box k (fun hY=>hn ⟨k,τ,hq,hY⟩)]
theorem zM4 {G:Gh} {w:World} {tm tm':Array Value} {A:AVal}:∀ {s:Option Nat} {v:Value},(∀ d,A.hung d = true → tm'.getD d undef = tm.getD d undef) → zA G w tm s A v → zA G w tm' s A v:=by
 induction A with
 | opt s' want g A ih =>
  intro s v ht h; simp only [zA] at h ⊢
  refine ⟨by rw [ht s' (by simp [AVal.hung])]; exact h.1,fun hg=>ih (fun d hd=>ht d (by simp [AVal.hung,hd])) (h.2.1 hg),h.2.2⟩
 | cons a b iha ihb =>
  intro s v ht h; simp only [zA] at h ⊢
  obtain ⟨x,xs,h1,h2,h3⟩:=h
  exact ⟨x,xs,h1,iha (fun d hd=>ht d (by simp [AVal.hung,hd])) h2,ihb (fun d hd=>ht d (by simp [AVal.hung,hd])) h3⟩
 | tup c ih=>intro s v ht h; simp only [zA] at h ⊢; exact ih (fun d hd=>ht d (by simp [AVal.hung,hd])) h
 | fn f c ih=>intro s v ht h; simp only [zA] at h ⊢; obtain ⟨vs,h1,h2⟩:=h; exact ⟨vs,h1,ih (fun d hd=>ht d (by simp [AVal.hung,hd])) h2⟩
 | box τ c _=>intro s v _ h; cases s <;> simp only [zA] at h ⊢; exact h
 | raw=>intro s v _ h; cases s <;> simp only [zA] at h ⊢; exact h
 | _=>intro s v _ h; simp only [zA] at h ⊢; try exact h
theorem zL3 {G:Gh} {w:World} {tm:Array Value} {A:AVal} {s:Option Nat} {v:Value} (h:zA G w tm s A v) (hb:∀ τ c,A ≠ .box τ c) (hr:A ≠ .raw):zA G w tm none A v:=by
 cases A <;> first | (exfalso; exact hb _ _ rfl) | (exfalso; exact hr rfl) | (simp only [zA] at h ⊢; try exact h)
theorem zK0 {G:Gh} {w:World} {tm:Array Value} {A:AVal} {s:Option Nat} {v:Value} (h:zA G w tm none A v):zA G w tm s A v:=by
 cases A <;> (simp only [zA] at h ⊢; try exact h)
end Go.Am
namespace Go.Am
open Go Go.RowKit
variable {P:Program}
def zB1:Ty → List Value
 | .int k=>[.int k 0] | .bool=>[.bool false] | .str=>[.string ⟨#[]⟩] | .nl=>[] | .cons h t=>zB1 h ++ zB1 t
 | .st f=>zB1 f | .arr n t=>(List.replicate n (zB1 t)).flatten | .sl _=>[.slice none 0 0] | .ptr _=>[.pointer none]
def xE1:Value → Value → Bool
 | .int k n,.int k' m=>Nat.beq (zI3 k) (zI3 k') && (n == m)
 | .bool a,.bool b=>a == b
 | .string a,.string b=>a.data.toList.isEmpty && b.data.toList.isEmpty
 | .slice none 0 0,.slice none 0 0=>true
 | .pointer none,.pointer none=>true
 | _,_=>false
theorem xE2 {a b:Value} (h:xE1 a b = true):a = b:=by
 unfold xE1 at h
 split at h
 ·simp at h; rw [zH2 h.1,h.2]
 ·simp at h; rw [h]
 ·rename_i a b
  simp at h
  obtain ⟨⟨a⟩⟩:=a; obtain ⟨⟨b⟩⟩:=b
  simp_all
 ·rfl
 ·rfl
 ·cases h
def yB9:List Value → List Value → Bool
 | [],[]=>true
 | a :: r,b :: s=>xE1 a b && yB9 r s
 | _,_=>false
theorem yY0:∀ {a b:List Value},yB9 a b = true → a = b:=by
 intro a
 induction a with
 | nil=>intro b h; cases b <;> simp [yB9] at h ⊢
 | cons x r ih=>intro b h; cases b <;> simp [yB9] at h; rw [xE2 h.1,ih h.2]
def yM1:Value → Bool
 | .agg _=>true | _=>false
def zL4 (P:Program) (T:Nat) (τ:Ty):Bool :=
 match P.info? T with
 | some i=>Nat.beq i.size τ.size && Nat.ble i.bytes 32768 && !(P.eqGuardType P.depth T) && Nat.ble τ.ht 9000 && (match i.zero with | some v=>yB9 v.cells.toList (zB1 τ) && (yM1 v == τ.isAgg) | none=>false)
 | none=>false
def zC (P:Program):Ty → Nat ⊕ (List Field × Nat) → Bool
 | .int k,.inl T=>(match P.underlying T with | some (.int k')=>Nat.beq (zI3 k') (zI3 k) | _=>false) && zL4 P T (.int k)
 | .bool,.inl T=>(match P.underlying T with | some .bool=>true | _=>false) && zL4 P T .bool
 | .str,.inl T=>(match P.underlying T with | some .string=>true | _=>false) && zL4 P T .str
 | .nl,.inr ([],_)=>true
 | .cons h t,.inr (fd :: r,o)=>Nat.beq fd.offset o && !(fd.name == "_") && zC P h (.inl fd.type) && zC P t (.inr (r,o + h.size))
 | .st f,.inl T=>(match P.underlying T with | some (.struct fs)=>zC P f (.inr (fs.toList,0)) && !(P.stoodInHeld T) | _=>false) && zL4 P T (.st f)
 | .arr n t,.inl T=>(match P.underlying T with | some (.array m e)=>Nat.beq m n && zC P t (.inl e) | _=>false) && zL4 P T (.arr n t)
 | .sl t,.inl T=>(match P.underlying T with | some (.slice e)=>zC P t (.inl e) | _=>false) && zL4 P T (.sl t)
 | .ptr t,.inl T=>(match P.underlying T with | some (.pointer e)=>zC P t (.inl e) | _=>false) && zL4 P T (.ptr t)
 | _,_=>false
def zL5 (P:Program) (l:List (Nat × Ty)):Bool:=l.all fun e=>zC P e.2 (.inl e.1)
theorem xL8 {l:List (Nat × Ty)} {T:Nat}:yA8 Ty.nl l T = .nl ∨ (T,yA8 Ty.nl l T) ∈ l:=by
 induction l with
 | nil=>exact .inl rfl
 | cons e r ih =>
  obtain ⟨k,τ⟩:=e
  simp only [yA8]
  cases hk:Nat.beq k T with
  | true=>have:=Nat.eq_of_beq_eq_true hk; subst this; simp
  | false =>
   simp only [cond_false]
   rcases ih with h | h
   ·exact .inl h
   ·exact .inr (List.mem_cons_of_mem _ h)
theorem zI7 {c:Ctx} (h:zL5 P c.tys = true) (T:Nat) (hn:c.ty T ≠ .nl):zC P (c.ty T) (.inl T) = true:=by
 rcases xL8 (l:=c.tys) (T:=T) with h' | h'
 ·exact absurd h' hn
 ·exact (List.all_eq_true.1 h) _ h'
structure TyIs (P:Program) (T:Nat) (τ:Ty):Prop where
 info:∃ i z,P.info? T = some i ∧ i.size = τ.size ∧ i.bytes ≤ 32768 ∧ i.zero = some z ∧ z.cells.toList = zB1 τ ∧ yM1 z = τ.isAgg
 und:∃ d,P.underlying T = some d ∧ d.isRow = τ.isAgg
theorem zK1 {T:Nat} {τ:Ty} (h:zL4 P T τ = true):∃ i z,P.info? T = some i ∧ i.size = τ.size ∧ i.bytes ≤ 32768 ∧ i.zero = some z ∧ z.cells.toList = zB1 τ ∧ yM1 z = τ.isAgg:=by
 unfold zL4 at h
 split at h
 ·rename_i i hi
  split at h
  ·rename_i v hv
   simp only [Bool.and_eq_true,beq_iff_eq] at h
   exact ⟨i,v,hi,Nat.eq_of_beq_eq_true h.1.1.1.1,Nat.le_of_ble_eq_true h.1.1.1.2,hv,yY0 h.2.1,h.2.2⟩
  ·simp at h
 ·cases h
theorem yM2 {T:Nat} {τ:Ty} (h:zL4 P T τ = true):P.eqGuardType P.depth T = false:=by
 unfold zL4 at h
 split at h
 ·split at h
  ·simp only [Bool.and_eq_true,Bool.not_eq_true'] at h
   exact h.1.1.2
  ·simp at h
 ·cases h
theorem xE3 {T:Nat} {τ:Ty} (h:zL4 P T τ = true):τ.ht ≤ 9000:=by
 unfold zL4 at h
 split at h
 ·split at h
  ·simp only [Bool.and_eq_true,Bool.not_eq_true'] at h
   exact Nat.le_of_ble_eq_true h.1.2
  ·simp at h
 ·cases h
theorem xR {τ:Ty} {T:Nat} (h:zC P τ (.inl T) = true):τ.ht ≤ 9000:=by
 cases τ <;> simp only [zC,Bool.and_eq_true] at h <;> first | exact xE3 h.2 | cases h
theorem yY1 {τ:Ty} {T:Nat} (h:zC P τ (.inl T) = true):P.eqGuardType P.depth T = false:=by
 cases τ <;> simp only [zC,Bool.and_eq_true] at h <;> first | exact yM2 h.2 | cases h
theorem zF4 {τ:Ty} {T:Nat} (h:zC P τ (.inl T) = true):TyIs P T τ:=by
 cases τ with
 | nl=>simp [zC] at h
 | cons a b=>simp [zC] at h
 | int k=>simp only [zC,Bool.and_eq_true] at h; refine ⟨zK1 h.2,?_⟩; cases hu:P.underlying T with
  | none=>simp [hu] at h
  | some d=>refine ⟨d,rfl,?_⟩; rw [hu] at h; cases d <;> simp_all [TypeDesc.isRow,Ty.isAgg]
 | bool=>simp only [zC,Bool.and_eq_true] at h; refine ⟨zK1 h.2,?_⟩; cases hu:P.underlying T with
  | none=>simp [hu] at h
  | some d=>refine ⟨d,rfl,?_⟩; rw [hu] at h; cases d <;> simp_all [TypeDesc.isRow,Ty.isAgg]
 | str=>simp only [zC,Bool.and_eq_true] at h; refine ⟨zK1 h.2,?_⟩; cases hu:P.underlying T with
  | none=>simp [hu] at h
  | some d=>refine ⟨d,rfl,?_⟩; rw [hu] at h; cases d <;> simp_all [TypeDesc.isRow,Ty.isAgg]
 | st f=>simp only [zC,Bool.and_eq_true] at h; refine ⟨zK1 h.2,?_⟩; cases hu:P.underlying T with
  | none=>simp [hu] at h
  | some d=>refine ⟨d,rfl,?_⟩; rw [hu] at h; cases d <;> simp_all [TypeDesc.isRow,Ty.isAgg]
 | arr n t=>simp only [zC,Bool.and_eq_true] at h; refine ⟨zK1 h.2,?_⟩; cases hu:P.underlying T with
  | none=>simp [hu] at h
  | some d=>refine ⟨d,rfl,?_⟩; rw [hu] at h; cases d <;> simp_all [TypeDesc.isRow,Ty.isAgg]
 | sl t=>simp only [zC,Bool.and_eq_true] at h; refine ⟨zK1 h.2,?_⟩; cases hu:P.underlying T with
  | none=>simp [hu] at h
  | some d=>refine ⟨d,rfl,?_⟩; rw [hu] at h; cases d <;> simp_all [TypeDesc.isRow,Ty.isAgg]
 | ptr t=>simp only [zC,Bool.and_eq_true] at h; refine ⟨zK1 h.2,?_⟩; cases hu:P.underlying T with
  | none=>simp [hu] at h
  | some d=>refine ⟨d,rfl,?_⟩; rw [hu] at h; cases d <;> simp_all [TypeDesc.isRow,Ty.isAgg]
theorem zW2 {f:Ty}:∀ {fs:List Field} {o k:Nat},zC P f (.inr (fs,o)) = true → k < f.flen →
  ∃ fd,fs[k]? = some fd ∧ fd.offset = o + f.foff k ∧ zC P (f.fty k) (.inl fd.type) = true ∧ fd.name ≠ "_":=by
 induction f with
 | cons h t _ iht =>
  intro fs o k hk hl
  cases fs with
  | nil=>simp [zC] at hk
  | cons fd r =>
   simp only [zC,Bool.and_eq_true] at hk
   obtain ⟨⟨⟨h1,h2⟩,h3⟩,h4⟩:=hk
   have h1:=Nat.eq_of_beq_eq_true h1
   cases k with
   | zero=>exact ⟨fd,rfl,by simp [Ty.foff,h1],by simpa [Ty.fty] using h3,by simpa using h2⟩
   | succ k =>
    simp only [Ty.flen] at hl
    obtain ⟨fd',h5,h6,h7,h8⟩:=iht h4 (k:=k) (by omega)
    exact ⟨fd',by simpa using h5,by simp [Ty.foff]; omega,by simpa [Ty.fty] using h7,h8⟩
 | _=>intro fs o k hk hl; simp [Ty.flen] at hl
theorem zP3 {f:Ty} {T:Nat} (h:zC P (.st f) (.inl T) = true):∃ fs,P.underlying T = some (.struct fs) ∧ zC P f (.inr (fs.toList,0)) = true:=by
 simp only [zC,Bool.and_eq_true] at h
 cases hu:P.underlying T with
 | none=>simp [hu] at h
 | some d=>rw [hu] at h; cases d <;> simp_all
theorem yY2 {f:Ty} {T:Nat} (h:zC P (.st f) (.inl T) = true):P.stoodInHeld T = false:=by
 simp only [zC,Bool.and_eq_true] at h
 cases hu:P.underlying T with
 | none=>simp [hu] at h
 | some d=>rw [hu] at h; cases d <;> simp_all
theorem zM5 {n:Nat} {t:Ty} {T:Nat} (h:zC P (.arr n t) (.inl T) = true):∃ e,P.underlying T = some (.array n e) ∧ zC P t (.inl e) = true:=by
 simp only [zC,Bool.and_eq_true] at h
 cases hu:P.underlying T with
 | none=>simp [hu] at h
 | some d =>
  rw [hu] at h
  cases d <;> simp_all
theorem zG7 {t:Ty} {T:Nat} (h:zC P (.sl t) (.inl T) = true):∃ e,P.underlying T = some (.slice e) ∧ zC P t (.inl e) = true:=by
 simp only [zC,Bool.and_eq_true] at h
 cases hu:P.underlying T with
 | none=>simp [hu] at h
 | some d=>rw [hu] at h; cases d <;> simp_all
theorem xL9 {t:Ty} {T:Nat} (h:zC P (.ptr t) (.inl T) = true):∃ e,P.underlying T = some (.pointer e) ∧ zC P t (.inl e) = true:=by
 simp only [zC,Bool.and_eq_true] at h
 cases hu:P.underlying T with
 | none=>simp [hu] at h
 | some d=>rw [hu] at h; cases d <;> simp_all
theorem yA {k:IntKind} {T:Nat} (h:zC P (.int k) (.inl T) = true):P.underlying T = some (.int k):=by
 simp only [zC,Bool.and_eq_true] at h
 cases hu:P.underlying T with
 | none=>simp [hu] at h
 | some d=>rw [hu] at h; cases d <;> simp_all; exact (zH2 h.1)
theorem yM3 {T:Nat} (h:zC P .bool (.inl T) = true):P.underlying T = some .bool:=by
 simp only [zC,Bool.and_eq_true] at h
 cases hu:P.underlying T with
 | none=>simp [hu] at h
 | some d=>rw [hu] at h; cases d <;> simp_all
theorem zJ0 {T:Nat} (h:zC P .str (.inl T) = true):P.underlying T = some .string:=by
 simp only [zC,Bool.and_eq_true] at h
 cases hu:P.underlying T with
 | none=>simp [hu] at h
 | some d=>rw [hu] at h; cases d <;> simp_all
theorem xE4 {τ:Ty} {T:Nat} (h:zC P τ (.inl T) = true):τ.isL = false:=by
 cases τ <;> first | rfl | simp [zC] at h
theorem yU9 {t:Ty} {q:yH8} {T:Nat} (hq:zD5 t q) (h:zC P (t.pty q) (.inl T) = true):t.isL = false:=by
 cases q with
 | nil=>exact xE4 h
 | cons e r =>
  cases t <;> first | rfl | (exfalso; cases e <;> simp [zD5] at hq)
theorem yJ {t:Ty} {T:Nat} (h:zC P (.sl t) (.inl T) = true):t.isL = false:=by
 obtain ⟨e,_,h⟩:=zG7 h
 exact xE4 h
end Go.Am
namespace Go.Am
open Go Go.RowKit
variable {P:Program}
def seg (vs:List Value) (o n:Nat):List Value:=(vs.drop o).take n
def spl (vs:List Value) (o:Nat) (ys:List Value):List Value:=vs.take o ++ (ys ++ vs.drop (o + ys.length))
theorem yY3 {vs:List Value} {o n:Nat} (h:o + n ≤ vs.length):(seg vs o n).length = n:=by simp [seg]; omega
theorem seg_getElem? (vs:List Value) (o n j:Nat):(seg vs o n)[j]? = if j < n then vs[o + j]? else none:=by
 simp only [seg,List.getElem?_take,List.getElem?_drop]
theorem yC (vs:List Value) (o n o' n':Nat) (h:o' + n' ≤ n):seg (seg vs o n) o' n' = seg vs (o + o') n':=by
 apply List.ext_getElem?
 intro j
 simp only [seg_getElem?]
 by_cases hj:j < n'
 ·simp only [hj,if_true]; rw [if_pos (by omega)]; congr 1; omega
 ·simp [hj]
theorem yJ0 (vs:List Value):seg vs 0 vs.length = vs:=by simp [seg]
theorem yA0 (us ws:List Value):seg (us ++ ws) 0 us.length = us:=by simp [seg]
theorem zU (us ws:List Value) (o n:Nat):seg (us ++ ws) (us.length + o) n = seg ws o n:=by
 unfold seg; rw [List.drop_append,List.drop_of_length_le (by omega),List.nil_append]; congr 2; omega
theorem zQ6 {vs ys:List Value} {o:Nat} (h:o + ys.length ≤ vs.length):(spl vs o ys).length = vs.length:=by simp [spl]; omega
theorem yJ1 (us ws ys:List Value) (h:ys.length = us.length):spl (us ++ ws) 0 ys = ys ++ ws:=by
 simp [spl,h]
theorem yC0 (us ws ys:List Value) (o:Nat):spl (us ++ ws) (us.length + o) ys = us ++ spl ws o ys:=by
 unfold spl
 rw [List.take_append,List.take_of_length_le (by omega),List.drop_append,List.drop_of_length_le (by omega),List.nil_append,List.append_assoc]
 congr 3
 ·omega
 ·congr 1; omega
theorem xE5 (vs:List Value) (o:Nat):spl vs o [] = vs:=by simp [spl]
theorem xR0 (vs ys:List Value) (h:ys.length = vs.length):spl vs 0 ys = ys:=by simp [spl,h]
theorem spl_getElem? (vs ys:List Value) (o j:Nat) (h:o + ys.length ≤ vs.length) :
  (spl vs o ys)[j]? = if o ≤ j ∧ j < o + ys.length then ys[j - o]? else vs[j]?:=by
 unfold spl
 by_cases h1:j < o
 ·rw [List.getElem?_append_left (by simp; omega)]
  simp [h1]; omega
 ·rw [List.getElem?_append_right (by simp; omega)]
  have hl:(vs.take o).length = o:=by simp; omega
  rw [hl]
  by_cases h2:j < o + ys.length
  ·rw [List.getElem?_append_left (by omega),if_pos ⟨by omega,h2⟩]
  ·rw [List.getElem?_append_right (by omega),if_neg (by omega),List.getElem?_drop]
   congr 1; omega
theorem yC1 (vs ys:List Value) (o n o':Nat) (h:o + n ≤ vs.length) (h':o' + ys.length ≤ n):spl vs o (spl (seg vs o n) o' ys) = spl vs (o + o') ys:=by
 have hl:(seg vs o n).length = n:=yY3 h
 have hl':(spl (seg vs o n) o' ys).length = n:=by rw [zQ6 (by omega),hl]
 apply List.ext_getElem?
 intro j
 rw [spl_getElem? vs _ o j (by omega),spl_getElem? vs ys (o + o') j (by omega),hl']
 by_cases h1:o ≤ j ∧ j < o + n
 ·rw [if_pos h1,spl_getElem? _ _ _ _ (by omega)]
  by_cases h2:o' ≤ j - o ∧ j - o < o' + ys.length
  ·rw [if_pos h2,if_pos (by omega)]; congr 1; omega
  ·rw [if_neg h2,if_neg (by omega),seg_getElem?,if_pos (by omega)]; congr 1; omega
 ·rw [if_neg h1,if_neg (by omega)]
theorem yA1 {α:Type} {R:α → List Value → Prop} {k:Nat} (hk:∀ x vs,R x vs → vs.length = k) (d:α) :
  ∀ {l:List α} {us:List Value} {i:Nat},zJ5 R l us → i < l.length → R (l.getD i d) (seg us (i * k) k):=by
 intro l
 induction l with
 | nil=>intro us i _ hi; simp at hi
 | cons x l ih =>
  rintro us i ⟨vs,ws,rfl,hx,hl⟩ hi
  have hv:=hk _ _ hx
  cases i with
  | zero=>simp only [Nat.zero_mul,List.getD_cons_zero]; rw [← hv,yA0]; exact hx
  | succ i =>
   simp only [List.getD_cons_succ]
   rw [show (i + 1) * k = vs.length + i * k from by rw [hv,Nat.add_mul]; omega,zU]
   exact ih hl (by simpa using hi)
theorem yJ2 {α:Type} {R:α → List Value → Prop} {k:Nat} (hk:∀ x vs,R x vs → vs.length = k) {y:α} {ys:List Value} (hy:R y ys) :
  ∀ {l:List α} {us:List Value} {i:Nat},zJ5 R l us → i < l.length → zJ5 R (l.set i y) (spl us (i * k) ys):=by
 intro l
 induction l with
 | nil=>intro us i _ hi; simp at hi
 | cons x l ih =>
  rintro us i ⟨vs,ws,rfl,hx,hl⟩ hi
  have hv:=hk _ _ hx
  have hyl:=hk _ _ hy
  cases i with
  | zero=>simp only [Nat.zero_mul,List.set_cons_zero]; rw [yJ1 _ _ _ (by omega)]; exact ⟨ys,ws,rfl,hy,hl⟩
  | succ i =>
   simp only [List.set_cons_succ]
   rw [show (i + 1) * k = vs.length + i * k from by rw [hv,Nat.add_mul]; omega,yC0]
   exact ⟨vs,_,rfl,hx,ih hl (by simpa using hi)⟩
theorem yC2 {α:Type} {R:α → List Value → Prop}:∀ {l m:List α} {us ws:List Value},zJ5 R l us → zJ5 R m ws → zJ5 R (l ++ m) (us ++ ws):=by
 intro l
 induction l with
 | nil=>intro m us ws h hm; simp only [zJ5] at h; subst h; simpa using hm
 | cons x l ih=>rintro m us ws ⟨vs,ws',rfl,hx,hl⟩ hm; exact ⟨vs,ws' ++ ws,by simp,hx,ih hl hm⟩
theorem xE6 {α:Type} {R:α → List Value → Prop} {k:Nat} (hk:∀ x vs,R x vs → vs.length = k) :
  ∀ {l:List α} {us:List Value} (n:Nat),zJ5 R l us → zJ5 R (l.take n) (us.take (n * k)):=by
 intro l
 induction l with
 | nil=>intro us n h; simp only [zJ5] at h; subst h; simp [zJ5]
 | cons x l ih =>
  rintro us n ⟨vs,ws,rfl,hx,hl⟩
  have hv:=hk _ _ hx
  cases n with
  | zero=>simp [zJ5]
  | succ n =>
   simp only [List.take_succ_cons]
   refine ⟨vs,ws.take (n * k),?_,hx,ih n hl⟩
   rw [List.take_append,List.take_of_length_le (by rw [hv,Nat.add_mul]; omega),show (n + 1) * k - vs.length = n * k from by rw [hv,Nat.add_mul]; omega]
theorem xE7 {α:Type} {R:α → List Value → Prop} {k:Nat} (hk:∀ x vs,R x vs → vs.length = k) :
  ∀ {l:List α} {us:List Value} (n:Nat),zJ5 R l us → zJ5 R (l.drop n) (us.drop (n * k)):=by
 intro l
 induction l with
 | nil=>intro us n h; simp only [zJ5] at h; subst h; simp [zJ5]
 | cons x l ih =>
  rintro us n ⟨vs,ws,rfl,hx,hl⟩
  have hv:=hk _ _ hx
  cases n with
  | zero=>simp only [Nat.zero_mul,List.drop_zero]; exact ⟨vs,ws,rfl,hx,hl⟩
  | succ n =>
   simp only [List.drop_succ_cons]
   have e:(vs ++ ws).drop ((n + 1) * k) = ws.drop (n * k):=by
    rw [List.drop_append,List.drop_of_length_le (l:=vs) (by rw [hv,Nat.add_mul]; omega),show (n + 1) * k - vs.length = n * k from by rw [hv,Nat.add_mul]; omega,List.nil_append]
   rw [e]
   exact ih n hl
theorem zH9 {α:Type} {R:α → List Value → Prop} {x:α} {vs:List Value} (h:R x vs):∀ n,zJ5 R (List.replicate n x) (List.replicate n vs).flatten:=by
 intro n
 induction n with
 | zero=>simp [zJ5]
 | succ n ih=>exact ⟨vs,_,by simp [List.replicate_succ],h,ih⟩
theorem yC3 {f:Ty}:∀ {k:Nat},k < f.flen → f.foff k + (f.fty k).size ≤ f.size:=by
 induction f with
 | cons h t _ iht =>
  intro k hk
  cases k with
  | zero=>simp [Ty.foff,Ty.fty,Ty.size]
  | succ k=>simp only [Ty.flen] at hk; have:=iht (k:=k) (by omega); simp [Ty.foff,Ty.fty,Ty.size]; omega
 | _=>intro k hk; simp [Ty.flen] at hk
theorem zU0 {χ:Nat → Nat → Nat} {w:World} {f:Ty}:∀ {k:Nat} {x:f.den} {vs:List Value},k < f.flen → zB χ w f x vs → zB χ w (f.fty k) (f.fget k x) (seg vs (f.foff k) (f.fty k).size):=by
 induction f with
 | cons h t _ iht =>
  intro k x vs hk hc
  simp only [zB] at hc
  obtain ⟨us,ws,rfl,h1,h2⟩:=hc
  have hl:=zA1 h1
  cases k with
  | zero=>simp only [Ty.fty,Ty.fget,Ty.foff]; rw [← hl,yA0]; exact h1
  | succ k =>
   simp only [Ty.flen] at hk
   simp only [Ty.fty,Ty.fget,Ty.foff]
   rw [← hl,zU]
   exact iht (by omega) h2
 | _=>intro k x vs hk; simp [Ty.flen] at hk
theorem xE8 {χ:Nat → Nat → Nat} {w:World} {f:Ty}:∀ {k:Nat} {x:f.den} {y:(f.fty k).den} {vs ys:List Value},k < f.flen → zB χ w f x vs → zB χ w (f.fty k) y ys → zB χ w f (f.fset k y x) (spl vs (f.foff k) ys):=by
 induction f with
 | cons h t _ iht =>
  intro k x y vs ys hk hc hy
  simp only [zB] at hc
  obtain ⟨us,ws,rfl,h1,h2⟩:=hc
  have hl:=zA1 h1
  cases k with
  | zero =>
   simp only [Ty.fty] at y hy
   have hyl:=zA1 hy
   simp only [Ty.fset,Ty.foff]; rw [yJ1 _ _ _ (by omega)]; exact ⟨ys,ws,rfl,hy,h2⟩
  | succ k =>
   simp only [Ty.flen] at hk
   simp only [Ty.fset,Ty.foff]
   rw [← hl,yC0]
   exact ⟨us,_,rfl,h1,iht (by omega) h2 hy⟩
 | _=>intro k x y vs ys hk; simp [Ty.flen] at hk
theorem zB0 {G:Gh} {w:World}:∀ {c:AVal} {τ:Ty} {vs:List Value},zA2 G w τ c vs → vs.length = τ.size:=by
 intro c
 induction c with
 | val τ' x=>intro τ vs h; simp only [zA2] at h; rw [← h.1]; exact zA1 h.2.2
 | nil=>intro τ vs h; simp only [zA2] at h; obtain ⟨h1,rfl⟩:=h; cases τ <;> simp [Ty.isSl] at h1; rfl
 | own t l T m=>intro τ vs h; simp only [zA2] at h; obtain ⟨rfl,v,rfl,_⟩:=h; rfl
 | agg f a ih=>intro τ vs h; simp only [zA2] at h; obtain ⟨rfl,h⟩:=h; have:=ih (τ:=f) h; simpa only [Ty.size] using this
 | nl=>intro τ vs h; simp only [zA2] at h; obtain ⟨rfl,rfl⟩:=h; rfl
 | cons a b iha ihb=>intro τ vs h; simp only [zA2] at h; obtain ⟨h,t,us,ws,rfl,rfl,h1,h2⟩:=h; simp [iha h1,ihb h2,Ty.size]
 | _=>intro τ vs h; simp only [zA2] at h
theorem zM6 {G:Gh} {w:World} {h t:Ty} {c:AVal} {vs:List Value} (hc:zA2 G w (.cons h t) c vs):∃ a b us ws,c = .cons a b ∧ vs = us ++ ws ∧ zA2 G w h a us ∧ zA2 G w t b ws:=by
 cases c with
 | cons a b=>simp only [zA2] at hc; obtain ⟨h',t',us,ws,e,rfl,h1,h2⟩:=hc; injection e with e1 e2; subst e1; subst e2; exact ⟨a,b,us,ws,rfl,rfl,h1,h2⟩
 | val τ' x=>simp only [zA2] at hc; obtain ⟨rfl,h,_⟩:=hc; simp [Ty.isL] at h
 | nil=>simp [zA2,Ty.isSl] at hc
 | _=>simp [zA2] at hc
theorem yJ3 {G:Gh} {w:World} {f:Ty}:∀ {c:AVal} {k:Nat} {vs:List Value},k < f.flen → zA2 G w f c vs → zA2 G w (f.fty k) (c.nth k) (seg vs (f.foff k) (f.fty k).size):=by
 induction f with
 | cons h t _ iht =>
  intro c k vs hk hc
  obtain ⟨a,b,us,ws,rfl,rfl,h1,h2⟩:=zM6 hc
  have hl:=zB0 h1
  cases k with
  | zero=>simp only [Ty.fty,AVal.nth,Ty.foff]; rw [← hl,yA0]; exact h1
  | succ k =>
   simp only [Ty.flen] at hk
   simp only [Ty.fty,AVal.nth,Ty.foff]
   rw [← hl,zU]
   exact iht (by omega) h2
 | _=>intro c k vs hk; simp [Ty.flen] at hk
theorem zS9 {G:Gh} {w:World} {f:Ty}:∀ {c B:AVal} {k:Nat} {vs ys:List Value},k < f.flen → zA2 G w f c vs → zA2 G w (f.fty k) B ys → zA2 G w f (c.setNth k B) (spl vs (f.foff k) ys):=by
 induction f with
 | cons h t _ iht =>
  intro c B k vs ys hk hc hB
  obtain ⟨a,b,us,ws,rfl,rfl,h1,h2⟩:=zM6 hc
  have hl:=zB0 h1
  cases k with
  | zero =>
   simp only [Ty.fty] at hB
   have hyl:=zB0 hB
   simp only [AVal.setNth,Ty.foff]; rw [yJ1 _ _ _ (by omega)]; simp only [zA2]; exact ⟨h,t,ys,ws,rfl,rfl,hB,h2⟩
  | succ k =>
   simp only [Ty.flen] at hk
   simp only [AVal.setNth,Ty.foff]
   rw [← hl,yC0]
   simp only [zA2]
   exact ⟨h,t,us,_,rfl,rfl,h1,iht (by omega) h2 hB⟩
 | _=>intro c B k vs ys hk; simp [Ty.flen] at hk
theorem zC2 {τ:Ty} {T:Nat} (h:zC P τ (.inl T) = true):τ.isL = false:=by
 cases τ <;> first | rfl | (simp [zC] at h)
theorem yV {τ:Ty} {x:List Field × Nat} (h:zC P τ (.inr x) = true):τ.isL = true:=by
 cases τ <;> first | rfl | (simp [zC] at h)
theorem zH3:∀ {τ:Ty} {x:Nat ⊕ (List Field × Nat)},zC P τ x = true → τ.plain = true:=by
 intro τ
 induction τ with
 | cons h t ihh iht =>
  intro x hx
  rcases x with x | ⟨fs,o⟩
  ·simp [zC] at hx
  ·cases fs with
   | nil=>simp [zC] at hx
   | cons fd r =>
    simp only [zC,Bool.and_eq_true] at hx
    simp [Ty.plain,ihh hx.1.2,iht hx.2,zC2 hx.1.2,yV hx.2]
 | st f ih =>
  intro x hx
  rcases x with x | x
  ·obtain ⟨fs,_,h⟩:=zP3 hx; simp [Ty.plain,ih h,yV h]
  ·simp [zC] at hx
 | arr n t ih =>
  intro x hx
  rcases x with x | x
  ·obtain ⟨e,_,h⟩:=zM5 hx; simp [Ty.plain,ih h,zC2 h]
  ·simp [zC] at hx
 | sl t ih =>
  intro x hx
  rcases x with x | x
  ·obtain ⟨e,_,h⟩:=zG7 hx; simp [Ty.plain,ih h,zC2 h]
  ·simp [zC] at hx
 | ptr t ih =>
  intro x hx
  rcases x with x | x
  ·obtain ⟨e,_,h⟩:=xL9 hx; simp [Ty.plain,ih h,zC2 h]
  ·simp [zC] at hx
 | _=>intro x _; rfl
theorem yC4 {f:Ty}:∀ {k:Nat},f.plain = true → k < f.flen → (f.fty k).isL = false ∧ (f.fty k).plain = true:=by
 induction f with
 | cons h t _ iht =>
  intro k hp hk
  simp only [Ty.plain,Bool.and_eq_true,Bool.not_eq_true'] at hp
  cases k with
  | zero=>exact ⟨hp.1.1.1,hp.1.1.2⟩
  | succ k=>simp only [Ty.flen] at hk; exact iht hp.2 (by omega)
 | _=>intro k _ hk; simp [Ty.flen] at hk
theorem yM4 {G:Gh} {w:World} {f:Ty}:∀ {x:f.den} {vs:List Value},f.isL = true → f.plain = true → zB G.χ w f x vs → zA2 G w f (yA7 f x) vs:=by
 induction f with
 | cons h t _ iht =>
  intro x vs hl hp hc
  simp only [Ty.plain,Bool.and_eq_true,Bool.not_eq_true'] at hp
  simp only [zB] at hc
  obtain ⟨us,ws,rfl,h1,h2⟩:=hc
  simp only [yA7,zA2]
  exact ⟨h,t,us,ws,rfl,rfl,⟨rfl,hp.1.1.1,h1⟩,iht hp.1.2 hp.2 h2⟩
 | nl=>intro x vs _ _ hc; simp only [zB] at hc; simp only [yA7,zA2]; exact ⟨trivial,hc⟩
 | _=>intro x vs hl; simp [Ty.isL] at hl
theorem zD3 {a b:Ty} {x:a.den} {y:b.den} (h:Ty.cast b x = some y):∃ e:a = b,e ▸ x = y:=by
 unfold Ty.cast at h
 split at h
 ·rename_i hb
  exact ⟨Ty.eq_of_beq hb,by injection h⟩
 ·cases h
theorem zD0 {G:Gh} {w:World} {t:Ty} {l:List t.den} {T:Nat} {v:Value} (h:zF8 G w t l T false v):zB G.χ w (.sl t) l [v]:=by
 simp only [zB]
 rcases (yY h).2 with ⟨rfl,rfl⟩ | ⟨cap,cur,e,us,rfl,h2,h3,h4,h5,h6,h7,h8⟩
 ·exact ⟨none,0,rfl,.inl rfl⟩
 ·refine ⟨_,cap,rfl,?_⟩
  refine .inr ⟨G.γ T,0,us,rfl,h3,h6,fun j u hu=>?_⟩
  have hul:=zB3 (k:=t.size) (fun _ _ h=>zA1 h) h6
  have hj:j < l.length * t.size:=by rw [← hul]; exact (List.getElem?_eq_some_iff.1 hu).1
  rw [← h7,List.getElem?_take,if_pos hj] at hu
  refine ⟨?_,by rw [h8,if_pos ⟨rfl,by omega⟩]⟩
  simp only [World.cell?,h2]
  simpa using hu
theorem zK2 {G:Gh} {w:World}:∀ {A:AVal} {τ:Ty} {x:τ.den} {vs:List Value},AVal.as τ A = some x → zA2 G w τ A vs → zB G.χ w τ x vs:=by
 intro A
 induction A with
 | val τ' y =>
  intro τ x vs h ht
  simp only [AVal.as,AVal.asT] at h
  simp only [zA2] at ht
  rw [ht.2.1,cond_false] at h
  obtain ⟨e,rfl⟩:=zD3 h
  subst e
  exact ht.2.2
 | nil =>
  intro τ x vs h ht
  simp only [zA2] at ht
  obtain ⟨h1,rfl⟩:=ht
  cases τ with
  | sl t =>
   have h:(some []:Option (List t.den)) = some x:=h
   injection h with h
   subst h
   simp only [zB]
   exact ⟨none,0,rfl,.inl (by first | rfl | trivial)⟩
  | _=>simp [Ty.isSl] at h1
 | own t l T m =>
  intro τ x vs h ht
  simp only [AVal.as,AVal.asT] at h
  simp only [zA2] at ht
  obtain ⟨rfl,v,rfl,ho⟩:=ht
  cases m with
  | true=>simp only [cond_true] at h; cases h
  | false =>
   simp only [cond_false] at h
   obtain ⟨e,rfl⟩:=zD3 h
   exact zD0 ho
 | agg f c ih =>
  intro τ x vs h ht
  simp only [zA2] at ht
  obtain ⟨rfl,ht⟩:=ht
  simp only [AVal.as,AVal.asT] at h
  cases hb:Ty.beq (.st f) (.st f) with
  | false=>rw [hb,cond_false] at h; cases h
  | true =>
   rw [hb,cond_true] at h
   simp only [zB]
   exact ih h ht
 | nl =>
  intro τ x vs h ht
  simp only [zA2] at ht
  obtain ⟨rfl,rfl⟩:=ht
  simp only [zB]
 | cons a b iha ihb =>
  intro τ x vs h ht
  simp only [zA2] at ht
  obtain ⟨h1,t1,us,ws,rfl,rfl,h2,h3⟩:=ht
  simp only [AVal.as,AVal.asT,yU4] at h
  split at h
  ·rename_i y z hy hz
   injection h with h
   subst h
   simp only [zB]
   exact ⟨us,ws,rfl,iha hy h2,ihb hz h3⟩
  ·cases h
 | _=>intro τ x vs h ht; simp only [zA2] at ht
theorem zP4 {G:Gh} {w:World}:∀ {p:yH8} {τ:Ty} {c:AVal} {vs:List Value},τ.plain = true → τ.isL = false → zD5 τ p → zA2 G w τ c vs →
  (zA2 G w (τ.pty p) (c.at p) (seg vs (τ.poff p) (τ.pty p).size) ∧ τ.poff p + (τ.pty p).size ≤ τ.size ∧ (τ.pty p).plain = true ∧ (τ.pty p).isL = false):=by
 intro p
 induction p with
 | nil=>intro τ c vs hp hl _ h; have:=zB0 h; simp only [Ty.pty,AVal.at,Ty.poff]; rw [← this,yJ0]; exact ⟨h,by omega,hp,hl⟩
 | cons x p ih =>
  intro τ c vs hp hl hk h
  rcases x with k | i
  ·cases τ <;> simp only [zD5] at hk
   rename_i f
   simp only [Ty.plain,Bool.and_eq_true] at hp
   have hpf:=yC4 hp.2 hk.1
   have hle:=yC3 hk.1
   have hc:zA2 G w (f.fty k) (c.fld k) (seg vs (f.foff k) (f.fty k).size):=by
    cases c with
    | val τ' x=>simp only [zA2] at h; obtain ⟨rfl,_,h⟩:=h; simp only [AVal.fld,zA2]; simp only [zB] at h; exact ⟨trivial,hpf.1,zU0 hk.1 h⟩
    | agg f' a=>simp only [zA2] at h; obtain ⟨e,h⟩:=h; injection e with e; subst e; simp only [AVal.fld]; exact yJ3 hk.1 h
    | nil=>simp [zA2,Ty.isSl] at h
    | _=>simp [zA2] at h
   obtain ⟨h1,h2,h3,h4⟩:=ih hpf.2 hpf.1 hk.2 hc
   simp only [Ty.pty,AVal.at,Ty.poff,Ty.size]
   rw [yC _ _ _ _ _ h2] at h1
   exact ⟨h1,by omega,h3,h4⟩
  ·cases τ <;> simp only [zD5] at hk
   rename_i n t
   simp only [Ty.plain,Bool.and_eq_true,Bool.not_eq_true'] at hp
   cases c with
   | val τ' x =>
    simp only [zA2] at h
    obtain ⟨rfl,_,h⟩:=h
    simp only [zB] at h
    obtain ⟨h1,h2⟩:=h
    have hi:i.toNat < List.length (α:=t.den) x:=by omega
    have hg:=yA1 (k:=t.size) (fun _ _ h=>zA1 h) t.dflt h2 hi
    have hc:zA2 G w t (.val t (List.getD (α:=t.den) x i.toNat t.dflt)) (seg vs (i.toNat * t.size) t.size):=(by simp only [zA2]; exact ⟨trivial,hp.1,hg⟩)
    obtain ⟨h3,h4,h5,h6⟩:=ih hp.2 hp.1 hk.2.2 hc
    simp only [Ty.pty,AVal.at,Ty.poff,Ty.size,AVal.ix]
    rw [yC _ _ _ _ _ h4] at h3
    refine ⟨h3,?_,h5,h6⟩
    have:i.toNat * t.size + t.size ≤ n * t.size:=by rw [← Nat.succ_mul]; exact Nat.mul_le_mul_right _ (by omega)
    omega
   | nil=>simp [zA2,Ty.isSl] at h
   | _=>simp [zA2] at h
theorem zP5:∀ {A:AVal} {τ:Ty} {x:τ.den},AVal.as τ A = some x → A.fitsT τ = true:=by
 intro A
 induction A with
 | val τ' y =>
  intro τ x h
  simp only [AVal.as,AVal.asT] at h
  cases hl:τ'.isL with
  | true=>rw [hl,cond_true] at h; cases h
  | false =>
   rw [hl,cond_false] at h
   simp only [AVal.fitsT,hl,Bool.not_false,Bool.and_true]
   unfold Ty.cast at h
   split at h
   ·assumption
   ·cases h
 | nil=>intro τ x h; cases τ <;> first | rfl | (simp only [AVal.as,AVal.asT,xT1] at h; cases h)
 | own t l T m =>
  intro τ x h
  simp only [AVal.as,AVal.asT] at h
  cases m with
  | true=>simp only [cond_true] at h; cases h
  | false =>
   simp only [cond_false] at h
   simp only [AVal.fitsT]
   unfold Ty.cast at h
   split at h
   ·assumption
   ·cases h
 | agg f c ih =>
  intro τ x h
  simp only [AVal.as,AVal.asT] at h
  cases hb:Ty.beq (.st f) τ with
  | false=>rw [hb,cond_false] at h; cases h
  | true =>
   rw [hb,cond_true] at h
   have:=Ty.eq_of_beq hb; subst this
   simp only [AVal.fitsT,hb,Bool.true_and]
   exact ih h
 | nl=>intro τ x h; cases τ <;> first | rfl | (simp only [AVal.as,AVal.asT,xW6] at h; cases h)
 | cons a b iha ihb =>
  intro τ x h
  cases τ with
  | cons h1 t1 =>
   simp only [AVal.as,AVal.asT,yU4] at h
   split at h
   ·rename_i y z hy hz
    simp only [AVal.fitsT,zF2,Bool.and_eq_true]
    exact ⟨iha hy,ihb hz⟩
   ·cases h
  | _=>simp only [AVal.as,AVal.asT,yU4] at h; cases h
 | _=>intro τ x h; simp only [AVal.as,AVal.asT] at h; cases h
theorem yC5 {G:Gh} {w:World} {f:Ty}:∀ {c B:AVal} {k:Nat} {vs:List Value},k < f.flen → zA2 G w f c vs → (c.setNth k B).fitsT f = true → B.fitsT (f.fty k) = true:=by
 induction f with
 | cons h t _ iht =>
  intro c B k vs hk hc hf
  obtain ⟨a,b,us,ws,rfl,rfl,h1,h2⟩:=zM6 hc
  cases k with
  | zero=>simp only [AVal.setNth,AVal.fitsT,zF2,Bool.and_eq_true] at hf; exact hf.1
  | succ k =>
   simp only [Ty.flen] at hk
   simp only [AVal.setNth,AVal.fitsT,zF2,Bool.and_eq_true] at hf
   exact iht (by omega) h2 hf.2
 | _=>intro c B k vs hk; simp [Ty.flen] at hk
theorem yV0 {G:Gh} {w:World}:∀ {p:yH8} {τ:Ty} {c B:AVal} {vs ys:List Value},τ.plain = true → τ.isL = false → zD5 τ p → zA2 G w τ c vs → zA2 G w (τ.pty p) B ys →
  (AVal.put p c B).fitsT τ = true → zA2 G w τ (AVal.put p c B) (spl vs (τ.poff p) ys):=by
 intro p
 induction p with
 | nil=>intro τ c B vs ys hp hl _ h hB _; simp only [Ty.pty] at hB; have:=zB0 h; have:=zB0 hB; simp only [AVal.put,Ty.poff]; rw [xR0 _ _ (by omega)]; exact hB
 | cons x p ih =>
  intro τ c B vs ys hp hl hk h hB hj
  have hat:=zP4 hp hl hk h
  rcases x with k | i
  ·cases τ <;> simp only [zD5] at hk
   rename_i f
   simp only [Ty.plain,Bool.and_eq_true] at hp
   have hpf:=yC4 hp.2 hk.1
   have hle:=yC3 hk.1
   have hyl:=zB0 hB
   simp only [Ty.pty] at hyl hB hat
   simp only [Ty.poff,Ty.size] at hat ⊢
   have hvl:=zB0 h
   simp only [Ty.size] at hvl
   cases c with
   | val τ' x =>
    simp only [zA2] at h
    obtain ⟨rfl,_,h⟩:=h
    simp only [zB] at h
    have hg:zA2 G w (f.fty k) (.val (f.fty k) (f.fget k x)) (seg vs (f.foff k) (f.fty k).size):=(by simp only [zA2]; exact ⟨trivial,hpf.1,zU0 hk.1 h⟩)
    have hat2:=zP4 hpf.2 hpf.1 hk.2 hg
    simp only [AVal.put] at hj ⊢
    have hC:=fun hn=>ih (B:=B) hpf.2 hpf.1 hk.2 hg hB hn
    cases hy:AVal.as (f.fty k) (AVal.put p (.val (f.fty k) (f.fget k x)) B) with
    | some y =>
     simp only [hy] at hj ⊢
     have:=xE8 hk.1 h (zK2 hy (hC (zP5 hy)))
     rw [yC1 _ _ _ _ _ (by omega) (by omega)] at this
     simp only [zA2]
     exact ⟨trivial,rfl,by simpa only [zB] using this⟩
    | none =>
     simp only [hy] at hj ⊢
     have hex:=yM4 hp.1 hp.2 h
     simp only [AVal.fitsT,Bool.and_eq_true] at hj
     have:=zS9 hk.1 hex (hC (yC5 hk.1 hex hj.2))
     rw [yC1 _ _ _ _ _ (by omega) (by omega)] at this
     simp only [zA2]
     exact ⟨trivial,this⟩
   | agg f' a =>
    simp only [zA2] at h
    obtain ⟨e,h⟩:=h
    injection e with e; subst e
    have hg:=yJ3 hk.1 h
    have hat2:=zP4 hpf.2 hpf.1 hk.2 hg
    simp only [AVal.put] at hj ⊢
    simp only [AVal.fitsT,Bool.and_eq_true] at hj
    have:=zS9 hk.1 h (ih hpf.2 hpf.1 hk.2 hg hB (yC5 hk.1 h hj.2))
    rw [yC1 _ _ _ _ _ (by omega) (by omega)] at this
    simp only [zA2]
    exact ⟨trivial,this⟩
   | nil=>simp [zA2,Ty.isSl] at h
   | _=>simp [zA2] at h
  ·cases τ <;> simp only [zD5] at hk
   rename_i n t
   simp only [Ty.plain,Bool.and_eq_true,Bool.not_eq_true'] at hp
   have hyl:=zB0 hB
   have hvl:=zB0 h
   simp only [Ty.pty,Ty.size] at hyl hB hvl
   cases c with
   | val τ' x =>
    simp only [zA2] at h
    obtain ⟨rfl,_,h⟩:=h
    simp only [zB] at h
    obtain ⟨h1,h2⟩:=h
    have hi:i.toNat < List.length (α:=t.den) x:=by omega
    have hg:=yA1 (k:=t.size) (fun _ _ h=>zA1 h) t.dflt h2 hi
    have hc:zA2 G w t (.val t (List.getD (α:=t.den) x i.toNat t.dflt)) (seg vs (i.toNat * t.size) t.size):=(by simp only [zA2]; exact ⟨trivial,hp.1,hg⟩)
    have hat2:=zP4 hp.2 hp.1 hk.2.2 hc
    have hsz:i.toNat * t.size + t.size ≤ n * t.size:=by rw [← Nat.succ_mul]; exact Nat.mul_le_mul_right _ (by omega)
    simp only [AVal.put] at hj ⊢
    cases hy:AVal.as t (AVal.put p (.val t (List.getD (α:=t.den) x i.toNat t.dflt)) B) with
    | none=>simp only [hy,AVal.fitsT] at hj; cases hj
    | some y =>
     simp only [hy] at hj ⊢
     have hn:=zP5 hy
     have:=yJ2 (R:=zB G.χ w t) (k:=t.size) (fun _ _ h=>zA1 h) (zK2 hy (ih hp.2 hp.1 hk.2.2 hc hB hn)) h2 hi
     rw [yC1 _ _ _ _ _ (by omega) (by omega)] at this
     simp only [zA2,Ty.poff]
     exact ⟨trivial,rfl,by simp only [zB]; exact ⟨(List.length_set (α:=t.den)).trans h1,this⟩⟩
   | nil=>simp [zA2,Ty.isSl] at h
   | _=>simp [zA2] at h
end Go.Am
namespace Go.Am
open Go Go.RowKit
variable {P:Program} {c:Ctx} {G:Gh} {w:World} {tm:Array Value}
theorem zB8 (hty:zL5 P c.tys = true) {T:Nat} {τ:Ty} (h:c.is T τ = true):zC P τ (.inl T) = true:=by
 simp only [Ctx.is,Bool.and_eq_true] at h
 have e:=Ty.eq_of_beq h.1
 rw [e]
 exact zI7 hty T (by rw [← e]; intro h'; rw [h'] at h; simp [xT2] at h)
theorem VRep_int {χ:Nat → Nat → Nat} {k:IntKind} {n:Int} {v:Value}:zO5 χ w (.int k) n v ↔ v = .int k n:=by
 constructor
 ·rintro ⟨vs,h1,h2⟩
  simp only [zB] at h1
  simp only [Ty.isAgg,cond_false] at h2
  rw [h1] at h2
  injection h2 with h2 _
  exact h2.symm
 ·rintro rfl
  exact ⟨[.int k n],by simp only [zB],by simp [Ty.isAgg]⟩
theorem VRep_bool {χ:Nat → Nat → Nat} {b:Bool} {v:Value}:zO5 χ w .bool b v ↔ v = .bool b:=by
 constructor
 ·rintro ⟨vs,h1,h2⟩
  simp only [zB] at h1
  simp only [Ty.isAgg,cond_false] at h2
  rw [h1] at h2
  injection h2 with h2 _
  exact h2.symm
 ·rintro rfl
  exact ⟨[.bool b],by simp only [zB],by simp [Ty.isAgg]⟩
theorem VRep_str {χ:Nat → Nat → Nat} {s:List UInt8} {v:Value}:zO5 χ w .str s v ↔ v = .string ⟨s.toArray⟩:=by
 constructor
 ·rintro ⟨vs,h1,h2⟩
  simp only [zB] at h1
  simp only [Ty.isAgg,cond_false] at h2
  rw [h1] at h2
  injection h2 with h2 _
  exact h2.symm
 ·rintro rfl
  exact ⟨[.string ⟨s.toArray⟩],by simp only [zB],by simp [Ty.isAgg]⟩
theorem zC0 {χ:Nat → Nat → Nat} {τ:Ty} {x:τ.den} {v:Value} (h:τ.isAgg = false):zO5 χ w τ x v ↔ zB χ w τ x [v]:=by
 constructor
 ·rintro ⟨vs,h1,h2⟩
  rw [h,cond_false] at h2
  rw [← h2]; exact h1
 ·intro h1
  exact ⟨[v],h1,by rw [h,cond_false]⟩
theorem zF9 {χ:Nat → Nat → Nat} {τ:Ty} {x:τ.den} {v:Value} (h:τ.isAgg = true):zO5 χ w τ x v ↔ ∃ vs,v = .agg vs.toArray ∧ zB χ w τ x vs:=by
 constructor
 ·rintro ⟨vs,h1,h2⟩
  rw [h,cond_true] at h2
  exact ⟨vs,h2,h1⟩
 ·rintro ⟨vs,h1,h2⟩
  exact ⟨vs,h2,by rw [h,cond_true]; exact h1⟩
def zO6 (τ:Ty) (us:List Value) (u:Value):Prop:=bif τ.isAgg then u = .agg us.toArray else us = [u]
theorem yC6 {τ:Ty} {A:AVal} {us:List Value} {u:Value} (h:zA2 G w τ A us) (hl:τ.isL = false) (hu:zO6 τ us u):zA G w tm none A u:=by
 unfold zO6 at hu
 cases A with
 | val τ' x=>simp only [zA2] at h; obtain ⟨rfl,h1,h2⟩:=h; simp only [zA]; exact ⟨us,h2,hu⟩
 | nil=>simp only [zA2] at h; obtain ⟨h1,rfl⟩:=h; cases τ <;> simp [Ty.isSl] at h1; simp only [Ty.isAgg,cond_false] at hu; simp only [zA]; injection hu with hu _; exact hu.symm
 | own t l T m=>simp only [zA2] at h; obtain ⟨rfl,v,rfl,h1⟩:=h; simp only [Ty.isAgg,cond_false] at hu; injection hu with hu _; subst hu; simp only [zA]; exact h1
 | agg f a=>simp only [zA2] at h; obtain ⟨rfl,h1⟩:=h; simp only [Ty.isAgg,cond_true] at hu; simp only [zA]; exact ⟨us,hu,h1⟩
 | nl=>simp only [zA2] at h; obtain ⟨rfl,_⟩:=h; simp [Ty.isL] at hl
 | cons a b=>simp only [zA2] at h; obtain ⟨_,_,_,_,rfl,_⟩:=h; simp [Ty.isL] at hl
 | _=>simp only [zA2] at h
theorem zP6 {τ:Ty} {A:AVal} {u:Value} (h:zA G w tm none A u) (hf:A.fitsT τ = true) (hl:τ.isL = false):∃ us,zA2 G w τ A us ∧ zO6 τ us u:=by
 unfold zO6
 cases A with
 | val τ' x =>
  simp only [AVal.fitsT,Bool.and_eq_true,Bool.not_eq_true'] at hf
  have e:=Ty.eq_of_beq hf.1; subst e
  simp only [zA] at h
  obtain ⟨us,h1,h2⟩:=h
  exact ⟨us,by simp only [zA2]; exact ⟨trivial,hl,h1⟩,h2⟩
 | nil =>
  simp only [zA] at h; subst h
  simp only [AVal.fitsT] at hf
  cases τ <;> simp [Ty.isSl] at hf
  exact ⟨[.slice none 0 0],by simp [zA2,Ty.isSl],by simp [Ty.isAgg]⟩
 | own t l T m =>
  simp only [AVal.fitsT] at hf
  have e:=Ty.eq_of_beq hf; subst e
  simp only [zA] at h
  exact ⟨[u],by simp only [zA2]; exact ⟨trivial,u,rfl,h⟩,by simp [Ty.isAgg]⟩
 | agg f a =>
  simp only [AVal.fitsT,Bool.and_eq_true] at hf
  have e:=Ty.eq_of_beq hf.1; subst e
  simp only [zA] at h
  obtain ⟨us,h1,h2⟩:=h
  exact ⟨us,by simp only [zA2]; exact ⟨trivial,h2⟩,by simp [Ty.isAgg,h1]⟩
 | nl=>simp only [AVal.fitsT] at hf; have e:=Ty.eq_of_beq hf; subst e; simp [Ty.isL] at hl
 | cons a b=>simp only [AVal.fitsT] at hf; cases τ <;> simp [zF2] at hf; simp [Ty.isL] at hl
 | _=>simp [AVal.fitsT] at hf
theorem zH4 {τ:Ty} {A:AVal} {x:τ.den} {u:Value} (h:AVal.as τ A = some x) (hl:τ.isL = false) (hr:zA G w tm none A u):zO5 G.χ w τ x u:=by
 obtain ⟨us,h1,h2⟩:=zP6 hr (zP5 h) hl
 exact ⟨us,zK2 h h1,h2⟩
theorem yV1 {τ:Ty} {T:Nat} (h:zC P τ (.inl T) = true) (ha:τ.isAgg = false):τ.size = 1:=by
 cases τ <;> simp [Ty.isAgg,zC] at h ha <;> rfl
theorem yC7 {T:Nat} {d:TypeDesc} (hu:P.underlying T = some d) (w:World):(isAgg T).run P w = .ok d.isRow w:=by
 unfold isAgg
 rw [Sem.run_bind,run_underlying hu w]
 cases d <;> simp [TypeDesc.isRow]
theorem zI {τ:Ty} {T b o:Nat} {us:List Value} (hT:zC P τ (.inl T) = true) (hr:w.rangeAt b o us) (hl:us.length = τ.size) :
  ∃ u,(Instr.loadAt T (.pointer (some ⟨b,o,none⟩))).run P w = .ok u w ∧ zO6 τ us u:=by
 obtain ⟨⟨i,z,hi,hs,_⟩,d,hu,hd⟩:=zF4 hT
 unfold zO6
 cases ha:τ.isAgg with
 | true=>exact ⟨_,run_loadAt_mid w b o T us d hr hu (by rw [hd,ha]) (by simp [hi,hs,hl]),by simp⟩
 | false =>
  have h1:=yV1 hT ha
  rw [h1] at hl
  obtain ⟨u,rfl⟩:∃ u,us = [u]:=by
   cases us with
   | nil=>simp at hl
   | cons x r=>cases r with
    | nil=>exact ⟨x,rfl⟩
    | cons _ _=>simp at hl
  refine ⟨u,?_,by simp⟩
  have hc:=hr 0 u rfl
  have hg:=yC7 hu w
  rw [hd,ha] at hg
  simp only [Nat.add_zero] at hc
  simp only [Instr.loadAt,Instr.sureAddr,Sem.run_bind,Sem.run_pure,Result.andThen_ok,loadVar,hg]
  simp [hc]
theorem yQ6 {χ:Nat → Nat → Nat} {b o:Nat} {us:List Value} (h:yI8 χ w b o us):w.rangeAt b o us:=fun j v hv=>(h j v hv).1
theorem yQ7 {b:Nat} {cur:Array Value} {e:TypeId} {fr:Nat × Nat} (h:w.heap[b]? = some (.cells cur e fr)) (o n:Nat):w.rangeAt b o (seg cur.toList o n):=by
 intro j v hv
 rw [seg_getElem?] at hv
 split at hv
 ·simp only [World.cell?,h]; simpa using hv
 ·cases hv
def zC7:AVal → Option Nat
 | .ref s _ _=>some s
 | .eref s _ _ _ _=>some s
 | .rref s=>some s
 | _=>none
theorem zF1 {s:Nat} {τ:Ty} {k:AVal} {u:Value} (h:zA G w tm (some s) (.box τ k) u):yB7 τ ∧ ∃ cur e,w.heap[G.β s]? = some (.cells cur e (0,0)) ∧ zA2 G w τ k cur.toList ∧ (∀ o,G.χ (G.β s) o = zG5 s):=by
 simp only [zA] at h
 exact h.2
def xW7 (P:Program) (T:Nat):Bool :=
 match P.info? T,P.underlying T with
 | some i,some d=>Nat.beq i.size 1 && !d.isRow && (match i.zero with | some z=>Nat.beq z.cells.size 1 | none=>false)
 | _,_=>false
def yQ8 (P:Program) (l:List Nat):Bool:=l.all (xW7 P)
theorem yQ9 {l:List Nat} (h:yQ8 P l = true) {T:Nat} (hT:l.any (Nat.beq T) = true):∃ i d z u,P.info? T = some i ∧ P.underlying T = some d ∧ i.size = 1 ∧ d.isRow = false ∧ i.zero = some z ∧ z.cells = #[u]:=by
 obtain ⟨T',hm,hb⟩:=List.any_eq_true.1 hT
 have:=Nat.eq_of_beq_eq_true hb
 subst this
 have:=List.all_eq_true.1 h _ hm
 unfold xW7 at this
 split at this
 ·rename_i i d hi hd
  simp only [Bool.and_eq_true,Bool.not_eq_true'] at this
  obtain ⟨⟨h1,h2⟩,h3⟩:=this
  split at h3
  ·rename_i z hz
   have h3:=Nat.eq_of_beq_eq_true h3
   obtain ⟨u,hu⟩:=Array.size_eq_one_iff.1 h3
   exact ⟨i,d,z,u,hi,hd,Nat.eq_of_beq_eq_true h1,h2,hz,hu⟩
  ·cases h3
 ·cases this
theorem xM {f:Nat} {caps:List (Option (Nat × Ty))} {v:Value} (hv:zA G w tm none (.fptr f caps) v):∀ r,zA G w tm none (xQ8 f caps r) (.tuple (r.map (yL5 G v)).toArray):=by
 intro r
 induction r with
 | nil=>simp only [xQ8,zA,List.map_nil]
 | cons q r ih =>
  cases q with
  | none=>simp only [xQ8]; rw [zA]; exact ⟨v,r.map (yL5 G v),by simp [yL5],hv,ih⟩
  | some q =>
   obtain ⟨k,τ⟩:=q
   simp only [xQ8]
   rw [zA]
   refine ⟨.pointer (some ⟨G.β k,0,none⟩),r.map (yL5 G v),by simp [yL5],?_,ih⟩
   simp only [zA]
   exact ⟨by simp only [zD5],by simp [Ty.poff]⟩
theorem yC8 (hty:zL5 P c.tys = true) (hft:yQ8 P c.fts = true) {T:Nat} {x k A:AVal} {v:Value} {p:List Prop} (hx:zA G w tm none x v) (hk:∀ s,zC7 x = some s → ∃ u,zA G w tm (some s) k u)
  (h:yI2 c T x k = some (p,A)) (hp:∀ q ∈ p,q):∃ u,(Instr.loadAt T v).run P w = .ok u w ∧ zA G w tm none A u:=by
 cases x with
 | fptr f caps =>
  simp only [yI2] at h
  cases hb:c.fts.any (Nat.beq T) with
  | false=>simp [hb] at h
  | true =>
   simp only [hb,cond_true,Option.some.injEq,Prod.mk.injEq] at h
   obtain ⟨rfl,rfl⟩:=h
   obtain ⟨i,d,z,u,hi,hu,_,hrow,_,_⟩:=yQ9 hft hb
   have hv:=hx
   simp only [zA] at hx
   obtain ⟨b,rfl,_,hc⟩:=hx
   refine ⟨.func (.func f) #[] (caps.map (yL5 G (.pointer (some ⟨b,0,none⟩)))).toArray,?_,?_⟩
   ·have hg:=yC7 hu w
    rw [hrow] at hg
    simp only [Instr.loadAt,Instr.sureAddr,Sem.run_bind,Sem.run_pure,Result.andThen_ok,loadVar,hg]
    simp [hc]
   ·rw [zA]
    exact ⟨_,rfl,xM hv caps⟩
 | val τ x =>
  cases τ with
  | ptr t =>
   simp only [yI2] at h
   cases hi:c.is T t with
   | false=>simp [hi] at h
   | true =>
    simp only [hi,cond_true,Option.some.injEq,Prod.mk.injEq] at h
    obtain ⟨rfl,rfl⟩:=h
    have hT:=zB8 hty hi
    simp only [zA] at hx
    rw [zC0 rfl] at hx
    simp only [zB] at hx
    obtain ⟨b,o,us,hv,h1,h2⟩:=hx
    injection hv with hv _
    subst hv
    obtain ⟨u,h3,h4⟩:=zI hT (yQ6 h2) (zA1 h1)
    exact ⟨u,h3,by simp only [zA]; exact ⟨us,h1,h4⟩⟩
  | _=>simp [yI2] at h
 | ref s τ q =>
  simp only [yI2] at h
  cases k with
  | box τ' k =>
   simp only at h
   cases hc:(Ty.beq τ' τ && c.is T (τ.pty q) && AVal.fits (τ.pty q) (k.at q)) with
   | false=>simp [hc] at h
   | true =>
    simp only [hc,cond_true,Option.some.injEq,Prod.mk.injEq] at h
    obtain ⟨rfl,rfl⟩:=h
    simp only [Bool.and_eq_true] at hc
    have e:=Ty.eq_of_beq hc.1.1; subst e
    have hT:=zB8 hty hc.1.2
    obtain ⟨u,hu⟩:=hk s rfl
    obtain ⟨⟨hpl,hnl⟩,cur,e,h1,h2,h3⟩:=zF1 hu
    simp only [zA] at hx
    obtain ⟨hx1,rfl⟩:=hx
    obtain ⟨h4,h5,h6,h7⟩:=zP4 hpl hnl hx1 h2
    obtain ⟨u,h8,h9⟩:=zI hT (yQ7 h1 _ _) (zB0 h4)
    exact ⟨u,h8,yC6 h4 h7 h9⟩
  | _=>simp at h
 | eref s U t i q =>
  simp only [yI2] at h
  cases k with
  | ownh t' l U' j V m =>
   simp only at h
   cases hc:(Ty.beq (.sl t') t && Nat.beq U' U && c.is T (.sl t') && q.isEmpty) with
   | false=>simp only [hc,cond_false] at h; cases h
   | true =>
    simp only [hc,cond_true,Option.some.injEq,Prod.mk.injEq] at h
    obtain ⟨rfl,rfl⟩:=h
    simp only [Bool.and_eq_true] at hc
    have e:=Ty.eq_of_beq hc.1.1.1; subst e
    have e:=Nat.eq_of_beq_eq_true hc.1.1.2; subst e
    have hq:q = []:=List.isEmpty_iff.1 hc.2
    subst hq
    have hT:=zB8 hty hc.1.2
    obtain ⟨u,hu⟩:=hk s rfl
    simp only [zA] at hu hx
    obtain ⟨hx0,hx1,rfl⟩:=hx
    obtain ⟨hij,hi⟩:=hp _ (List.mem_singleton.2 rfl)
    have hi':i.toNat < List.length (α:=List t'.den) l:=by omega
    obtain ⟨hv,hne,⟨_,h0⟩ | ⟨cap,cur,e,h1,h2,h3,h4,h5,h6,h7⟩⟩:=hu
    ·rw [h0] at hi'; simp at hi'
    ·obtain ⟨u1,hu1,hr⟩:=h7 i.toNat _ (List.getElem?_eq_getElem hi')
     rw [if_pos hij] at hr
     have hr':w.rangeAt (G.γ U') (i.toNat * (Ty.sl t').size + (Ty.sl t').poff []) [u1]:=by
      intro k v hv
      cases k with
      | zero=>simp at hv; subst hv; simp only [Ty.size,Ty.poff,World.cell?,h2]; simpa using hu1
      | succ k=>simp at hv
     obtain ⟨u2,h13,h14⟩:=zI hT hr' rfl
     refine ⟨u2,h13,?_⟩
     simp only [zO6,Ty.isAgg,cond_false] at h14
     injection h14 with h14 _
     subst h14
     simp only [zA]
     refine .inl ?_
     rw [← hij,List.getD_eq_getElem?_getD,List.getElem?_eq_getElem hi']
     exact hr
  | own t' l U' m =>
   simp only at h
   cases hc:(Ty.beq t' t && Nat.beq U' U && c.is T (t.pty q) && AVal.fits (t.pty q) ((AVal.val t' (List.getD (α:=t'.den) l i.toNat t'.dflt)).at q)) with
   | false=>simp only [hc,cond_false] at h; cases h
   | true =>
    simp only [hc,cond_true,Option.some.injEq,Prod.mk.injEq] at h
    obtain ⟨rfl,rfl⟩:=h
    simp only [Bool.and_eq_true] at hc
    have e:=Ty.eq_of_beq hc.1.1.1; subst e
    have e:=Nat.eq_of_beq_eq_true hc.1.1.2; subst e
    have hT:=zB8 hty hc.1.2
    obtain ⟨u,hu⟩:=hk s rfl
    simp only [zA] at hu hx
    obtain ⟨hx0,hx1,rfl⟩:=hx
    have hi:=hp _ (List.mem_singleton.2 rfl)
    have hi':i.toNat < l.length:=by omega
    obtain ⟨⟨hpl,hnl⟩,hu⟩:=zB5 hu (yU9 hx1 hT)
    rcases hu with ⟨_,rfl⟩ | ⟨cap,cur,e,us,_,h2,h3,h4,h5,h6,h7,h8⟩
    ·simp at hi'
    ·have hul:=zB3 (k:=t'.size) (fun _ _ h=>zA1 h) h6
     have hg:=yA1 (k:=t'.size) (fun _ _ h=>zA1 h) t'.dflt h6 hi'
     have hsz:i.toNat * t'.size + t'.size ≤ l.length * t'.size:=by rw [← Nat.succ_mul]; exact Nat.mul_le_mul_right _ (by omega)
     have hc2:zA2 G w t' (.val t' (List.getD (α:=t'.den) l i.toNat t'.dflt)) (seg us (i.toNat * t'.size) t'.size):=by simp only [zA2]; exact ⟨trivial,hnl,hg⟩
     obtain ⟨h9,h10,h11,h12⟩:=zP4 hpl hnl hx1 hc2
     rw [yC _ _ _ _ _ h10] at h9
     have hr:w.rangeAt (G.γ U') (i.toNat * t'.size + t'.poff q) (seg us (i.toNat * t'.size + t'.poff q) (t'.pty q).size):=by
      intro j v hv
      rw [seg_getElem?] at hv
      split at hv
      ·rw [← h7,List.getElem?_take] at hv
       split at hv
       ·simp only [World.cell?,h2]; simpa using hv
       ·cases hv
      ·cases hv
     obtain ⟨u,h13,h14⟩:=zI hT hr (zB0 h9)
     exact ⟨u,h13,yC6 h9 h12 h14⟩
  | _=>simp at h
 | _=>simp [yI2] at h
end Go.Am
namespace Go.Am
open Go Go.RowKit
variable {P:Program} {c:Ctx} {G:Gh} {w:World} {tm:Array Value}
theorem zQ7 {s:Option Nat} {t:Ty} {x:t.den} {b o:Nat} {us:List Value} (h1:zB G.χ w t x us) (h2:yI8 G.χ w b o us):zA G w tm s (.val (.ptr t) x) (.pointer (some ⟨b,o,none⟩)):=by
 simp only [zA]
 refine (zC0 rfl).2 ?_
 simp only [zB]
 exact ⟨b,o,us,rfl,h1,h2⟩
theorem zM7 {χ:Nat → Nat → Nat} {t:Ty} {l:List t.den} {us:List Value} {i:Nat} (h:zJ5 (zB χ w t) l us) (hi:i < l.length):zB χ w t (l.getD i t.dflt) (seg us (i * t.size) t.size) :=
 yA1 (R:=zB χ w t) (k:=t.size) (fun _ _ h=>zA1 h) t.dflt h hi
theorem xE9 (s:List UInt8) (n:Nat) (h:n < s.length):((⟨s.toArray⟩:ByteArray))[n]? = some (s.getD n 0):=by
 rw [List.getD_eq_getElem?_getD,List.getElem?_eq_getElem h]
 rw [getElem?_pos (c:=(⟨s.toArray⟩:ByteArray)) (i:=n) (by simpa [ByteArray.size] using h)]
 rfl
theorem zE2 {τ:Ty} {T:Nat} (h:zC P τ (.inl T) = true) (w:World):(sizeOf T).run P w = .ok τ.size w:=by
 obtain ⟨⟨i,z,hi,hs,_⟩,_⟩:=zF4 h
 simp [sizeOf,typeInfo,hi,hs]
theorem zU1 {χ:Nat → Nat → Nat} {b o:Nat} {us:List Value} (h:yI8 χ w b o us) (q n:Nat):yI8 χ w b (o + q) (seg us q n):=by
 intro j v hv
 rw [seg_getElem?] at hv
 split at hv
 ·have:=h _ _ hv
  rw [← Nat.add_assoc] at this
  exact this
 ·cases hv
theorem zM8 {p:yH8}:∀ {τ:Ty} {x:Nat ⊕ Int},zD5 τ p → τ.poff (p ++ [x]) = τ.poff p + (τ.pty p).poff [x]:=by
 induction p with
 | nil=>intro τ x _; simp [Ty.poff,Ty.pty]
 | cons y p ih =>
  intro τ x h
  rcases y with k | i
  ·cases τ <;> simp only [zD5] at h
   simp only [List.cons_append,Ty.pty,Ty.poff]; rw [ih h.2]; omega
  ·cases τ <;> simp only [zD5] at h
   simp only [List.cons_append,Ty.pty,Ty.poff]; rw [ih h.2.2]; omega
theorem zJ1 {p:yH8}:∀ {τ:Ty} {x:Nat ⊕ Int},zD5 τ p → zD5 (τ.pty p) [x] → zD5 τ (p ++ [x]):=by
 induction p with
 | nil=>intro τ x _ h; exact h
 | cons y p ih =>
  intro τ x h hx
  rcases y with k | i
  ·cases τ <;> simp only [zD5] at h
   simp only [List.cons_append,zD5]; exact ⟨h.1,ih h.2 hx⟩
  ·cases τ <;> simp only [zD5] at h
   simp only [List.cons_append,zD5]; exact ⟨h.1,h.2.1,ih h.2.2 hx⟩
theorem zT {f:Ty} {T b o k:Nat} (hT:zC P (.st f) (.inl T) = true) (hk:k < f.flen) (hs:0 < (f.fty k).size) (w:World) :
  (Instr.fieldAt T (.pointer (some ⟨b,o,none⟩)) k).run P w = .ok (.pointer (some ⟨b,o + f.foff k,none⟩)) w:=by
 obtain ⟨fs,h1,h2⟩:=zP3 hT
 obtain ⟨fd,h3,h4,h5,_⟩:=zW2 h2 hk
 rw [Array.getElem?_toList] at h3
 have h6:=zE2 h5 w
 simp only [Instr.fieldAt,Sem.run_bind,run_underlying h1 w,Result.andThen_ok,h3,Instr.sureAddr,Sem.run_pure,fieldPlace,h6]
 rw [if_neg (by omega)]
 simp [Addr.add_mid,h4]
theorem zZ (hty:zL5 P c.tys = true) {T k:Nat} {x A:AVal} {v:Value} {p:List Prop} (hx:zA G w tm none x v) (h:zG1 c T x k = some (p,A)) :
  ∃ u,(Instr.fieldAt T v k).run P w = .ok u w ∧ zA G w tm none A u:=by
 cases x with
 | val τ x =>
  cases τ with
  | ptr t =>
   cases t with
   | st f =>
    simp only [zG1] at h
    cases hi:(c.is T (.st f) && Nat.blt k f.flen && Nat.blt 0 (f.fty k).size) with
    | false=>simp [hi] at h
    | true =>
     simp only [hi,cond_true,Option.some.injEq,Prod.mk.injEq] at h
     obtain ⟨rfl,rfl⟩:=h
     simp only [Bool.and_eq_true] at hi
     have hT:=zB8 hty hi.1.1
     have hk:k < f.flen:=Nat.le_of_ble_eq_true hi.1.2
     have hs:0 < (f.fty k).size:=Nat.le_of_ble_eq_true hi.2
     simp only [zA] at hx
     rw [zC0 rfl] at hx
     simp only [zB] at hx
     obtain ⟨b,o,us,hv,h1,h2⟩:=hx
     injection hv with hv _
     subst hv
     refine ⟨_,zT hT hk hs w,?_⟩
     exact zQ7 (zU0 hk h1) (zU1 h2 _ _)
   | _=>simp [zG1] at h
  | _=>simp [zG1] at h
 | ref s τ q =>
  simp only [zG1] at h
  split at h
  ·rename_i f hf
   cases hi:(c.is T (.st f) && Nat.blt k f.flen && Nat.blt 0 (f.fty k).size) with
   | false=>simp [hi] at h
   | true =>
    simp only [hi,cond_true,Option.some.injEq,Prod.mk.injEq] at h
    obtain ⟨rfl,rfl⟩:=h
    simp only [Bool.and_eq_true] at hi
    have hT:=zB8 hty hi.1.1
    have hk:k < f.flen:=Nat.le_of_ble_eq_true hi.1.2
    have hs:0 < (f.fty k).size:=Nat.le_of_ble_eq_true hi.2
    simp only [zA] at hx
    obtain ⟨hq,rfl⟩:=hx
    refine ⟨_,zT hT hk hs w,?_⟩
    simp only [zA]
    refine ⟨zJ1 hq (by rw [hf]; simp only [zD5]; exact ⟨hk,trivial⟩),?_⟩
    rw [zM8 hq,hf]
    simp [Ty.poff]
  ·cases h
 | eref s U t i q =>
  simp only [zG1] at h
  split at h
  ·rename_i f hf
   cases hi:(c.is T (.st f) && Nat.blt k f.flen && Nat.blt 0 (f.fty k).size) with
   | false=>simp [hi] at h
   | true =>
    simp only [hi,cond_true,Option.some.injEq,Prod.mk.injEq] at h
    obtain ⟨rfl,rfl⟩:=h
    simp only [Bool.and_eq_true] at hi
    have hT:=zB8 hty hi.1.1
    have hk:k < f.flen:=Nat.le_of_ble_eq_true hi.1.2
    have hs:0 < (f.fty k).size:=Nat.le_of_ble_eq_true hi.2
    simp only [zA] at hx
    obtain ⟨h0,hq,rfl⟩:=hx
    refine ⟨_,zT hT hk hs w,?_⟩
    simp only [zA]
    refine ⟨h0,zJ1 hq (by rw [hf]; simp only [zD5]; exact ⟨hk,trivial⟩),?_⟩
    rw [zM8 hq,hf]
    simp [Ty.poff,Nat.add_assoc]
  ·cases h
 | _=>simp [zG1] at h
theorem zG8 {ix:Operand} {i n:Int} (h:∀ q ∈ zO9 ix i n,q):0 ≤ i ∧ i < n:=by
 unfold zO9 at h
 split at h <;> exact h _ (List.mem_singleton.2 rfl)
theorem zI0 {t:Ty} {T:Nat} {k:IntKind} {i:Int} {a:Option Addr} {b o len cap:Nat} (hT:zC P (.sl t) (.inl T) = true) (ha:a = some ⟨b,o,none⟩) (hi:0 ≤ i ∧ i < (len:Int)) (w:World) :
  (Instr.indexAt T (.slice a len cap) (.int k i)).run P w = .ok (.pointer (some ⟨b,o + i.toNat * t.size,none⟩)) w:=by
 obtain ⟨e,h1,h2⟩:=zG7 hT
 have h3:=zE2 h2 w
 subst ha
 simp only [Instr.indexAt,asIntOf,Sem.run_bind,Sem.run_pure,Result.andThen_ok,run_underlying h1 w]
 simp [hi,h3,Addr.add_mid]
theorem zK3 {t:Ty} {T n:Nat} {k:IntKind} {i:Int} {b o:Nat} (hT:zC P (.arr n t) (.inl T) = true) (hi:0 ≤ i ∧ i < (n:Int)) (w:World) :
  (Instr.indexAt T (.pointer (some ⟨b,o,none⟩)) (.int k i)).run P w = .ok (.pointer (some ⟨b,o + i.toNat * t.size,none⟩)) w:=by
 obtain ⟨e,h1,h2⟩:=zM5 hT
 have h3:=zE2 h2 w
 simp only [Instr.indexAt,asIntOf,Sem.run_bind,Sem.run_pure,Result.andThen_ok,run_underlying h1 w,Instr.sureAddr]
 simp [hi,h3,Addr.add_mid]
theorem zZ0 (hty:zL5 P c.tys = true) {T s:Nat} {x y A:AVal} {v u:Value} {ix:Operand} {p:List Prop} (hx:zA G w tm none x v) (hy:zA G w tm none y u)
  (h:zV8 c T x s y ix = some (p,A)) (hp:∀ q ∈ p,q):∃ r,(Instr.indexAt T v u).run P w = .ok r w ∧ zA G w tm none A r:=by
 have hy':∀ k (i:Int),y = .val (.int k) i → u = .int k i:=by rintro k i rfl; simp only [zA] at hy; exact VRep_int.1 hy
 unfold zV8 at h
 split at h
 ·rename_i t l k i
  have:=hy' _ _ rfl; subst this
  cases hi:c.is T (.sl t) with
  | false=>simp [hi] at h
  | true =>
   simp only [hi,cond_true,Option.some.injEq,Prod.mk.injEq] at h
   obtain ⟨rfl,rfl⟩:=h
   have hb:=zG8 hp
   have hT:=zB8 hty hi
   simp only [zA] at hx
   rw [zC0 rfl] at hx
   simp only [zB] at hx
   obtain ⟨a,cap,hv,hx⟩:=hx
   injection hv with hv _
   subst hv
   rcases hx with rfl | ⟨b,o,us,ha,h1,h2,h3⟩
   ·simp at hb; omega
   ·refine ⟨_,zI0 hT ha hb w,?_⟩
    exact zQ7 (zM7 h2 (by omega)) (zU1 h3 _ _)
 ·rename_i t l U m k i
  have:=hy' _ _ rfl; subst this
  cases hi:c.is T (.sl t) with
  | false=>simp [hi] at h
  | true =>
   simp only [hi,cond_true] at h
   have hT:=zB8 hty hi
   cases m with
   | true =>
    simp only [cond_true,Option.some.injEq,Prod.mk.injEq] at h
    obtain ⟨rfl,rfl⟩:=h
    have hb:=zG8 hp
    simp only [zA] at hx
    rcases (zB5 hx (yJ hT)).2 with ⟨_,rfl⟩ | ⟨cap,cur,e,us,rfl,h2,h3,h4,h5,h6,h7,h8⟩
    ·simp at hb; omega
    ·refine ⟨_,zI0 hT rfl hb w,?_⟩
     simp only [zA]
     exact ⟨hb.1,trivial,by simp [Ty.poff]⟩
   | false =>
    simp only [cond_false,Option.some.injEq,Prod.mk.injEq] at h
    obtain ⟨rfl,rfl⟩:=h
    have hb:=zG8 hp
    simp only [zA] at hx
    have hx2:=zD0 hx
    simp only [zB] at hx2
    obtain ⟨a,cap,hv,hx3⟩:=hx2
    injection hv with hv _
    subst hv
    rcases hx3 with he | ⟨b,o,us,ha,h1,h2,h3⟩
    ·rw [he] at hb; simp at hb; omega
    ·refine ⟨_,zI0 hT ha hb w,?_⟩
     exact zQ7 (zM7 h2 (by omega)) (zU1 h3 _ _)
 ·rename_i t l U j V m k i
  have:=hy' _ _ rfl; subst this
  cases hi:c.is T (.sl (.sl t)) with
  | false=>simp [hi] at h
  | true =>
   simp only [hi,cond_true,Option.some.injEq,Prod.mk.injEq] at h
   obtain ⟨rfl,rfl⟩:=h
   have hT:=zB8 hty hi
   have hb:=zG8 hp
   simp only [zA] at hx
   obtain ⟨_,_,⟨_,rfl⟩ | ⟨cap,cur,e,rfl,_⟩⟩:=hx
   ·simp at hb; omega
   ·refine ⟨_,zI0 hT rfl hb w,?_⟩
    simp only [zA]
    exact ⟨hb.1,trivial,by simp [Ty.poff]⟩
 ·rename_i n t l k i
  have:=hy' _ _ rfl; subst this
  cases hi:c.is T (.arr n t) with
  | false=>simp [hi] at h
  | true =>
   simp only [hi,cond_true,Option.some.injEq,Prod.mk.injEq] at h
   obtain ⟨rfl,rfl⟩:=h
   have hb:=zG8 hp
   have hT:=zB8 hty hi
   simp only [zA] at hx
   rw [zC0 rfl] at hx
   simp only [zB] at hx
   obtain ⟨b,o,us,hv,⟨h1,h2⟩,h3⟩:=hx
   injection hv with hv _
   subst hv
   refine ⟨_,zK3 hT hb w,?_⟩
   exact zQ7 (zM7 h2 (by omega)) (zU1 h3 _ _)
 ·rename_i s' τ q k i
  have:=hy' _ _ rfl; subst this
  split at h
  ·rename_i n t hf
   cases hi:c.is T (.arr n t) with
   | false=>simp [hi] at h
   | true =>
    simp only [hi,cond_true,Option.some.injEq,Prod.mk.injEq] at h
    obtain ⟨rfl,rfl⟩:=h
    have hb:=zG8 hp
    have hT:=zB8 hty hi
    simp only [zA] at hx
    obtain ⟨hq,rfl⟩:=hx
    refine ⟨_,zK3 hT hb w,?_⟩
    simp only [zA]
    refine ⟨zJ1 hq (by rw [hf]; simp only [zD5]; exact ⟨hb.1,hb.2,trivial⟩),?_⟩
    rw [zM8 hq,hf]
    simp [Ty.poff]
  ·cases h
 ·rename_i s' U t' j q k i
  have:=hy' _ _ rfl; subst this
  split at h
  ·rename_i n t hf
   cases hi:c.is T (.arr n t) with
   | false=>simp [hi] at h
   | true =>
    simp only [hi,cond_true,Option.some.injEq,Prod.mk.injEq] at h
    obtain ⟨rfl,rfl⟩:=h
    have hb:=zG8 hp
    have hT:=zB8 hty hi
    simp only [zA] at hx
    obtain ⟨h0,hq,rfl⟩:=hx
    refine ⟨_,zK3 hT hb w,?_⟩
    simp only [zA]
    refine ⟨h0,zJ1 hq (by rw [hf]; simp only [zD5]; exact ⟨hb.1,hb.2,trivial⟩),?_⟩
    rw [zM8 hq,hf]
    simp [Ty.poff,Nat.add_assoc]
  ·cases h
 ·cases h
theorem zM9 {τ:Ty} {T o:Nat} {us:List Value} (hT:zC P τ (.inl T) = true) (ho:o + τ.size ≤ us.length) (w:World) :
  ∃ u,(part T us.toArray o).run P w = .ok u w ∧ zO6 τ (seg us o τ.size) u:=by
 obtain ⟨⟨i,z,hi,hs,_⟩,d,hu,hd⟩:=zF4 hT
 unfold part zO6
 rw [Sem.run_bind,yC7 hu w,hd]
 cases ha:τ.isAgg with
 | true =>
  refine ⟨.agg (seg us o τ.size).toArray,?_,by simp⟩
  simp [zE2 hT w,seg]
 | false =>
  have h1:=yV1 hT ha
  rw [h1] at ho ⊢
  have hlt:o < us.length:=by omega
  refine ⟨us[o],?_,?_⟩
  ·simp [List.getElem?_eq_getElem hlt]
  ·simp only [cond_false]
   apply List.ext_getElem?
   intro j
   rw [seg_getElem?]
   cases j with
   | zero=>simp [List.getElem?_eq_getElem hlt]
   | succ j=>simp
theorem yM5 (hty:zL5 P c.tys = true) {T:Nat} {x y A:AVal} {v u:Value} {ix:Operand} {p:List Prop} (hx:zA G w tm none x v) (hy:zA G w tm none y u)
  (h:xD0 c T x y ix = some (p,A)) (hp:∀ q ∈ p,q):∃ r,(Instr.index T v u).run P w = .ok r w ∧ zA G w tm none A r:=by
 have hy':∀ k (i:Int),y = .val (.int k) i → u = .int k i:=by rintro k i rfl; simp only [zA] at hy; exact VRep_int.1 hy
 unfold xD0 at h
 split at h
 ·rename_i s k i
  have:=hy' _ _ rfl; subst this
  cases hi:c.is T .str with
  | false=>simp [hi] at h
  | true =>
   simp only [hi,cond_true,Option.some.injEq,Prod.mk.injEq] at h
   obtain ⟨rfl,rfl⟩:=h
   have hb:=zG8 hp
   have hT:=zJ0 (zB8 hty hi)
   simp only [zA] at hx
   have hv:=VRep_str.1 hx
   subst hv
   have hlt:i.toNat < List.length (α:=UInt8) s:=by omega
   have hg:=xE9 s i.toNat hlt
   refine ⟨.int .u8 ((List.getD (α:=UInt8) s i.toNat 0).toNat:Int),?_,?_⟩
   ·simp only [Instr.index,asIntOf,Sem.run_bind,Sem.run_pure,Result.andThen_ok,run_underlying hT w,hb.1,if_true,hg]
   ·simp only [zA]; exact VRep_int.2 rfl
 ·rename_i n t l k i
  have:=hy' _ _ rfl; subst this
  cases hi:c.is T (.arr n t) with
  | false=>simp [hi] at h
  | true =>
   simp only [hi,cond_true,Option.some.injEq,Prod.mk.injEq] at h
   obtain ⟨rfl,rfl⟩:=h
   have hb:=zG8 hp
   have hT:=zB8 hty hi
   obtain ⟨e,h1,h2⟩:=zM5 hT
   simp only [zA] at hx
   obtain ⟨vs,rfl,hx2⟩:=(zF9 rfl).1 hx
   simp only [zB] at hx2
   have hlen:=zB3 (k:=t.size) (fun _ _ h=>zA1 h) hx2.2
   have hlt:i.toNat < List.length (α:=t.den) l:=by omega
   have hle:i.toNat * t.size + t.size ≤ vs.length:=by rw [hlen,← Nat.succ_mul]; exact Nat.mul_le_mul_right _ (by omega)
   obtain ⟨r,h3,h4⟩:=zM9 h2 hle w
   refine ⟨r,?_,?_⟩
   ·simp only [Instr.index,asIntOf,Sem.run_bind,Sem.run_pure,Result.andThen_ok,run_underlying h1 w]
    rw [if_pos hb]
    simpa only [Sem.run_bind,Result.andThen_ok,zE2 h2 w] using h3
   ·simp only [zA]
    exact ⟨_,zM7 hx2.2 hlt,h4⟩
 ·cases h
theorem yM6 (hty:zL5 P c.tys = true) {T k:Nat} {x A:AVal} {v:Value} {p:List Prop} (hx:zA G w tm none x v) (h:xD1 c T x k = some (p,A)) :
  ∃ u,(Instr.field T v k).run P w = .ok u w ∧ zA G w tm none A u:=by
 unfold xD1 at h
 split at h
 ·rename_i f x
  cases hi:(c.is T (.st f) && Nat.blt k f.flen) with
  | false=>simp [hi] at h
  | true =>
   simp only [hi,cond_true,Option.some.injEq,Prod.mk.injEq] at h
   obtain ⟨rfl,rfl⟩:=h
   simp only [Bool.and_eq_true] at hi
   have hT:=zB8 hty hi.1
   have hk:k < f.flen:=Nat.le_of_ble_eq_true hi.2
   obtain ⟨fs,h1,h2⟩:=zP3 hT
   obtain ⟨fd,h3,h4,h5,_⟩:=zW2 h2 hk
   rw [Array.getElem?_toList] at h3
   simp only [zA] at hx
   obtain ⟨vs,rfl,hx2⟩:=(zF9 rfl).1 hx
   simp only [zB] at hx2
   have hle:=yC3 hk
   have hvl:=zA1 hx2
   obtain ⟨u,h6,h7⟩:=zM9 h5 (o:=f.foff k) (us:=vs) (by omega) w
   refine ⟨u,?_,?_⟩
   ·simp only [Instr.field,Sem.run_bind,run_underlying h1 w,Result.andThen_ok,h3,asAgg,Sem.run_pure,h4,Nat.zero_add]; exact h6
   ·simp only [zA]; exact ⟨_,zU0 hk hx2,h7⟩
 ·rename_i f a
  cases hi:(c.is T (.st f) && Nat.blt k f.flen) with
  | false=>simp [hi] at h
  | true =>
   simp only [hi,cond_true,Option.some.injEq,Prod.mk.injEq] at h
   obtain ⟨rfl,rfl⟩:=h
   simp only [Bool.and_eq_true] at hi
   have hT:=zB8 hty hi.1
   have hk:k < f.flen:=Nat.le_of_ble_eq_true hi.2
   obtain ⟨fs,h1,h2⟩:=zP3 hT
   obtain ⟨fd,h3,h4,h5,_⟩:=zW2 h2 hk
   rw [Array.getElem?_toList] at h3
   simp only [zA] at hx
   obtain ⟨vs,rfl,hx⟩:=hx
   have hle:=yC3 hk
   have hvl:=zB0 hx
   obtain ⟨u,h6,h7⟩:=zM9 h5 (o:=f.foff k) (us:=vs) (by omega) w
   refine ⟨u,?_,yC6 (yJ3 hk hx) (zC2 h5) h7⟩
   simp only [Instr.field,Sem.run_bind,run_underlying h1 w,Result.andThen_ok,h3,asAgg,Sem.run_pure,h4,Nat.zero_add]; exact h6
 ·cases h
end Go.Am
namespace Go.Am
open Go Go.RowKit
variable {P:Program} {c:Ctx} {G:Gh} {w:World} {tm:Array Value}
theorem zS5 {xs us ws:List Value} {o n:Nat} (h:seg xs o n = us ++ ws) (hn:us.length + ws.length = n):seg xs o us.length = us ∧ seg xs (o + us.length) ws.length = ws:=by
 have hl:o + n ≤ xs.length ∨ n = 0:=by
  by_cases hz:n = 0
  ·exact .inr hz
  ·left
   have:=congrArg List.length h
   simp [seg] at this
   omega
 constructor
 ·have:=yC xs o n 0 us.length (by omega)
  rw [h,yA0] at this
  simpa using this.symm
 ·have:=yC xs o n us.length ws.length (by omega)
  rw [h] at this
  have h2:=zU us ws 0 ws.length
  simp only [Nat.add_zero] at h2
  rw [h2,yJ0] at this
  exact this.symm
theorem yF3:∀ {τ:Ty},
  (∀ {T d:Nat} {x y:Value} {a b:τ.den},zC P τ (.inl T) = true → τ.cmp = true → τ.ht ≤ d → zO5 G.χ w τ a x → zO5 G.χ w τ b y → (Op.equalIn (d + 1) T x y).run P w = .ok (τ.eqb a b) w) ∧
  (∀ {fs:List Field} {o d:Nat} {xs ys:List Value} {a b:τ.den},zC P τ (.inr (fs,o)) = true → τ.cmp = true → τ.ht ≤ d → o + τ.size ≤ xs.length → o + τ.size ≤ ys.length →
   zB G.χ w τ a (seg xs o τ.size) → zB G.χ w τ b (seg ys o τ.size) → (Op.eqFields (d + 1) xs.toArray ys.toArray fs).run P w = .ok (τ.eqb a b) w):=by
 intro τ
 induction τ with
 | int k =>
  refine ⟨?_,fun h=>by simp [zC] at h⟩
  intro T d x y a b hT _ _ hx hy
  rw [VRep_int.1 hx,VRep_int.1 hy]
  exact run_equalIn_int w d T k k a b (yA hT)
 | bool =>
  refine ⟨?_,fun h=>by simp [zC] at h⟩
  intro T d x y a b hT _ _ hx hy
  rw [VRep_bool.1 hx,VRep_bool.1 hy]
  exact run_equalIn_bool w d T a b (yM3 hT)
 | str =>
  refine ⟨?_,fun h=>by simp [zC] at h⟩
  intro T d x y a b hT _ _ hx hy
  rw [VRep_str.1 hx,VRep_str.1 hy,run_equalIn_string w d T _ _ (zJ0 hT)]
  simp only [ByteArray.toList_eq,Ty.eqb]
 | nl =>
  refine ⟨fun h=>by simp [zC] at h,?_⟩
  intro fs o d xs ys a b hT _ _ _ _ _ _
  cases fs with
  | nil=>simp [Op.eqFields,Ty.eqb]
  | cons f fs=>simp [zC] at hT
 | cons h t ihh iht =>
  refine ⟨fun h=>by simp [zC] at h,?_⟩
  intro fs o d xs ys a b hT hc hd hlx hly hx hy
  cases fs with
  | nil=>simp [zC] at hT
  | cons fd r =>
   simp only [zC,Bool.and_eq_true] at hT
   obtain ⟨⟨⟨h1,h2⟩,h3⟩,h4⟩:=hT
   have h1:=Nat.eq_of_beq_eq_true h1
   simp only [Ty.cmp,Bool.and_eq_true] at hc
   simp only [Ty.ht] at hd
   simp only [Ty.size] at hlx hly hx hy
   simp only [zB] at hx hy
   obtain ⟨us,ws,e1,hu,hw⟩:=hx
   obtain ⟨us',ws',e2,hu',hw'⟩:=hy
   have l1:=zA1 hu
   have l2:=zA1 hw
   have l3:=zA1 hu'
   have l4:=zA1 hw'
   obtain ⟨s1,s2⟩:=zS5 e1 (by omega)
   obtain ⟨s3,s4⟩:=zS5 e2 (by omega)
   obtain ⟨p1,q1,q2⟩:=zM9 h3 (o:=o) (us:=xs) (by omega) w
   obtain ⟨p2,q3,q4⟩:=zM9 h3 (o:=o) (us:=ys) (by omega) w
   have hn:fd.name ≠ "_":=by simpa using h2
   obtain ⟨ihh1,_⟩:=ihh
   obtain ⟨_,iht2⟩:=iht
   have he:=ihh1 (d:=d) (x:=p1) (y:=p2) (a:=a.1) (b:=b.1) h3 hc.1 (by omega) ⟨us,hu,by rw [← s1,l1]; exact q2⟩ ⟨us',hu',by rw [← s3,l3]; exact q4⟩
   have hr:=iht2 (fs:=r) (o:=o + h.size) (d:=d) (xs:=xs) (ys:=ys) (a:=a.2) (b:=b.2) h4 hc.2 (by omega) (by omega) (by omega) (by rw [← l2,← l1,s2]; exact hw) (by rw [← l4,← l3,s4]; exact hw')
   simp only [Op.eqFields,hn,ne_eq,not_false_eq_true,if_true,h1,Sem.run_bind,q1,q3,Result.andThen_ok,he,Ty.eqb]
   cases hb:h.eqb a.1 b.1 with
   | true=>simpa using hr
   | false=>simp
 | st f ih =>
  refine ⟨?_,fun h=>by simp [zC] at h⟩
  intro T d x y a b hT hc hd hx hy
  obtain ⟨fs,h1,h2⟩:=zP3 hT
  obtain ⟨xs,rfl,hx'⟩:=(zF9 rfl).1 hx
  obtain ⟨ys,rfl,hy'⟩:=(zF9 rfl).1 hy
  clear hx hy
  have hx:=hx'
  have hy:=hy'
  clear hx' hy'
  simp only [zB] at hx hy
  have l1:=zA1 hx
  have l2:=zA1 hy
  simp only [Ty.ht] at hd
  have hfo:P.fieldsOf T = fs:=by simp [Program.fieldsOf,h1]
  have hu:P.underlying T = some (.struct (P.fieldsOf T)):=by rw [hfo]; exact h1
  rw [run_equalIn_struct w d T _ _ hu (yY2 hT),hfo]
  obtain ⟨d',rfl⟩:∃ d',d = d' + 1:=⟨d - 1,by omega⟩
  obtain ⟨_,ih2⟩:=ih
  exact ih2 (d:=d') h2 hc (by omega) (by omega) (by omega) (by rw [← l1,yJ0]; exact hx) (by rw [← l2,yJ0]; exact hy)
 | arr n t ih =>
  refine ⟨?_,fun h=>by simp [zC] at h⟩
  intro T d x y a b hT hc hd hx hy
  obtain ⟨e,h1,h2⟩:=zM5 hT
  obtain ⟨xs,rfl,hx'⟩:=(zF9 rfl).1 hx
  obtain ⟨ys,rfl,hy'⟩:=(zF9 rfl).1 hy
  clear hx hy
  have hx:=hx'
  have hy:=hy'
  clear hx' hy'
  simp only [zB] at hx hy
  simp only [Ty.ht] at hd
  simp only [Ty.cmp] at hc
  obtain ⟨⟨i,z,hi,hs,_⟩,_⟩:=zF4 h2
  rw [run_equalIn_array w d _ _ h1 hi]
  obtain ⟨d',rfl⟩:∃ d',d = d' + 1:=⟨d - 1,by omega⟩
  have hce:P.cellsOf e = t.size:=by simp [Program.cellsOf,hi,hs]
  rw [hce]
  have l1:=zB3 (k:=t.size) (fun _ _ h=>zA1 h) hx.2
  have l2:=zB3 (k:=t.size) (fun _ _ h=>zA1 h) hy.2
  obtain ⟨ih1,_⟩:=ih
  have key:∀ is:List Nat,(∀ j ∈ is,j < n) → (Op.eqItems (d' + 1) e t.size xs.toArray ys.toArray is).run P w = .ok (is.all fun i=>t.eqb (List.getD (α:=t.den) a i t.dflt) (List.getD (α:=t.den) b i t.dflt)) w:=by
   intro is
   induction is with
   | nil=>intro _; simp [Op.eqItems]
   | cons j is ihl =>
    intro hj
    have hjn:j < n:=hj j (by simp)
    have hle:j * t.size + t.size ≤ n * t.size:=by rw [← Nat.succ_mul]; exact Nat.mul_le_mul_right _ (by omega)
    obtain ⟨p1,q1,q2⟩:=zM9 h2 (o:=j * t.size) (us:=xs) (by rw [l1,hx.1]; exact hle) w
    obtain ⟨p2,q3,q4⟩:=zM9 h2 (o:=j * t.size) (us:=ys) (by rw [l2,hy.1]; exact hle) w
    have he:=ih1 (d:=d') (x:=p1) (y:=p2) (a:=List.getD (α:=t.den) a j t.dflt) (b:=List.getD (α:=t.den) b j t.dflt) h2 hc (by omega)
     ⟨_,zM7 hx.2 (by rw [hx.1]; exact hjn),q2⟩ ⟨_,zM7 hy.2 (by rw [hy.1]; exact hjn),q4⟩
    have hr:=ihl (fun k hk=>hj k (by simp [hk]))
    simp only [Op.eqItems,Sem.run_bind,q1,q3,Result.andThen_ok,he]
    rw [List.all_cons]
    cases hb:t.eqb (List.getD (α:=t.den) a j t.dflt) (List.getD (α:=t.den) b j t.dflt) with
    | true=>simpa using hr
    | false=>simp
  exact key (List.range n) (fun j hj=>by simpa using hj)
 | sl t _=>exact ⟨fun _ h=>by simp [Ty.cmp] at h,fun h=>by simp [zC] at h⟩
 | ptr t _=>exact ⟨fun _ h=>by simp [Ty.cmp] at h,fun h=>by simp [zC] at h⟩
end Go.Am
namespace Go.Am
open Go Go.RowKit
variable {P:Program} {c:Ctx} {G:Gh} {w:World} {tm:Array Value}
theorem zH5 {wr:Bool} {k:IntKind} {r:Int} (h:∀ q ∈ (yA9 wr k r).1,q):zA G w tm none (yA9 wr k r).2 (.int k (k.wrap r)):=by
 unfold yA9 at h ⊢
 cases hc:(!wr && xQ4 k) with
 | true =>
  simp only [hc,cond_true] at h ⊢
  simp only [Bool.and_eq_true] at hc
  have hk:k = .i64:=by cases k <;> simp [xQ4] at hc ⊢
  have hr:=h _ (List.mem_singleton.2 rfl)
  subst hk
  simp only [zA]
  rw [IntWalk.i64_in r hr]
  exact VRep_int.2 rfl
 | false =>
  simp only [cond_false]
  simp only [zA]
  exact VRep_int.2 rfl
theorem yC9 {a:Act} {y:Operand} {n:Int} {k:IntKind} {b:Int} (h:yL7 y = some n) (hy:a.eval y = .int k b):n = b:=by
 unfold yL7 at h
 split at h
 ·simp only [Act.eval,Value.int.injEq] at hy
  injection h with h
  rw [← h]; exact hy.2
 ·cases h
theorem zU2 {a:Act} {y:Operand} {k:IntKind} {b:Int} (hy:a.eval y = .int k b) (h:∀ q ∈ yI0 y b,q):b ≠ 0:=by
 unfold yI0 at h
 split at h
 ·rename_i n hn
  have:=yC9 hn hy; subst this
  intro he
  subst he
  exact h False (by simp)
 ·exact h _ (List.mem_singleton.2 rfl)
theorem zX8 {a:Act} {y:Operand} {k:IntKind} {b:Int} (hy:a.eval y = .int k b) (h:∀ q ∈ yU5 y b,q):0 ≤ b:=by
 unfold yU5 at h
 split at h
 ·rename_i n hn
  have:=yC9 hn hy; subst this
  by_cases he:0 ≤ n
  ·exact he
  ·exact (h False (by simp [he])).elim
 ·exact h _ (List.mem_singleton.2 rfl)
theorem zP7 {op:BinOp} {T:Nat} {x y:Operand} {k k':IntKind} {a b:Int} (w:World):(eqGuard op T x y (.int k a) (.int k' b)).run P w = .ok () w:=by
 cases op <;> simp [eqGuard]
theorem yD {op:BinOp} {T:Nat} {x y:Operand} {a b:ByteArray} (w:World):(eqGuard op T x y (.string a) (.string b)).run P w = .ok () w:=by
 cases op <;> simp [eqGuard]
theorem zZ1 {op:BinOp} {T:Nat} {x y:Operand} {a b:Bool} (w:World):(eqGuard op T x y (.bool a) (.bool b)).run P w = .ok () w:=by
 cases op <;> simp [eqGuard]
theorem zC6 {s:Option Nat} {k:IntKind} {n:Int}:zA G w tm s (.val (.int k) n) (.int k n):=by simp only [zA]; exact VRep_int.2 rfl
theorem zC3 {s:Option Nat} {b:Bool}:zA G w tm s (.val .bool b) (.bool b):=by simp only [zA]; exact VRep_bool.2 rfl
theorem yJ4 {s:Option Nat} {b:List UInt8}:zA G w tm s (.val .str b) (.string ⟨b.toArray⟩):=by simp only [zA]; exact VRep_str.2 rfl
theorem yR {α β:Type} {x:α × β} {p:α} {A:β} (h:x = (p,A)):x.1 = p ∧ x.2 = A:=by rw [h]; exact ⟨rfl,rfl⟩
theorem yM7 {ac:Act} {wr:Bool} {op:BinOp} {k:IntKind} {a b:Int} {oy:Operand} {p:List Prop} {A:AVal} {T:Nat} (hoy:ac.eval oy = .int k b) (hs:yQ0 op = false)
  (h:xC9 wr op k a b oy = some (p,A)) (hp:∀ q ∈ p,q):∃ r,(binOp op T (.int k a) (.int k b)).run P w = .ok r w ∧ zA G w tm none A r:=by
 cases op <;> simp only [xC9,Option.some.injEq] at h
 case add=>obtain ⟨rfl,rfl⟩:=yR h; exact ⟨_,by simp [binOp,Op.intArith],zH5 hp⟩
 case sub=>obtain ⟨rfl,rfl⟩:=yR h; exact ⟨_,by simp [binOp,Op.intArith],zH5 hp⟩
 case mul=>obtain ⟨rfl,rfl⟩:=yR h; exact ⟨_,by simp [binOp,Op.intArith],zH5 hp⟩
 case quo =>
  simp only [Prod.mk.injEq] at h; obtain ⟨rfl,rfl⟩:=h
  have hb:=zU2 hoy (fun q hq=>hp q (List.mem_append_left _ hq))
  exact ⟨_,by simp [binOp,Op.intDiv,hb],zH5 (fun q hq=>hp q (List.mem_append_right _ hq))⟩
 case rem =>
  simp only [Prod.mk.injEq] at h; obtain ⟨rfl,rfl⟩:=h
  have hb:=zU2 hoy hp
  exact ⟨_,by simp [binOp,Op.intDiv,hb],zC6⟩
 case and=>simp only [Prod.mk.injEq] at h; obtain ⟨rfl,rfl⟩:=h; exact ⟨_,by simp only [binOp]; rw [if_neg (by simp)]; rfl,zC6⟩
 case or=>simp only [Prod.mk.injEq] at h; obtain ⟨rfl,rfl⟩:=h; exact ⟨_,by simp only [binOp]; rw [if_neg (by simp)]; rfl,zC6⟩
 case xor=>simp only [Prod.mk.injEq] at h; obtain ⟨rfl,rfl⟩:=h; exact ⟨_,by simp only [binOp]; rw [if_neg (by simp)]; rfl,zC6⟩
 case andNot=>simp only [Prod.mk.injEq] at h; obtain ⟨rfl,rfl⟩:=h; exact ⟨_,by simp only [binOp]; rw [if_neg (by simp)]; rfl,zC6⟩
 case eql=>simp only [Prod.mk.injEq] at h; obtain ⟨rfl,rfl⟩:=h; exact ⟨_,by simp [binOp,Op.intCmp],zC3⟩
 case neq=>simp only [Prod.mk.injEq] at h; obtain ⟨rfl,rfl⟩:=h; exact ⟨_,by simp [binOp,Op.intCmp],zC3⟩
 case lss=>simp only [Prod.mk.injEq] at h; obtain ⟨rfl,rfl⟩:=h; exact ⟨_,by simp [binOp,Op.intCmp],zC3⟩
 case leq=>simp only [Prod.mk.injEq] at h; obtain ⟨rfl,rfl⟩:=h; exact ⟨_,by simp [binOp,Op.intCmp],zC3⟩
 case gtr=>simp only [Prod.mk.injEq] at h; obtain ⟨rfl,rfl⟩:=h; exact ⟨_,by simp [binOp,Op.intCmp],zC3⟩
 case geq=>simp only [Prod.mk.injEq] at h; obtain ⟨rfl,rfl⟩:=h; exact ⟨_,by simp [binOp,Op.intCmp],zC3⟩
 all_goals cases h
theorem yF4 {ac:Act} {wr:Bool} {op:BinOp} {k k':IntKind} {a b:Int} {oy:Operand} {p:List Prop} {A:AVal} {T:Nat} (hoy:ac.eval oy = .int k' b)
  (h:yI1 wr op k a b oy = some (p,A)) (hp:∀ q ∈ p,q):∃ r,(binOp op T (.int k a) (.int k' b)).run P w = .ok r w ∧ zA G w tm none A r:=by
 cases op <;> simp only [yI1,Option.some.injEq,Prod.mk.injEq] at h
 case shl =>
  obtain ⟨rfl,rfl⟩:=h
  have hb:=zX8 hoy (fun q hq=>hp q (List.mem_append_left _ hq))
  exact ⟨_,by simp [binOp,Op.shift,Int.not_lt.2 hb],zH5 (fun q hq=>hp q (List.mem_append_right _ hq))⟩
 case shr =>
  obtain ⟨rfl,rfl⟩:=h
  have hb:=zX8 hoy hp
  exact ⟨_,by simp [binOp,Op.shift,Int.not_lt.2 hb],zC6⟩
 all_goals cases h
theorem yM8 {op:BinOp} {a b:List UInt8} {p:List Prop} {A:AVal} {T:Nat}
  (h:xD op a b = some (p,A)) (hp:∀ q ∈ p,q):∃ r,(binOp op T (.string ⟨a.toArray⟩) (.string ⟨b.toArray⟩)).run P w = .ok r w ∧ zA G w tm none A r:=by
 cases op <;> simp only [xD,Option.some.injEq,Prod.mk.injEq] at h
 case add =>
  obtain ⟨rfl,rfl⟩:=h
  have hb:=hp _ (List.mem_singleton.2 rfl)
  refine ⟨.string ⟨(a ++ b).toArray⟩,?_,yJ4⟩
  have e:(⟨a.toArray⟩ ++ ⟨b.toArray⟩:ByteArray) = ⟨(a ++ b).toArray⟩:=by
   apply ByteArray.ext
   simp [ByteArray.data_append]
  have hsz:((⟨a.toArray⟩:ByteArray).size + (⟨b.toArray⟩:ByteArray).size:Nat) = a.length + b.length:=by simp [ByteArray.size]
  simp only [binOp,Op.stringOp,hsz]
  rw [if_neg (by simp [IntKind.max,IntKind.bits,IntKind.signed]; omega),e]
  simp
 case eql=>obtain ⟨rfl,rfl⟩:=h; exact ⟨_,by simp only [binOp,Op.stringOp,ByteArray.toList_eq]; rfl,zC3⟩
 case neq=>obtain ⟨rfl,rfl⟩:=h; exact ⟨_,by simp only [binOp,Op.stringOp,ByteArray.toList_eq]; rfl,zC3⟩
 case lss=>obtain ⟨rfl,rfl⟩:=h; exact ⟨_,by simp only [binOp,Op.stringOp,ByteArray.toList_eq]; rfl,zC3⟩
 case leq=>obtain ⟨rfl,rfl⟩:=h; exact ⟨_,by simp only [binOp,Op.stringOp,ByteArray.toList_eq]; rfl,zC3⟩
 case gtr=>obtain ⟨rfl,rfl⟩:=h; exact ⟨_,by simp only [binOp,Op.stringOp,ByteArray.toList_eq]; rfl,zC3⟩
 case geq=>obtain ⟨rfl,rfl⟩:=h; exact ⟨_,by simp only [binOp,Op.stringOp,ByteArray.toList_eq]; rfl,zC3⟩
 all_goals cases h
theorem xF {χ:Nat → Nat → Nat} {τ:Ty} {a b:τ.den} {x y:Value} (h:τ.eqs = true) (hx:zO5 χ w τ a x) (hy:zO5 χ w τ b y):(∃ p q,x = .bool p ∧ y = .bool q) ∨ (∃ p q,x = .agg p ∧ y = .agg q):=by
 cases τ with
 | bool=>exact .inl ⟨_,_,VRep_bool.1 hx,VRep_bool.1 hy⟩
 | st f=>obtain ⟨xs,rfl,_⟩:=(zF9 rfl).1 hx; obtain ⟨ys,rfl,_⟩:=(zF9 rfl).1 hy; exact .inr ⟨_,_,rfl,rfl⟩
 | arr n t=>obtain ⟨xs,rfl,_⟩:=(zF9 rfl).1 hx; obtain ⟨ys,rfl,_⟩:=(zF9 rfl).1 hy; exact .inr ⟨_,_,rfl,rfl⟩
 | _=>simp [Ty.eqs] at h
theorem yR0 (hty:zL5 P c.tys = true) {op:BinOp} {T:Nat} {x y A:AVal} {v u:Value} {ox oy:Operand} {p:List Prop} (hx:zA G w tm none x v) (hy:zA G w tm none y u)
  (h:xQ5 op (c.ty T) x y = some (p,A)):∃ r,(do eqGuard op T ox oy v u; binOp op T v u:Sem Value).run P w = .ok r w ∧ zA G w tm none A r:=by
 unfold xQ5 at h
 split at h
 ·rename_i a b hc ha hb
  simp only [Bool.and_eq_true] at hc
  have hT:=zI7 hty T (by intro e; rw [e] at hc; simp [Ty.eqs] at hc)
  have hl:=zC2 hT
  have hvx:=zH4 ha hl hx
  have hvy:=zH4 hb hl hy
  have he:(Op.equal T v u).run P w = .ok ((c.ty T).eqb a b) w:=(yF3 (G:=G) (P:=P) (w:=w)).1 (d:=9999) hT hc.1 (by have:=xR hT; omega) hvx hvy
  have hshape:=xF hc.2 hvx hvy
  have hg:(eqGuard op T ox oy v u).run P w = .ok () w:=by
   rcases hshape with ⟨p,q,rfl,rfl⟩ | ⟨p,q,rfl,rfl⟩
   ·exact zZ1 w
   ·exact run_eqGuard_agg w op T ox oy _ _ (yY1 hT)
  have hb2:∀ o:BinOp,o = .eql ∨ o = .neq → (binOp o T v u).run P w = .ok (.bool (if o = .eql then (c.ty T).eqb a b else !((c.ty T).eqb a b))) w:=by
   intro o ho
   rcases hshape with ⟨p,q,rfl,rfl⟩ | ⟨p,q,rfl,rfl⟩ <;> rcases ho with rfl | rfl <;> simp [binOp,he]
  split at h
  ·simp only [Option.some.injEq,Prod.mk.injEq] at h
   obtain ⟨rfl,rfl⟩:=h
   exact ⟨_,by rw [Sem.run_bind,hg,Result.andThen_ok,hb2 .eql (.inl rfl)]; rfl,zC3⟩
  ·simp only [Option.some.injEq,Prod.mk.injEq] at h
   obtain ⟨rfl,rfl⟩:=h
   exact ⟨_,by rw [Sem.run_bind,hg,Result.andThen_ok,hb2 .neq (.inr rfl)]; rfl,zC3⟩
  ·cases h
 ·cases h
theorem yR1 (hty:zL5 P c.tys = true) {op:BinOp} {T:Nat} {x A:AVal} {v u:Value} {ox oy:Operand} {p:List Prop} (hx:zA G w tm none x v) (hu:u = .slice none 0 0)
  (h:xQ6 c op T x = some (p,A)) (hp:∀ q ∈ p,q):∃ r,(do eqGuard op T ox oy v u; binOp op T v u:Sem Value).run P w = .ok r w ∧ zA G w tm none A r:=by
 subst hu
 unfold xQ6 at h
 split at h
 ·rename_i t0 hT
  have hT':=zI7 hty T (by rw [hT]; simp)
  rw [hT] at hT'
  obtain ⟨e,hu,_⟩:=zG7 hT'
  have key:∀ (a:Option Addr) n cap (b:Bool) q,b = a.isNone → zX3 op q b = some (p,A) → v = .slice a n cap → ∃ r,(do eqGuard op T ox oy v (.slice none 0 0); binOp op T v (.slice none 0 0):Sem Value).run P w = .ok r w ∧ zA G w tm none A r:=by
   intro a n cap b q hb hr hv
   subst hv
   have hg:(eqGuard op T ox oy (.slice a n cap) (.slice none 0 0)).run P w = .ok () w:=by cases op <;> simp [eqGuard]
   have he:(Op.equal T (.slice a n cap) (.slice none 0 0)).run P w = .ok b w:=by
    subst hb
    have hd:∀ d:Nat,(Op.equalIn (d + 1) T (.slice a n cap) (.slice none 0 0)).run P w = .ok a.isNone w:=by
     intro d
     cases a <;> simp [Op.equalIn,run_underlying hu w]
    exact hd 9999
   unfold zX3 at hr
   split at hr
   ·simp only [Option.some.injEq,Prod.mk.injEq] at hr
    obtain ⟨rfl,rfl⟩:=hr
    exact ⟨_,by rw [Sem.run_bind,hg,Result.andThen_ok]; simp [binOp,he],zC3⟩
   ·simp only [Option.some.injEq,Prod.mk.injEq] at hr
    obtain ⟨rfl,rfl⟩:=hr
    exact ⟨_,by rw [Sem.run_bind,hg,Result.andThen_ok]; simp [binOp,he],zC3⟩
   ·cases hr
  have hq:∀ q b,zX3 op [q] b = some (p,A) → q:=by
   intro q b hr
   unfold zX3 at hr
   split at hr
   ·simp only [Option.some.injEq,Prod.mk.injEq] at hr; obtain ⟨rfl,_⟩:=hr; exact hp _ (List.mem_singleton.2 rfl)
   ·simp only [Option.some.injEq,Prod.mk.injEq] at hr; obtain ⟨rfl,_⟩:=hr; exact hp _ (List.mem_singleton.2 rfl)
   ·cases hr
  split at h
  ·simp only [zA] at hx; exact key none 0 0 true _ rfl h hx
  ·simp only [zA] at hx; obtain ⟨a,cap,rfl,hb⟩:=hx; exact key a 0 cap _ _ hb.symm h rfl
  ·rename_i t l
   have hpos:=hq _ _ h
   simp only [zA] at hx
   rw [zC0 rfl] at hx
   simp only [zB] at hx
   obtain ⟨a,cap,hv,hx⟩:=hx
   injection hv with hv _
   rcases hx with hx | ⟨b,o,us,ha,_⟩
   ·rw [hx] at hpos; simp at hpos
   ·exact key a _ cap false _ (by rw [ha]; rfl) h hv
  ·rename_i t l T' m
   cases htl:t.isL with
   | true=>simp only [htl,cond_true] at h; cases h
   | false =>
   simp only [htl,cond_false] at h
   have hpos:=hq _ _ h
   simp only [zA] at hx
   rcases (zB5 hx htl).2 with ⟨_,hl⟩ | ⟨cap,cur,e,us,h1,_⟩
   ·rw [hl] at hpos; simp at hpos
   ·exact key _ _ cap false _ rfl h h1
  ·cases h
 ·cases h
theorem yY4 (hty:zL5 P c.tys = true) {ac:Act} {op:BinOp} {T:Nat} {x y A:AVal} {v:Value} {ox oy:Operand} {p:List Prop} (hx:zA G w tm none x v) (hy:zA G w tm none y (ac.eval oy))
  (h:xW c op T x y oy = some (p,A)) (hp:∀ q ∈ p,q):∃ r,(do eqGuard op T ox oy v (ac.eval oy); binOp op T v (ac.eval oy):Sem Value).run P w = .ok r w ∧ zA G w tm none A r:=by
 unfold xW at h
 split at h
 ·rename_i k a k' b
  simp only [zA] at hx hy
  have hv:=VRep_int.1 hx
  have hu:=VRep_int.1 hy
  subst hv
  cases hs:yQ0 op with
  | true =>
   simp only [hs,cond_true] at h
   obtain ⟨r,h1,h2⟩:=yF4 (P:=P) (w:=w) (G:=G) (tm:=tm) (T:=T) hu h hp
   exact ⟨r,by rw [hu,Sem.run_bind,zP7,Result.andThen_ok,h1],h2⟩
  | false =>
   simp only [hs,cond_false] at h
   cases hk:Nat.beq (zI3 k) (zI3 k') with
   | false=>simp [hk] at h
   | true =>
    simp only [hk,cond_true] at h
    have:=zH2 (Nat.eq_of_beq_eq_true hk)
    subst this
    obtain ⟨r,h1,h2⟩:=yM7 (P:=P) (w:=w) (G:=G) (tm:=tm) (T:=T) hu hs h hp
    exact ⟨r,by rw [hu,Sem.run_bind,zP7,Result.andThen_ok,h1],h2⟩
 ·rename_i a b
  simp only [zA] at hx hy
  have hv:=VRep_str.1 hx
  have hu:=VRep_str.1 hy
  subst hv
  obtain ⟨r,h1,h2⟩:=yM8 (P:=P) (w:=w) (G:=G) (tm:=tm) (T:=T) h hp
  exact ⟨r,by rw [hu,Sem.run_bind,yD,Result.andThen_ok,h1],h2⟩
 ·simp only [zA] at hy; exact yR1 hty hx hy h hp
 ·exact yR0 hty hx hy h
theorem xF0 {op:UnOp} {x A:AVal} {v:Value} {p:List Prop} (hx:zA G w tm none x v) (h:unA c op x = some (p,A)) (hp:∀ q ∈ p,q) :
  ∃ r,(Op.unary op v).run P w = .ok r w ∧ zA G w tm none A r:=by
 unfold unA at h
 split at h
 ·simp only [Option.some.injEq,Prod.mk.injEq] at h
  obtain ⟨rfl,rfl⟩:=h
  simp only [zA] at hx
  rw [VRep_bool.1 hx]
  exact ⟨_,by simp [Op.unary],zC3⟩
 ·simp only [Option.some.injEq] at h
  simp only [zA] at hx
  rw [VRep_int.1 hx]
  have h1:=congrArg Prod.fst h
  have h2:=congrArg Prod.snd h
  simp only at h1 h2
  subst h1; subst h2
  exact ⟨_,rfl,zH5 hp⟩
 ·simp only [Option.some.injEq,Prod.mk.injEq] at h
  obtain ⟨rfl,rfl⟩:=h
  simp only [zA] at hx
  rw [VRep_int.1 hx]
  exact ⟨_,rfl,zC6⟩
 ·cases h
theorem yR2 (hty:zL5 P c.tys = true) {src dst:Nat} {x A:AVal} {v:Value} {p:List Prop} (hx:zA G w tm none x v) (h:xQ7 c src dst x = some (p,A)) :
  ∃ r,(convert src dst v).run P w = .ok r w ∧ zA G w tm none A r:=by
 unfold xQ7 at h
 split at h
 ·rename_i k0 k k1 n e1 e2
  simp only [Option.some.injEq,Prod.mk.injEq] at h
  obtain ⟨rfl,rfl⟩:=h
  have h1:=zI7 hty src (by rw [e1]; simp)
  have h2:=zI7 hty dst (by rw [e2]; simp)
  rw [e1] at h1
  rw [e2] at h2
  simp only [zA] at hx
  rw [VRep_int.1 hx]
  exact ⟨_,by simp [convert,run_underlying (yA h1),run_underlying (yA h2),Conv.intToInt],zC6⟩
 ·rename_i s e1 e2
  simp only [Option.some.injEq,Prod.mk.injEq] at h
  obtain ⟨rfl,rfl⟩:=h
  have h1:=zI7 hty src (by rw [e1]; simp)
  have h2:=zI7 hty dst (by rw [e2]; simp)
  rw [e1] at h1
  rw [e2] at h2
  simp only [zA] at hx
  rw [VRep_str.1 hx]
  exact ⟨_,by simp [convert,run_underlying (zJ0 h1),run_underlying (zJ0 h2)],yJ4⟩
 ·cases h
theorem yY5 (hty:zL5 P c.tys = true) {ats:Array TypeId} {ty:TypeId} {x A:AVal} {v:Value} {p:List Prop} (hx:zA G w tm none x v) (h:xW0 c ats.toList x = some (p,A)) :
  ∃ r,(Builtin.len_ ats ty #[v]).run P w = .ok r w ∧ zA G w tm none A r:=by
 unfold xW0 at h
 split at h
 ·rename_i T r e
  have ha:ats[0]? = some T:=by rw [← Array.getElem?_toList,e]; rfl
  split at h
  ·rename_i s
   cases hi:c.is T .str with
   | false=>simp [hi] at h
   | true =>
    simp only [hi,cond_true,Option.some.injEq,Prod.mk.injEq] at h
    obtain ⟨rfl,rfl⟩:=h
    simp only [zA] at hx
    rw [VRep_str.1 hx]
    exact ⟨.int .i64 (List.length (α:=UInt8) s:Int),by simp [Builtin.len_,ha,run_underlying (zJ0 (zB8 hty hi)),goInt]; rfl,zC6⟩
  ·rename_i t l
   cases hi:c.is T (.sl t) with
   | false=>simp [hi] at h
   | true =>
    simp only [hi,cond_true,Option.some.injEq,Prod.mk.injEq] at h
    obtain ⟨rfl,rfl⟩:=h
    obtain ⟨e',h1,h2⟩:=zG7 (zB8 hty hi)
    simp only [zA] at hx
    have hx2:=(zC0 rfl).1 hx
    simp only [zB] at hx2
    obtain ⟨a,cap,hv,_⟩:=hx2
    injection hv with hv _
    rw [hv]
    exact ⟨_,by simp [Builtin.len_,ha,run_underlying h1,goInt],zC6⟩
  ·rename_i t l U m
   cases hi:c.is T (.sl t) with
   | false=>simp [hi] at h
   | true =>
    simp only [hi,cond_true,Option.some.injEq,Prod.mk.injEq] at h
    obtain ⟨rfl,rfl⟩:=h
    obtain ⟨e',h1,h2⟩:=zG7 (zB8 hty hi)
    simp only [zA] at hx
    rcases (zB5 hx (yJ (zB8 hty hi))).2 with ⟨hv,hl⟩ | ⟨cap,cur,e,us,hv,_⟩
    ·rw [hv,hl]; exact ⟨_,by simp [Builtin.len_,ha,run_underlying h1,goInt],zC6⟩
    ·rw [hv]; exact ⟨_,by simp [Builtin.len_,ha,run_underlying h1,goInt],zC6⟩
  ·rename_i t l U j V m
   cases hi:c.is T (.sl (.sl t)) with
   | false=>simp [hi] at h
   | true =>
    simp only [hi,cond_true,Option.some.injEq,Prod.mk.injEq] at h
    obtain ⟨rfl,rfl⟩:=h
    obtain ⟨e',h1,h2⟩:=zG7 (zB8 hty hi)
    simp only [zA] at hx
    obtain ⟨_,_,⟨hv,hl⟩ | ⟨cap,cur,e,hv,_⟩⟩:=hx
    ·rw [hv,hl]; exact ⟨_,by simp [Builtin.len_,ha,run_underlying h1,goInt],zC6⟩
    ·rw [hv]; exact ⟨_,by simp [Builtin.len_,ha,run_underlying h1,goInt],zC6⟩
  ·cases hi:(c.is T (c.ty T) && (c.ty T).isSl) with
   | false=>simp [hi] at h
   | true =>
    simp only [hi,cond_true,Option.some.injEq,Prod.mk.injEq] at h
    obtain ⟨rfl,rfl⟩:=h
    simp only [Bool.and_eq_true] at hi
    have hT:=zB8 hty hi.1
    obtain ⟨t,ht⟩:∃ t,c.ty T = .sl t:=by revert hi; cases c.ty T <;> simp [Ty.isSl]
    rw [ht] at hT
    obtain ⟨e',h1,h2⟩:=zG7 hT
    simp only [zA] at hx
    rw [hx]
    exact ⟨_,by simp [Builtin.len_,ha,run_underlying h1,goInt],zC6⟩
  ·cases h
 ·cases h
end Go.Am
namespace Go.Am
open Go Go.RowKit
variable {P:Program} {c:Ctx} {G:Gh} {w:World} {tm:Array Value}
theorem zI1 {k:IntKind} {i:Int} {y:Nat} {code:BoundsCode} (h:0 ≤ i ∧ i ≤ (y:Int)) (w:World):(Instr.sliceBound (.int k i) y code).run P w = .ok i.toNat w:=by
 simp [Instr.sliceBound,asIntOf,h]
theorem zP8 {b:Bool} {n m:Nat} {lo hi:Option AVal} {vlo vhi:Option Value} {a h:Option Int} (hn:n ≤ m)
  (h1:zP lo = some a) (h2:zP hi = some h)
  (hlo:∀ A,lo = some A → ∃ v,vlo = some v ∧ zA G w tm none A v) (hlo':lo = none → vlo = none)
  (hhi:∀ A,hi = some A → ∃ v,vhi = some v ∧ zA G w tm none A v) (hhi':hi = none → vhi = none)
  {α:Type} {l:List α} (hl:l.length = n) (hp:∀ q ∈ (yU6 l a h).1,q) :
  ∃ x y,x ≤ y ∧ y ≤ n ∧ (Instr.sliceBounds b n m vlo vhi none).run P w = .ok (x,y,m) w ∧ (yU6 l a h).2 = (l.take y).drop x:=by
 have opt:∀ (lo:Option AVal) (a:Option Int) (vlo:Option Value),zP lo = some a → (∀ A,lo = some A → ∃ v,vlo = some v ∧ zA G w tm none A v) → (lo = none → vlo = none) →
   (a = none ∧ vlo = none) ∨ ∃ k i,a = some i ∧ vlo = some (.int k i):=by
  intro lo a vlo h1 hlo hlo'
  cases lo with
  | none=>simp only [zP,Option.some.injEq] at h1; exact .inl ⟨h1.symm,hlo' rfl⟩
  | some A =>
   obtain ⟨v,hv,hA⟩:=hlo A rfl
   cases A with
   | val τ x =>
    cases τ with
    | int k=>simp only [zP,Option.some.injEq] at h1; simp only [zA] at hA; rw [VRep_int.1 hA] at hv; exact .inr ⟨k,x,h1.symm,hv⟩
    | _=>simp [zP] at h1
   | _=>simp [zP] at h1
 subst hl
 rcases opt lo a vlo h1 hlo hlo' with ⟨rfl,rfl⟩ | ⟨k,i,rfl,rfl⟩ <;> rcases opt hi h vhi h2 hhi hhi' with ⟨rfl,rfl⟩ | ⟨k',j,rfl,rfl⟩
 ·exact ⟨0,l.length,by omega,by omega,by simp [Instr.sliceBounds],by simp [yU6]⟩
 ·have hb:=hp _ (List.mem_singleton.2 rfl)
  refine ⟨0,j.toNat,by omega,by omega,?_,by simp [yU6]⟩
  have:=zI1 (P:=P) (k:=k') (i:=j) (y:=m) (code:=if b then .sliceAcap else .sliceAlen) ⟨hb.1,by omega⟩ w
  simp [Instr.sliceBounds,this]
 ·have hb:=hp _ (List.mem_singleton.2 rfl)
  refine ⟨i.toNat,l.length,by omega,by omega,?_,by simp [yU6]⟩
  have:=zI1 (P:=P) (k:=k) (i:=i) (y:=l.length) (code:=.sliceB) hb w
  simp [Instr.sliceBounds,this]
 ·have hb:=hp _ (List.mem_singleton.2 rfl)
  refine ⟨i.toNat,j.toNat,by omega,by omega,?_,by simp [yU6]⟩
  have h3:=zI1 (P:=P) (k:=k') (i:=j) (y:=m) (code:=if b then .sliceAcap else .sliceAlen) ⟨by omega,by omega⟩ w
  have h4:=zI1 (P:=P) (k:=k) (i:=i) (y:=j.toNat) (code:=.sliceB) ⟨hb.1,by omega⟩ w
  simp [Instr.sliceBounds,h3,h4]
theorem yJ5 (s:List UInt8) (x y:Nat):(⟨s.toArray⟩:ByteArray).extract x y = ⟨((s.take y).drop x).toArray⟩:=by
 apply ByteArray.ext
 simp [ByteArray.data_extract,List.drop_take]
theorem yM9 {t:Ty} {T x y cap:Nat} {a:Option Addr} {l:List t.den} {lo hi:Option Value} (hT:zC P (.sl t) (.inl T) = true) (hxy:x ≤ y) (hy:y ≤ l.length)
  (hr:zB G.χ w (.sl t) l [.slice a l.length cap]) (hcap:l.length ≤ cap) (hb:(Instr.sliceBounds true l.length cap lo hi none).run P w = .ok (x,y,cap) w) :
  ∃ r,(Instr.sliceAt T (.slice a l.length cap) lo hi none).run P w = .ok r w ∧ zB G.χ w (.sl t) ((l.take y).drop x) [r]:=by
 obtain ⟨e,h1,h2⟩:=zG7 hT
 refine ⟨.slice (if cap = x then a else a.map (·.add (x * t.size))) (y - x) (cap - x),?_,?_⟩
 ·simp only [Instr.sliceAt,Sem.run_bind,run_underlying h1 w,Result.andThen_ok,Instr.slice,hb,zE2 h2 w,Sem.run_pure]
 ·simp only [zB] at hr ⊢
  obtain ⟨a',cap',hv,hr⟩:=hr
  simp only [List.cons.injEq,Value.slice.injEq,and_true,true_and] at hv
  obtain ⟨rfl,rfl⟩:=hv
  have hlen:List.length (α:=t.den) ((l.take y).drop x) = y - x:=by simp; omega
  refine ⟨_,cap - x,by rw [hlen],?_⟩
  rcases hr with rfl | ⟨b,o,us,ha,h3,h4,h5⟩
  ·exact .inl (by simp)
  ·by_cases hz:y = x
   ·left; subst hz; apply List.eq_nil_of_length_eq_zero; omega
   ·right
    have hul:=zB3 (k:=t.size) (fun _ _ h=>zA1 h) h4
    rw [if_neg (by omega)]
    subst ha
    refine ⟨b,o + x * t.size,((us.take (y * t.size)).drop (x * t.size)),by simp [Addr.add_mid],by omega,?_,?_⟩
    ·exact xE7 (k:=t.size) (fun _ _ h=>zA1 h) x (xE6 (k:=t.size) (fun _ _ h=>zA1 h) y h4)
    ·intro j v hv
     rw [List.getElem?_drop,List.getElem?_take] at hv
     split at hv
     ·have:=h5 _ _ hv
      rw [← Nat.add_assoc] at this
      exact this
     ·cases hv
theorem yR3 {χ:Nat → Nat → Nat} {t:Ty} {l:List t.den} {v:Value} (h:zB χ w (.sl t) l [v]):∃ a cap,v = .slice a l.length cap ∧ l.length ≤ cap:=by
 simp only [zB] at h
 obtain ⟨a,cap,hv,h⟩:=h
 injection hv with hv _
 refine ⟨a,cap,hv,?_⟩
 rcases h with rfl | ⟨b,o,us,_,h3,_⟩
 ·simp
 ·exact h3
theorem zN {s:Option Nat} {t:Ty} {l:List t.den} {v:Value} (h:zB G.χ w (.sl t) l [v]):zA G w tm s (.val (.sl t) l) v:=by
 simp only [zA]; exact (zC0 rfl).2 h
theorem yN {T:Nat} {t:Ty} {l:List t.den} {v:Value} {lo hi:Option AVal} {vlo vhi:Option Value} {a b:Option Int} (hT:zC P (.sl t) (.inl T) = true) (hx:zB G.χ w (.sl t) l [v])
  (ea:zP lo = some a) (eb:zP hi = some b)
  (hlo:∀ A,lo = some A → ∃ v,vlo = some v ∧ zA G w tm none A v) (hlo':lo = none → vlo = none)
  (hhi:∀ A,hi = some A → ∃ v,vhi = some v ∧ zA G w tm none A v) (hhi':hi = none → vhi = none)
  (hp:∀ q ∈ (yU6 l a b).1,q):∃ r,(Instr.sliceAt T v vlo vhi none).run P w = .ok r w ∧ zA G w tm none (.val (.sl t) (yU6 l a b).2) r:=by
 obtain ⟨ad,cap,rfl,hcap⟩:=yR3 hx
 obtain ⟨x,y,h1,h2,h3,h4⟩:=zP8 (P:=P) (G:=G) (w:=w) (tm:=tm) (b:=true) (n:=l.length) (m:=cap) hcap ea eb hlo hlo' hhi hhi' (l:=l) rfl hp
 obtain ⟨r,h5,h6⟩:=yM9 hT h1 h2 hx hcap h3
 exact ⟨r,h5,by rw [h4]; exact zN h6⟩
theorem zK9 (hty:zL5 P c.tys = true) {T:Nat} {x A:AVal} {v:Value} {lo hi:Option AVal} {vlo vhi:Option Value} {p:List Prop} (hx:zA G w tm none x v)
  (hlo:∀ A,lo = some A → ∃ v,vlo = some v ∧ zA G w tm none A v) (hlo':lo = none → vlo = none)
  (hhi:∀ A,hi = some A → ∃ v,vhi = some v ∧ zA G w tm none A v) (hhi':hi = none → vhi = none)
  (h:xD4 c T x lo hi = some (p,A)) (hp:∀ q ∈ p,q):∃ r,(Instr.sliceAt T v vlo vhi none).run P w = .ok r w ∧ zA G w tm none A r:=by
 unfold xD4 at h
 split at h
 ·rename_i a b ea eb
  split at h
  ·rename_i s
   cases hi':c.is T .str with
   | false=>simp [hi'] at h
   | true =>
    simp only [hi',cond_true,Option.some.injEq,Prod.mk.injEq] at h
    obtain ⟨rfl,rfl⟩:=h
    have hT:=zJ0 (zB8 hty hi')
    simp only [zA] at hx
    rw [VRep_str.1 hx]
    obtain ⟨x,y,h1,h2,h3,h4⟩:=zP8 (P:=P) (G:=G) (w:=w) (tm:=tm) (b:=false) (m:=List.length (α:=UInt8) s) (Nat.le_refl _) ea eb hlo hlo' hhi hhi' (l:=s) rfl hp
    refine ⟨.string ⟨(((List.take y s).drop x)).toArray⟩,?_,?_⟩
    ·have hsz:(⟨List.toArray s⟩:ByteArray).size = List.length (α:=UInt8) s:=by simp [ByteArray.size]
     simp only [Instr.sliceAt,Sem.run_bind,run_underlying hT w,Result.andThen_ok,Instr.slice,hsz,h3,Option.isSome_none,Bool.false_eq_true,if_false,Sem.run_pure,yJ5]
    ·rw [h4]; exact yJ4
  ·rename_i t l
   cases hi':c.is T (.sl t) with
   | false=>simp [hi'] at h
   | true =>
    simp only [hi',cond_true,Option.some.injEq,Prod.mk.injEq] at h
    obtain ⟨rfl,rfl⟩:=h
    have hT:=zB8 hty hi'
    simp only [zA] at hx
    exact yN hT ((zC0 rfl).1 hx) ea eb hlo hlo' hhi hhi' hp
  ·rename_i t l U m
   cases hi':(c.is T (.sl t) && !m) with
   | false=>simp [hi'] at h
   | true =>
    simp only [hi',cond_true,Option.some.injEq,Prod.mk.injEq] at h
    obtain ⟨rfl,rfl⟩:=h
    simp only [Bool.and_eq_true,Bool.not_eq_true'] at hi'
    obtain ⟨hi',rfl⟩:=hi'
    have hT:=zB8 hty hi'
    simp only [zA] at hx
    exact yN hT (zD0 hx) ea eb hlo hlo' hhi hhi' hp
  ·cases h
 ·cases h
theorem xF1:∀ {a:AVal} {vs:List Value} {k:Nat},zA G w tm none a (.tuple vs.toArray) → k < a.clen → ∃ u,vs[k]? = some u ∧ zA G w tm none (a.nth k) u:=by
 intro a
 induction a with
 | cons h t _ iht =>
  intro vs k hr hk
  simp only [zA] at hr
  obtain ⟨x,xs,e,h1,h2⟩:=hr
  simp only [Value.tuple.injEq] at e
  have e:vs = x :: xs:=by simpa using e
  subst e
  cases k with
  | zero=>exact ⟨x,rfl,h1⟩
  | succ k=>simp only [AVal.clen] at hk; obtain ⟨u,h3,h4⟩:=iht (k:=k) h2 (by omega); exact ⟨u,by simpa using h3,h4⟩
 | _=>intro vs k _ hk; simp [AVal.clen] at hk
theorem yY6 {a:AVal} {v:Value} (h:zA G w tm none a v) (hc:0 < a.clen):∃ vs:List Value,v = .tuple vs.toArray:=by
 cases a with
 | cons h t=>simp only [zA] at h; obtain ⟨x,xs,e,_⟩:=h; exact ⟨x :: xs,e⟩
 | _=>simp [AVal.clen] at hc
theorem yF5 {x A:AVal} {v:Value} {k:Nat} {p:List Prop} (hx:zA G w tm none x v) (h:yI3 x k = some (p,A)) :
  ∃ r,(Instr.extract v k).run P w = .ok r w ∧ zA G w tm none A r:=by
 unfold yI3 at h
 split at h
 ·rename_i a
  cases hk:Nat.blt k a.clen with
  | false=>simp [hk] at h
  | true =>
   simp only [hk,cond_true,Option.some.injEq,Prod.mk.injEq] at h
   obtain ⟨rfl,rfl⟩:=h
   have hk:k < a.clen:=Nat.le_of_ble_eq_true hk
   simp only [zA] at hx
   obtain ⟨vs,rfl⟩:=yY6 hx (by omega)
   obtain ⟨u,h1,h2⟩:=xF1 hx hk
   exact ⟨u,by simp [Instr.extract,h1],h2⟩
 ·cases h
def zG3 {α β:Type} (R:α → β → Prop):List α → List β → Prop
 | [],[]=>True
 | a :: r,b :: s=>R a b ∧ zG3 R r s
 | _,_=>False
theorem yR4 {f:Int → Int → Int} {g:Value → Value → Sem Value} (hg:∀ k a b (w:World),(g (.int k a) (.int k b)).run P w = .ok (.int k (f a b)) w) :
  ∀ {r:List AVal} {vs:List Value} {A B:AVal} {v:Value},yL9 A = true → zA G w tm none A v → zG3 (zA G w tm none) r vs → yL8 f A r = some B →
   ∃ u,(vs.foldlM g v).run P w = .ok u w ∧ zA G w tm none B u:=by
 intro r
 induction r with
 | nil=>intro vs A B v hi ha hr h; cases vs with
  | cons _ _=>simp [zG3] at hr
  | nil=>simp only [yL8,Option.some.injEq] at h; subst h; exact ⟨v,by simp,ha⟩
 | cons x r ih =>
  intro vs A B v hi ha hr h
  cases vs with
  | nil=>simp [zG3] at hr
  | cons u us =>
   simp only [zG3] at hr
   obtain ⟨hx,hr⟩:=hr
   cases A with
   | val τ a =>
    cases τ with
    | int k =>
     cases x with
     | val τ' b =>
      cases τ' with
      | int k' =>
       simp only [yL8] at h
       cases hk:Nat.beq (zI3 k) (zI3 k') with
       | false=>simp [hk] at h
       | true =>
        simp only [hk,cond_true] at h
        have:=zH2 (Nat.eq_of_beq_eq_true hk); subst this
        simp only [zA] at ha hx
        have e1:=VRep_int.1 ha; have e2:=VRep_int.1 hx
        subst e1; subst e2
        obtain ⟨z,h1,h2⟩:=ih (v:=.int k (f a b)) rfl zC6 hr h
        exact ⟨z,by simp [List.foldlM_cons,hg,h1],h2⟩
      | _=>simp [yL8] at h
     | _=>simp [yL8] at h
    | _=>simp [yL9] at hi
   | _=>simp [yL9] at hi
theorem yG4 {f:Int → Int → Int} {g:Value → Value → Sem Value} (hg:∀ k a b (w:World),(g (.int k a) (.int k b)).run P w = .ok (.int k (f a b)) w)
  {xs:List AVal} {vs:List Value} {A:AVal} {p:List Prop} (hx:zG3 (zA G w tm none) xs vs) (h:xT4 f xs = some (p,A)) :
  ∃ v r,vs = v :: r ∧ ∃ u,(r.foldlM g v).run P w = .ok u w ∧ zA G w tm none A u:=by
 cases xs with
 | nil=>simp [xT4] at h
 | cons x r =>
  cases vs with
  | nil=>simp [zG3] at hx
  | cons v us =>
  simp only [zG3] at hx
  obtain ⟨hx,hr⟩:=hx
  simp only [xT4] at h
  cases hi:yL9 x with
  | false=>simp [hi] at h
  | true =>
   simp only [hi,cond_true] at h
   cases hf:yL8 f x r with
   | none=>simp [hf] at h
   | some B =>
    simp only [hf,Option.some.injEq,Prod.mk.injEq] at h
    obtain ⟨rfl,rfl⟩:=h
    obtain ⟨u,h1,h2⟩:=yR4 hg hi hx hr hf
    exact ⟨v,us,rfl,u,h1,h2⟩
theorem xM0 (k:IntKind) (a b:Int) (w:World):(Builtin.max2 (.int k a) (.int k b)).run P w = .ok (.int k (xW1 a b)) w:=by simp [Builtin.max2,xW1]
theorem xM1 (k:IntKind) (a b:Int) (w:World):(Builtin.min2 (.int k a) (.int k b)).run P w = .ok (.int k (xW2 a b)) w:=by simp [Builtin.min2,xW2]
end Go.Am
namespace Go.Am
open Go Go.RowKit
variable {P:Program} {c:Ctx} {G:Gh} {w:World} {tm:Array Value}
theorem yV2 {α:Type} {R:α → List Value → Prop} (h:∀ x vs,R x vs → ∀ u ∈ vs,u.oneCell' = true):∀ {l us},zJ5 R l us → ∀ u ∈ us,u.oneCell' = true:=by
 intro l
 induction l with
 | nil=>intro us hu; simp only [zJ5] at hu; subst hu; simp
 | cons x l ih=>rintro us ⟨vs,ws,rfl,hx,hl⟩ u hu; exact (List.mem_append.1 hu).elim (fun hu=>h _ _ hx u hu) (fun hu=>ih hl u hu)
theorem yJ6 {χ:Nat → Nat → Nat}:∀ {τ:Ty} {x:τ.den} {vs:List Value},zB χ w τ x vs → ∀ u ∈ vs,u.oneCell' = true:=by
 intro τ
 induction τ with
 | int k=>intro x vs h u hu; simp only [zB] at h; subst h; simp at hu; subst hu; rfl
 | bool=>intro x vs h u hu; simp only [zB] at h; subst h; simp at hu; subst hu; rfl
 | str=>intro x vs h u hu; simp only [zB] at h; subst h; simp at hu; subst hu; rfl
 | nl=>intro x vs h u hu; simp only [zB] at h; subst h; simp at hu
 | cons a b ha hb=>intro x vs h u hu; simp only [zB] at h; obtain ⟨us,ws,rfl,h1,h2⟩:=h; exact (List.mem_append.1 hu).elim (fun hu=>ha h1 u hu) (fun hu=>hb h2 u hu)
 | st f hf=>intro x vs h u hu; simp only [zB] at h; exact hf h u hu
 | arr n t ht=>intro x vs h u hu; simp only [zB] at h; exact yV2 (fun _ _ h=>ht h) h.2 u hu
 | sl t ht=>intro x vs h u hu; simp only [zB] at h; obtain ⟨a,cap,rfl,_⟩:=h; simp at hu; subst hu; rfl
 | ptr t ht=>intro x vs h u hu; simp only [zB] at h; obtain ⟨b,o,us,rfl,_⟩:=h; simp at hu; subst hu; rfl
theorem yV3 {t:Ty} {l:List t.den} {T:Nat} {m:Bool} {v:Value} (h:zF8 G w t l T m v):v.oneCell' = true:=by
 rcases h with h | ⟨_,k,e,l',_,_,es,clock,rfl,_⟩
 ·rcases h.2 with ⟨rfl,_⟩ | ⟨cap,cur,e,us,rfl,_⟩ <;> rfl
 ·rfl
theorem zU3:∀ {A:AVal} {τ:Ty} {vs:List Value},zA2 G w τ A vs → ∀ u ∈ vs,u.oneCell' = true:=by
 intro A
 induction A with
 | val τ' x=>intro τ vs h; simp only [zA2] at h; exact yJ6 h.2.2
 | nil=>intro τ vs h u hu; simp only [zA2] at h; rw [h.2] at hu; simp at hu; subst hu; rfl
 | own t l T m=>intro τ vs h u hu; simp only [zA2] at h; obtain ⟨_,v,rfl,h⟩:=h; simp at hu; subst hu; exact yV3 h
 | agg f a ih=>intro τ vs h; simp only [zA2] at h; exact ih h.2
 | nl=>intro τ vs h u hu; simp only [zA2] at h; rw [h.2] at hu; simp at hu
 | cons a b iha ihb=>intro τ vs h u hu; simp only [zA2] at h; obtain ⟨h1,t1,us,ws,_,rfl,h2,h3⟩:=h; exact (List.mem_append.1 hu).elim (fun hu=>iha h2 u hu) (fun hu=>ihb h3 u hu)
 | _=>intro τ vs h; simp only [zA2] at h
theorem zJ6 {τ:Ty} {us:List Value} {u:Value} (hs:zO6 τ us u) (h1:∀ u ∈ us,u.oneCell' = true):u.cells.toList = us:=by
 unfold zO6 at hs
 cases ha:τ.isAgg with
 | true=>rw [ha,cond_true] at hs; subst hs; simp [Value.cells]
 | false =>
  rw [ha,cond_false] at hs; subst hs
  have:=h1 u (by simp)
  cases u <;> simp_all [Value.cells,Value.oneCell']
theorem zQ8 {χ:Nat → Nat → Nat}:∀ {τ:Ty},τ.noPtr = true → zB χ w τ τ.dflt (zB1 τ):=by
 intro τ
 induction τ with
 | int k=>intro _; simp only [zB,zB1,Ty.dflt]
 | bool=>intro _; simp only [zB,zB1,Ty.dflt]
 | str=>intro _; simp only [zB,zB1,Ty.dflt]
 | nl=>intro _; simp only [zB,zB1]
 | cons a b ha hb=>intro h; simp only [Ty.noPtr,Bool.and_eq_true] at h; simp only [zB,zB1,Ty.dflt]; exact ⟨_,_,rfl,ha h.1,hb h.2⟩
 | st f hf=>intro h; simp only [Ty.noPtr] at h; simp only [zB,zB1,Ty.dflt]; exact hf h
 | arr n t ht=>intro h; simp only [Ty.noPtr] at h; simp only [zB,zB1,Ty.dflt]; exact ⟨by simp,zH9 (ht h) n⟩
 | sl t _=>intro _; simp only [zB,zB1,Ty.dflt]; exact ⟨none,0,rfl,.inl (by first | rfl | trivial)⟩
 | ptr t _=>intro h; simp [Ty.noPtr] at h
theorem yV4:∀ {τ:Ty},τ.noPtr = true → τ.plain = true → zA2 G w τ (zO8 τ) (zB1 τ):=by
 intro τ
 induction τ with
 | int k=>intro _ _; simp only [zA2,zO8,zB,zB1]; simp [Ty.isL]
 | bool=>intro _ _; simp only [zA2,zO8,zB,zB1]; simp [Ty.isL]
 | str=>intro _ _; simp only [zA2,zO8,zB,zB1]; simp [Ty.isL]
 | nl=>intro _ _; simp only [zA2,zO8,zB1]; simp
 | cons a b ha hb =>
  intro h hp
  simp only [Ty.noPtr,Bool.and_eq_true] at h
  simp only [Ty.plain,Bool.and_eq_true,Bool.not_eq_true'] at hp
  simp only [zO8,zA2,zB1]
  exact ⟨a,b,_,_,rfl,rfl,ha h.1 hp.1.1.2,hb h.2 hp.2⟩
 | st f hf =>
  intro h hp
  simp only [Ty.noPtr] at h
  simp only [Ty.plain,Bool.and_eq_true] at hp
  simp only [zO8]
  cases hs:f.hasSl with
  | true=>simp only [cond_true,zA2,zB1]; exact ⟨trivial,hf h hp.2⟩
  | false=>simp only [cond_false,zA2]; exact ⟨trivial,rfl,zQ8 (τ:=.st f) h⟩
 | arr n t ht=>intro h hp; simp only [zO8,zA2]; exact ⟨trivial,rfl,zQ8 h⟩
 | sl t _=>intro _ _; simp only [zO8,zA2,zB1]; simp [Ty.isSl]
 | ptr t _=>intro h; simp [Ty.noPtr] at h
theorem zJ2:∀ {τ:Ty},(zB1 τ).length = τ.size:=by
 intro τ
 induction τ with
 | cons a b ha hb=>simp [zB1,Ty.size,ha,hb]
 | st f hf=>simp [zB1,Ty.size,hf]
 | arr n t ht=>simp [zB1,Ty.size,ht]
 | _=>rfl
theorem yN0 (cells:Array Value) (off:Nat) (ps:List Value) (h:off + ps.length ≤ cells.size) :
  ((ps.toArray.zipIdx.foldl (fun cs (x:Value × Nat)=>cs.setIfInBounds (off + x.2) x.1) cells)).toList = spl cells.toList off ps:=by
 have key:∀ (ps:List Value) (k:Nat) (cells:Array Value),off + k + ps.length ≤ cells.size →
   ((ps.zipIdx k).foldl (fun cs (x:Value × Nat)=>cs.setIfInBounds (off + x.2) x.1) cells).toList = spl cells.toList (off + k) ps:=by
  intro ps
  induction ps with
  | nil=>intro k cells _; simp [xE5]
  | cons p ps ih =>
   intro k cells hk
   simp only [List.length_cons] at hk
   simp only [List.zipIdx_cons,List.foldl_cons]
   rw [ih (k + 1) _ (by simp; omega)]
   apply List.ext_getElem?
   intro j
   rw [spl_getElem? _ _ _ _ (by simp; omega),spl_getElem? _ _ _ _ (by simp; omega)]
   simp only [List.length_cons,Array.toList_setIfInBounds,List.getElem?_set]
   by_cases h1:off + k = j
   ·subst h1
    rw [if_neg (by omega),if_pos rfl,if_pos (by simp; omega),if_pos ⟨by omega,by omega⟩]
    simp
   ·by_cases h2:off + (k + 1) ≤ j ∧ j < off + (k + 1) + ps.length
    ·rw [if_pos h2,if_pos ⟨by omega,by omega⟩]
     rw [show j - (off + k) = (j - (off + (k + 1))) + 1 from by omega]
     simp
    ·rw [if_neg h2,if_neg h1,if_neg (by omega)]
 have:=key ps 0 cells (by omega)
 simp only [Nat.add_zero] at this
 rw [← this]
 congr 1
 simp
theorem yR5 {f:Ty} {places:Nat → Option (Nat × Nat)} (hpl:∀ k,k < f.flen → places k = some (f.foff k,(f.fty k).size)) :
  ∀ {parts:List (Nat × AVal)} {vs:List Value} {ks:List Nat} {z:AVal} {cells:Array Value},f.plain = true → zT4 f parts = true → zG3 (zA G w tm none) (parts.map (·.2)) vs → ks = parts.map (·.1) →
   zA2 G w f z cells.toList → ∃ cells',Instr.fill places cells (List.zip ks vs) = some cells' ∧ zA2 G w f (xV2 parts z) cells'.toList:=by
 intro parts
 induction parts with
 | nil=>intro vs ks z cells _ _ hv hk hz; subst hk; exact ⟨cells,by simp [Instr.fill],by simpa [xV2] using hz⟩
 | cons q r ih =>
  intro vs ks z cells hp hf hv hk hz
  obtain ⟨k,A⟩:=q
  cases vs with
  | nil=>simp [zG3] at hv
  | cons v vs =>
   simp only [List.map_cons,zG3] at hv
   simp only [zT4,List.all_cons,Bool.and_eq_true] at hf
   obtain ⟨⟨hk1,hA⟩,hr⟩:=hf
   have hk1:k < f.flen:=Nat.le_of_ble_eq_true hk1
   have hpf:=yC4 hp hk1
   obtain ⟨us,h1,h2⟩:=zP6 hv.1 hA hpf.1
   have hc:=zJ6 h2 (zU3 h1)
   have hle:=yC3 hk1
   have hcl:=zB0 hz
   have hul:=zB0 h1
   have hvs:v.cells = us.toArray:=by rw [← hc]
   subst hk
   simp only [List.map_cons,List.zip_cons_cons,Instr.fill,hpl k hk1]
   have hsz:v.cells.size = (f.fty k).size:=by rw [hvs]; simpa using hul
   rw [if_neg (by simp only [hsz]; simp; rw [← Array.length_toList,hcl]; exact hle)]
   have hcell:(Array.foldl (fun cs (x:Value × Nat)=>cs.setIfInBounds (f.foff k + x.2) x.1) cells v.cells.zipIdx).toList = spl cells.toList (f.foff k) us:=by
    rw [hvs]; exact yN0 cells (f.foff k) us (by rw [← Array.length_toList,hcl]; omega)
   have hz':=zS9 hk1 hz h1
   rw [← hcell] at hz'
   obtain ⟨cells',h3,h4⟩:=ih hp (by simpa [zT4] using hr) hv.2 rfl hz'
   exact ⟨cells',h3,h4⟩
theorem yN1 {t:Ty}:∀ {parts:List (Nat × AVal)} {vs:List Value} {ks:List Nat} {l l':List t.den} {cells:Array Value},t.isL = false → (∀ q ∈ parts,q.1 < l.length) → zG3 (zA G w tm none) (parts.map (·.2)) vs → ks = parts.map (·.1) →
   zJ5 (zB G.χ w t) l cells.toList → xS2 t parts l = some l' → ∃ cells',Instr.fill (fun i=>some (i * t.size,t.size)) cells (List.zip ks vs) = some cells' ∧ zJ5 (zB G.χ w t) l' cells'.toList ∧ l'.length = l.length:=by
 intro parts
 induction parts with
 | nil=>intro vs ks l l' cells _ _ hv hk hz h; subst hk; simp only [xS2,Option.some.injEq] at h; subst h; exact ⟨cells,by simp [Instr.fill],hz,rfl⟩
 | cons q r ih =>
  intro vs ks l l' cells hp hlt hv hk hz h
  obtain ⟨k,A⟩:=q
  cases vs with
  | nil=>simp [zG3] at hv
  | cons v vs =>
   simp only [List.map_cons,zG3] at hv
   simp only [xS2] at h
   split at h
   ·rename_i x hx
    have hk1:k < l.length:=hlt (k,A) (by simp)
    obtain ⟨us,h1,h2⟩:=zH4 hx hp hv.1
    have hc:=zJ6 h2 (yJ6 h1)
    have hul:=zA1 h1
    have hcl:=zB3 (k:=t.size) (fun _ _ h=>zA1 h) hz
    have hvs:v.cells = us.toArray:=by rw [← hc]
    have hle:k * t.size + t.size ≤ l.length * t.size:=by rw [← Nat.succ_mul]; exact Nat.mul_le_mul_right _ (by omega)
    subst hk
    simp only [List.map_cons,List.zip_cons_cons,Instr.fill]
    have hsz:v.cells.size = t.size:=by rw [hvs]; simpa using hul
    rw [if_neg (by simp only [hsz]; simp; rw [← Array.length_toList,hcl]; exact hle)]
    have hcell:(Array.foldl (fun cs (x:Value × Nat)=>cs.setIfInBounds (k * t.size + x.2) x.1) cells v.cells.zipIdx).toList = spl cells.toList (k * t.size) us:=by
     rw [hvs]; exact yN0 cells (k * t.size) us (by rw [← Array.length_toList,hcl]; omega)
    have hz':=yJ2 (R:=zB G.χ w t) (k:=t.size) (fun _ _ h=>zA1 h) h1 hz hk1
    rw [← hcell] at hz'
    obtain ⟨cells',h3,h4,h5⟩:=ih hp (fun q hq=>by simp; exact hlt q (by simp [hq])) hv.2 rfl hz' h
    exact ⟨cells',h3,h4,by rw [h5]; simp⟩
   ·cases h
end Go.Am
namespace Go.Am
open Go Go.RowKit
variable {P:Program} {c:Ctx} {G:Gh} {w:World} {tm:Array Value}
theorem xF2 {f:Ty}:∀ {fs:List Field} {o:Nat},zC P f (.inr (fs,o)) = true → ∃ pl:List (Nat × Nat),fs.mapM (fun f=>(P.info? f.type).map fun i=>(f.offset,i.size)) = some pl ∧ ∀ k,k < f.flen → pl[k]? = some (o + f.foff k,(f.fty k).size):=by
 induction f with
 | nl=>intro fs o h; cases fs <;> simp [zC] at h; exact ⟨[],by simp,fun k hk=>by simp [Ty.flen] at hk⟩
 | cons a b _ ihb =>
  intro fs o h
  cases fs with
  | nil=>simp [zC] at h
  | cons fd r =>
   simp only [zC,Bool.and_eq_true] at h
   obtain ⟨⟨⟨h1,_⟩,h3⟩,h4⟩:=h
   have h1:=Nat.eq_of_beq_eq_true h1
   obtain ⟨pl,h5,h6⟩:=ihb h4
   obtain ⟨⟨i,z,hi,hs,_⟩,_⟩:=zF4 h3
   refine ⟨(fd.offset,i.size) :: pl,by simp [List.mapM_cons,hi,h5],fun k hk=>?_⟩
   cases k with
   | zero=>simp [Ty.foff,Ty.fty,h1,hs]
   | succ k=>simp only [Ty.flen] at hk; simp [Ty.foff,Ty.fty,h6 k (by omega),Nat.add_assoc]
 | _=>intro fs o h; simp [zC] at h
theorem yN2 {ps:List (Nat × Operand)} {ρ:Operand → Value}:ps.map (fun x=>(x.1,ρ x.2)) = List.zip (ps.map (·.1)) ((ps.map (·.2)).map ρ):=by
 induction ps with
 | nil=>rfl
 | cons q r ih=>simp [ih]
theorem zX9:∀ {ps:List (Nat × Operand)} {xs:List AVal},xs.length = ps.length → (zE8 ps xs).map (·.2) = xs ∧ (zE8 ps xs).map (·.1) = ps.map (·.1):=by
 intro ps
 induction ps with
 | nil=>intro xs h; cases xs <;> simp at h; exact ⟨rfl,rfl⟩
 | cons q r ih =>
  intro xs h
  cases xs with
  | nil=>simp at h
  | cons x xs=>obtain ⟨h1,h2⟩:=ih (xs:=xs) (by simpa using h); simp only [zE8] at h1 h2 ⊢; simp [h1,h2]
theorem zH6 {α β:Type} {R:α → β → Prop}:∀ {xs:List α} {ys:List β},zG3 R xs ys → xs.length = ys.length:=by
 intro xs
 induction xs with
 | nil=>intro ys h; cases ys <;> simp [zG3] at h ⊢
 | cons x xs ih=>intro ys h; cases ys <;> simp [zG3] at h ⊢; exact ih h.2
theorem yN3 (hty:zL5 P c.tys = true) {T:Nat} {ps:Array (Nat × Operand)} {ρ:Operand → Value} {xs:List AVal} {A:AVal} {p:List Prop} (hx:zG3 (zA G w tm none) xs ((ps.toList.map (·.2)).map ρ))
  (h:xD3 c T (zE8 ps.toList xs) = some (p,A)):∃ r,(Instr.build T (ps.map fun (i,x)=>(i,ρ x))).run P w = .ok r w ∧ zA G w tm none A r:=by
 have hl:xs.length = ps.toList.length:=by rw [zH6 hx]; simp
 obtain ⟨e1,e2⟩:=zX9 hl
 have hparts:(ps.map fun (i,x)=>(i,ρ x)).toList = List.zip ((zE8 ps.toList xs).map (·.1)) ((ps.toList.map (·.2)).map ρ):=by
  rw [e2,← yN2]; simp
 have hx':zG3 (zA G w tm none) ((zE8 ps.toList xs).map (·.2)) ((ps.toList.map (·.2)).map ρ):=by rw [e1]; exact hx
 unfold xD3 at h
 split at h
 ·rename_i f hT
  have hT':=zI7 hty T (by rw [hT]; simp)
  rw [hT] at hT'
  cases hb:(zT4 f (zE8 ps.toList xs) && f.noPtr) with
  | false=>simp [hb] at h
  | true =>
   simp only [hb,cond_true] at h
   simp only [Bool.and_eq_true] at hb
   obtain ⟨fs,h1,h2⟩:=zP3 hT'
   obtain ⟨pl,h3,h4⟩:=xF2 h2
   have hpl:=zH3 hT'
   simp only [Ty.plain,Bool.and_eq_true] at hpl
   obtain ⟨⟨i,z,hi,hs,_,hz,hzc,_⟩,_⟩:=zF4 hT'
   have hzr:zA2 G w f (zO8 f) z.cells.toList:=by rw [hzc]; exact yV4 hb.2 hpl.2
   obtain ⟨cells',h5,h6⟩:=yR5 (G:=G) (w:=w) (tm:=tm) (places:=(pl.toArray[·]?)) (fun k hk=>by simpa using h4 k hk) hpl.2 hb.1 hx' rfl hzr
   have hbuilt:P.built T (ps.map fun (i,x)=>(i,ρ x)).toList = some cells':=by
    rw [hparts]; simp only [Program.built,hi,h1,hz,h3]; exact h5
   refine ⟨.agg cells',run_build w T _ cells' hbuilt,?_⟩
   cases hs:f.hasSl with
   | true =>
    simp only [hs,cond_true,Option.some.injEq,Prod.mk.injEq] at h
    obtain ⟨rfl,rfl⟩:=h
    simp only [zA]
    exact ⟨cells'.toList,by simp,h6⟩
   | false =>
    simp only [hs,cond_false] at h
    split at h
    ·rename_i x hx
     simp only [Option.some.injEq,Prod.mk.injEq] at h
     obtain ⟨rfl,rfl⟩:=h
     simp only [zA]
     exact (zF9 rfl).2 ⟨cells'.toList,by simp,by simp only [zB]; exact zK2 hx h6⟩
    ·cases h
 ·rename_i n t hT
  have hT':=zI7 hty T (by rw [hT]; simp)
  rw [hT] at hT'
  cases hb:((zE8 ps.toList xs).all (fun q=>Nat.blt q.1 n) && t.noPtr) with
  | false=>simp [hb] at h
  | true =>
   simp only [hb,cond_true] at h
   simp only [Bool.and_eq_true] at hb
   obtain ⟨e,h1,h2⟩:=zM5 hT'
   obtain ⟨⟨i,z,hi,hs,_,hz,hzc,_⟩,_⟩:=zF4 hT'
   obtain ⟨⟨ie,ze,hie,hse,_⟩,_⟩:=zF4 h2
   split at h
   ·rename_i l hl
    simp only [Option.some.injEq,Prod.mk.injEq] at h
    obtain ⟨rfl,rfl⟩:=h
    have hzr:zJ5 (zB G.χ w t) (List.replicate n t.dflt) z.cells.toList:=by rw [hzc]; exact zH9 (zQ8 hb.2) n
    obtain ⟨cells',h5,h6,h7⟩:=yN1 (G:=G) (w:=w) (tm:=tm) (zC2 h2) (fun q hq=>by simp; exact Nat.le_of_ble_eq_true (List.all_eq_true.1 hb.1 q hq)) hx' rfl hzr hl
    have hbuilt:P.built T (ps.map fun (i,x)=>(i,ρ x)).toList = some cells':=by
     rw [hparts]; simp only [Program.built,hi,h1,hz,hie,hse]; exact h5
    refine ⟨.agg cells',run_build w T _ cells' hbuilt,?_⟩
    simp only [zA]
    exact (zF9 rfl).2 ⟨cells'.toList,by simp,by simp only [zB]; exact ⟨by rw [h7]; simp,h6⟩⟩
   ·cases h
 ·cases h
theorem zA6 (s T:Nat):zG5 s ≠ zB2 T:=by unfold zG5 zB2; omega
theorem zG9 {s t:Nat} (h:zG5 s = zG5 t):s = t:=by unfold zG5 at h; omega
theorem zA5 {s t:Nat} (h:zB2 s = zB2 t):s = t:=by unfold zB2 at h; omega
theorem zE3 (s:Nat):¬ (0 = zG5 s):=by unfold zG5; omega
theorem zA8 (s:Nat):¬ (0 = zB2 s):=by unfold zB2; omega
def Gh.newBox (G:Gh) (b d:Nat):Gh:={ χ:=fun b' o=>if b' = b then zG5 d else G.χ b' o,β:=fun s=>if s = d then b else G.β s,γ:=G.γ }
def Gh.newArr (G:Gh) (b d:Nat):Gh:={ χ:=fun b' o=>if b' = b then zB2 d else G.χ b' o,β:=G.β,γ:=fun s=>if s = d then b else G.γ s }
theorem zQ9 (w:World) (o:Obj):(w.alloc o).heap[w.heap.size]? = some o:=by
 show (w.heap.push o)[w.heap.size]? = _
 simp
theorem zR {b o:Nat} (h:b < w.heap.size) (x:Obj):(w.alloc x).cell? ⟨b,o,none⟩ = w.cell? ⟨b,o,none⟩:=by
 have:=Below.heap_alloc w x b h
 simp only [World.cell?,this]
theorem zR0 (x:Obj) (d:Nat):Ext (· = zG5 d) (· = zG5 d) G w (G.newBox w.heap.size d) (w.alloc x):=by
 refine ⟨fun b o hb h=>?_,fun b hb _=>?_,by simp,fun s hs=>?_,fun T _=>rfl,fun _ h=>h⟩
 ·exact ⟨by simp only [Gh.newBox]; rw [if_neg (by omega)]; exact h,zR hb x⟩
 ·exact ⟨Below.heap_alloc w x b hb,fun o=>by simp only [Gh.newBox]; rw [if_neg (by omega)]⟩
 ·simp only [Gh.newBox]; rw [if_neg (fun e=>hs (by rw [e]))]
theorem zR1 (x:Obj) (d:Nat):Ext (· = zB2 d) (· = zB2 d) G w (G.newArr w.heap.size d) (w.alloc x):=by
 refine ⟨fun b o hb h=>?_,fun b hb _=>?_,by simp,fun s _=>rfl,fun T hT=>?_,fun _ h=>h⟩
 ·exact ⟨by simp only [Gh.newArr]; rw [if_neg (by omega)]; exact h,zR hb x⟩
 ·exact ⟨Below.heap_alloc w x b hb,fun o=>by simp only [Gh.newArr]; rw [if_neg (by omega)]⟩
 ·simp only [Gh.newArr]; rw [if_neg (fun e=>hT (by rw [e]))]
theorem zL6 {χ0:Nat → Nat → Nat} {w0:World} (h:Frame0 χ0 w0 G.χ w) (x:Obj) (χ':Nat → Nat → Nat) (hχ:∀ b o,b < w.heap.size → χ' b o = G.χ b o):Frame0 χ0 w0 χ' (w.alloc x):=by
 refine ⟨h.os,h.tape,h.output,Nat.le_trans h.size (by simp),fun b hb hc=>?_,fun b o hb hc=>?_⟩
 ·rw [Below.heap_alloc w x b (Nat.lt_of_lt_of_le hb h.size)]; exact h.block b hb hc
 ·have hlt:=Nat.lt_of_lt_of_le hb h.size
  rw [zR hlt,hχ b o hlt]; exact h.cell b o hb hc
theorem yG5 {X Y:Nat → Prop} (hX:∀ T,¬ X (zB2 T)):∀ {A:AVal} {τ:Ty} {us:List Value},zA2 G w τ A us → ¬ A.names X Y none:=by
 intro A
 induction A with
 | val _ _=>intro τ us _; simp [AVal.names]
 | nil=>intro τ us _; simp [AVal.names]
 | own t l T m=>intro τ us _; simp only [AVal.names]; exact hX T
 | agg f a ih=>intro τ us h; simp only [zA2] at h; simp only [AVal.names]; exact ih h.2
 | nl=>intro τ us _; simp [AVal.names]
 | cons a b iha ihb=>intro τ us h; simp only [zA2] at h; obtain ⟨_,_,_,_,_,_,h2,h3⟩:=h; simp only [AVal.names,not_or]; exact ⟨iha h2,ihb h3⟩
 | _=>intro τ us h; simp only [zA2] at h
theorem yN4 {d:Nat}:∀ {A:AVal} {s:Option Nat},A.hasRef d = false → s ≠ some d → ¬ A.names (· = zG5 d) (· = zG5 d) s:=by
 intro A
 induction A with
 | own t l T m=>intro s _ _; simp only [AVal.names]; exact fun e=>zA6 _ _ e.symm
 | ownh t l T i U m=>intro s _ _; simp only [AVal.names,not_or]; exact ⟨fun e=>zA6 _ _ e.symm,fun e=>zA6 _ _ e.symm⟩
 | eref _ T _ _ _=>intro s _ _; simp only [AVal.names]; exact fun e=>zA6 _ _ e.symm
 | ref s' τ p=>intro s h _; simp only [AVal.names]; intro e; have:=zG9 e; subst this; simp [AVal.hasRef] at h
 | opt _ _ _ A ih=>intro s h _; simp only [AVal.names]; exact ih h (by simp)
 | box τ a ih =>
  intro s h hs
  cases s with
  | none=>simp only [AVal.names]; exact ih h (by simp)
  | some s=>simp only [AVal.names,not_or]; exact ⟨fun e=>hs (by rw [zG9 e]),ih h (by simp)⟩
 | cons a b iha ihb=>intro s h _; simp only [AVal.hasRef,Bool.or_eq_false_iff] at h; simp only [AVal.names,not_or]; exact ⟨iha h.1 (by simp),ihb h.2 (by simp)⟩
 | agg f a ih=>intro s h _; simp only [AVal.names]; exact ih h (by simp)
 | tup a ih=>intro s h _; simp only [AVal.names]; exact ih h (by simp)
 | fn f a ih=>intro s h _; simp only [AVal.names]; exact ih h (by simp)
 | raw =>
  intro s _ hs
  cases s with
  | none=>simp [AVal.names]
  | some s=>simp only [AVal.names]; exact fun e=>hs (by rw [zG9 e])
 | rref s'=>intro s h _; simp only [AVal.names]; intro e; have:=zG9 e; subst this; simp [AVal.hasRef] at h
 | fptr f caps =>
  intro s h _
  simp only [AVal.names]
  rintro ⟨k,τ,hm,e⟩
  have:=zG9 e
  subst this
  simp only [AVal.hasRef] at h
  have:=List.any_eq_true.2 ⟨_,hm,show xQ3 k (some (k,τ)) = true by simp [xQ3]⟩
  rw [this] at h
  cases h
 | _=>intro s _ _; simp [AVal.names]
theorem yN5 {T:Nat}:∀ {A:AVal} {s:Option Nat},A.hasTag T = false → ¬ A.names (· = zB2 T) (· = zB2 T) s:=by
 intro A
 induction A with
 | own t l T' m=>intro s h; simp only [AVal.names]; intro e; have:=zA5 e; subst this; simp [AVal.hasTag] at h
 | ownh t l T' i U m=>intro s h; simp only [AVal.names,not_or]; exact ⟨fun e=>by have:=zA5 e; subst this; simp [AVal.hasTag] at h,fun e=>by have:=zA5 e; subst this; simp [AVal.hasTag] at h⟩
 | eref _ T' _ _ _=>intro s h; simp only [AVal.names]; intro e; have:=zA5 e; subst this; simp [AVal.hasTag] at h
 | ref s' τ p=>intro s _; simp only [AVal.names]; exact zA6 _ _
 | opt _ _ _ A ih=>intro s h; simp only [AVal.names]; exact ih h
 | box τ a ih =>
  intro s h
  cases s with
  | none=>simp only [AVal.names]; exact ih h
  | some s=>simp only [AVal.names,not_or]; exact ⟨zA6 _ _,ih h⟩
 | cons a b iha ihb=>intro s h; simp only [AVal.hasTag,Bool.or_eq_false_iff] at h; simp only [AVal.names,not_or]; exact ⟨iha h.1,ihb h.2⟩
 | agg f a ih=>intro s h; simp only [AVal.names]; exact ih h
 | tup a ih=>intro s h; simp only [AVal.names]; exact ih h
 | fn f a ih=>intro s h; simp only [AVal.names]; exact ih h
 | raw =>
  intro s h
  cases s with
  | none=>simp [AVal.names]
  | some s=>simp only [AVal.names]; exact zA6 _ _
 | rref s'=>intro s _; simp only [AVal.names]; exact zA6 _ _
 | fptr f caps=>intro s _; simp only [AVal.names]; rintro ⟨k,τ,_,e⟩; exact zA6 _ _ e
 | _=>intro s _; simp [AVal.names]
theorem xF3 {τ:Ty} {A:AVal} {us:List Value} {d e:Nat} (h:zA2 G w τ A us) (hv:yB7 τ) :
  zA (G.newBox w.heap.size d) (w.alloc (.cells us.toArray e)) tm (some d) (.box τ A) (.pointer (some ⟨w.heap.size,0,none⟩)):=by
 simp only [zA]
 refine ⟨by simp [Gh.newBox],hv,us.toArray,e,?_,?_,fun o=>by simp [Gh.newBox]⟩
 ·simp only [Gh.newBox,if_true]
  exact zQ9 w _
 ·simp only
  exact zZ8 (zR0 _ d) (zE3 d) (yG5 (fun T=>fun e=>zA6 _ _ e.symm) h) h
theorem yR6 {t:Ty} {l:List t.den} {us rest:List Value} {d e cap:Nat} (h:zJ5 (zB G.χ w t) l us) (hv:yB7 t) (hcap:(us ++ rest).length = cap * t.size) (hlc:l.length ≤ cap) (hm:cap ≤ maxLen) :
  zA (G.newArr w.heap.size d) (w.alloc (.cells (us ++ rest).toArray e)) tm (some d) (.own t l d true) (.slice (some ⟨w.heap.size,0,none⟩) l.length cap):=by
 simp only [zA]
 have hul:=zB3 (k:=t.size) (fun _ _ h=>zA1 h) h
 refine .inl ⟨hv,.inr ⟨cap,(us ++ rest).toArray,e,us,by simp [Gh.newArr],?_,hlc,hm,by simpa using hcap,?_,?_,fun o=>by simp [Gh.newArr]⟩⟩
 ·simp only [Gh.newArr,if_true]
  exact zQ9 w _
 ·exact zC5 (fun _ _ h=>zA7 (zR1 _ d).prot h) h
 ·simp [← hul]
end Go.Am
