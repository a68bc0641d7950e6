/- The abstract machine, part 1: a typed interpreter for the program's code, and that it is sound. No condition. -/
import Derived.Calls
import Derived.KernelRfl
import Derived.Orders
import Derived.Laws.AppendOwn
import Derived.Below
import Derived.Deep.MidRow
import Derived.IntWalk
import Derived.Laws.StructEq
import Derived.ChangeKeysEq
import Derived.Great.BuildSlice
namespace Go.Am
open Go
open Go.Builtin (len_ max2 min2)
open Go.Instr (extract field fieldAt indexAt loadAt slice sliceAt sliceBounds storeAt sureAddr)
open Go.Op (bytesLess eqItems equalIn intCmp stringOp)
open Go.Result (andThen_ok)
open Go.Sem (run_bind run_pure)
open Go.World (cell? setCells)
open _root_.List (all_cons all_eq_true append drop_append ext_getElem? getD length map_cons range replicate set take toArray zip zipWith)
open _root_.Nat (add_assoc add_mul ble blt lor succ_mul)
theorem jA {α:Type _}(a b:α):(some a=some b)=(a=b):=Option.some.injEq a b
theorem jB (a b:Bool):((a&&b)=true)=(a=true∧b=true):=Bool.and_eq_true a b
theorem jC {n m:Nat}(h:Nat.beq n m):n=m:=Nat.eq_of_beq_eq_true h
theorem jD {α:Sort _}(a b:α):(cond false a b)=b:=rfl
theorem jE {α:Sort _}(a b:α):(cond true a b)=a:=rfl
theorem jF {p:Prop}[i:Decidable p](h:decide p):p:=of_decide_eq_true h
theorem jG {α:Type _}{β:Type _}(a:α)(b:β)(c:α)(d:β):((a,b)=(c,d))=(a=c∧b=d):=Prod.mk.injEq a b c d
theorem jH {α:Type _}{a b:α}:a∈[b]↔a=b:=List.mem_singleton
theorem jI (n:Nat):n≤n:=Nat.le_refl n
theorem jJ {x y:Bool}:(x||y)=false↔x=false∧y=false:=Bool.or_eq_false_iff
theorem jK (b:Bool):((!b)=true)=(b=false):=Bool.not_eq_true' b
theorem jL {α:Type _}{l:List α}{i:Nat}(h:i<l.length):l[i]?=some (l[i]'h):=List.getElem?_eq_getElem h
theorem jM {α:Type _}{l:List α}{i:Nat}{a:α}:l.getD i a=l[i]?.getD a:=List.getD_eq_getElem?_getD
theorem jN {α:Type _}{xs:Array α}:xs.toList.length=xs.size:=Array.length_toList
theorem jO {α:Type _}{as bs:List α}:(as++bs).length=as.length+bs.length:=List.length_append
theorem jP {α:Type _}(y:α){a:α}{l:List α}(h:a∈l):a∈y::l:=List.mem_cons_of_mem y h
theorem jQ {α:Type _}{a:α}{l:List α}:a∈a::l:=List.mem_cons_self
theorem jR {n m:Nat}(h:n.ble m):n≤m:=Nat.le_of_ble_eq_true h
theorem jS {n m:Nat}(k:Nat)(h:n≤m):n*k≤m*k:=Nat.mul_le_mul_right k h
theorem jT {α:Type _}{i:Nat}{l:List α}:(take i l).length=min i l.length:=List.length_take
inductive Ty where
 |int (k:IntKind)|bool|str|nl|cons (h t:Ty)|st (f:Ty)|arr (n:Nat) (t:Ty)|sl (t:Ty)|ptr (t:Ty)
@[reducible] def Ty.den:Ty->Type
 |.int _=>Int|.bool=>Bool|.str=>List UInt8|.nl=>Unit|.cons h t=>h.den×t.den
 |.st f=>f.den|.arr _ t=>List t.den|.sl t=>List t.den|.ptr t=>t.den
def Fx:IntKind->Nat
 |.i8=>0|.i16=>1|.i32=>2|.i64=>3|.u8=>4|.u16=>5|.u32=>6|.u64=>7
theorem Ni{a b:IntKind}(h:Fx a=Fx b):a=b:=by cases a<;>cases b<;>first|rfl | (simp[Fx] at h)
def Ty.beq:Ty->Ty->Bool
 |.int k,.int k'=>Nat.beq (Fx k) (Fx k')
 |.bool,.bool=>true
 |.str,.str=>true
 |.nl,.nl=>true
 |.cons a b,.cons c d=>Ty.beq a c&&Ty.beq b d
 |.st a,.st b=>Ty.beq a b
 |.arr n a,.arr m b=>Nat.beq n m&&Ty.beq a b
 |.sl a,.sl b=>Ty.beq a b
 |.ptr a,.ptr b=>Ty.beq a b
 |_,_=>false
theorem Ty.eq_of_beq:∀{a b:Ty},Ty.beq a b->a=b:=by intro a;induction a with|int k=>intro b h;cases b<;>simp[Ty.beq] at h;rename_i k';have:=Ni h;rw[this]|bool=>intro b h;cases b<;>simp[Ty.beq] at h;rfl|str=>intro b h;cases b<;>simp[Ty.beq] at h;rfl|nl=>intro b h;cases b<;>simp[Ty.beq] at h;rfl|cons x y j C=>intro b h;cases b<;>simp[Ty.beq] at h;rw[j h.1,C h.2]|st x j=>intro b h;cases b<;>simp[Ty.beq] at h;rw[j h]|arr n x j=>intro b h;cases b<;>simp[Ty.beq] at h;rw[h.1,j h.2]|sl x j=>intro b h;cases b<;>simp[Ty.beq] at h;rw[j h]|ptr x j=>intro b h;cases b<;>simp[Ty.beq] at h;rw[j h]
def Ty.cast {a:Ty}(b:Ty)(x:a.den):Option b.den:=
 match h:Ty.beq a b with
 |true=>some (Ty.eq_of_beq h ▸ x)
 |false=>none
def Ty.dflt:(τ:Ty)->τ.den
 |.int _=>(0:Int)|.bool=>false|.str=>([]:List UInt8)|.nl=>()|.cons h t=>(h.dflt,t.dflt)
 |.st f=>f.dflt|.arr n t=>replicate n t.dflt|.sl t=>([]:List t.den)|.ptr t=>t.dflt
def Ty.size:Ty->Nat
 |.int _=>1|.bool=>1|.str=>1|.nl=>0|.cons h t=>h.size+t.size
 |.st f=>f.size|.arr n t=>n*t.size|.sl _=>1|.ptr _=>1
def Ty.isAgg:Ty->Bool
 |.st _=>true|.arr _ _=>true|_=>false
def Ty.isL:Ty->Bool
 |.nl=>true|.cons _ _=>true|_=>false
def Ty.plain:Ty->Bool
 |.cons h t=>!h.isL&&h.plain&&t.isL&&t.plain
 |.st f=>f.isL&&f.plain
 |.arr _ t=>!t.isL&&t.plain
 |.sl t=>!t.isL&&t.plain
 |.ptr t=>!t.isL&&t.plain
 |_=>true
def Ty.hasSl:Ty->Bool
 |.sl _=>true|.cons h t=>h.hasSl||t.hasSl|.st f=>f.hasSl|_=>false
def Ty.fty:Ty->Nat->Ty
 |.cons h _,0=>h
 |.cons _ t,k+1=>t.fty k
 |_,_=>.nl
def Ty.fget:(f:Ty)->(k:Nat)->f.den->(f.fty k).den
 |.cons _ _,0,x=>x.1
 |.cons _ t,k+1,x=>t.fget k x.2
 |.int _,_,_=>()|.bool,_,_=>()|.str,_,_=>()|.nl,_,_=>()|.st _,_,_=>()|.arr _ _,_,_=>()|.sl _,_,_=>()|.ptr _,_,_=>()
def Ty.fset:(f:Ty)->(k:Nat)->(f.fty k).den->f.den->f.den
 |.cons _ _,0,y,x=>(y,x.2)
 |.cons _ t,k+1,y,x=>(x.1,t.fset k y x.2)
 |.int _,_,_,x=>x|.bool,_,_,x=>x|.str,_,_,x=>x|.nl,_,_,x=>x|.st _,_,_,x=>x|.arr _ _,_,_,x=>x|.sl _,_,_,x=>x|.ptr _,_,_,x=>x
def Ty.foff:Ty->Nat->Nat
 |.cons _ _,0=>0
 |.cons h t,k+1=>h.size+t.foff k
 |_,_=>0
def Ty.flen:Ty->Nat
 |.cons _ t=>t.flen+1
 |_=>0
def Ty.eqb:(τ:Ty)->τ.den->τ.den->Bool
 |.int _,x,y=>@BEq.beq Int _ x y
 |.bool,x,y=>@BEq.beq Bool _ x y
 |.str,x,y=>@BEq.beq (List UInt8) _ x y
 |.nl,_,_=>true
 |.cons h t,x,y=>h.eqb x.1 y.1&&t.eqb x.2 y.2
 |.st f,x,y=>f.eqb x y
 |.arr n t,x,y=>(range n).all λi=>t.eqb (getD (α:=t.den) x i t.dflt) (getD (α:=t.den) y i t.dflt)
 |.sl _,_,_=>false
 |.ptr _,_,_=>false
def Ty.cmp:Ty->Bool
 |.int _=>true|.bool=>true|.str=>true|.nl=>true|.cons h t=>h.cmp&&t.cmp|.st f=>f.cmp|.arr _ t=>t.cmp|.sl _=>false|.ptr _=>false
def Ty.noPtr:Ty->Bool
 |.ptr _=>false|.cons h t=>h.noPtr&&t.noPtr|.st f=>f.noPtr|.arr _ t=>t.noPtr|_=>true
def Ty.eqs:Ty->Bool
 |.bool=>true|.st _=>true|.arr _ _=>true|_=>false
def Ty.ht:Ty->Nat
 |.cons h t=>max h.ht t.ht|.st f=>f.ht+1|.arr _ t=>t.ht+1|_=>0
abbrev Fq:=List (Nat ⊕ Int)
def Ty.pty:Ty->Fq->Ty
 |τ,[]=>τ
 |.st f,.inl k::p=>(f.fty k).pty p
 |.arr _ t,.inr _::p=>t.pty p
 |_,_=>.nl
def Ty.poff:Ty->Fq->Nat
 |_,[]=>0
 |.st f,.inl k::p=>f.foff k+(f.fty k).poff p
 |.arr _ t,.inr i::p=>i.toNat*t.size+t.poff p
 |_,_=>0
inductive AVal where
 |junk
 |val (τ:Ty) (x:τ.den)
 |opt (s:Nat) (want g:Bool) (A:AVal)
 |nil
 |nn (b:Bool)
 |own (t:Ty) (l:List t.den) (T:Nat) (m:Bool)
 |box (τ:Ty) (c:AVal)
 |ref (s:Nat) (τ:Ty) (p:Fq)
 |eref (s:Nat) (T:Nat) (t:Ty) (i:Int) (p:Fq)
 |nl
 |cons (h t:AVal)
 |agg (f:Ty) (c:AVal)
 |tup (c:AVal)
 |fn (f:Nat) (c:AVal)
 |raw
 |rref (s:Nat)
 |fptr (f:Nat) (caps:List (Option (Nat×Ty)))
 |ownh (t:Ty) (l:List (List t.den)) (T i U:Nat) (m:Bool)
abbrev St:=List (Nat×AVal)
def BO:Nat:=1000000
def St.get:St->Nat->AVal
 |[],_=>.junk
 |(s,A)::r,n=>cond (Nat.beq s n) A (cond (Nat.beq s BO) (.junk) (St.get r n))
def AVal.nth:AVal->Nat->AVal
 |.cons h _,0=>h
 |.cons _ t,k+1=>t.nth k
 |_,_=>.junk
def AVal.setNth:AVal->Nat->AVal->AVal
 |.cons _ t,0,B=>.cons B t
 |.cons h t,k+1,B=>.cons h (t.setNth k B)
 |A,_,_=>A
def zT5:Ty->AVal
 |.sl _=>.nil
 |.nl=>.nl
 |.cons h t=>.cons (zT5 h) (zT5 t)
 |.st f=>cond f.hasSl (.agg f (zT5 f)) (.val (.st f) f.dflt)
 |.int k=>.val (.int k) (0:Int)
 |.bool=>.val .bool false
 |.str=>.val .str ([]:List UInt8)
 |.arr n t=>.val (.arr n t) (Ty.dflt (.arr n t))
 |.ptr _=>.junk
def xU9:Value->AVal
 |.bool b=>.val .bool b
 |.int k n=>.val (.int k) n
 |.string s=>.val .str s.data.toList
 |.slice none 0 0=>.nil
 |_=>.junk
def dB:(f:Ty)->f.den->AVal
 |.cons h t,x=>.cons (.val h x.1) (dB t x.2)
 |_,_=>.nl
def xY9:(τ:Ty)->Option τ.den
 |.sl _=>some []
 |_=>none
def wC6:(τ:Ty)->Option τ.den
 |.nl=>some ()
 |_=>none
def wD1 (g:(f:Ty)->Option f.den):(τ:Ty)->Option τ.den
 |.st f=>g f
 |_=>none
def dC (g g':(f:Ty)->Option f.den):(τ:Ty)->Option τ.den
 |.cons h t=>match g h,g' t with|some x,some y=>some (x,y)|_,_=>none
 |_=>none
def AVal.asT:AVal->(τ:Ty)->Option τ.den
 |.val τ' x,τ=>cond τ'.isL none (Ty.cast τ x)
 |.nil,τ=>xY9 τ
 |.own t l _ m,τ=>cond m none (Ty.cast (a:=.sl t) τ l)
 |.agg f c,τ=>cond (Ty.beq (.st f) τ) (wD1 (AVal.asT c) τ) none
 |.nl,τ=>wC6 τ
 |.cons a b,τ=>dC (AVal.asT a) (AVal.asT b) τ
 |_,_=>none
def AVal.as (τ:Ty)(A:AVal):Option τ.den:=A.asT τ
def Ty.isSl:Ty->Bool
 |.sl _=>true|_=>false
def GH (g g':Ty->Bool):Ty->Bool
 |.cons h t=>g h&&g' t
 |_=>false
def AVal.fitsT:AVal->Ty->Bool
 |.val τ' _,τ=>Ty.beq τ' τ&&!τ'.isL
 |.nil,τ=>τ.isSl
 |.own t _ _ _,τ=>Ty.beq (.sl t) τ
 |.agg f c,τ=>Ty.beq (.st f) τ&&AVal.fitsT c f
 |.nl,τ=>Ty.beq .nl τ
 |.cons a b,τ=>GH (AVal.fitsT a) (AVal.fitsT b) τ
 |_,_=>false
def AVal.fits (τ:Ty)(A:AVal):Bool:=A.fitsT τ
def AVal.laxT:AVal->Ty->Bool
 |.val τ' _,τ=>Ty.beq τ' τ&&!τ'.isL
 |.nil,τ=>τ.isSl
 |.own t _ _ _,τ=>Ty.beq (.sl t) τ
 |.agg f c,τ=>Ty.beq (.st f) τ&&AVal.laxT c f
 |.nl,τ=>Ty.beq .nl τ
 |.cons a b,τ=>GH (AVal.laxT a) (AVal.laxT b) τ
 |.junk,τ=>τ.isSl
 |_,_=>false
def AVal.fld (k:Nat):AVal->AVal
 |.val (.st f) x=>.val (f.fty k) (f.fget k x)
 |.agg _ c=>c.nth k
 |_=>.junk
def AVal.ix (i:Int):AVal->AVal
 |.val (.arr _ t) l=>.val t (getD (α:=t.den) l i.toNat t.dflt)
 |_=>.junk
def AVal.at (c:AVal):Fq->AVal
 |[]=>c
 |.inl k::p=>(c.fld k).at p
 |.inr i::p=>(c.ix i).at p
def AVal.put:Fq->AVal->AVal->AVal
 |[],_,B=>B
 |.inl k::p,.agg f c,B=>.agg f (c.setNth k (AVal.put p (c.nth k) B))
 |.inl k::p,.val (.st f) x,B =>
  let C:=AVal.put p (.val (f.fty k) (f.fget k x)) B
  match AVal.as (f.fty k) C with
  |some y=>.val (.st f) (f.fset k y x)
  |none=>.agg f ((dB f x).setNth k C)
 |.inr i::p,.val (.arr n t) l,B =>
  match AVal.as t (AVal.put p (.val t (getD (α:=t.den) l i.toNat t.dflt)) B) with
  |some y=>.val (.arr n t) (set (α:=t.den) l i.toNat y)
  |none=>.junk
 |_,_,_=>.junk
def AVal.hasTag (T:Nat):AVal->Bool
 |.own _ _ T' _=>Nat.beq T T'
 |.eref _ T' _ _ _=>Nat.beq T T'
 |.ownh _ _ T' _ U _=>Nat.beq T T'||Nat.beq T U
 |.opt _ _ _ A=>A.hasTag T
 |.box _ c=>c.hasTag T
 |.cons h t=>h.hasTag T||t.hasTag T
 |.agg _ c=>c.hasTag T
 |.tup c=>c.hasTag T
 |.fn _ c=>c.hasTag T
 |_=>false
def xV7 (s:Nat):Option (Nat×Ty)->Bool
 |some (k,_)=>Nat.beq s k
 |none=>false
def AVal.hasRef (s:Nat):AVal->Bool
 |.ref s' _ _=>Nat.beq s s'
 |.rref s'=>Nat.beq s s'
 |.fptr _ caps=>caps.any (xV7 s)
 |.opt _ _ _ A=>A.hasRef s
 |.box _ c=>c.hasRef s
 |.cons h t=>h.hasRef s||t.hasRef s
 |.agg _ c=>c.hasRef s
 |.tup c=>c.hasRef s
 |.fn _ c=>c.hasRef s
 |_=>false
def AVal.mapOwn (g:(t:Ty)->List t.den->Nat->Bool->AVal)(h:Nat->Nat->Ty->Int->Fq->AVal):AVal->AVal
 |.own t l T m=>g t l T m
 |.eref s T t i p=>h s T t i p
 |.opt s w b A=>.opt s w b (A.mapOwn g h)
 |.box τ c=>cond ((c.mapOwn g h).laxT τ) (.box τ (c.mapOwn g h)) (.junk)
 |.cons x y=>.cons (x.mapOwn g h) (y.mapOwn g h)
 |.agg f c=>cond ((c.mapOwn g h).laxT f) (.agg f (c.mapOwn g h)) (.junk)
 |.tup c=>.tup (c.mapOwn g h)
 |.fn f c=>.fn f (c.mapOwn g h)
 |.ownh _ _ _ _ _ _=>.junk
 |A=>A
def AVal.retag (T U:Nat):AVal->AVal:=
 AVal.mapOwn (λt l T' m=>.own t l (cond (Nat.beq T T') U T') m) (λs T' t i p=>.eref s (cond (Nat.beq T T') U T') t i p)
def AVal.retagH (T U:Nat):AVal->AVal
 |.ownh t l T' i V m=>.ownh t l (cond (Nat.beq T T') U T') i (cond (Nat.beq T V) U V) m
 |A=>A.retag T U
def AVal.lose (T:Nat):AVal->AVal:=
 AVal.mapOwn (λt l T' m=>cond (Nat.beq T T') (cond m (.junk) (.val (.sl t) l)) (.own t l T' m)) (λs T' t i p=>cond (Nat.beq T T') (.junk) (.eref s T' t i p))
def AVal.gone (T:Nat):AVal->AVal:=
 AVal.mapOwn (λt l T' m=>cond (Nat.beq T T') (.junk) (.own t l T' m)) (λs T' t i p=>cond (Nat.beq T T') (.junk) (.eref s T' t i p))
def AVal.hung (d:Nat):AVal->Bool
 |.opt s _ _ A=>Nat.beq s d||A.hung d
 |.cons a b=>a.hung d||b.hung d
 |.tup c=>c.hung d
 |.fn _ c=>c.hung d
 |_=>false
def AVal.hasOpt:AVal->Bool
 |.opt _ _ _ _=>true
 |.cons a b=>a.hasOpt||b.hasOpt
 |.tup c=>c.hasOpt
 |.fn _ c=>c.hasOpt
 |_=>false
structure GTab where
 tab:List (Nat×(τ:Ty)×τ.den)
abbrev GlobTab:Type:=Inhabited GTab
def GlobTab.tab [i:GlobTab]:List (Nat×(τ:Ty)×τ.den):=(@default GTab i).tab
def Ty.nsl:Ty->Nat
 |.sl _=>1|.cons h t=>h.nsl+t.nsl|.st f=>f.nsl|_=>0
def AVal.pos:AVal->Ty->Nat->AVal
 |.own t l _ m,_,b=>.own t l b m
 |.agg f c,_,b=>.agg f (c.pos f b)
 |.cons x y,.cons h t,b=>.cons (x.pos h b) (y.pos t (b+h.nsl))
 |.cons _ _,_,_=>.junk
 |A,_,_=>A
def AVal.tags:AVal->Ty->Nat->List (Nat×Nat)
 |.own _ _ T _,_,b=>[(T,b)]
 |.agg f c,_,b=>c.tags f b
 |.cons x y,.cons h t,b=>x.tags h b++y.tags t (b+h.nsl)
 |_,_,_=>[]
def Ty.noMem:Ty->Bool
 |.sl _=>false|.ptr _=>false|.cons h t=>h.noMem&&t.noMem|.st f=>f.noMem|.arr _ t=>t.noMem|_=>true
def AVal.scal:AVal->Bool
 |.val τ _=>τ.noMem
 |.nil=>true
 |.own t _ _ _=>t.noMem
 |.tup c=>c.scal
 |.nl=>true
 |.cons a b=>a.scal&&b.scal
 |_=>false
def AVal.pureL:AVal->Bool
 |.nl=>true
 |.cons (.val _ _) t=>t.pureL
 |.cons .nil t=>t.pureL
 |.cons (.fn _ .nl) t=>t.pureL
 |_=>false
structure CallOut where
 ok:List Prop
 res:AVal
 outs:List (Nat×AVal)
 eats:List Nat
abbrev Spec:=List AVal->Option CallOut
structure Comp where
 kind:Nat
 g:Option Bool
 d:St
structure Out where
 ok:List Prop
 comps:List Comp
structure Ctx where
 tys:List (Nat×Ty)
 fns:List (Nat×Spec)
 loops:List (Nat×(St->Option Out))
 gh:List (Nat×List (Nat×Nat×Nat×Nat))
 wrap:Bool
 n:Nat
 keep:List Nat
 wr:List Nat
 wants:List (Nat×List Nat):=[]
 exts:List (Nat×(List AVal->Option (List Prop×AVal))):=[]
 maps:List (Nat×(Ty×Ty)):=[]
 fts:List Nat:=[]
 clones:List (Nat×Nat):=[]
def look {α:Type}(dflt:α):List (Nat×α)->Nat->α
 |[],_=>dflt
 |(k,a)::r,n=>cond (Nat.beq k n) a (look dflt r n)
def Ctx.ty (c:Ctx)(T:Nat):Ty:=look .nl c.tys T
def xZ:Ty->Bool
 |.nl=>false|_=>true
def Ctx.is (c:Ctx)(T:Nat)(τ:Ty):Bool:=Ty.beq τ (c.ty T)&&xZ τ
def Ctx.mapTy (c:Ctx)(T:Nat):Option (Ty×Ty):=look none (c.maps.map λe=>(e.1,some e.2)) T
@[reducible] def Hd (k v:Ty):Ty:=.cons k (.cons v .nl)
def E7 (k v:Ty)(x:k.den):List (k.den×v.den×Unit)->Option v.den
 |[]=>none
 |e::r=>cond (k.eqb x e.1) (some e.2.1) (E7 k v x r)
def He (k v:Ty)(x:k.den)(y:v.den):List (k.den×v.den×Unit)->List (k.den×v.den×Unit)
 |[]=>[(x,y,())]
 |e::r=>cond (k.eqb x e.1) ((x,y,())::r) (e::He k v x y r)
def A6 (r:Int):Prop:=-9223372036854775808<=r/\r<=9223372036854775807
def xH:List (Nat×(τ:Ty)×τ.den)->Nat->AVal
 |[],_=>.junk
 |(k,⟨τ,x⟩)::r,g=>cond (Nat.beq k g) (.val (.ptr τ) x) (xH r g)
def arg [GlobTab] (S:St):Operand->AVal
 |.tmp t=>match S.get t with|.box τ _=>.ref t τ []|.raw=>.rref t | A=>A
 |.const v=>xU9 v
 |.func f=>.fn f .nl
 |.global g=>xH GlobTab.tab g
def C4 (S:St):AVal->AVal
 |.ref s _ _=>S.get s
 |.eref s _ _ _ _=>S.get s
 |.rref s=>S.get s
 |_=>.junk
def Fy:Option Bool->Option Bool->Option Bool
 |none,g=>g
 |some a,none=>some a
 |some a,some b=>some (a&&b)
abbrev Gd:=Option (Nat×Bool×Bool)
def KW (dsts:List (Option Nat))(S:St):Option (Nat×Bool)->Option Gd
 |none=>some none
 |some (j,want) =>
  match dsts[j]? with
  |some (some s)=>match S.get s with
   |.val .bool b=>some (some (s,want,cond want b (!b)))
   |.opt _ _ g (.val .bool b)=>some (some (s,want,g&&(cond want b (!b))))
   |_=>none
  |_=>none
def zF (gd:Gd):AVal->AVal
 |.opt s w _ A=>match gd with
  |some (s',w',_)=>cond (Nat.beq s s'&&(w==w')) A (.junk)
  |none=>.junk
 |A=>A
def VY:Operand->Option Int
 |.const (.int _ n)=>some n
 |_=>none
def xV8:IntKind->Bool
 |.i64=>true|_=>false
def JM (wrap:Bool)(k:IntKind)(r:Int):List Prop×AVal:=
 cond (!wrap&&xV8 k) ([A6 r],.val (.int k) r) ([],.val (.int k) (k.wrap r))
def dD (y:Operand)(b:Int):List Prop:=
 match VY y with
 |some n=>cond (n==0) [False] []
 |none=>[b≠0]
def dE (y:Operand)(b:Int):List Prop:=
 match VY y with
 |some n=>cond (0<=n) [] [False]
 |none=>[0<=b]
def OS (k:IntKind)(f:BitVec k.bits->BitVec k.bits->BitVec k.bits)(a b:Int):Int:=
 k.wrap ((f (BitVec.ofInt k.bits a) (BitVec.ofInt k.bits b)).toNat)
def xH0 (wrap:Bool)(op:BinOp)(k:IntKind)(a b:Int)(y:Operand):Option (List Prop×AVal):=
 match op with
 |.add=>some (JM wrap k (a+b))
 |.sub=>some (JM wrap k (a-b))
 |.mul=>some (JM wrap k (a*b))
 |.quo=>some (dD y b++(JM wrap k (a.tdiv b)).1,(JM wrap k (a.tdiv b)).2)
 |.rem=>some (dD y b,.val (.int k) (a.tmod b))
 |.and=>some ([],.val (.int k) (OS k (λx y=>x &&& y) a b))
 |.or=>some ([],.val (.int k) (OS k (λx y=>x ||| y) a b))
 |.xor=>some ([],.val (.int k) (OS k (λx y=>x ^^^ y) a b))
 |.andNot=>some ([],.val (.int k) (OS k (λx y=>x &&& ~~~y) a b))
 |.eql=>some ([],.val .bool (a==b))
 |.neq=>some ([],.val .bool (a !=b))
 |.lss=>some ([],.val .bool (decide (a<b)))
 |.leq=>some ([],.val .bool (decide (a<=b)))
 |.gtr=>some ([],.val .bool (decide (a>b)))
 |.geq=>some ([],.val .bool (decide (a≥b)))
 |_=>none
def yK9 (wrap:Bool)(op:BinOp)(k:IntKind)(a b:Int)(y:Operand):Option (List Prop×AVal):=
 match op with
 |.shl=>some (dE y b++(JM wrap k (a*2 ^ (min b.toNat k.bits))).1,(JM wrap k (a*2 ^ (min b.toNat k.bits))).2)
 |.shr=>some (dE y b,.val (.int k) (a.fdiv (2 ^ (min b.toNat k.bits))))
 |_=>none
def yT0:BinOp->Bool
 |.shl=>true|.shr=>true|_=>false
def xH1 (op:BinOp)(a b:List UInt8):Option (List Prop×AVal):=
 match op with
 |.add=>some ([((a.length+b.length:Nat):Int)<=9223372036854775807],.val .str (a++b))
 |.eql=>some ([],.val .bool (a==b))
 |.neq=>some ([],.val .bool (!(a==b)))
 |.lss=>some ([],.val .bool (bytesLess a b))
 |.leq=>some ([],.val .bool (bytesLess a b||a==b))
 |.gtr=>some ([],.val .bool (!(bytesLess a b||a==b)))
 |.geq=>some ([],.val .bool (!(bytesLess a b)))
 |_=>none
def xV9 (op:BinOp)(τ:Ty)(x y:AVal):Option (List Prop×AVal):=
 match τ.cmp&&τ.eqs,AVal.as τ x,AVal.as τ y with
 |true,some a,some b =>
  match op with
  |.eql=>some ([],.val .bool (τ.eqb a b))
  |.neq=>some ([],.val .bool (!(τ.eqb a b)))
  |_=>none
 |_,_,_=>none
def Nj (op:BinOp)(p:List Prop)(b:Bool):Option (List Prop×AVal):=
 match op with
 |.eql=>some (p,.val .bool b)
 |.neq=>some (p,.val .bool (!b))
 |_=>none
def xW (c:Ctx)(op:BinOp)(T:Nat)(x:AVal):Option (List Prop×AVal):=
 match c.ty T with
 |.sl _=>(match x with
  |.nil=>Nj op [] true
  |.nn b=>Nj op [] b
  |.val (.sl t) l=>Nj op [0<length (α:=t.den) l] false
  |.own t l _ _=>cond t.isL none (Nj op [0<l.length] false)
  |_=>none)
 |_=>none
def wC (c:Ctx)(op:BinOp)(T:Nat)(x y:AVal)(oy:Operand):Option (List Prop×AVal):=
 match x,y with
 |.val (.int k) a,.val (.int k') b =>
  bif yT0 op then yK9 c.wrap op k a b oy
  else cond (Nat.beq (Fx k) (Fx k')) (xH0 c.wrap op k a b oy) none
 |.val .str a,.val .str b=>xH1 op a b
 |x,.nil=>xW c op T x
 |x,y=>xV9 op (c.ty T) x y
def unA (c:Ctx)(op:UnOp)(x:AVal):Option (List Prop×AVal):=
 match op,x with
 |.not,.val .bool b=>some ([],.val .bool (!b))
 |.neg,.val (.int k) n=>some (JM c.wrap k (Int.sub 0 n))
 |.xor,.val (.int k) n=>some ([],.val (.int k) (OS k (λx y=>x ^^^ y) (if k.signed then -1 else k.max) n))
 |_,_=>none
def xW0 (c:Ctx)(src dst:Nat)(x:AVal):Option (List Prop×AVal):=
 match c.ty src,c.ty dst,x with
 |.int _,.int k,.val (.int _) n=>some ([],.val (.int k) (k.wrap n))
 |.str,.str,.val .str s=>some ([],.val .str s)
 |_,_,_=>none
def Jc (ix:Operand)(i:Int)(n:Int):List Prop:=
 match VY ix with
 |some _=>[0<=i/\i<n]
 |none=>[0<=i/\i<n]
def dF (c:Ctx)(T:Nat)(x:AVal)(s:Nat)(i:AVal)(ix:Operand):Option (List Prop×AVal):=
 match x,i with
 |.val (.sl t) l,.val (.int _) i=>cond (c.is T (.sl t)) (some (Jc ix i (length (α:=t.den) l:Int),.val (.ptr t) (getD (α:=t.den) l i.toNat t.dflt))) none
 |.own t l U m,.val (.int _) i =>
  bif c.is T (.sl t) then
   (bif m then some (Jc ix i (l.length:Int),.eref s U t i [])
    else some (Jc ix i (l.length:Int),.val (.ptr t) (getD (α:=t.den) l i.toNat t.dflt))) else none
 |.ownh t l U _ V m,.val (.int _) i=>cond (c.is T (.sl (.sl t))&&(m||!(Nat.beq U V))) (some (Jc ix i (length (α:=List t.den) l:Int),.eref s U (.sl t) i [])) none
 |.val (.ptr (.arr n t)) l,.val (.int _) i=>cond (c.is T (.arr n t)) (some (Jc ix i (n:Int),.val (.ptr t) (getD (α:=t.den) l i.toNat t.dflt))) none
 |.ref s τ p,.val (.int _) i =>
  match τ.pty p with
  |.arr n t=>cond (c.is T (.arr n t)) (some (Jc ix i (n:Int),.ref s τ (p++[.inr i]))) none
  |_=>none
 |.eref s U t j p,.val (.int _) i =>
  match t.pty p with
  |.arr n t'=>cond (c.is T (.arr n t')) (some (Jc ix i (n:Int),.eref s U t j (p++[.inr i]))) none
  |_=>none
 |_,_=>none
def xH2 (c:Ctx)(T:Nat)(x i:AVal)(ix:Operand):Option (List Prop×AVal):=
 match x,i with
 |.val .str s,.val (.int _) i=>cond (c.is T .str) (some (Jc ix i (length (α:=UInt8) s:Int),.val (.int .u8) ((getD (α:=UInt8) s i.toNat 0).toNat:Int))) none
 |.val (.arr n t) l,.val (.int _) i=>cond (c.is T (.arr n t)) (some (Jc ix i (n:Int),.val t (getD (α:=t.den) l i.toNat t.dflt))) none
 |_,_=>none
def Nk (c:Ctx)(T:Nat)(x:AVal)(k:Nat):Option (List Prop×AVal):=
 match x with
 |.val (.ptr (.st f)) v=>cond (c.is T (.st f)&&blt k f.flen&&blt 0 (f.fty k).size) (some ([],.val (.ptr (f.fty k)) (f.fget k v))) none
 |.ref s τ p =>
  match τ.pty p with
  |.st f=>cond (c.is T (.st f)&&blt k f.flen&&blt 0 (f.fty k).size) (some ([],.ref s τ (p++[.inl k]))) none
  |_=>none
 |.eref s U t i p =>
  match t.pty p with
  |.st f=>cond (c.is T (.st f)&&blt k f.flen&&blt 0 (f.fty k).size) (some ([],.eref s U t i (p++[.inl k]))) none
  |_=>none
 |_=>none
def xH3 (c:Ctx)(T:Nat)(x:AVal)(k:Nat):Option (List Prop×AVal):=
 match x with
 |.val (.st f) v=>cond (c.is T (.st f)&&blt k f.flen) (some ([],.val (f.fty k) (f.fget k v))) none
 |.agg f a=>cond (c.is T (.st f)&&blt k f.flen) (some ([],a.nth k)) none
 |_=>none
def Se (f:Nat)(caps:List (Option (Nat×Ty))):List (Option (Nat×Ty))->AVal
 |[]=>.nl
 |some (k,τ)::r=>.cons (.ref k τ []) (Se f caps r)
 |none::r=>.cons (.fptr f caps) (Se f caps r)
def KX (s:Nat):AVal->Option (List (Option (Nat×Ty)))
 |.nl=>some []
 |.cons (.ref k τ []) t=>(match KX s t with|some r=>some (some (k,τ)::r)|none=>none)
 |.cons (.rref s') t=>cond (Nat.beq s s') (match KX s t with|some r=>some (none::r)|none=>none) none
 |_=>none
def yL (c:Ctx)(T:Nat)(x cont:AVal):Option (List Prop×AVal):=
 match x with
 |.fptr f caps=>cond (c.fts.any (Nat.beq T)) (some ([],.fn f (Se f caps caps))) none
 |.val (.ptr t) v=>cond (c.is T t) (some ([],.val t v)) none
 |.ref _ τ p =>
  match cont with
  |.box τ' k=>cond (Ty.beq τ' τ&&c.is T (τ.pty p)&&AVal.fits (τ.pty p) (k.at p)) (some ([],k.at p)) none
  |_=>none
 |.eref _ U t i p =>
  match cont with
  |.ownh t' l U' j V m=>cond (Ty.beq (.sl t') t&&Nat.beq U' U&&c.is T (.sl t')&&p.isEmpty&&!(Nat.beq U' V)) (some ([i.toNat=j/\i<(length (α:=List t'.den) l:Int)],.own t' (getD (α:=List t'.den) l j []) V m)) none
  |.own t' l U' _=>cond (Ty.beq t' t&&Nat.beq U' U&&c.is T (t.pty p)&&AVal.fits (t.pty p) ((AVal.val t' (getD (α:=t'.den) l i.toNat t'.dflt)).at p)) (some ([i<(l.length:Int)],(AVal.val t' (getD (α:=t'.den) l i.toNat t'.dflt)).at p)) none
  |_=>none
 |_=>none
def xH4 (c:Ctx)(T:Nat)(x cont v:AVal):Option (Nat×AVal):=
 match x with
 |.ref s τ p =>
  match cont with
  |.box τ' k =>
   cond (Ty.beq τ' τ&&c.is T (τ.pty p)&&AVal.fits (τ.pty p) v&&AVal.laxT (k.at p) (τ.pty p)&&AVal.laxT (AVal.put p k v) τ) (some (s,.box τ (AVal.put p k v))) none
  |_=>none
 |_=>none
def dG (parts:List (Nat×AVal))(z:AVal):AVal:=parts.foldl (λa q=>a.setNth q.1 q.2) z
def Sf (t:Ty):List (Nat×AVal)->List t.den->Option (List t.den)
 |[],l=>some l
 |(k,A)::r,l=>match AVal.as t A with|some x=>Sf t r (l.set k x)|none=>none
def zV (f:Ty)(parts:List (Nat×AVal)):Bool:=parts.all λq=>blt q.1 f.flen&&AVal.fits (f.fty q.1) q.2
def xH5 (c:Ctx)(T:Nat)(parts:List (Nat×AVal)):Option (List Prop×AVal):=
 match c.ty T with
 |.st f =>
  bif zV f parts&&f.noPtr then
   (bif f.hasSl then some ([],.agg f (dG parts (zT5 f)))
    else match AVal.as f (dG parts (zT5 f)) with|some x=>some ([],.val (.st f) x)|none=>none)
  else none
 |.arr n t=>cond (parts.all (λq=>blt q.1 n)&&t.noPtr) (match Sf t parts (replicate n t.dflt) with|some l=>some ([],.val (.arr n t) l)|none=>none) none
 |_=>none
def dH (c:Ctx)(T len dst:Nat)(parts:List (Nat×AVal)):Option (List Prop×AVal):=
 match parts with
 |[(0,.nil)]=>bif c.wr.any (Nat.beq dst)&&Nat.beq len 1 then
   (match c.ty T with
    |.sl (.sl s)=>cond (!s.isL) (some ([],.ownh s [[]] dst 0 (100000+dst) true)) none
    |_=>none) else none
 |_=>none
def yD5 (c:Ctx)(T len dst:Nat)(parts:List (Nat×AVal)):Option (List Prop×AVal):=
 match c.ty T with
 |.sl t=>cond (parts.all (λq=>blt q.1 len)&&ble (len*t.size) 16777216&&blt 0 t.size&&t.noPtr) (match Sf t parts (replicate len t.dflt) with|some l=>some ([],.own t l dst true)|none=>none) none
 |_=>none
def wC0 (c:Ctx)(Ts:List Nat)(x:AVal):Option (List Prop×AVal):=
 match Ts with
 |T::_ =>
  (match x with
   |.val .str s=>cond (c.is T .str) (some ([],.val (.int .i64) (length (α:=UInt8) s:Int))) none
   |.val (.sl t) l=>cond (c.is T (.sl t)) (some ([],.val (.int .i64) (length (α:=t.den) l:Int))) none
   |.own t l _ _=>cond (c.is T (.sl t)) (some ([],.val (.int .i64) (l.length:Int))) none
   |.ownh t l U _ V _=>cond (c.is T (.sl (.sl t))&&!(Nat.beq U V)) (some ([],.val (.int .i64) (length (α:=List t.den) l:Int))) none
   |.nil=>cond (c.is T (c.ty T)&&(c.ty T).isSl) (some ([],.val (.int .i64) (0:Int))) none
   |_=>none)
 |[]=>none
def Ih:Option AVal->Option (Option Int)
 |none=>some none
 |some (.val (.int _) n)=>some (some n)
 |some _=>none
def yO {α:Type}(l:List α)(lo hi:Option Int):List Prop×List α:=
 match lo,hi with
 |none,none=>([],l)
 |none,some h=>([0<=h/\h<=(l.length:Int)],l.take h.toNat)
 |some a,none=>([0<=a/\a<=(l.length:Int)],l.drop a.toNat)
 |some a,some h=>([0<=a/\a<=h/\h<=(l.length:Int)],(l.take h.toNat).drop a.toNat)
def xH6 (c:Ctx)(T:Nat)(x:AVal)(lo hi:Option AVal):Option (List Prop×AVal):=
 match Ih lo,Ih hi with
 |some a,some b =>
  match x with
  |.val .str s=>cond (c.is T .str) (some ((yO (α:=UInt8) s a b).1,.val .str (yO (α:=UInt8) s a b).2)) none
  |.val (.sl t) l=>cond (c.is T (.sl t)) (some ((yO (α:=t.den) l a b).1,.val (.sl t) (yO (α:=t.den) l a b).2)) none
  |.own t l U m=>cond (c.is T (.sl t)) (some ((yO l a b).1,cond m (.ownh t [(yO l a b).2] U 0 U false) (.val (.sl t) (yO l a b).2))) none
  |_=>none
 |_,_=>none
def xZ0 (n m:Int):List Prop:=[0<=n/\n<=m/\m<=4294967296]
def yY6 (c:Ctx)(T dst:Nat)(n m:AVal):Option (List Prop×AVal):=
 match c.ty T,n,m with
 |.sl t,.val (.int _) n,.val (.int _) m=>cond (blt 0 t.size&&t.noPtr) (some (xZ0 n m,.own t (replicate (Int.toNat n) t.dflt) dst true)) none
 |_,_,_=>none
def yT1 (c:Ctx)(T:Nat)(x y:AVal)(ok:Bool):Option (List Prop×AVal):=
 match c.mapTy T with
 |some (k,v) =>
  match x with
  |.own t l _ _ =>
   match Ty.cast (a:=.sl t) (.sl (Hd k v)) l,AVal.as k y with
   |some m,some q=>cond ok (some ([],.tup (.cons (.val v ((E7 k v q m).getD v.dflt)) (.cons (.val .bool (E7 k v q m).isSome) .nl)))) (some ([],.val v ((E7 k v q m).getD v.dflt)))
   |_,_=>none
  |_=>none
 |none=>none
def xV (c:Ctx)(T dst:Nat):Option (List Prop×AVal):=
 match c.mapTy T with
 |some (k,v)=>some ([],.own (Hd k v) [] dst true)
 |none=>none
def GI (x y:Int):Int:=if y>x then y else x
def GJ (x y:Int):Int:=if y<x then y else x
def Nl (f:Int->Int->Int):AVal->List AVal->Option AVal
 |A,[]=>some A
 |.val (.int k) x,.val (.int k') y::r=>cond (Nat.beq (Fx k) (Fx k')) (Nl f (.val (.int k) (f x y)) r) none
 |_,_=>none
def VZ:AVal->Bool
 |.val (.int _) _=>true|_=>false
def Wa (f:Int->Int->Int):List AVal->Option (List Prop×AVal)
 |A::r=>cond (VZ A) (match Nl f A r with|some B=>some ([],B)|none=>none) none
 |[]=>none
def AVal.clen:AVal->Nat
 |.cons _ t=>t.clen+1
 |_=>0
def yL0 (x:AVal)(k:Nat):Option (List Prop×AVal):=
 match x with
 |.tup a=>cond (blt k a.clen) (some ([],a.nth k)) none
 |_=>none
def CB:Op->List Operand
 |.move x=>[x]|.assign x=>[x]|.box _ x=>[x]|.load _ a=>[a]|.store _ a v=>[a,v]|.nilCheck x=>[x]
 |.pick x a b=>[x,a,b]
 |.binOp _ _ x y _=>[x,y]|.unOp _ _ x=>[x]|.convert _ _ x=>[x]
 |.build _ ps=>ps.toList.map (·.2)|.buildSlice _ _ ps=>ps.toList.map (·.2)
 |.makeSlice _ a b=>[a,b]
 |.slice _ x lo hi mx=>x::(lo.toList++(hi.toList++mx.toList))
 |.fieldAddr _ x _=>[x]|.field _ x _=>[x]|.indexAddr _ x i=>[x,i]|.index _ x i=>[x,i]|.extract t _=>[t]
 |.makeFunc _ _ cs=>cs.toList
 |.lookup _ x i _=>[x,i]
 |.mapUpdate _ m k v=>[m,k,v]
 |.call { callee:=.value f,args,.. }=>f::args.toList
 |.call { callee:=.builtin _,args,.. }=>args.toList
 |_=>[]
def AVal.toL:AVal->List AVal
 |.cons h t=>h::t.toL
 |_=>[]
def AVal.ofL:List AVal->AVal
 |[]=>.nl
 |A::r=>.cons A (AVal.ofL r)
def Wb:Op->List AVal->List AVal
 |.call { callee:=.value _,.. },.fn _ cs::r=>r++cs.toL
 |_,xs=>xs
def Nn:List Operand->List Nat
 |[]=>[]
 |.tmp t::r=>t::Nn r
 |_::r=>Nn r
def xZ3:Operand->Nat
 |.tmp t=>t|_=>0
def Gi (ps:List (Nat×Operand))(xs:List AVal):List (Nat×AVal):=zipWith (λp A=>(p.1,A)) ps xs
def refs:List AVal->List Nat
 |[]=>[]
 |.ref s _ _::r=>s::refs r
 |.eref s _ _ _ _::r=>s::refs r
 |.rref s::r=>s::refs r
 |_::r=>refs r
def Ed:AVal->AVal->AVal
 |.ref _ τ [],.box τ' k=>cond (Ty.beq τ' τ) (match AVal.as τ k with|some x=>.box τ (.val τ x)|none=>.junk) (.junk)
 |.val τ x,_=>.val τ x
 |.nil,_=>.nil
 |.own t l _ m,_=>cond m (.junk) (.val (.sl t) l)
 |.agg f a,_=>match AVal.as (.st f) (.agg f a) with|some x=>.val (.st f) x|none=>.junk
 |.fn f cs,_=>cond cs.pureL (.fn f cs) (.junk)
 |_,_=>.junk
def Ff:AVal->Bool
 |.box _ _=>true|_=>false
def LH (outs:List (Nat×AVal)):Nat->List AVal->Bool
 |_,[]=>true
 |i,A::r=>(!(Ff A)||outs.any (λe=>Nat.beq e.1 i))&&LH outs (i+1) r
def E8:AVal->Bool
 |.junk=>true|.val _ _=>true|.nil=>true|.own _ _ T _=>blt T 4|.agg _ c=>E8 c|.nl=>true|.cons a b=>E8 a&&E8 b|.tup c=>E8 c
 |_=>false
def Ii:AVal->Bool
 |.nl=>true|.cons _ t=>Ii t|_=>false
def LI:List AVal->Bool
 |[]=>true
 |.ref s _ _::r=>!((refs r).any (Nat.beq s))&&LI r
 |_::r=>LI r
def OU (fns:List (Nat×Spec))(f:Nat)(args:List AVal):Option CallOut:=
 match fns with
 |[]=>none
 |(g,sp)::r=>cond (Nat.beq g f) (match sp args with|some o=>some o|none=>OU r f args) (OU r f args)
def AVal.tagTo (d:Nat):AVal->AVal
 |.own t l T m=>.own t l (T*100000+d) m
 |.cons h t=>.cons (h.tagTo d) (t.tagTo d)
 |.agg f c=>.agg f (c.tagTo d)
 |.tup c=>.tup (c.tagTo d)
 |A=>A
def Sg:AVal->Bool
 |.val _ _=>true|_=>false
def Si (ys args:List AVal):List (Nat×AVal)->Option St
 |[]=>some []
 |(i,k)::r =>
  match ys[i]?,args[i]?,Si ys args r with
  |some (.ref s τ []),some (.box τ' _),some u=>cond (Ty.beq τ' τ&&AVal.fits τ k&&Sg k) (some ((s,.box τ k)::u)) none
  |_,_,_=>none
def JN:List AVal->List AVal->Bool
 |.ref _ _ []::r,A::l=>Ff A&&JN r l
 |_::r,_::l=>JN r l
 |_,_=>true
def Hf:Option Operand->List AVal->Option AVal×List AVal
 |none,xs=>(none,xs)
 |some _,A::r=>(some A,r)
 |some _,[]=>(some .junk,[])
def HM (c:Ctx)(d:Nat)(op:Op)(xs ks:List AVal):Option (List Prop×AVal):=
 match op,xs,ks with
 |.move _,[A],_=>some ([],A)
 |.assign _,[A],_=>some ([],A)
 |.box T _,[A],_=>cond (c.is T (c.ty T)&&AVal.fits (c.ty T) A) (some ([],.box (c.ty T) A)) none
 |.alloc T,[],_=>cond (c.fts.any (Nat.beq T)) (some ([],.raw)) (cond (c.is T (c.ty T)&&(c.ty T).noPtr) (some ([],.box (c.ty T) (zT5 (c.ty T)))) none)
 |.load T _,[A],[k]=>yL c T A k
 |.nilCheck _,[A],_=>match A with|.val (.ptr _) _=>some ([],A)|.ref _ _ _=>some ([],A)|.eref _ _ _ _ _=>some ([],A)|.fn _ _=>some ([],A)|_=>none
 |.binOp o T _ y _,[A,B],_=>wC c o T A B y
 |.unOp o _ _,[A],_=>unA c o A
 |.convert s t _,[A],_=>xW0 c s t A
 |.build T ps,xs,_=>xH5 c T (Gi ps.toList xs)
 |.buildSlice T n ps,xs,_=>(match dH c T n d (Gi ps.toList xs) with|some r=>some r|none=>yD5 c T n d (Gi ps.toList xs))
 |.makeSlice T _ _,[A,B],_=>yY6 c T d A B
 |.slice T _ lo hi none,A::r,_=>xH6 c T A (Hf lo r).1 (Hf hi (Hf lo r).2).1
 |.fieldAddr T _ k,[A],_=>Nk c T A k
 |.field T _ k,[A],_=>xH3 c T A k
 |.indexAddr T x i,[A,B],_=>dF c T A (xZ3 x) B i
 |.index T _ i,[A,B],_=>xH2 c T A B i
 |.extract _ k,[A],_=>yL0 A k
 |.lookup T _ _ ok,[A,B],_=>yT1 c T A B ok
 |.makeMap T none,[],_=>xV c T d
 |.makeFunc (.func f) fs _,cs,_=>match fs.toList with | []=>some ([],.fn f (AVal.ofL cs))|_=>none
 |.call { callee:=.builtin .len,argTypes,.. },[A],_=>wC0 c argTypes.toList A
 |.call { callee:=.builtin .max,.. },xs,_=>Wa GI xs
 |.call { callee:=.builtin .min,.. },xs,_=>Wa GJ xs
 |_,_,_=>none
def xZ4:AVal->Bool
 |.box _ _=>true
 |.own _ _ _ _=>true
 |.ownh _ _ _ _ _ _=>true
 |.raw=>true
 |_=>false
def CS (T:Nat)(h:AVal->AVal)(S:St):St->St
 |[]=>[]
 |(s,_)::r=>cond ((S.get s).hasTag T) ((s,h (S.get s))::CS T h S r) (CS T h S r)
def BZ (T:Nat)(S:St):Bool:=S.all λe=>!(e.2.hasTag T)
def GK (s:Nat)(S:St):Bool:=S.all λe=>!(e.2.hasRef s)
def Sj (T:Nat)(S:St):Bool:=S.all λe=>!((S.get e.1).hasTag T)
def AVal.setEl0 (T:Nat)(t:Ty)(i:Nat)(y:t.den):AVal->AVal:=
 AVal.mapOwn (λt' l T' m=>cond (Nat.beq T T') (match Ty.cast t' y with|some y'=>cond m (.own t' (l.set i y') T' m) (.junk)|none=>.junk) (.own t' l T' m)) (λs T' t i p=>.eref s T' t i p)
def AVal.setEl (T:Nat)(t:Ty)(i:Nat)(y:t.den):AVal->AVal
 |.ownh t' l T' j U m=>cond (Nat.beq T U&&m&&!(Nat.beq T' U)) (match Ty.cast t' y with|some y'=>.ownh t' (set (α:=List t'.den) l j ((getD (α:=List t'.den) l j []).set i y')) T' j U m|none=>.junk) (.junk)
 |A=>A.setEl0 T t i y
def AVal.setHole (T:Nat)(s:Ty)(i:Nat)(x:List s.den)(V:Nat)(m:Bool):AVal->AVal:=
 AVal.mapOwn (λt0 l0 T0 m0=>cond (Nat.beq T T0) (match Ty.cast (a:=.sl t0) (.sl (.sl s)) l0 with|some l1=>cond m0 (.ownh s (set (α:=List s.den) l1 i x) T i V m) (.junk)|none=>.junk) (.own t0 l0 T0 m0)) (λs T' t i p=>.eref s T' t i p)
def dI (t:Ty):AVal->Option (List t.den)
 |.own t' l _ _=>Ty.cast (a:=.sl t') (.sl t) l
 |.nn _=>some []
 |B=>AVal.as (.sl t) B
def xH7 (c:Ctx)(T d:Nat)(A B:AVal):Option (List Prop×AVal×Option Nat):=
 match c.ty T with
 |.sl t =>
  bif !(blt 0 t.size) then none else
  match dI t B with
  |some l2 =>
   match A with
   |.nil=>some ([(l2.length:Int)<=4294967296],.own t l2 d true,none)
   |.own t' l U m=>match Ty.cast (a:=.sl t') (.sl t) l with
    |some l1=>some ([((length (α:=t.den) l1+l2.length:Nat):Int)<=4294967296],.own t (append (α:=t.den) l1 l2) d m,some U)
    |none=>none
   |_=>none
  |none=>none
 |_=>none
def Sk (gd:Gd)(sc:Operand)(want:Bool):AVal->AVal
 |.opt s w g A=>match sc with
  |.tmp c=>cond (Nat.beq s c&&(w==want)) A (zF gd (.opt s w g A))
  |_=>zF gd (.opt s w g A)
 |A=>A
def E1 (gd:Gd)(A:AVal):AVal:=
 match gd with
 |none=>A
 |some (s,w,g)=>.opt s w g A
def Np (gd:Gd)(l:List Prop):List Prop:=
 match gd with
 |none=>l
 |some (_,_,g)=>l.map λp=>g->p
def xW1:AVal->Bool
 |.own _ _ _ m=>m|_=>false
def yD6 (c:Ctx)(T U:Nat)(t:Ty)(i:Int)(p:Fq)(t':Ty)(n:Nat)(U':Nat)(v:AVal)(S:St):Option (List Prop×St×Bool):=
 match v with
 |.own s x V m=>bif Ty.beq t' t&&Ty.beq (.sl s) t'&&Nat.beq U' U&&c.is T (.sl s)&&p.isEmpty&&!(Nat.beq V U)&&!s.isL then
   some ([i<(n:Int)],CS U (AVal.setHole U s i.toNat x V m) S S,true) else none
 |_=>none
def AVal.fill (U:Nat)(t:Ty)(i:Nat)(x:List t.den)(V:Nat)(m:Bool):AVal->AVal
 |.ownh t' l T' j U' true=>cond (Nat.beq T' U&&Nat.beq U' U) (match Ty.cast (a:=.sl t) (.sl t') x with|some x'=>.ownh t' (set (α:=List t'.den) l i x') U i V m|none=>.junk) (.junk)
 |A=>A.gone U
def LJ (c:Ctx)(U:Nat)(t:Ty)(i:Nat)(x:List t.den)(V:Nat)(m:Bool)(s0:Nat)(S:St):St->St
 |[]=>[]
 |(s,_)::r=>cond ((S.get s).hasTag U) ((s,cond (Nat.beq s s0||c.wr.any (Nat.beq s)) ((S.get s).fill U t i x V m) ((S.get s).gone U))::LJ c U t i x V m s0 S r) (LJ c U t i x V m s0 S r)
def Wc (U:Nat)(i:Int):AVal->List Prop
 |.ownh t l T j U' true=>cond (Nat.beq T U&&Nat.beq U' U) [i.toNat=j/\i<(length (α:=List t.den) l:Int)] []
 |_=>[]
def dJ (U:Nat)(i:Int)(s0:Nat)(S:St):List Nat->List Prop
 |[]=>[]
 |s::r=>(cond (Nat.beq s s0) [] (Wc U i (S.get s)))++dJ U i s0 S r
def yD7 (c:Ctx)(T s U:Nat)(t:Ty)(i:Int)(p:Fq)(t':Ty)(l:List (List t'.den))(U' j U2:Nat)(v:AVal)(S:St):Option (List Prop×St×Bool):=
 match v with
 |.own s' x V m=>bif Ty.beq (.sl t') t&&Nat.beq U' U2&&Nat.beq U' U&&c.is T (.sl t')&&p.isEmpty&&!(Nat.beq V U)&&!t'.isL then
   (match Ty.cast (a:=.sl s') (.sl t') x with
    |some x'=>some ((i.toNat=j/\i<(length (α:=List t'.den) l:Int))::dJ U i s S c.wr,LJ c U t' i.toNat x' V m s S S,true)
    |none=>none) else none
 |_=>none
def dK (c:Ctx)(T:Nat)(A k v:AVal)(S:St):Option (List Prop×St×Bool):=
 match A with
 |.eref s U t i p=>match k with
  |.ownh t' l U' j U2 true=>yD7 c T s U t i p t' l U' j U2 v S
  |.own t' l U' true=>bif xW1 v then yD6 c T U t i p t' l.length U' v S else bif Ty.beq t' t&&Nat.beq U' U&&c.is T (t'.pty p)&&AVal.fits (t'.pty p) v then
    (match AVal.as t' (AVal.put p (.val t' (getD (α:=t'.den) l i.toNat t'.dflt)) v) with
     |some y=>some ([i<(l.length:Int)],CS U (AVal.setEl U t' i.toNat y) S S,true)
     |none=>none) else none
  |_=>none
 |.rref s=>(match k,v with
  |.raw,.fn f cs=>cond (c.fts.any (Nat.beq T)) (match KX s cs with|some caps=>some ([],[(s,.fptr f caps)],false)|none=>none) none
  |_,_=>none)
 |A=>match xH4 c T A k v with|some u=>some ([],[u],false)|none=>none
def AVal.setMap (T:Nat)(k v:Ty)(x:k.den)(y:v.den):AVal->AVal:=
 AVal.mapOwn (λt' l T' m=>cond (Nat.beq T T') (match Ty.cast (a:=.sl t') (.sl (Hd k v)) l with|some l'=>.own (Hd k v) (He k v x y l') T' m|none=>.junk) (.own t' l T' m)) (λs T' t i p=>.eref s T' t i p)
def dL (c:Ctx)(T:Nat)(A B C:AVal)(S:St):Option (List Prop×St×Bool):=
 match c.mapTy T with
 |some (k,v) =>
  match A with
  |.own t l U _ =>
   match Ty.cast (a:=.sl t) (.sl (Hd k v)) l,AVal.as k B,AVal.as v C with
   |some _,some x,some y=>some ([],CS U (AVal.setMap U k v x y) S S,true)
   |_,_,_=>none
  |_=>none
 |none=>none
def xH8 (c:Ctx)(T d:Nat)(A B:AVal):Option (List Prop×AVal×Nat):=
 match B with
 |.ownh s [[]] T' 0 V m =>
  (match A with
   |.own t' l U true=>bif c.is T (.sl (.sl s))&&!(Nat.beq V U)&&!(Nat.beq T' V)&&!(Nat.beq V d) then
    (match Ty.cast (a:=.sl t') (.sl (.sl s)) l with
     |some l1=>some ([((length (α:=List s.den) l1+1:Nat):Int)<=4294967296],.ownh s (append (α:=List s.den) l1 [[]]) d (length (α:=List s.den) l1) V m,U)
     |none=>none) else none
   |_=>none)
 |_=>none
def Wd (c:Ctx)(d T:Nat)(A B:AVal)(S:St):Option (List Prop×St×Bool):=
 bif BZ d S then
  (match xH8 c T d A B with
   |some (p,R,U)=>some (p,(d,R)::CS U (AVal.lose U) S S,true)
   |none=>(match xH7 c T d A B with
    |some (p,R,some U)=>some (p,(d,R)::CS U (AVal.lose U) S S,true)
    |some (p,R,none)=>some (p,[(d,R)],true)
    |none=>none)) else none
def JO (c:Ctx)(gd:Gd)(dst:Option Nat)(f:Nat)(ys ks:List AVal)(S:St):Option (List Prop×St×Bool):=
 match OU c.fns f (zipWith Ed ys ks) with
 |none=>none
 |some co=>bif !(LH co.outs 0 (zipWith Ed ys ks)&&E8 co.res&&LI ys&&JN ys (zipWith Ed ys ks)) then none else match Si ys (zipWith Ed ys ks) co.outs,co.eats with
  |some u,[] =>
   (match gd with
    |none=>(match dst with
     |none=>some (co.ok,u,false)
     |some d=>cond (BZ d S&&BZ (100000+d) S&&BZ (200000+d) S&&BZ (300000+d) S) (some (co.ok,(d,co.res.tagTo d)::u,false)) none)
    |some _=>(match dst,u,co.res with
     |some d,[],.val τ x=>some (Np gd co.ok,[(d,E1 gd (.val τ x))],false)
     |_,_,_=>none))
  |_,_=>none
def Jd:List Nat->Bool
 |[]=>true
 |a::r=>!(r.any (Nat.beq a))&&Jd r
def GL (i:Nat):Nat:=400000+100*i
def GM (i:Nat):AVal->List (Nat×Nat)
 |.ref s _ []=>[(s,i)]
 |_=>[]
def Je:Nat->List AVal->List (Nat×Nat)
 |i,Y::r=>GM i Y++Je (i+1) r
 |_,[]=>[]
def dM:List (Nat×Nat)->Nat->Option Nat
 |[],_=>none
 |(s,i)::r,k=>cond (Nat.beq s k) (some i) (dM r k)
def OV (HB:List (Nat×Nat)):List (Option (Nat×Ty))->Option (List (Option (Nat×Ty)))
 |[]=>some []
 |none::r=>(match OV HB r with|some l=>some (none::l)|none=>none)
 |some (k,τ)::r=>(match dM HB k,OV HB r with|some i,some l=>some (some (i,τ)::l)|_,_=>none)
def ED (HB:List (Nat×Nat))(wants:List Nat)(i:Nat):AVal->AVal->AVal
 |.ref _ τ [],.box τ' k=>cond (Ty.beq τ' τ) (.box τ (k.pos τ (GL i))) (.junk)
 |.own t l _ m,_=>cond (wants.any (Nat.beq i)) (.own t l (GL i) m) (cond m (.junk) (.val (.sl t) l))
 |.agg f a,_=>bif wants.any (Nat.beq i) then .agg f (a.pos f (GL i)) else match AVal.as (.st f) (.agg f a) with|some x=>.val (.st f) x|none=>.junk
 |.val τ x,_=>.val τ x
 |.nil,_=>.nil
 |.fn f cs,_=>cond cs.pureL (.fn f cs) (.junk)
 |.fptr f caps,_=>(match OV HB caps with|some l=>.fptr f l|none=>.junk)
 |_,_=>.junk
def KY (HB:List (Nat×Nat))(wants:List Nat):Nat->List AVal->List AVal->List AVal
 |i,Y::r,k::s=>ED HB wants i Y k::KY HB wants (i+1) r s
 |_,_,_=>[]
def Nq (wants:List Nat)(i:Nat):AVal->AVal->List (Nat×Nat)
 |.ref _ τ [],.box _ c=>c.tags τ (GL i)
 |.own _ _ T _,_=>cond (wants.any (Nat.beq i)) [(T,GL i)] []
 |.agg f c,_=>cond (wants.any (Nat.beq i)) (c.tags f (GL i)) []
 |_,_=>[]
def Nr (wants:List Nat):Nat->List AVal->List AVal->List (Nat×Nat)
 |i,Y::r,k::s=>Nq wants i Y k++Nr wants (i+1) r s
 |_,_,_=>[]
def dN (l:List (Nat×Nat)):Bool:=l.all λp=>Nat.beq p.1 p.2
structure Bor where
 U:Nat
 T:Nat
 t:Ty
 l:List t.den
 l':List t.den
 m:Bool
def zH:AVal->AVal->Option (List Bor)
 |.own t l U _,k=>(match k with
  |.own t' l' T m'=>(match Ty.cast (a:=.sl t') (.sl t) l' with|some l2=>cond (blt 0 t.size) (some [⟨U,T,t,l,l2,m'⟩]) none|none=>none)
  |_=>none)
 |.agg f c,k=>(match k with|.agg f' c'=>cond (Ty.beq f f') (zH c c') none|_=>none)
 |.cons a b,k=>(match k with|.cons a' b'=>(match zH a a',zH b b' with|some x,some y=>some (x++y)|_,_=>none)|_=>none)
 |.val _ _,_=>some []
 |.nil,_=>some []
 |.nl,_=>some []
 |_,_=>none
def Sl:List Bor->Nat->Option Bor
 |[],_=>none
 |b::r,T=>cond (Nat.beq b.U T) (some b) (Sl r T)
def AVal.turn (bs:List Bor)(L:List Nat):AVal->AVal:=
 AVal.mapOwn (λt l T m=>match Sl bs T with
  |some b=>(match Ty.cast (a:=.sl b.t) (.sl t) b.l' with|some l2=>.own t l2 T b.m|none=>.junk)
  |none=>cond (L.any (Nat.beq T)) (cond m (.junk) (.val (.sl t) l)) (.own t l T m))
  (λs T t i p=>cond (L.any (Nat.beq T)) (.junk) (.eref s T t i p))
def AVal.turnH (bs:List Bor)(L:List Nat):AVal->AVal
 |.ownh t l T i U _=>cond (!(Nat.beq T U)&&!(L.any (Nat.beq T))) (.ownh t l T i T true) (.junk)
 |A=>A.turn bs L
def AVal.borAsks (bs:List Bor):AVal->List Prop
 |.own _ l T _=>match Sl bs T with|some b=>[l.length=b.l.length]|none=>[]
 |.opt _ _ _ A=>A.borAsks bs
 |.box _ c=>c.borAsks bs
 |.cons a b=>a.borAsks bs++b.borAsks bs
 |.agg _ c=>c.borAsks bs
 |.tup c=>c.borAsks bs
 |.fn _ c=>c.borAsks bs
 |_=>[]
def JP (L:List Nat)(A:AVal):Bool:=L.any λT=>A.hasTag T
def GN (bs:List Bor)(L:List Nat)(S:St):St->St
 |[]=>[]
 |(s,_)::r=>cond (JP L (S.get s)) ((s,(S.get s).turnH bs L)::GN bs L S r) (GN bs L S r)
def We (bs:List Bor)(L:List Nat)(S:St):Nat->List Prop
 |0=>[]
 |s+1=>We bs L S s++(cond (JP L (S.get s)) ((S.get s).borAsks bs) [])
def Ns (Y:AVal)(i:Nat)(k:AVal):Option (St×List Bor×List (Nat×Nat)):=
 match Y with
 |.ref s τ []=>cond (AVal.fits τ k&&dN (k.tags τ (GL i))) (some ([(s,.box τ (k.pos τ (GL s)))],[],k.tags τ (GL s))) none
 |Y=>match zH Y k with|some bs=>some ([],bs,bs.map λb=>(b.T,b.U))|none=>none
def Wf (ys:List AVal):List (Nat×AVal)->Option (St×List Bor×List (Nat×Nat))
 |[]=>some ([],[],[])
 |(i,k)::r =>
  match ys[i]?,Wf ys r with
  |some Y,some (u,bs,K)=>(match Ns Y i k with|some (u',bs',K')=>some (u'++u,bs'++bs,K'++K)|none=>none)
  |_,_=>none
def xY (dst:Option Nat):List (Nat×Nat):=
 match dst with
 |some d=>[(0,d),(1,100000+d),(2,200000+d),(3,300000+d)]
 |none=>[]
def xI (c:Ctx)(dst:Option Nat)(f:Nat)(ys:List AVal)(S:St):Option (List Prop×St×Bool):=
 match OU c.fns f (KY (Je 0 ys) (look [] c.wants f) 0 ys (ys.map (C4 S))) with
 |none=>none
 |some co=>match Wf ys co.outs with
  |none=>none
  |some (u,bs,K) =>
   bif LH co.outs 0 (KY (Je 0 ys) (look [] c.wants f) 0 ys (ys.map (C4 S)))&&E8 co.res&&JN ys (KY (Je 0 ys) (look [] c.wants f) 0 ys (ys.map (C4 S))) &&
    Jd ((Je 0 ys).map (·.1))&&Jd ((Nr (look [] c.wants f) 0 ys (ys.map (C4 S))).map (·.1))&&Jd ((Nr (look [] c.wants f) 0 ys (ys.map (C4 S))).map (·.2)) &&
    Jd ((xY dst++K).map (·.1))&&Jd ((xY dst++K).map (·.2))&&Jd ((match dst with|some d=>[d]|none=>[])++u.map (·.1)) then
    some (co.ok++(bs.map (λb=>0<b.l.length)++We bs ((Nr (look [] c.wants f) 0 ys (ys.map (C4 S))).map (·.1)++(xY dst++K).map (·.2)) S c.n),
     (match dst with|some d=>(d,co.res.tagTo d)::u|none=>u)++GN bs ((Nr (look [] c.wants f) 0 ys (ys.map (C4 S))).map (·.1)++(xY dst++K).map (·.2)) S S,true)
   else none
def AVal.lent:AVal->AVal:=AVal.mapOwn (λt l _ _=>cond t.isL (.junk) (.val (.sl t) l)) (λ_ _ _ _ _=>.junk)
def Jf:AVal->AVal->AVal
 |.ref _ τ [],.box τ' k=>cond (Ty.beq τ' τ) (match AVal.as τ k.lent with|some x=>.val (.ptr τ) x|none=>.junk) (.junk)
 |.own t l _ _,_=>cond t.isL (.junk) (.val (.sl t) l)
 |.ownh t l T _ U m,_=>cond (Nat.beq T U&&!m) (match l with | [x]=>.val (.sl t) x|_=>.junk) (.junk)
 |.agg f a,_=>(match AVal.as (.st f) (.agg f a.lent) with|some x=>.val (.st f) x|none=>.junk)
 |.val τ x,_=>.val τ x
 |.nil,_=>.nil
 |.fn f cs,_=>cond cs.pureL (.fn f cs) (.junk)
 |_,_=>.junk
def Jg (c:Ctx)(dst:Option Nat)(f:Nat)(ys ks:List AVal)(S:St):Option (List Prop×St×Bool):=
 match OU c.fns f (zipWith Jf ys ks) with
 |none=>none
 |some co=>match co.outs,dst with
  |[],some d=>cond (E8 co.res&&co.res.scal&&BZ d S&&BZ (100000+d) S&&BZ (200000+d) S&&BZ (300000+d) S) (some (co.ok,[(d,co.res.tagTo d)],false)) none
  |_,_=>none
def Wg (exts:List (Nat×(List AVal->Option (List Prop×AVal))))(f:Nat)(ys:List AVal):Option (List Prop×AVal):=
 match exts with
 |[]=>none
 |(g,e)::r=>cond (Nat.beq g f) (e ys) (Wg r f ys)
def zU (c:Ctx)(gd:Gd)(dst:Option Nat)(f:Nat)(ys:List AVal):Option (List Prop×St×Bool):=
 match Wg c.exts f ys,dst with
 |some (p,.val τ x),some d=>some (Np gd p,[(d,E1 gd (.val τ x))],false)
 |some (p,.tup a),some d=>match gd with|none=>cond (E8 (.tup a)&&AVal.scal (.tup a)&&!(a.hung d)) (some (p,[(d,.tup a)],false)) none|some _=>none
 |_,_=>none
def Jh {α:Type}(x y:Option α):Option α:=match x with|some a=>some a|none=>y
def Sm (c:Ctx)(dst:Option Nat)(f:Nat)(ys:List AVal)(S:St):Option (List Prop×St×Bool):=
 match ys,dst with
 |[.ownh t [x] T _ U false],some d=>bif Nat.beq T U&&c.clones.any (λp=>Nat.beq p.1 f&&Nat.beq p.2 t.size)&&BZ d S then
   some ([0<length (α:=t.den) x/\(length (α:=t.den) x:Int)<=4294967296],[(d,.own t x d true)],true) else none
 |_,_=>none
def Wh (c:Ctx)(gd:Gd)(dst:Option Nat)(f:Nat)(ys:List AVal)(S:St):Option (List Prop×St×Bool):=
 match Jg c dst f ys (ys.map (C4 S)) S with
 |some (p,[(d,.own t l T m)],_)=>some (Np gd p,[(d,E1 gd (.own t l T m))],true)
 |_=>none
def Sn (c:Ctx)(gd:Gd)(dst:Option Nat)(f:Nat)(ys:List AVal)(S:St):Option (List Prop×St×Bool):=
 match gd with
 |none=>Jh (Jg c dst f ys (ys.map (C4 S)) S) (Jh (Sm c dst f ys S) (xI c dst f ys S))
 |some q=>Wh c (some q) dst f ys S
def dO (c:Ctx)(gd:Gd)(dst:Option Nat)(f:Nat)(ys:List AVal)(S:St):Option (List Prop×St×Bool):=
 Jh (zU c gd dst f ys) (Jh (JO c gd dst f ys (ys.map (C4 S)) S) (Sn c gd dst f ys S))
def yC (gd:Gd)(dst:Option Nat)(x:Operand)(xs0:List AVal):Option (List Prop×St×Bool):=
 match dst,xs0 with
 |some d,[C,A,B] =>
  match zF gd C,Sk gd x true A,Sk gd x false B with
  |.val .bool b,.val τ a,.val _ y=>match Ty.cast τ y with
   |some z=>some ([],[(d,E1 gd (.val τ (cond b a z)))],false)
   |none=>none
  |_,_,_=>none
 |_,_=>none
def HN:Op->Bool
 |.box _ _=>true|.alloc _=>true|.buildSlice _ _ _=>true|.makeSlice _ _ _=>true|.makeMap _ _=>true|_=>false
def Nt (gd:Gd)(d:Nat)(p:List Prop)(A:AVal)(S:St):Option (List Prop×St×Bool):=
 match gd,A with
 |some q,.own t l T _=>cond (GK d S&&BZ d S&&Nat.beq T d&&!t.isL) (some (Np (some q) p,[(d,E1 (some q) (.val (.sl t) l))],false)) none
 |_,_=>none
def zK (c:Ctx)(gd:Gd)(dst:Option Nat)(op:Op)(xs ks:List AVal)(S:St):Option (List Prop×St×Bool):=
 match dst with
 |none=>none
 |some d=>match HM c d op xs ks with
  |none=>none
  |some (p,A) =>
   bif HN op then (cond (gd.isNone&&GK d S&&BZ d S) (some (p,[(d,A)],false)) (Nt gd d p A S))
   else some (Np gd p,[(d,E1 gd A)],false)
def Ji:Op->Nat
 |.pick _ _ _=>0
 |.store _ _ _=>1
 |.mapUpdate _ _ _ _=>1
 |.call { callee:=.builtin .append,.. }=>2
 |.call { callee:=.value _,.. }=>3
 |.makeInterface _ _=>4
 |.panic _=>4
 |_=>5
def LK (c:Ctx)(gd:Gd)(o:Oper)(S:St)(xs0 xs:List AVal):Option (List Prop×St×Bool):=
 match Ji o.op with
 |0=>(match o.op with|.pick x _ _=>yC gd o.dst x xs0|_=>none)
 |1=>(match gd,o.dst,o.op,xs with
  |none,none,.store T _ _,[A,v]=>dK c T A (C4 S A) v S
  |none,none,.mapUpdate T _ _ _,[A,k,v]=>dL c T A k v S
  |_,_,_,_=>none)
 |2=>(match gd,o.dst,o.op,xs with
  |none,some d,.call { argTypes,.. },[A,B]=>(match argTypes.toList with
   |[T,T']=>cond (Nat.beq T T') (Wd c d T A B S) none
   |_=>none)
  |_,_,_,_=>none)
 |3=>(match xs with
  |.fn f cs::r=>cond (Ii cs) (dO c gd o.dst f (r++cs.toL) S) none
  |_=>none)
 |4=>(match gd with|none=>some ([False],[],false)|some _=>none)
 |_=>zK c gd o.dst o.op xs ((xs.map (C4 S)).map (zF gd)) S
def JQ [GlobTab] (c:Ctx)(dsts:List (Option Nat))(o:Oper)(S:St):Option (List Prop×St×Bool):=
 match KW dsts S o.guard with
 |none=>none
 |some gd=>LK c gd o S ((CB o.op).map (arg S)) (((CB o.op).map (arg S)).map (zF gd))
def Nu (c:Ctx)(S:St):St->Option St
 |(d,.own t l T true)::u=>cond (Nat.beq T d&&!(c.wr.any (Nat.beq d))) (cond (BZ T (u++S)&&!t.isL) (some ((d,.own t l T false)::u)) none) (some ((d,.own t l T true)::u))
 |u=>some u
def Sp:Op->Bool
 |.buildSlice _ _ _=>true
 |.makeSlice _ _ _=>true
 |.call { callee:=.builtin .append,.. }=>true
 |_=>false
def Jj [GlobTab] (c:Ctx)(dsts:List (Option Nat))(o:Oper)(S:St):Option (List Prop×St×Bool):=
 match JQ c dsts o S with
 |none=>none
 |some (p,u,h)=>cond (Sp o.op) (match Nu c S u with|some u'=>some (p,u',h)|none=>none) (some (p,u,h))
def bare:AVal->AVal
 |.opt _ _ _ A=>A
 |A=>A
def St.has (s:Nat)(S:St):Bool:=S.any λe=>Nat.beq e.1 s
def dQ (dst:Option Nat)(S:St):St->Bool
 |[(d',.val _ _)]=>(match dst with|some d=>Nat.beq d d'&&!(St.has d' S)|none=>false)
 |_=>false
structure Tr where
 heavy:Bool
 rd:List Nat
 dst:Option Nat
 u:St
 pl:Bool
def yE (dsts:List (Option Nat)):Option (Nat×Bool)->List Nat
 |some (j,_)=>(match dsts[j]? with|some (some s)=>[s]|_=>[])
 |none=>[]
def Fz [GlobTab] (dsts:List (Option Nat))(o:Oper)(S:St)(u:St)(heavy:Bool):Tr:=
 ⟨heavy,Nn (CB o.op)++(yE dsts o.guard++refs (Wb o.op ((CB o.op).map (λx=>bare (arg S x))))),o.dst,u,!heavy&&dQ o.dst S u⟩
def Sq (u:St)(A:AVal):Bool:=u.any λe=>A.hung e.1
def dS [GlobTab] (c:Ctx)(dsts:List (Option Nat)):List Oper->St->St->Option (List Prop×St×List Tr)
 |[],_,U=>some ([],U,[])
 |o::r,S,U =>
  match Jj c dsts o (U++S) with
  |none=>none
  |some (p,u,h)=>bif (u++U).any (λe=>Sq u e.2)||!(u.all λe=>blt e.1 c.n) then none else
   match dS c dsts r S (u++U) with
   |none=>none
   |some (p',u',t')=>some (p++p',u',Fz dsts o (U++S) u h::t')
def apart:List Nat->List Nat->Bool
 |[],_=>true
 |a::r,l=>!(l.any (Nat.beq a))&&apart r l
def Sr (d:Nat)(A:AVal):Bool:=!(A.hasRef d)&&(!(A.hasTag d)&&(!(A.hasTag (100000+d))&&(!(A.hasTag (200000+d))&&!(A.hasTag (300000+d)))))
def dU (d:Option Nat)(u u':St):Bool:=u'.all λe=>!(Sq u e.2)&&(match d with|some d=>Sr d e.2|none=>true)
def Jk (t t':Tr):Bool:=
 bif t.heavy then !(t'.pl&&(apart (t.u.map (·.1)) t'.rd&&(apart (t.u.map (·.1)) (t'.u.map (·.1))&&(match t.dst with|some d=>!(St.has d t'.u)|none=>true))))
 else t'.heavy||!(apart (t.u.map (·.1)) t'.rd&&(apart (t.u.map (·.1)) (t'.u.map (·.1))&&(apart t.rd (t'.u.map (·.1))&&dU t.dst t.u t'.u)))
def Jl (acc:List Nat):List Edge->Nat
 |[]=>0
 |e::r=>cond (Region.binds .any e) (lor (lor (Nat.pow 2 e.on) (acc.getD e.on 0)) (Jl acc r)) (Jl acc r)
def ahead:List Oper->List Nat->List Nat
 |[],acc=>acc
 |o::r,acc=>ahead r (acc++[Jl acc o.after.toList])
def LM:Nat->List Oper->Bool
 |_,[]=>true
 |i,o::r=>o.after.toList.all (λe=>!(Region.binds .any e)||blt e.on i)&&LM (i+1) r
def dV (k bits:Nat)(t:Tr):Nat->List Tr->Bool
 |_,[]=>true
 |i,t'::r=>(blt i k||(!(Jk t' t)||Nat.testBit bits i))&&dV k bits t (i+1) r
def LN (k:Nat)(trs:List Tr):List Nat->List Tr->Bool
 |b::bs,t::r=>dV k b t 0 trs&&LN k (trs++[t]) bs r
 |[],[]=>true
 |_,_=>false
def Ss [GlobTab] (c:Ctx)(S:St)(o:Oper):Bool:=
 match o.guard,o.dst with
 |none,some _=>(match o.op,(CB o.op).map (arg S) with
  |.move _,_=>true
  |.call { callee:=.builtin .len,argTypes,.. },[.ownh t _ U _ V _]=>(match argTypes.toList with | [T]=>c.is T (.sl (.sl t))&&!(Nat.beq U V)|_=>false)
  |.binOp .sub _ _ _ _,[.val (.int k) _,.val (.int k') _]=>Nat.beq (Fx k) (Fx k')
  |.indexAddr T _ _,[.val (.sl t) _,.val (.int _) _]=>c.is T (.sl t)
  |_,_=>false)
 |_,_=>false
def OW (ops:Array Oper)(i:Nat)(oi:Oper):Nat->List Oper->Bool
 |_,[]=>true
 |j,oj::r=>(ble j i||(oj.after.toList.any (λe=>Region.binds .any e&&Nat.beq e.on i)||oi.apart ops oj))&&OW ops i oi (j+1) r
def Jm [GlobTab] (c:Ctx)(ops:List Oper)(S:St):Nat->List Oper->List Tr->St->Nat
 |i,o::r,t::ts,U=>cond (Ss c (U++S) o&&OW ops.toArray i o 0 ops) (Jm c ops S (i+1) r ts (t.u++U)) i
 |i,_,_,_=>i
def Su (k:Nat):AVal->Option Nat
 |.own _ _ T _=>some T
 |.box _ a=>match a.fld k with|.own _ _ T _=>some T | _=>none
 |.ownh _ _ T _ U _=>cond (Nat.beq T U) none (some U)
 |_=>none
def Gj (k:Nat):AVal->AVal
 |.ownh t l T _ _ _=>.own (.sl t) l T true
 |.own t l T _=>cond t.isL (.junk) (.own t l T false)
 |.box τ (.agg f a)=>match a.nth k with
  |.own t l T _=>cond t.isL (.junk) (cond (((a.gone T).setNth k (.own t l T false)).fitsT f) (.box τ (.agg f ((a.gone T).setNth k (.own t l T false)))) (.junk))
  |_=>.junk
 |_=>.junk
def JR (s:Nat)(h:AVal->AVal)(S:St):St->St
 |[]=>[]
 |(k,_)::r=>cond ((S.get k).hasRef s) ((k,h (S.get k))::JR s h S r) (JR s h S r)
def LO (s:Nat)(τ:Ty)(x:τ.den):AVal->AVal
 |.ref s' τ' []=>cond (Nat.beq s s'&&Ty.beq τ' τ) (.val (.ptr τ) x) (.junk)
 |_=>.junk
def yT2 (S:St)(s:Nat):Option St:=
 match S.get s with
 |.box τ c=>(match AVal.as τ c with|some x=>some ((s,.val (.ptr τ) x)::JR s (LO s τ x) S S)|none=>none)
 |_=>none
def xI2 (S:St):Nat×Nat×Nat×Nat->Option St
 |(kind,s,k,U) =>
  bif Nat.beq kind 3 then yT2 S s else
  bif Nat.beq kind 4 then (cond (Nat.beq k U) (some []) (cond (Sj U S) (some (CS k (AVal.retagH k U) S S)) none)) else
  bif Nat.beq kind 5 then some (CS k (AVal.lose k) S S) else
  match Su k (S.get s) with
  |none=>none
  |some T =>
   match kind with
   |0=>cond (Nat.beq T U) (some []) (cond (Sj U S) (some (CS T (AVal.retagH T U) S S)) none)
   |1=>some ((s,Gj k (S.get s))::CS T (AVal.gone T) S S)
   |_=>some (CS T (AVal.lose T) S S)
def Sv:List (Nat×Nat×Nat×Nat)->St->Option St
 |[],_=>some []
 |g::r,S=>match xI2 S g with
  |none=>none
  |some u=>match Sv r (u++S) with
   |none=>none
   |some u'=>some (u'++u)
def yT3 [GlobTab] (c:Ctx)(gh:List (Nat×Nat×Nat×Nat))(ops:List Oper)(draw:Bool)(S:St):Option (List Prop×St):=
 bif S.any (λe=>e.2.hasOpt) then none else
 match dS c (ops.map (·.dst)) ops S [] with
 |none=>none
 |some (p,u0,t) =>
  let u:=u0.map λe=>(e.1,cond e.2.hasOpt (.junk) e.2)
  bif !draw||(LM 0 ops&&(LN 0 [] (ahead ops []) t||LN (Jm c ops S 0 ops t []) [] (ahead ops []) t)) then
   (match Sv gh (u++S) with
    |some u'=>cond (u'.all (λe=>blt e.1 c.n)) (some (p,u'++u)) none
    |none=>none)
  else none
def Wi (g:Bool)(t:Ty)(l:List t.den)(m:Bool)(τ':Ty)(y:τ'.den):AVal:=
 bif m then .junk else match Ty.cast (.sl t) y with|some z=>.val (.sl t) (cond g l z)|none=>.junk
def Wj (g:Bool)(τ:Ty)(x:τ.den)(t:Ty)(l:List t.den)(m:Bool):AVal:=
 bif m then .junk else match Ty.cast (a:=.sl t) τ l with|some z=>.val τ (cond g x z)|none=>.junk
def AX (g:Bool):AVal->AVal->AVal
 |.val τ x,.val _ y=>match Ty.cast τ y with|some z=>.val τ (cond g x z)|none=>.junk
 |.nil,.nil=>.nil
 |.nil,.val (.sl t) y=>.val (.sl t) (cond g [] y)
 |.val (.sl t) x,.nil=>.val (.sl t) (cond g x [])
 |.nil,.own t l T m=>cond (t.plain&&!t.isL) (.own t (cond g [] l) T m) (.junk)
 |.own t l T m,.nil=>cond (t.plain&&!t.isL) (.own t (cond g l []) T m) (.junk)
 |.own t l _ m,.val τ' y=>Wi g t l m τ' y
 |.val τ x,.own t l _ m=>Wj g τ x t l m
 |.own t l T m,.own t' l' T' m'=>cond (Nat.beq T T'&&(m==m')) (match Ty.cast (a:=.sl t') (.sl t) l' with|some l2=>.own t (cond g l l2) T m|none=>.junk) (.junk)
 |.box τ a,.box τ' b=>cond (Ty.beq τ τ'&&AVal.fits τ (AX g a b)) (.box τ (AX g a b)) (.junk)
 |.ref s τ [],.ref s' τ' []=>cond (Nat.beq s s'&&Ty.beq τ τ') (.ref s τ []) (.junk)
 |.nl,.nl=>.nl
 |.cons a b,.cons a' b'=>.cons (AX g a a') (AX g b b')
 |.agg f a,.agg f' b=>cond (Ty.beq f f'&&AVal.fits f (AX g a b)) (.agg f (AX g a b)) (.junk)
 |.agg f a,.val (.st f') y=>match AVal.as (.st f') (.agg f a) with|some x=>.val (.st f') (cond g x y)|none=>.junk
 |.val (.st f) x,.agg f' b=>match AVal.as (.st f) (.agg f' b) with|some y=>.val (.st f) (cond g x y)|none=>.junk
 |.tup a,.tup b=>.tup (AX g a b)
 |.ownh t l T i U m,.ownh t' l' T' i' U' m'=>cond (Nat.beq T T'&&Nat.beq U U'&&(m==m')) (match Ty.cast (a:=.sl (.sl t')) (.sl (.sl t)) l' with|some l2=>.ownh t (cond g l l2) T (cond g i i') U m|none=>.junk) (.junk)
 |_,_=>.junk
def Sw (g:Bool)(d1 d2 S:St):St->St
 |[]=>[]
 |(s,_)::r=>(s,cond (Nat.beq s BO) (.junk) (AX g (St.get (d1++S) s) (St.get (d2++S) s)))::Sw g d1 d2 S r
def JS (d:St):St:=d.filter λe=>!(Nat.beq e.1 BO)
def JT (d:St):St:=d.filter λe=>Nat.beq e.1 BO
def HO (g:Bool)(d1 d2 S:St):St:=Sw g d1 d2 S (JS d1++(JS d2++(JT d1++JT d2)))
def B5 (k:Nat):List Comp->Option Comp
 |[]=>none
 |x::r=>cond (Nat.beq x.kind k) (some x) (B5 k r)
def Ey (k:Nat)(l:List Comp):List Comp:=l.filter λx=>!(Nat.beq x.kind k)
def gor (a b:Option Bool):Option Bool:=
 match a,b with
 |some x,some y=>some (x||y)
 |_,_=>none
def Hg (t:Bool)(x y:Option Comp):Option Bool:=
 match x,y with
 |some a,some b=>(match a.g,b.g with|none,none=>none|ga,gb=>some (cond t (ga.getD true) (gb.getD true)))
 |some a,none=>Fy a.g (some t)
 |none,some b=>Fy b.g (some (!t))
 |none,none=>none
def Wk (t:Bool)(S:St)(la lb:List Comp):List Comp->List Comp
 |[]=>[]
 |x::r =>
  {kind:=x.kind,g:=Hg t (B5 x.kind la) (B5 x.kind lb),
   d:=match B5 x.kind la,B5 x.kind lb with
    |some a,some b=>HO t a.d b.d S
    |some a,none=>a.d
    |none,some b=>b.d
    |none,none=>[] }::Wk t S la lb r
def JU:List Prop->Prop
 |[]=>True
 |[p]=>p
 |p::r=>p/\JU r
def Wl (b:Prop):List Prop->List Prop
 |[]=>[]
 |p::r=>[b->JU (p::r)]
def imp (g:Option Bool)(l:List Prop):List Prop:=
 match g with
 |none=>l
 |some b=>Wl (b=true) l
def Sx (t:Bool)(S:St)(a b:Out):Out:=
 {ok:=Wl (t=true) a.ok++Wl (t=false) b.ok,
  comps:=Wk t S a.comps b.comps (a.comps++b.comps.filter λx=>(B5 x.kind a.comps).isNone) }
def Sy (n:Comp)(S:St)(la:List Comp):List Comp->List Comp
 |[]=>[]
 |x::r =>
  (match B5 x.kind la with
   |some a=>{ kind:=x.kind,g:=gor a.g (Fy n.g x.g),d:=HO (a.g.getD true) a.d (x.d++n.d) S }
   |none=>{ kind:=x.kind,g:=Fy n.g x.g,d:=x.d++n.d })::Sy n S la r
def Sz (n:Comp)(S:St)(a b:Out):Out:=
 {ok:=a.ok++imp n.g b.ok,
  comps:=Sy n S (Ey 0 a.comps) b.comps++(Ey 0 a.comps).filter λx=>(B5 x.kind b.comps).isNone }
def dW (id:Nat)(S:St)(a:Out):Out:=
 match B5 0 a.comps,B5 (id+2) a.comps with
 |_,none=>a
 |none,some e=>{ a with comps:={ e with kind:=0 }::Ey (id+2) a.comps }
 |some n,some e=>{ a with comps:={ kind:=0,g:=gor e.g n.g,d:=HO (e.g.getD true) e.d n.d S }::Ey 0 (Ey (id+2) a.comps) }
def Ij:Code->Nat
 |.region id _ _=>id
 |.seq a _=>Ij a
 |.block _ a=>Ij a
 |.loop a=>Ij a
 |.scope a=>Ij a
 |_=>0
def eval [GlobTab] (c:Ctx):Code->St->Option Out
 |.skip,_=>some { ok:=[],comps:=[⟨0,none,[]⟩] }
 |.region id ops draw,S=>match Sv (look [] c.gh (2*id)) S with
  |none=>none
  |some v=>bif !(v.all (λe=>blt e.1 c.n)) then none else match yT3 c (look [] c.gh (2*id+1)) ops.toList draw (v++S) with
   |some (p,u)=>some { ok:=p,comps:=[⟨0,none,u++v⟩] }
   |none=>none
 |.seq a b,S=>match eval c a S with
  |none=>none
  |some oa=>match B5 0 oa.comps with
   |none=>some oa
   |some n=>match eval c b (n.d++S) with
    |none=>none
    |some ob=>some (Sz n S oa ob)
 |.cond x a b,S=>match arg S x with
  |.val .bool t=>match eval c a S,eval c b S with
   |some oa,some ob=>some (Sx t S oa ob)
   |_,_=>none
  |_=>none
 |.block id a,S=>match eval c a S with
  |some oa=>some (dW id S oa)
  |none=>none
 |.loop a,S=>look (λ_=>none) c.loops (Ij a) S
 |.exit id,_=>some { ok:=[],comps:=[⟨id+2,none,[]⟩] }
 |.ret,_=>some { ok:=[],comps:=[⟨1,none,[]⟩] }
 |_,_=>none
open Go Go.RowKit
def BL (s:Nat):Nat:=2*s+4
def AL (T:Nat):Nat:=2*T+5
def KZ (χ:Nat->Nat->Nat)(w:World)(b o:Nat)(vs:List Value):Prop:=
 ∀j v,vs[j]?=some v->w.cell? ⟨b,o+j,none⟩=some v/\χ b (o+j)=0
def C6 {α:Type}(R:α->List Value->Prop):List α->List Value->Prop
 |[],us=>us=[]
 |x::l,us=>∃vs ws,us=vs++ws/\R x vs/\C6 R l ws
def AN (χ:Nat->Nat->Nat)(w:World):(τ:Ty)->τ.den->List Value->Prop
 |.int k,x,vs=>vs=[.int k x]
 |.bool,x,vs=>vs=[.bool x]
 |.str,x,vs=>vs=[.string ⟨toArray x⟩]
 |.nl,_,vs=>vs=[]
 |.cons h t,x,vs=>∃us ws,vs=us++ws/\AN χ w h x.1 us/\AN χ w t x.2 ws
 |.st f,x,vs=>AN χ w f x vs
 |.arr n t,l,vs=>length (α:=t.den) l=n/\C6 (AN χ w t) l vs
 |.sl t,l,vs=>∃a cap,vs=[.slice a (length (α:=t.den) l) cap]/\(l=([]:List t.den)\/∃b o us,a=some ⟨b,o,none⟩/\length (α:=t.den) l<=cap/\C6 (AN χ w t) l us/\KZ χ w b o us)
 |.ptr t,x,vs=>∃b o us,vs=[.pointer (some ⟨b,o,none⟩)]/\AN χ w t x us/\KZ χ w b o us
def DO (χ:Nat->Nat->Nat)(w:World)(τ:Ty)(x:τ.den)(v:Value):Prop:=
 ∃vs,AN χ w τ x vs/\(cond τ.isAgg (v=.agg vs.toArray) (vs=[v]))
structure Gh where
 χ:Nat->Nat->Nat
 β:Nat->Nat
 γ:Nat->Nat
def Ik (t:Ty):Prop:=t.plain/\t.isL=false
def yT (G:Gh)(w:World)(t:Ty)(l:List t.den)(T:Nat)(m:Bool)(v:Value):Prop:=
 Ik t/\((v=.slice none 0 0/\l=[]) \/
 ∃cap cur e us,v=.slice (some ⟨G.γ T,0,none⟩) l.length cap/\w.heap[G.γ T]?=some (.cells cur e (0,0))/\l.length<=cap/\cap<=maxLen/\cur.size=cap*t.size /\
  C6 (AN G.χ w t) l us/\cur.toList.take (l.length*t.size)=us/\(∀o,G.χ (G.γ T) o=if m=false/\o<l.length*t.size then 0 else AL T))
def Il (χ:Nat->Nat->Nat)(w:World)(k v:Ty):List (k.den×v.den×Unit)->List MapEntry->Prop
 |[],es=>es=[]
 |x::l,es=>∃e r,es=e::r/\DO χ w k x.1 e.key/\DO χ w v x.2.1 e.val/\Il χ w k v l r
def dX (G:Gh)(w:World)(k e:Ty)(l:List (k.den×e.den×Unit))(T:Nat)(v:Value):Prop:=
 ∃es clock,v=.map (some (G.γ T))/\w.heap[G.γ T]?=some (.map es clock)/\Il G.χ w k e l es.toList/\∀o,G.χ (G.γ T) o=AL T
def S0 (G:Gh)(w:World)(t:Ty)(l:List t.den)(T:Nat)(v:Value):Prop:=
 ∃k e,∃l':List (k.den×e.den×Unit),t=Hd k e/\HEq l l'/\dX G w k e l' T v
def BQ (G:Gh)(w:World)(t:Ty)(l:List t.den)(T:Nat)(m:Bool)(v:Value):Prop:=yT G w t l T m v\/(m/\S0 G w t l T v)
def AF (G:Gh)(w:World)(τ:Ty):AVal->List Value->Prop
 |.val τ' x,vs=>τ'=τ/\τ'.isL=false/\AN G.χ w τ' x vs
 |.nil,vs=>τ.isSl/\vs=[.slice none 0 0]
 |.junk,vs=>τ.isSl/\∃v,vs=[v]/\v.oneCell'=true
 |.own t l T m,vs=>τ=.sl t/\∃v,vs=[v]/\BQ G w t l T m v
 |.agg f c,vs=>τ=.st f/\AF G w f c vs
 |.nl,vs=>τ=.nl/\vs=[]
 |.cons a b,vs=>∃h t us ws,τ=.cons h t/\vs=us++ws/\AF G w h a us/\AF G w t b ws
 |_,_=>False
def wC3 (G:Gh)(w:World)(s:Nat)(τ:Ty)(c:AVal):Prop:=
 Ik τ/\∃cur e,w.heap[G.β s]?=some (.cells cur e (0,0))/\AF G w τ c cur.toList/\∀o,G.χ (G.β s) o=BL s
def E2:Ty->Fq->Prop
 |_,[]=>True
 |.st f,.inl k::p=>k<f.flen/\E2 (f.fty k) p
 |.arr n t,.inr i::p=>0<=i/\i<(n:Int)/\E2 t p
 |_,_=>False
def HP (G:Gh)(v:Value):Option (Nat×Ty)->Value
 |some (k,_)=>.pointer (some ⟨G.β k,0,none⟩)
 |none=>v
def wD2 (G:Gh)(w:World)(t:Ty)(l:List (List t.den))(T:Nat)(v:Value):Prop:=
 ∃x a cap,l=[x]/\v=.slice a (length (α:=t.den) x) cap/\(x=([]:List t.den)\/∃o us cur e,a=some ⟨G.γ T,o,none⟩/\length (α:=t.den) x<=cap/\w.heap[G.γ T]?=some (.cells cur e (0,0)) /\
  C6 (AN G.χ w t) x us/\(∀j u,us[j]?=some u->cur.toList[o+j]?=some u)/\∀o,G.χ (G.γ T) o=AL T)
def wC4 (G:Gh)(w:World)(t:Ty)(l:List (List t.den))(T i:Nat)(v:Value):Prop:=
 (v=.slice none 0 0/\l=[])\/∃cap cur e,v=.slice (some ⟨G.γ T,0,none⟩) (length (α:=List t.den) l) cap/\w.heap[G.γ T]?=some (.cells cur e (0,0))/\length (α:=List t.den) l<=cap/\cap<=maxLen/\cur.size=cap/\(∀o,G.χ (G.γ T) o=AL T) /\
  ∀(j:Nat) (x:List t.den),l[j]?=some x->j≠i->∃u,cur.toList[j]?=some u/\AN G.χ w (.sl t) x [u]
def Jn (G:Gh)(w:World)(t:Ty)(l:List (List t.den))(T i U:Nat)(m:Bool)(v:Value):Prop:=
 Ik t/\((T=U/\((m=false/\wD2 G w t l T v)\/(m/\wC4 G w t l T i v)))\/T≠U/\((v=.slice none 0 0/\l=[])\/∃cap cur e,v=.slice (some ⟨G.γ T,0,none⟩) (length (α:=List t.den) l) cap/\w.heap[G.γ T]?=some (.cells cur e (0,0))/\length (α:=List t.den) l<=cap/\cap<=maxLen/\cur.size=cap/\(∀o,G.χ (G.γ T) o=AL T) /\
  ∀(j:Nat) (x:List t.den),l[j]?=some x->∃u,cur.toList[j]?=some u/\if j=i then yT G w t x U m u else AN G.χ w (.sl t) x [u]))
def zA (G:Gh)(w:World)(tm:Array Value):Option Nat->AVal->Value->Prop
 |_,.junk,_=>True
 |_,.val τ x,v=>DO G.χ w τ x v
 |_,.opt s' want g A,v=>(tm.getD s' undef=.bool want↔g=true)/\(g->zA G w tm none A v)/\(g=false->v=undef)
 |_,.nil,v=>v=.slice none 0 0
 |_,.nn b,v=>∃a cap,v=.slice a 0 cap/\a.isNone=b
 |_,.own t l T m,v=>BQ G w t l T m v
 |some s,.box τ c,v=>v=.pointer (some ⟨G.β s,0,none⟩)/\wC3 G w s τ c
 |none,.box _ _,_=>False
 |_,.ref s' τ p,v=>E2 τ p/\v=.pointer (some ⟨G.β s',τ.poff p,none⟩)
 |_,.eref _ T t i p,v=>0<=i/\E2 t p/\v=.pointer (some ⟨G.γ T,i.toNat*t.size+t.poff p,none⟩)
 |_,.agg f c,v=>∃vs,v=.agg vs.toArray/\AF G w f c vs
 |_,.nl,v=>v=.tuple #[]
 |_,.cons a b,v=>∃x xs,v=.tuple (x::xs).toArray/\zA G w tm none a x/\zA G w tm none b (.tuple xs.toArray)
 |_,.tup c,v=>zA G w tm none c v
 |_,.fn f c,v=>∃vs,v=.func (.func f) #[] vs/\zA G w tm none c (.tuple vs)
 |some s,.raw,v=>v=.pointer (some ⟨G.β s,0,none⟩)/\∃u e,w.heap[G.β s]?=some (.cells #[u] e (0,0))/\∀o,G.χ (G.β s) o=BL s
 |none,.raw,_=>False
 |_,.rref s',v=>v=.pointer (some ⟨G.β s',0,none⟩)
 |_,.ownh t l T i U m,v=>Jn G w t l T i U m v
 |_,.fptr f caps,v=>∃b,v=.pointer (some ⟨b,0,none⟩)/\G.χ b 0=0/\w.cell? ⟨b,0,none⟩=some (.func (.func f) #[] (caps.map (HP G v)).toArray)
structure Ext (X Y:Nat->Prop) (G:Gh) (w:World) (G':Gh) (w':World):Prop where
 prot:∀b o,b<w.heap.size->G.χ b o=0->G'.χ b o=0/\w'.cell? ⟨b,o,none⟩=w.cell? ⟨b,o,none⟩
 block:∀b,b<w.heap.size->(∀o,¬X (G.χ b o))->w'.heap[b]?=w.heap[b]?/\∀o,G'.χ b o=G.χ b o
 size:w.heap.size<=w'.heap.size
 box:∀s,¬Y (BL s)->G'.β s=G.β s
 tag:∀T,¬Y (AL T)->G'.γ T=G.γ T
 sub:∀n,Y n->X n
def GlobOk [GlobTab] (χ:Nat->Nat->Nat)(w:World):Prop:=
 ∀g τ (x:τ.den),(g,⟨τ,x⟩)∈GlobTab.tab->∃vs,AN χ w τ x vs/\KZ χ w g 0 vs
structure Frame0 (χ0:Nat->Nat->Nat) (w0:World) (χ:Nat->Nat->Nat) (w:World):Prop where
 os:w.os=w0.os
 tape:w.tape=w0.tape
 output:w.output=w0.output
 size:w0.heap.size<=w.heap.size
 block:∀b,b<w0.heap.size->(∀o,χ0 b o<=1)->w.heap[b]?=w0.heap[b]?
 cell:∀b o,b<w0.heap.size->χ0 b o<=1->χ b o=χ0 b o/\w.cell? ⟨b,o,none⟩=w0.cell? ⟨b,o,none⟩
structure Rel [GlobTab] (n:Nat) (χ0:Nat->Nat->Nat) (w0:World) (S:St) (a:Act) (w:World) (G:Gh):Prop where
 len:a.tmps.size=n
 defers:a.defers=[]
 reps:∀s,zA G w a.tmps (some s) (S.get s) (a.tmps.getD s undef)
 frame:Frame0 χ0 w0 G.χ w
 glob:GlobOk G.χ w
variable {α:Type}
theorem EU{R R':α->List Value->Prop}(h:∀x vs,R x vs->R' x vs):∀{l us},C6 R l us->C6 R' l us:=by intro l;induction l with|nil=>intro us hu;exact hu|cons x l j=>rintro us ⟨vs,ws,rfl,C,I⟩;exact⟨vs,ws,rfl,h _ _ C,j I⟩
theorem FU{R:α->List Value->Prop}{k:Nat}(h:∀x vs,R x vs->vs.length=k):∀{l us},C6 R l us->us.length=l.length*k:=by intro l;induction l with|nil=>grind [C6]|cons x l j=>rintro us ⟨vs,ws,rfl,C,I⟩;grind
variable {χ:Nat->Nat->Nat}
theorem CO{w:World}:∀{τ:Ty}{x:τ.den}{vs:List Value},AN χ w τ x vs->vs.length=τ.size:=by intro τ;induction τ with|int k=>grind [AN,Ty.size]|bool=>grind [AN,Ty.size]|str=>grind [AN,Ty.size]|nl=>grind [AN,Ty.size]|cons a b I hb=>grind [AN,Ty.size]|st f J=>grind [AN,Ty.size]|arr n t ht=>intro x vs h;obtain⟨j,C⟩:=h;have:=FU (k:=t.size) (λ_ _ h=>ht h) C;rw[this,j];rfl|sl t ht=>intro x vs h;obtain⟨a,cap,rfl,_⟩:=h;simp[Ty.size]|ptr t ht=>intro x vs h;obtain⟨b,o,us,rfl,_⟩:=h;simp[Ty.size]
variable {χ':Nat->Nat->Nat}{w':World}{o b:Nat}{vs:List Value}
theorem zY{w:World}(h:∀b o,b<w.heap.size->χ b o=0->χ' b o=0/\w'.cell? ⟨b,o,none⟩=w.cell? ⟨b,o,none⟩)(C:KZ χ w b o vs):KZ χ' w' b o vs:=by intro j v I;obtain⟨J,R⟩:=C j v I;grind [cell?]
theorem CX{w:World}(h:∀b o,b<w.heap.size->χ b o=0->χ' b o=0/\w'.cell? ⟨b,o,none⟩=w.cell? ⟨b,o,none⟩):∀{τ:Ty}{x:τ.den}{vs:List Value},AN χ w τ x vs->AN χ' w' τ x vs:=by intro τ;induction τ with|int k=>intro x vs j;exact j|bool=>intro x vs j;exact j|str=>intro x vs j;exact j|nl=>intro x vs j;exact j|cons a b J hb=>intro x vs j;obtain⟨us,ws,rfl,C,I⟩:=j;exact⟨us,ws,rfl,J C,hb I⟩|st f hf=>grind [AN]|arr n t ht=>grind [AN,EU]|sl t ht=>intro x vs j;simp only[AN] at j ⊢;obtain⟨a,cap,rfl,j⟩:=j;refine⟨a,cap,rfl,?_⟩;rcases j with j|⟨b,o,us,C,I,R,h4⟩;grind;exact .inr ⟨b,o,us,C,I,EU (λ_ _ h=>ht h) R,zY h h4⟩|ptr t ht=>intro x vs j;simp only[AN] at j ⊢;obtain⟨b,o,us,rfl,C,I⟩:=j;exact⟨b,o,us,rfl,ht C,zY h I⟩
theorem Nv[GlobTab]{w:World}(h:∀b o,b<w.heap.size->χ b o=0->χ' b o=0/\w'.cell? ⟨b,o,none⟩=w.cell? ⟨b,o,none⟩)(j:GlobOk χ w):GlobOk χ' w':=by intro g τ x hm;obtain⟨vs,C,I⟩:=j g τ x hm;exact⟨vs,CX h C,zY h I⟩
variable {τ:Ty}{v:Value}
theorem Gk{w:World}(h:∀b o,b<w.heap.size->χ b o=0->χ' b o=0/\w'.cell? ⟨b,o,none⟩=w.cell? ⟨b,o,none⟩){x:τ.den}(j:DO χ w τ x v):DO χ' w' τ x v:=by obtain⟨vs,C,I⟩:=j;exact⟨vs,CX h C,I⟩
theorem Ext.refl (X:Nat->Prop)(G:Gh)(w:World):Ext X X G w G w:=⟨λ_ _ _ h=>⟨h,rfl⟩,λ_ _ _=>⟨rfl,λ_=>rfl⟩,jI _,λ_ _=>rfl,λ_ _=>rfl,λ_ h=>h⟩
def AVal.names (X Y:Nat->Prop):Option Nat->AVal->Prop
 |_,.own _ _ T _=>X (AL T)
 |_,.opt _ _ _ A=>A.names X Y none
 |some s,.box _ c=>X (BL s)\/c.names X Y none
 |none,.box _ c=>c.names X Y none
 |_,.ref s' _ _=>Y (BL s')
 |_,.eref _ T _ _ _=>Y (AL T)
 |_,.ownh _ _ T _ U _=>X (AL T)\/X (AL U)
 |_,.cons a b=>a.names X Y none\/b.names X Y none
 |_,.agg _ c=>c.names X Y none
 |_,.tup c=>c.names X Y none
 |_,.fn _ c=>c.names X Y none
 |some s,.raw=>X (BL s)
 |_,.rref s'=>Y (BL s')
 |_,.fptr _ caps=>∃k τ,some (k,τ)∈caps/\Y (BL k)
 |_,_=>False
theorem zE{w:World}{o:Obj}(h:w.heap[b]?=some o):b<w.heap.size:=(Array.getElem?_eq_some_iff.1 h).1
theorem yE2{w:World}(h:∀b o,b<w.heap.size->χ b o=0->χ' b o=0/\w'.cell? ⟨b,o,none⟩=w.cell? ⟨b,o,none⟩){k v:Ty}:∀{l:List (k.den×v.den×Unit)}{es:List MapEntry},Il χ w k v l es->Il χ' w' k v l es:=by intro l;induction l with|nil=>intro es h;exact h|cons x l j=>rintro es ⟨e,r,rfl,C,I,J⟩;exact⟨e,r,rfl,Gk h C,Gk h I,j J⟩
variable {Y X:Nat->Prop}{G':Gh}{t:Ty}{T:Nat}{m:Bool}
theorem Wm{G:Gh}{w:World}(j:Ext X Y G w G' w')(h0:¬X 0){l:List t.den}(C:¬X (AL T))(h:yT G w t l T m v):yT G' w' t l T m v:=by refine⟨h.1,?_⟩;rcases h.2 with h|⟨cap,cur,e,us,h1,I,J,R,h5,h6,h7,h8⟩;grind;have hb:=j.block (G.γ T) (zE I) (λo=>by grind);have hg:=j.tag T (λh=>C (j.sub _ h));refine .inr ⟨cap,cur,e,us,by grind,by grind,J,R,h5,EU (λ_ _ h=>CX j.prot h) h6,h7,λo=>?_⟩;grind
theorem xQ7{G:Gh}{w:World}(C:Ext X Y G w G' w'){l:List (List t.den)}{i:Nat}(I:¬X (AL T))(h:wC4 G w t l T i v):wC4 G' w' t l T i v:=by rcases h with h|⟨cap,cur,e,h1,J,R,h4,h5,h6,h7⟩;exact .inl h;have hb:=C.block (G.γ T) (zE J) (λo=>by grind);have hg:=C.tag T (λh=>I (C.sub _ h));refine .inr ⟨cap,cur,e,by grind,by grind,R,h4,h5,λo=>by grind,λj x hj kj=>?_⟩;obtain⟨u,hu,hr⟩:=h7 j x hj kj;exact⟨u,hu,CX C.prot hr⟩
variable {U:Nat}
theorem xQ8{G:Gh}{w:World}(C:Ext X Y G w G' w')(h0:¬X 0){l:List (List t.den)}{i:Nat}(R:¬X (AL T))(hU:¬X (AL U))(h:Jn G w t l T i U m v):Jn G' w' t l T i U m v:=by obtain⟨I,⟨he,⟨hm,x,a,cap,h1,h2,J⟩ | ⟨hm,hK⟩⟩ | ⟨kj,h|⟨cap,cur,e,h1,h2,J,h4,h5,h6,h7⟩⟩⟩:=h;rotate_left;exact⟨I,.inl ⟨he,.inr ⟨hm,xQ7 C R hK⟩⟩⟩;rotate_right;refine⟨I,.inl ⟨he,.inl ⟨hm,x,a,cap,h1,h2,?_⟩⟩⟩;rcases J with J|⟨o,us,cur,e,g1,g2,g3,g4,g5,g6⟩;grind;have hb:=C.block (G.γ T) (zE g3) (λo=>by grind);have hg:=C.tag T (λh=>R (C.sub _ h));exact .inr ⟨o,us,cur,e,by grind,g2,by grind,EU (λ_ _ h=>CX C.prot h) g4,g5,λo=>by grind⟩;exact⟨I,.inr ⟨kj,.inl h⟩⟩;have hb:=C.block (G.γ T) (zE h2) (λo=>by grind);have hg:=C.tag T (λh=>R (C.sub _ h));refine⟨I,.inr ⟨kj,.inr ⟨cap,cur,e,by grind,by grind,J,h4,h5,λo=>by grind,λj x hj=>?_⟩⟩⟩;obtain⟨u,hu,hr⟩:=h7 j x hj;refine⟨u,hu,?_⟩;split;grind [Wm];rename_i e;rw[if_neg e] at hr;exact CX C.prot hr
theorem xQ9{G:Gh}{w:World}(j:Ext X Y G w G' w'){l:List t.den}(C:¬X (AL T))(h:S0 G w t l T v):S0 G' w' t l T v:=by obtain⟨k,e,l',ht,I,es,clock,h1,J,R,h4⟩:=h;have hb:=j.block (G.γ T) (zE J) (λo=>by grind);have hg:=j.tag T (λh=>C (j.sub _ h));exact⟨k,e,l',ht,I,es,clock,by grind,by grind,yE2 j.prot R,λo=>by grind⟩
theorem GO{G:Gh}{w:World}(j:Ext X Y G w G' w')(I:¬X 0){l:List t.den}(C:¬X (AL T))(h:BQ G w t l T m v):BQ G' w' t l T m v:=h.imp (Wm j I C) λh=>⟨h.1,xQ9 j C h.2⟩
theorem xI5{G:Gh}{w:World}{l:List t.den}(hγ:G'.γ U=G.γ T)(J:w'.heap[G.γ T]?=w.heap[G.γ T]?)(j:∀b o,b<w.heap.size->G.χ b o=0->G'.χ b o=0/\w'.cell? ⟨b,o,none⟩=w.cell? ⟨b,o,none⟩)(R:(∀o,G.χ (G.γ T) o=AL T)->∀o,G'.χ (G.γ T) o=AL U)(h:S0 G w t l T v):S0 G' w' t l U v:=by obtain⟨k,e,l',ht,C,es,clock,h1,h2,I,h4⟩:=h;exact⟨k,e,l',ht,C,es,clock,by grind,by grind,yE2 j I,λo=>by grind⟩
theorem zW{G:Gh}{w:World}{l:List t.den}(j:yT G w t l T m v->yT G' w' t l U m v)(hγ:G'.γ U=G.γ T)(C:w'.heap[G.γ T]?=w.heap[G.γ T]?)(I:∀b o,b<w.heap.size->G.χ b o=0->G'.χ b o=0/\w'.cell? ⟨b,o,none⟩=w.cell? ⟨b,o,none⟩)(J:S0 G w t l T v->(∀o,G.χ (G.γ T) o=AL T)->∀o,G'.χ (G.γ T) o=AL U)(h:BQ G w t l T m v):BQ G' w' t l U m v:=h.imp j λh=>⟨h.1,xI5 hγ C I (J h.2) h.2⟩
theorem xB6{G:Gh}{w:World}{l:List t.den}(h:BQ G w t l T false v):yT G w t l T false v:=h.elim id λh=>(by grind)
theorem EE{G:Gh}{w:World}{l:List t.den}(h:BQ G w t l T m v)(ht:t.isL=false):yT G w t l T m v:=by rcases h with h|⟨_,k,e,_,rfl,_⟩;all_goals grind [Ty.isL]
theorem dY{G:Gh}{w:World}(j:Ext X Y G w G' w')(C:¬X 0):∀{c:AVal}{τ:Ty}{vs:List Value},¬c.names X Y none->AF G w τ c vs->AF G' w' τ c vs:=by intro c;induction c with|val τ' x=>intro τ vs _ h;exact⟨h.1,h.2.1,CX j.prot h.2.2⟩|junk=>grind [AF]|nil=>grind [AF]|own t l T m=>grind [AVal.names,AF,GO]|agg f a I=>grind [AVal.names,AF]|nl=>grind [AF]|cons a b gA gq=>grind [AF,AVal.names]|_=>grind [AF]
theorem dZ{G:Gh}{w:World}(C:Ext X Y G w G' w')(h0:¬X 0)(tm:Array Value):∀{A:AVal}{s:Option Nat}{v:Value},¬A.names X Y s->zA G w tm s A v->zA G' w' tm s A v:=by intro A;induction A with|val τ x=>intro s v _ h;simp only[zA] at h ⊢;exact Gk C.prot h|junk=>intro s v _ _;simp only[zA]|nil=>intro s v _ h;simp only[zA] at h ⊢;exact h|nn b=>intro s v _ h;simp only[zA] at h ⊢;exact h|own t l T m=>intro s v j h;simp only[zA] at h ⊢;simp only[AVal.names] at j;exact GO C h0 j h|opt s' want g A ih=>intro s v j h;simp only[zA] at h ⊢;simp only[AVal.names] at j;exact⟨h.1,λR=>ih j (h.2.1 R),h.2.2⟩|box τ c ih=>intro s v j h;(cases s with|none=>simp only[zA] at h|some s=>simp only[AVal.names,not_or] at j;simp only[zA] at h ⊢;obtain⟨J,ko,cur,e,I,h3,h4⟩:=h;have hb:=C.block (G.β s) (zE I) (λo=>by rw[h4 o];exact j.1);have R:=C.box s (λh=>j.1 (C.sub _ h));exact⟨by rw[R];exact J,ko,cur,e,by rw[R,hb.1];exact I,dY C h0 j.2 h3,λo=>by rw[R,hb.2 o];exact h4 o⟩)|ref s' τ p=>intro s v j h;simp only[AVal.names] at j;simp only[zA] at h ⊢;rw[C.box s' j];exact h|eref _ T t i p=>intro s v j h;simp only[AVal.names] at j;simp only[zA] at h ⊢;rw[C.tag T j];exact h|ownh t l T i U m=>intro s v j h;simp only[AVal.names,not_or] at j;simp only[zA] at h ⊢;exact xQ8 C h0 j.1 j.2 h|agg f c _=>intro s v j h;simp only[AVal.names] at j;simp only[zA] at h ⊢;obtain⟨vs,J,I⟩:=h;exact⟨vs,J,dY C h0 j I⟩|nl=>intro s v _ h;simp only[zA] at h ⊢;exact h|cons a b gA gq=>intro s v j h;simp only[AVal.names,not_or] at j;simp only[zA] at h ⊢;obtain⟨x,xs,J,I,h3⟩:=h;exact⟨x,xs,J,gA j.1 I,gq j.2 h3⟩|tup c ih=>intro s v j h;simp only[AVal.names] at j;simp only[zA] at h ⊢;exact ih j h|fn f c ih=>intro s v j h;simp only[AVal.names] at j;simp only[zA] at h ⊢;obtain⟨vs,J,I⟩:=h;exact⟨vs,J,ih j I⟩|raw=>intro s v j h;(cases s with|none=>simp only[zA] at h|some s=>simp only[AVal.names] at j;simp only[zA] at h ⊢;obtain⟨J,u,e,I,h3⟩:=h;have hb:=C.block (G.β s) (zE I) (λo=>by rw[h3 o];exact j);have R:=C.box s (λh=>j (C.sub _ h));exact⟨by rw[R];exact J,u,e,by rw[R,hb.1];exact I,λo=>by rw[R,hb.2 o];exact h3 o⟩)|rref s'=>intro s v j h;simp only[AVal.names] at j;simp only[zA] at h ⊢;rw[C.box s' j];exact h|fptr f caps=>intro s v j h;simp only[AVal.names] at j;simp only[zA] at h ⊢;obtain⟨b,J,I,h3⟩:=h;(have hb:b<w.heap.size:=by by_cases hb:b<w.heap.size;exact hb;have:w.heap[b]?=none:=Array.getElem?_eq_none (by omega);simp[cell?,this] at h3);obtain⟨h4,h5⟩:=C.prot b 0 hb I;refine⟨b,J,h4,?_⟩;rw[h5,h3];congr 3;refine List.map_congr_left λq hq=>?_;cases q with|none=>rfl|some q=>obtain⟨k,τ⟩:=q;simp only[HP];rw[C.box k (λhY=>j ⟨k,τ,hq,hY⟩)]
variable {cur:Array Value}{A:AVal}
theorem zO{G:Gh}{w:World}{tm:Array Value}:∀{s:Option Nat}{v:Value},(∀d,A.hung d->cur.getD d undef=tm.getD d undef)->zA G w tm s A v->zA G w cur s A v:=by induction A with|opt C want g A j=>simp_all [zA,AVal.hung]|cons a b gA gq=>grind [zA,AVal.hung]|tup c j=>grind [zA,AVal.hung]|fn f c j=>grind [zA,AVal.hung]|box τ c _=>intro s v _ h;cases s<;>simp only[zA] at h ⊢;grind|raw=>intro s v _ h;cases s<;>simp only[zA] at h ⊢;grind|_=>grind [zA]
variable {s:Option Nat}
theorem S1{G:Gh}{w:World}{tm:Array Value}(h:zA G w tm s A v)(hb:∀τ c,A≠.box τ c)(j:A≠.raw):zA G w tm none A v:=by cases A<;>first | (exfalso;exact hb _ _ rfl) | (exfalso;exact j rfl)|grind [zA]
theorem OX{G:Gh}{w:World}{tm:Array Value}(h:zA G w tm none A v):zA G w tm s A v:=by cases A<;>(grind [zA])
variable {P:Program}
def DC:Ty->List Value
 |.int k=>[.int k 0]|.bool=>[.bool false]|.str=>[.string ⟨#[]⟩]|.nl=>[]|.cons h t=>DC h++DC t
 |.st f=>DC f|.arr n t=>(replicate n (DC t)).flatten|.sl _=>[.slice none 0 0]|.ptr _=>[.pointer none]
def xI6:Value->Value->Bool
 |.int k n,.int k' m=>Nat.beq (Fx k) (Fx k')&&(n==m)
 |.bool a,.bool b=>a==b
 |.string a,.string b=>a.data.toList.isEmpty&&b.data.toList.isEmpty
 |.slice none 0 0,.slice none 0 0=>true
 |.pointer none,.pointer none=>true
 |_,_=>false
theorem xI7{a b:Value}(h:xI6 a b):a=b:=by unfold xI6 at h;split at h;simp at h;grind [Ni];grind;rename_i a b;obtain⟨⟨a⟩⟩:=a;obtain⟨⟨b⟩⟩:=b;grind;all_goals grind
def Wn:List Value->List Value->Bool
 |[],[]=>true
 |a::r,b::s=>xI6 a b&&Wn r s
 |_,_=>false
theorem xB7:∀{a b:List Value},Wn a b->a=b:=by intro a;induction a with|nil=>grind [Wn]|cons x r j=>intro b h;cases b<;>simp[Wn] at h;grind [xI7]
def Wo:Value->Bool
 |.agg _=>true|_=>false
def zM9 (P:Program)(T:Nat)(τ:Ty):Bool:=
 match P.info? T with
 |some i=>Nat.beq i.size τ.size&&ble i.bytes 32768&&!(P.eqGuardType P.depth T)&&ble τ.ht 9000&&(match i.zero with|some v=>Wn v.cells.toList (DC τ)&&(Wo v==τ.isAgg)|none=>false)
 |none=>false
def AY (P:Program):Ty->Nat ⊕ (List Field×Nat)->Bool
 |.int k,.inl T=>(match P.underlying T with|some (.int k')=>Nat.beq (Fx k') (Fx k)|_=>false)&&zM9 P T (.int k)
 |.bool,.inl T=>(match P.underlying T with|some .bool=>true|_=>false)&&zM9 P T .bool
 |.str,.inl T=>(match P.underlying T with|some .string=>true|_=>false)&&zM9 P T .str
 |.nl,.inr ([],_)=>true
 |.cons h t,.inr (fd::r,o)=>Nat.beq fd.offset o&&!(fd.name=="_")&&AY P h (.inl fd.type)&&AY P t (.inr (r,o+h.size))
 |.st f,.inl T=>(match P.underlying T with|some (.struct fs)=>AY P f (.inr (fs.toList,0))&&!(P.stoodInHeld T)|_=>false)&&zM9 P T (.st f)
 |.arr n t,.inl T=>(match P.underlying T with|some (.array m e)=>Nat.beq m n&&AY P t (.inl e)|_=>false)&&zM9 P T (.arr n t)
 |.sl t,.inl T=>(match P.underlying T with|some (.slice e)=>AY P t (.inl e)|_=>false)&&zM9 P T (.sl t)
 |.ptr t,.inl T=>(match P.underlying T with|some (.pointer e)=>AY P t (.inl e)|_=>false)&&zM9 P T (.ptr t)
 |_,_=>false
def E3 (P:Program)(l:List (Nat×Ty)):Bool:=l.all λe=>AY P e.2 (.inl e.1)
theorem xR{l:List (Nat×Ty)}:look Ty.nl l T=.nl\/(T,look Ty.nl l T)∈l:=by induction l with|nil=>exact .inl rfl|cons e r j=>grind [look,Nat.beq,jC]
theorem Im{c:Ctx}(h:E3 P c.tys)(T:Nat)(C:c.ty T≠.nl):AY P (c.ty T) (.inl T):=by rcases xR (l:=c.tys) (T:=T) with j | j;exact absurd j C;exact (all_eq_true.1 h) _ j
structure TyIs (P:Program) (T:Nat) (τ:Ty):Prop where
 info:∃i z,P.info? T=some i/\i.size=τ.size/\i.bytes<=32768/\i.zero=some z/\z.cells.toList=DC τ/\Wo z=τ.isAgg
 und:∃d,P.underlying T=some d/\d.isRow=τ.isAgg
theorem zK8(h:zM9 P T τ):∃i z,P.info? T=some i/\i.size=τ.size/\i.bytes<=32768/\i.zero=some z/\z.cells.toList=DC τ/\Wo z=τ.isAgg:=by unfold zM9 at h;split at h;rename_i i hi;split at h;rename_i v j;simp only[jB,beq_iff_eq] at h;exact⟨i,v,hi,jC h.1.1.1.1,jR h.1.1.1.2,j,xB7 h.2.1,h.2.2⟩;grind;grind
theorem yO6(h:zM9 P T τ):P.eqGuardType P.depth T=false:=by grind [zM9]
theorem xI8(h:zM9 P T τ):τ.ht<=9000:=by unfold zM9 at h;split at h;all_goals simp_all
theorem xW2(h:AY P τ (.inl T)):τ.ht<=9000:=by cases τ<;>simp[AY] at h<;>first|grind [xI8]|grind
theorem xB8(h:AY P τ (.inl T)):P.eqGuardType P.depth T=false:=by cases τ<;>simp[AY] at h<;>first|grind [yO6]|grind
theorem GP(h:AY P τ (.inl T)):TyIs P T τ:=by cases τ with|nl=>grind [AY]|cons a b=>grind [AY]|int k=>simp[AY] at h;refine⟨zK8 h.2,?_⟩;grind [Ty.isAgg]|bool=>simp[AY] at h;refine⟨zK8 h.2,?_⟩;grind [Ty.isAgg]|str=>simp[AY] at h;refine⟨zK8 h.2,?_⟩;grind [Ty.isAgg]|st f=>simp[AY] at h;refine⟨zK8 h.2,?_⟩;grind [Ty.isAgg]|arr n t=>simp[AY] at h;refine⟨zK8 h.2,?_⟩;grind [Ty.isAgg]|sl t=>simp[AY] at h;refine⟨zK8 h.2,?_⟩;grind [Ty.isAgg]|ptr t=>simp[AY] at h;refine⟨zK8 h.2,?_⟩;grind [Ty.isAgg]
variable {f:Ty}
theorem zY0:∀{fs:List Field}{o k:Nat},AY P f (.inr (fs,o))->k<f.flen->∃fd,fs[k]?=some fd/\fd.offset=o+f.foff k/\AY P (f.fty k) (.inl fd.type)/\fd.name≠"_":=by induction f with|cons h t _ qd=>intro fs o k hk hl;(cases fs with|nil=>grind [AY]|cons fd r=>simp[AY] at hk;cases k with|zero=>grind [Ty.foff,Ty.fty]|succ k=>simp only[Ty.flen] at hl;grind [Ty.foff,Ty.fty])|_=>grind [Ty.flen]
theorem OY(h:AY P (.st f) (.inl T)):∃fs,P.underlying T=some (.struct fs)/\AY P f (.inr (fs.toList,0)):=by grind [AY]
theorem xB9(h:AY P (.st f) (.inl T)):P.stoodInHeld T=false:=by grind [AY]
variable {n:Nat}
theorem zS(h:AY P (.arr n t) (.inl T)):∃e,P.underlying T=some (.array n e)/\AY P t (.inl e):=by simp[AY] at h;cases hu:P.underlying T with|none=>grind|some d=>cases d<;>simp_all
theorem GQ(h:AY P (.sl t) (.inl T)):∃e,P.underlying T=some (.slice e)/\AY P t (.inl e):=by grind [AY]
variable {k:IntKind}
theorem eB(h:AY P (.int k) (.inl T)):P.underlying T=some (.int k):=by simp[AY] at h;cases hu:P.underlying T with|none=>grind|some d=>cases d<;>simp_all;grind [Ni]
theorem yO7(h:AY P .bool (.inl T)):P.underlying T=some .bool:=by grind [AY]
theorem Nw(h:AY P .str (.inl T)):P.underlying T=some .string:=by grind [AY]
theorem xI9(h:AY P τ (.inl T)):τ.isL=false:=by cases τ<;>first|rfl|grind [AY]
theorem yZ{q:Fq}(j:E2 t q)(h:AY P (t.pty q) (.inl T)):t.isL=false:=by cases q with|nil=>exact xI9 h|cons e r=>cases t<;>first|rfl|grind [E2]
theorem eC(h:AY P (.sl t) (.inl T)):t.isL=false:=by grind [GQ,xI9]
variable {P:Program}
def seg (vs:List Value)(o n:Nat):List Value:=(vs.drop o).take n
def spl (vs:List Value)(o:Nat)(ys:List Value):List Value:=vs.take o++(ys++vs.drop (o+ys.length))
theorem xC(h:o+n<=vs.length):(seg vs o n).length=n:=by grind [seg]
theorem seg_getElem? (vs:List Value)(o n j:Nat):(seg vs o n)[j]?=if j<n then vs[o+j]? else none:=by simp[seg,List.getElem?_take]
theorem Wp (vs:List Value)(o n o' C:Nat)(h:o'+C<=n):seg (seg vs o n) o' C=seg vs (o+o') C:=by apply ext_getElem?;intro j;simp only[seg_getElem?];by_cases I:j<C;grind;grind
theorem eD (vs:List Value):seg vs 0 vs.length=vs:=by simp[seg]
theorem eE (us ws:List Value):seg (us++ws) 0 us.length=us:=by simp[seg]
theorem zW0 (us ws:List Value)(o n:Nat):seg (us++ws) (us.length+o) n=seg ws o n:=by unfold seg;rw[drop_append,List.drop_of_length_le (by omega),List.nil_append];congr 2;omega
variable {ys:List Value}
theorem zN(h:o+ys.length<=vs.length):(spl vs o ys).length=vs.length:=by grind [spl]
theorem yL8 (us ws ys:List Value)(h:ys.length=us.length):spl (us++ws) 0 ys=ys++ws:=by grind [spl]
theorem yE5 (us ws ys:List Value)(o:Nat):spl (us++ws) (us.length+o) ys=us++spl ws o ys:=by unfold spl;rw[List.take_append,List.take_of_length_le (by omega),drop_append,List.drop_of_length_le (by omega),List.nil_append,List.append_assoc];grind
theorem xJ (vs:List Value)(o:Nat):spl vs o []=vs:=by simp[spl]
theorem xW3 (vs ys:List Value)(h:ys.length=vs.length):spl vs 0 ys=ys:=by grind [spl]
theorem spl_getElem? (vs ys:List Value)(o j:Nat)(h:o+ys.length<=vs.length):(spl vs o ys)[j]?=if o<=j/\j<o+ys.length then ys[j-o]? else vs[j]?:=by unfold spl;by_cases J:j<o;grind;rw[List.getElem?_append_right (by grind)];(have C:(vs.take o).length=o:=by grind);rw[C];by_cases I:j<o+ys.length;rw[List.getElem?_append_left (by omega),if_pos ⟨by omega,I⟩];grind
theorem Wq (vs ys:List Value)(o n o':Nat)(h:o+n<=vs.length)(R:o'+ys.length<=n):spl vs o (spl (seg vs o n) o' ys)=spl vs (o+o') ys:=by have hl:(seg vs o n).length=n:=xC h;(have C:(spl (seg vs o n) o' ys).length=n:=by grind [zN]);apply ext_getElem?;intro j;rw[spl_getElem? vs _ o j (by omega),spl_getElem? vs ys (o+o') j (by omega),C];by_cases I:o<=j/\j<o+n;rw[if_pos I,spl_getElem? _ _ _ _ (by omega)];by_cases J:o'<=j-o/\j-o<o'+ys.length;grind;rw[if_neg J,if_neg (by omega),seg_getElem?,if_pos (by omega)];grind;rw[if_neg I,if_neg (by omega)]
theorem eH{R:α->List Value->Prop}{k:Nat}(j:∀x vs,R x vs->vs.length=k)(d:α):∀{l:List α}{us:List Value}{i:Nat},C6 R l us->i<l.length->R (l.getD i d) (seg us (i*k) k):=by intro l;induction l with|nil=>grind|cons x l C=>rintro us i ⟨vs,ws,rfl,I,J⟩ hi;cases i with|zero=>grind [eE]|succ i=>rw[show (i+1)*k=vs.length+i*k from by grind,zW0];grind
theorem yL9{R:α->List Value->Prop}{k:Nat}(j:∀x vs,R x vs->vs.length=k){y:α}(C:R y ys):∀{l:List α}{us:List Value}{i:Nat},C6 R l us->i<l.length->C6 R (l.set i y) (spl us (i*k) ys):=by intro l;induction l with|nil=>grind|cons x l ih=>rintro us i ⟨vs,ws,rfl,I,J⟩ hi;have hv:=j _ _ I;have hyl:=j _ _ C;cases i with|zero=>simp;rw[yL8 _ _ _ (by omega)];exact⟨ys,ws,rfl,C,J⟩|succ i=>rw[show (i+1)*k=vs.length+i*k from by grind,yE5];exact⟨vs,_,rfl,I,ih J (by grind)⟩
theorem Wr{R:α->List Value->Prop}:∀{l m:List α}{us ws:List Value},C6 R l us->C6 R m ws->C6 R (l++m) (us++ws):=by intro l;induction l with|nil=>grind [C6]|cons x l j=>rintro m us ws ⟨vs,ws',rfl,C,I⟩ hm;exact⟨vs,ws'++ws,by simp,C,j I hm⟩
theorem eI{R:α->List Value->Prop}{k:Nat}(I:∀x vs,R x vs->vs.length=k):∀{l:List α}{us:List Value}(n:Nat),C6 R l us->C6 R (l.take n) (us.take (n*k)):=by intro l;induction l with|nil=>grind [C6]|cons x l J=>rintro us n ⟨vs,ws,rfl,j,hl⟩;have C:=I _ _ j;cases n with|zero=>simp[C6]|succ n=>refine⟨vs,ws.take (n*k),?_,j,J n hl⟩;rw[List.take_append,List.take_of_length_le (by rw[C,add_mul];omega),show (n+1)*k-vs.length=n*k from by rw[C,add_mul];omega]
theorem eJ{R:α->List Value->Prop}{k:Nat}(C:∀x vs,R x vs->vs.length=k):∀{l:List α}{us:List Value}(n:Nat),C6 R l us->C6 R (l.drop n) (us.drop (n*k)):=by intro l;induction l with|nil=>grind [C6]|cons x l J=>rintro us n ⟨vs,ws,rfl,j,I⟩;have hv:=C _ _ j;cases n with|zero=>simp;exact⟨vs,ws,rfl,j,I⟩|succ n=>simp_all [drop_append,List.drop_of_length_le,add_mul]
theorem zJ{R:α->List Value->Prop}{x:α}(h:R x vs):∀n,C6 R (replicate n x) (replicate n vs).flatten:=by intro n;induction n with|zero=>simp[C6]|succ n j=>exact⟨vs,_,by simp[List.replicate_succ],h,j⟩
theorem Ws:∀{k:Nat},k<f.flen->f.foff k+(f.fty k).size<=f.size:=by induction f with|cons h t _ qd=>intro k j;cases k<;>grind [Ty.foff,Ty.fty,Ty.size,Ty.flen]|_=>grind [Ty.flen]
theorem eL{w:World}:∀{k:Nat}{x:f.den}{vs:List Value},k<f.flen->AN χ w f x vs->AN χ w (f.fty k) (f.fget k x) (seg vs (f.foff k) (f.fty k).size):=by induction f with|cons h t _ qd=>intro k x vs j C;obtain⟨us,ws,rfl,I,R⟩:=C;have J:=CO I;(cases k with|zero=>grind [Ty.fty,Ty.fget,Ty.foff,eE]|succ k=>simp only[Ty.flen] at j;simp[Ty.fty,Ty.fget,Ty.foff];rw[<-J,zW0];grind)|_=>grind [Ty.flen]
theorem xJ0{w:World}:∀{k:Nat}{x:f.den}{y:(f.fty k).den}{vs ys:List Value},k<f.flen->AN χ w f x vs->AN χ w (f.fty k) y ys->AN χ w f (f.fset k y x) (spl vs (f.foff k) ys):=by induction f with|cons h t _ qd=>intro k x y vs ys J R j;obtain⟨us,ws,rfl,C,I⟩:=R;have hl:=CO C;(cases k with|zero=>simp only[Ty.fty] at y j;have hyl:=CO j;simp[Ty.foff];rw[yL8 _ _ _ (by omega)];exact⟨ys,ws,rfl,j,I⟩|succ k=>simp only[Ty.flen] at J;simp[Ty.foff];rw[<-hl,yE5];exact⟨us,_,rfl,C,qd (by omega) I j⟩)|_=>grind [Ty.flen]
theorem zB{G:Gh}{w:World}:∀{c:AVal}{τ:Ty}{vs:List Value},AF G w τ c vs->vs.length=τ.size:=by intro c;induction c with|val τ' x=>grind [AF,CO]|nil=>intro τ vs h;obtain⟨j,rfl⟩:=h;cases τ<;>simp[Ty.isSl] at j;rfl|own t l T m=>intro τ vs h;obtain⟨rfl,v,rfl,_⟩:=h;rfl|agg f a C=>grind [AF,Ty.size]|nl=>intro τ vs h;obtain⟨rfl,rfl⟩:=h;rfl|junk=>intro τ vs h;obtain⟨j,v,rfl,_⟩:=h;cases τ<;>simp[Ty.isSl] at j;rfl|cons a b gA gq=>grind [AF,Ty.size]|_=>grind [AF]
theorem zO0{G:Gh}{w:World}{c:AVal}(j:AF G w (.cons τ t) c vs):∃a b us ws,c=.cons a b/\vs=us++ws/\AF G w τ a us/\AF G w t b ws:=by cases c with|cons a b=>obtain⟨R,t',us,ws,e,rfl,C,I⟩:=j;injection e with e1 J;subst e1;subst J;exact⟨a,b,us,ws,rfl,rfl,C,I⟩|val τ' x=>simp only[AF] at j;grind [Ty.isL]|nil=>grind [AF,Ty.isSl]|junk=>grind [AF,Ty.isSl]|_=>grind [AF]
theorem yM{G:Gh}{w:World}:∀{c:AVal}{k:Nat}{vs:List Value},k<f.flen->AF G w f c vs->AF G w (f.fty k) (c.nth k) (seg vs (f.foff k) (f.fty k).size):=by induction f with|cons h t _ qd=>intro c k vs j C;obtain⟨a,b,us,ws,rfl,rfl,I,R⟩:=zO0 C;have J:=zB I;(cases k with|zero=>grind [Ty.fty,AVal.nth,Ty.foff,eE]|succ k=>simp only[Ty.flen] at j;simp[Ty.fty,AVal.nth,Ty.foff];rw[<-J,zW0];grind)|_=>grind [Ty.flen]
theorem zU2{G:Gh}{w:World}:∀{c B:AVal}{k:Nat}{vs ys:List Value},k<f.flen->AF G w f c vs->AF G w (f.fty k) B ys->AF G w f (c.setNth k B) (spl vs (f.foff k) ys):=by induction f with|cons h t _ qd=>intro c B k vs ys J R j;obtain⟨a,b,us,ws,rfl,rfl,C,I⟩:=zO0 R;have hl:=zB C;(cases k with|zero=>simp only[Ty.fty] at j;have hyl:=zB j;simp[Ty.foff];rw[yL8 _ _ _ (by omega)];exact⟨h,t,ys,ws,rfl,rfl,j,I⟩|succ k=>simp only[Ty.flen] at J;simp[Ty.foff];rw[<-hl,yE5];exact⟨h,t,us,_,rfl,rfl,C,qd (by omega) I j⟩)|_=>grind [Ty.flen]
theorem FV(h:AY P τ (.inl T)):τ.isL=false:=by cases τ<;>first|rfl|grind [AY]
theorem yZ0{x:List Field×Nat}(h:AY P τ (.inr x)):τ.isL:=by cases τ<;>first|rfl|grind [AY]
theorem Nx:∀{τ:Ty}{x:Nat ⊕ (List Field×Nat)},AY P τ x->τ.plain:=by intro τ;induction τ with|cons h t C qd=>intro x I;rcases x with x|⟨fs,o⟩;grind [AY];cases fs<;>grind [AY,Ty.plain,FV,yZ0]|st f j=>grind [Ty.plain,yZ0,AY]|arr n t j=>grind [Ty.plain,FV,AY]|sl t j=>grind [Ty.plain,FV,AY]|ptr t j=>grind [Ty.plain,FV,AY]|_=>intro x _;rfl
theorem yE9:∀{k:Nat},f.plain->k<f.flen->(f.fty k).isL=false/\(f.fty k).plain:=by induction f with|cons h t _ qd=>intro k j C;simp[Ty.plain] at j;(cases k with|zero=>exact⟨j.1.1.1,j.1.1.2⟩|succ k=>simp only[Ty.flen] at C;exact qd j.2 (by omega))|_=>grind [Ty.flen]
theorem yP{G:Gh}{w:World}:∀{x:f.den}{vs:List Value},f.isL->f.plain->AN G.χ w f x vs->AF G w f (dB f x) vs:=by induction f with|cons h t _ qd=>intro x vs R j C;simp[Ty.plain] at j;obtain⟨us,ws,rfl,I,J⟩:=C;exact⟨h,t,us,ws,rfl,rfl,⟨rfl,j.1.1.1,I⟩,qd j.1.2 j.2 J⟩|nl=>grind [AN,dB,AF]|_=>grind [Ty.isL]
theorem E5{a b:Ty}{x:a.den}{y:b.den}(h:Ty.cast b x=some y):∃e:a=b,e ▸ x=y:=by grind [Ty.cast,Ty.eq_of_beq]
theorem Gl{G:Gh}{w:World}{l:List t.den}(h:BQ G w t l T false v):AN G.χ w (.sl t) l [v]:=by simp only[AN];rcases (xB6 h).2 with ⟨rfl,rfl⟩ | ⟨cap,cur,e,us,rfl,J,C,R,h5,I,h7,h8⟩;grind;refine⟨_,cap,rfl,?_⟩;refine .inr ⟨G.γ T,0,us,rfl,C,I,λj u hu=>?_⟩;grind [cell?]
theorem JV{G:Gh}{w:World}:∀{A:AVal}{τ:Ty}{x:τ.den}{vs:List Value},AVal.as τ A=some x->AF G w τ A vs->AN G.χ w τ x vs:=by intro A;induction A with|val τ' y=>intro τ x vs h ht;simp[AVal.as,AVal.asT] at h;simp only[AF] at ht;rw[ht.2.1,jD] at h;obtain⟨e,rfl⟩:=E5 h;grind|nil=>intro τ x vs h ht;simp only[AF] at ht;(cases τ with|sl t=>have h:(some []:Option (List t.den))=some x:=h;grind [AN]|_=>grind [Ty.isSl])|own t l T m=>intro τ x vs h ht;simp[AVal.as,AVal.asT] at h;obtain⟨rfl,v,rfl,j⟩:=ht;(cases m with|true=>grind|false=>obtain⟨e,rfl⟩:=E5 h;exact Gl j)|agg f c C=>intro τ x vs h ht;obtain⟨rfl,ht⟩:=ht;simp[AVal.as,AVal.asT] at h;(cases hb:Ty.beq (.st f) (.st f) with|false=>grind|true=>rw[hb,jE] at h;simp only[AN];exact C h ht)|nl=>intro τ x vs h ht;obtain⟨rfl,rfl⟩:=ht;grind [AN]|cons a b gA gq=>intro τ x vs h ht;obtain⟨h1,t1,us,ws,rfl,rfl,I,J⟩:=ht;simp[AVal.as,AVal.asT,dC] at h;split at h;rename_i y z R hz;injection h with h;subst h;exact⟨us,ws,rfl,gA R I,gq hz J⟩;grind|junk=>grind [AVal.as,AVal.asT]|_=>grind [AF]
theorem Ny{G:Gh}{w:World}:∀{p:Fq}{τ:Ty}{c:AVal}{vs:List Value},τ.plain->τ.isL=false->E2 τ p->AF G w τ c vs->(AF G w (τ.pty p) (c.at p) (seg vs (τ.poff p) (τ.pty p).size)/\τ.poff p+(τ.pty p).size<=τ.size/\(τ.pty p).plain/\(τ.pty p).isL=false):=by intro p;induction p with|nil=>intro τ c vs j R _ h;have:=zB h;grind [Ty.pty,AVal.at,Ty.poff,eD]|cons x p ih=>intro τ c vs j R C h;rcases x with k|i;cases τ<;>simp only[E2] at C;rename_i f;simp only[Ty.plain,jB] at j;have iC:=yE9 j.2 C.1;have hle:=Ws C.1;(have I:AF G w (f.fty k) (c.fld k) (seg vs (f.foff k) (f.fty k).size):=by cases c with|val τ' x=>simp only[AF] at h;obtain⟨rfl,_,h⟩:=h;simp only[AVal.fld,AF];simp only[AN] at h;exact⟨trivial,iC.1,eL C.1 h⟩|agg f' a=>grind [AF,AVal.fld,yM]|nil=>grind [AF,Ty.isSl]|junk=>simp[AF,Ty.isSl] at h|_=>simp[AF] at h);grind [Ty.pty,AVal.at,Ty.poff,Ty.size,Wp];cases τ<;>simp only[E2] at C;rename_i n t;simp only[Ty.plain,jB,jK] at j;cases c with|val τ' x=>simp only[AF] at h;obtain⟨rfl,_,h⟩:=h;simp only[AN] at h;obtain⟨h1,h2⟩:=h;(have hi:i.toNat<length (α:=t.den) x:=by omega);have hg:=eH (k:=t.size) (λ_ _ h=>CO h) t.dflt h2 hi;have I:AF G w t (.val t (getD (α:=t.den) x i.toNat t.dflt)) (seg vs (i.toNat*t.size) t.size):=(by simp only[AF];exact⟨trivial,j.1,hg⟩);obtain⟨J,h4,h5,h6⟩:=ih j.2 j.1 C.2.2 I;simp only[Ty.pty,AVal.at,Ty.poff,Ty.size,AVal.ix];rw[Wp _ _ _ _ _ h4] at J;refine⟨J,?_,h5,h6⟩;(have:i.toNat*t.size+t.size<=n*t.size:=by rw[<-succ_mul];exact jS _ (by omega));omega|nil=>simp[AF,Ty.isSl] at h|junk=>simp[AF,Ty.isSl] at h|_=>simp[AF] at h
theorem Nz:∀{A:AVal}{τ:Ty}{x:τ.den},AVal.as τ A=some x->A.fitsT τ:=by intro A;induction A with|val τ' y=>intro τ x h;simp[AVal.as,AVal.asT] at h;(cases J:τ'.isL with|true=>simp_all|false=>simp[AVal.fitsT];grind [Ty.cast])|nil=>intro τ x h;(cases τ<;>first|rfl|grind [AVal.as,AVal.asT,xY9])|own t l T m=>intro τ x h;simp[AVal.as,AVal.asT] at h;(cases m with|true=>simp_all|false=>grind [AVal.fitsT,Ty.cast])|agg f c j=>intro τ x h;simp only[AVal.as,AVal.asT] at h;(cases hb:Ty.beq (.st f) τ with|false=>simp_all|true=>rw[hb,jE] at h;have:=Ty.eq_of_beq hb;subst this;simp[AVal.fitsT,hb];exact j h)|nl=>intro τ x h;(cases τ<;>first|rfl|grind [AVal.as,AVal.asT,wC6])|cons a b gA gq=>intro τ x h;(cases τ with|cons R t1=>simp only[AVal.as,AVal.asT,dC] at h;split at h;rename_i y z C I;simp[AVal.fitsT,GH,jB];exact⟨gA C,gq I⟩;grind|_=>grind [AVal.as,AVal.asT,dC])|_=>grind [AVal.as,AVal.asT]
theorem OZ:∀{A:AVal}{τ:Ty},A.fitsT τ->A.laxT τ:=by intro A;induction A with|agg f c j=>grind [AVal.fitsT,AVal.laxT]|cons a b gA gq=>intro τ h;cases τ<;>simp_all [AVal.fitsT,AVal.laxT,GH]|val τ' y=>intro τ h;exact h|nil=>intro τ h;exact h|own t l T m=>intro τ h;exact h|nl=>intro τ h;exact h|_=>grind [AVal.fitsT]
theorem yI9{G:Gh}{w:World}:∀{c B:AVal}{k:Nat}{vs:List Value},k<f.flen->AF G w f c vs->(c.setNth k B).laxT f->B.laxT (f.fty k):=by induction f with|cons h t _ qd=>intro c B k vs C I j;obtain⟨a,b,us,ws,rfl,rfl,R,J⟩:=zO0 I;(cases k with|zero=>simp[AVal.setNth,AVal.laxT,GH] at j;exact j.1|succ k=>simp only[Ty.flen] at C;simp[AVal.setNth,AVal.laxT,GH] at j;exact qd (by omega) J j.2)|_=>grind [Ty.flen]
theorem yZ1{G:Gh}{w:World}:∀{p:Fq}{τ:Ty}{c B:AVal}{vs ys:List Value},τ.plain->τ.isL=false->E2 τ p->AF G w τ c vs->AF G w (τ.pty p) B ys->(AVal.put p c B).laxT τ->AF G w τ (AVal.put p c B) (spl vs (τ.poff p) ys):=by intro p;induction p with|nil=>intro τ c B vs ys C hl _ h J _;simp only[Ty.pty] at J;have:=zB h;have:=zB J;simp only[AVal.put,Ty.poff];rw[xW3 _ _ (by omega)];exact J|cons x p ih=>intro τ c B vs ys C hl j h J I;have hat:=Ny C hl j h;rcases x with k|i;cases τ<;>simp only[E2] at j;rename_i f;simp only[Ty.plain,jB] at C;have iC:=yE9 C.2 j.1;have hle:=Ws j.1;have hyl:=zB J;simp only[Ty.pty] at hyl J hat;simp only[Ty.poff,Ty.size] at hat ⊢;have gw:=zB h;simp only[Ty.size] at gw;(cases c with|val τ' x=>simp only[AF] at h;obtain⟨rfl,_,h⟩:=h;simp only[AN] at h;have hg:AF G w (f.fty k) (.val (f.fty k) (f.fget k x)) (seg vs (f.foff k) (f.fty k).size):=(by simp only[AF];exact⟨trivial,iC.1,eL j.1 h⟩);have hat2:=Ny iC.2 iC.1 j.2 hg;simp only[AVal.put] at I ⊢;have hC:=λhn=>ih (B:=B) iC.2 iC.1 j.2 hg J hn;(cases hy:AVal.as (f.fty k) (AVal.put p (.val (f.fty k) (f.fget k x)) B) with|some y=>simp only[hy] at I ⊢;have:=xJ0 j.1 h (JV hy (hC (OZ (Nz hy))));rw[Wq _ _ _ _ _ (by omega) (by omega)] at this;simp only[AF];exact⟨trivial,rfl,by simpa only[AN] using this⟩|none=>simp only[hy] at I ⊢;have hex:=yP C.1 C.2 h;simp only[AVal.laxT,jB] at I;have:=zU2 j.1 hex (hC (yI9 j.1 hex I.2));rw[Wq _ _ _ _ _ (by omega) (by omega)] at this;simp only[AF];exact⟨trivial,this⟩)|agg f' a=>simp only[AF] at h;obtain⟨e,h⟩:=h;injection e with e;subst e;have hg:=yM j.1 h;have hat2:=Ny iC.2 iC.1 j.2 hg;simp only[AVal.put] at I ⊢;simp only[AVal.laxT,jB] at I;have:=zU2 j.1 h (ih iC.2 iC.1 j.2 hg J (yI9 j.1 h I.2));rw[Wq _ _ _ _ _ (by omega) (by omega)] at this;simp only[AF];exact⟨trivial,this⟩|nil=>simp[AF,Ty.isSl] at h|junk=>simp[AF,Ty.isSl] at h|_=>simp[AF] at h);cases τ<;>simp only[E2] at j;rename_i n t;simp only[Ty.plain,jB,jK] at C;have hyl:=zB J;have gw:=zB h;simp only[Ty.pty,Ty.size] at hyl J gw;cases c with|val τ' x=>simp only[AF] at h;obtain⟨rfl,_,h⟩:=h;simp only[AN] at h;obtain⟨h1,h2⟩:=h;(have hi:i.toNat<length (α:=t.den) x:=by omega);have hg:=eH (k:=t.size) (λ_ _ h=>CO h) t.dflt h2 hi;have hc:AF G w t (.val t (getD (α:=t.den) x i.toNat t.dflt)) (seg vs (i.toNat*t.size) t.size):=(by simp only[AF];exact⟨trivial,C.1,hg⟩);have hat2:=Ny C.2 C.1 j.2.2 hc;(have kN:i.toNat*t.size+t.size<=n*t.size:=by rw[<-succ_mul];exact jS _ (by omega));simp only[AVal.put] at I ⊢;(cases hy:AVal.as t (AVal.put p (.val t (getD (α:=t.den) x i.toNat t.dflt)) B) with|none=>simp only[hy,AVal.laxT] at I;cases I|some y=>simp only[hy] at I ⊢;have hn:=OZ (Nz hy);have:=yL9 (R:=AN G.χ w t) (k:=t.size) (λ_ _ h=>CO h) (JV hy (ih C.2 C.1 j.2.2 hc J hn)) h2 hi;rw[Wq _ _ _ _ _ (by omega) (by omega)] at this;simp only[AF,Ty.poff];exact⟨trivial,rfl,by simp only[AN];exact⟨(List.length_set (α:=t.den)).trans h1,this⟩⟩)|nil=>simp[AF,Ty.isSl] at h|junk=>simp[AF,Ty.isSl] at h|_=>simp[AF] at h
variable {P:Program}{c:Ctx}{G:Gh}{w:World}{tm:Array Value}
theorem DV(km:E3 P c.tys)(h:c.is T τ):AY P τ (.inl T):=by grind [Ctx.is,Ty.eq_of_beq,Im,xZ]
theorem VRep_int{n:Int}:DO χ w (.int k) n v↔v=.int k n:=by constructor;rintro⟨vs,j,C⟩;grind [AN,Ty.isAgg];rintro rfl;exact⟨[.int k n],by grind [AN],by simp[Ty.isAgg]⟩
theorem VRep_bool{b:Bool}:DO χ w .bool b v↔v=.bool b:=by constructor;rintro⟨vs,j,C⟩;grind [AN,Ty.isAgg];rintro rfl;exact⟨[.bool b],by grind [AN],by simp[Ty.isAgg]⟩
theorem VRep_str{s:List UInt8}:DO χ w .str s v↔v=.string ⟨s.toArray⟩:=by constructor;rintro⟨vs,j,C⟩;grind [AN,Ty.isAgg];rintro rfl;exact⟨[.string ⟨s.toArray⟩],by grind [AN],by simp[Ty.isAgg]⟩
theorem zC{x:τ.den}(h:τ.isAgg=false):DO χ w τ x v↔AN χ w τ x [v]:=by constructor;rintro⟨vs,j,C⟩;grind;intro j;exact⟨[v],j,by grind⟩
theorem Jo{x:τ.den}(h:τ.isAgg):DO χ w τ x v↔∃vs,v=.agg vs.toArray/\AN χ w τ x vs:=by constructor;rintro⟨vs,C,j⟩;grind;rintro⟨vs,C,j⟩;exact⟨vs,j,by grind⟩
def Io (τ:Ty)(us:List Value)(u:Value):Prop:=cond τ.isAgg (u=.agg us.toArray) (us=[u])
variable {us:List Value}{u:Value}
theorem yF(h:AF G w τ A us)(I:τ.isL=false)(hu:Io τ us u):zA G w tm none A u:=by unfold Io at hu;cases A with|val τ' x=>obtain⟨rfl,j,C⟩:=h;exact⟨us,C,hu⟩|nil=>obtain⟨j,rfl⟩:=h;cases τ<;>simp[Ty.isSl] at j;grind [Ty.isAgg,zA]|own t l T m=>grind [AF,Ty.isAgg,zA]|agg f a=>grind [AF,Ty.isAgg,zA]|nl=>grind [AF,Ty.isL]|cons a b=>grind [AF,Ty.isL]|junk=>grind [zA]|_=>grind [AF]
theorem Wt(h:zA G w tm none A u)(j:A.fitsT τ)(J:τ.isL=false):∃us,AF G w τ A us/\Io τ us u:=by unfold Io;cases A with|val τ' x=>simp[AVal.fitsT] at j;have e:=Ty.eq_of_beq j.1;subst e;obtain⟨us,I,C⟩:=h;exact⟨us,by grind [AF],C⟩|nil=>subst h;simp only[AVal.fitsT] at j;cases τ<;>simp[Ty.isSl] at j;simp_all [AF,Ty.isSl,Ty.isAgg]|own t l T m=>have e:=Ty.eq_of_beq j;subst e;simp_all [zA,AF,Ty.isAgg]|agg f a=>simp[AVal.fitsT] at j;have e:=Ty.eq_of_beq j.1;subst e;obtain⟨us,I,C⟩:=h;grind [AF,Ty.isAgg]|nl=>grind [AVal.fitsT,Ty.eq_of_beq,Ty.isL]|cons a b=>simp only[AVal.fitsT] at j;cases τ<;>simp[GH] at j;grind [Ty.isL]|_=>grind [AVal.fitsT]
theorem Ip{x:τ.den}(h:AVal.as τ A=some x)(j:τ.isL=false)(C:zA G w tm none A u):DO G.χ w τ x u:=by obtain⟨us,I,J⟩:=Wt C (Nz h) j;exact⟨us,JV h I,J⟩
theorem yZ2(h:AY P τ (.inl T))(j:τ.isAgg=false):τ.size=1:=by cases τ<;>simp[Ty.isAgg,AY] at h j<;>rfl
theorem yF0{d:TypeDesc}(hu:P.underlying T=some d)(w:World):(isAgg T).run P w=.ok d.isRow w:=by unfold isAgg;rw[run_bind,run_underlying hu w];cases d<;>simp
theorem eM(j:AY P τ (.inl T))(C:w.rangeAt b o us)(J:us.length=τ.size):∃u,(loadAt T (.pointer (some ⟨b,o,none⟩))).run P w=.ok u w/\Io τ us u:=by obtain⟨⟨i,z,hi,R,_⟩,d,hu,hd⟩:=GP j;unfold Io;cases I:τ.isAgg with|true=>grind [run_loadAt_mid]|false=>have h1:=yZ2 j I;(obtain⟨u,rfl⟩:∃u,us=[u]:=by cases us<;>simp_all);have hc:=C 0 u rfl;have hg:=yF0 hu w;simp_all [loadAt,sureAddr,loadVar]
theorem yT4(h:KZ χ w b o us):w.rangeAt b o us:=λj v C=>(h j v C).1
variable {e:TypeId}
theorem yT5{fr:Nat×Nat}(h:w.heap[b]?=some (.cells cur e fr))(o n:Nat):w.rangeAt b o (seg cur.toList o n):=by intro j v C;grind [seg_getElem?,cell?]
def EF:AVal->Option Nat
 |.ref s _ _=>some s
 |.eref s _ _ _ _=>some s
 |.rref s=>some s
 |_=>none
theorem N0{s:Nat}{k:AVal}(h:zA G w tm (some s) (.box τ k) u):Ik τ/\∃cur e,w.heap[G.β s]?=some (.cells cur e (0,0))/\AF G w τ k cur.toList/\(∀o,G.χ (G.β s) o=BL s):=by exact h.2
def wC7 (P:Program)(T:Nat):Bool:=
 match P.info? T,P.underlying T with
 |some i,some d=>Nat.beq i.size 1&&!d.isRow&&(match i.zero with|some z=>Nat.beq z.cells.size 1|none=>false)
 |_,_=>false
def Jp (P:Program)(l:List Nat):Bool:=l.all (wC7 P)
theorem yT6{l:List Nat}(h:Jp P l)(j:l.any (Nat.beq T)):∃i d z u,P.info? T=some i/\P.underlying T=some d/\i.size=1/\d.isRow=false/\i.zero=some z/\z.cells=#[u]:=by obtain⟨T',hm,hb⟩:=List.any_eq_true.1 j;have:=all_eq_true.1 h _ hm;unfold wC7 at this;split at this;grind [jC,Array.size_eq_one_iff];grind
theorem xR0{f:Nat}{caps:List (Option (Nat×Ty))}(j:zA G w tm none (.fptr f caps) v):∀r,zA G w tm none (Se f caps r) (.tuple (r.map (HP G v)).toArray):=by intro r;induction r with|nil=>simp[Se,zA]|cons q r C=>cases q<;>grind [Se,zA,HP,E2,Ty.poff]
variable {x:AVal}{p:List Prop}
theorem yF1(km:E3 P c.tys)(ny:Jp P c.fts){k:AVal}(J:zA G w tm none x v)(hk:∀s,EF x=some s->∃u,zA G w tm (some s) k u)(h:yL c T x k=some (p,A))(hp:∀q∈p,q):∃u,(loadAt T v).run P w=.ok u w/\zA G w tm none A u:=by cases x with|fptr f caps=>simp only[yL] at h;(cases hb:c.fts.any (Nat.beq T) with|false=>simp[hb] at h|true=>simp only[hb,jE,jA,jG] at h;obtain⟨rfl,rfl⟩:=h;obtain⟨i,d,z,u,hi,hu,_,tx,_,_⟩:=yT6 ny hb;have I:=J;simp only[zA] at J;obtain⟨b,rfl,_,C⟩:=J;refine⟨.func (.func f) #[] (caps.map (HP G (.pointer (some ⟨b,0,none⟩)))).toArray,?_,?_⟩;have hg:=yF0 hu w;rw[tx] at hg;simp only[loadAt,sureAddr,run_bind,run_pure,andThen_ok,loadVar,hg];simp[C];rw[zA];exact⟨_,rfl,xR0 I caps⟩)|val τ x=>(cases τ with|ptr t=>simp only[yL] at h;(cases hi:c.is T t with|false=>simp[hi] at h|true=>simp only[hi,jE,jA,jG] at h;obtain⟨rfl,rfl⟩:=h;have hT:=DV km hi;simp only[zA] at J;rw[zC rfl] at J;simp only[AN] at J;obtain⟨b,o,us,I,h1,h2⟩:=J;injection I with I _;subst I;obtain⟨u,h3,h4⟩:=eM hT (yT4 h2) (CO h1);exact⟨u,h3,by simp only[zA];exact⟨us,h1,h4⟩⟩)|_=>simp[yL] at h)|ref s τ q=>simp only[yL] at h;(cases k with|box τ' k=>simp only at h;(cases C:(Ty.beq τ' τ&&c.is T (τ.pty q)&&AVal.fits (τ.pty q) (k.at q)) with|false=>simp[C] at h|true=>simp only[C,jE,jA,jG] at h;obtain⟨rfl,rfl⟩:=h;simp only[jB] at C;have e:=Ty.eq_of_beq C.1.1;subst e;have hT:=DV km C.1.2;obtain⟨u,hu⟩:=hk s rfl;obtain⟨⟨kz,gD⟩,cur,e,h1,h2,h3⟩:=N0 hu;simp only[zA] at J;obtain⟨ib,rfl⟩:=J;obtain⟨h4,h5,h6,h7⟩:=Ny kz gD ib h2;obtain⟨u,h8,h9⟩:=eM hT (yT5 h1 _ _) (zB h4);exact⟨u,h8,yF h4 h7 h9⟩)|_=>simp at h)|eref s U t i q=>simp only[yL] at h;(cases k with|ownh t' l U' j V m=>simp only at h;(cases C:(Ty.beq (.sl t') t&&Nat.beq U' U&&c.is T (.sl t')&&q.isEmpty&&!(Nat.beq U' V)) with|false=>simp only[C,jD] at h;cases h|true=>simp only[C,jE,jA,jG] at h;obtain⟨rfl,rfl⟩:=h;simp only[jB] at C;obtain⟨C,hUV⟩:=C;have e:=Ty.eq_of_beq C.1.1.1;subst e;have e:=jC C.1.1.2;subst e;have hq:q=[]:=List.isEmpty_iff.1 C.2;subst hq;have hT:=DV km C.1.2;obtain⟨u,hu⟩:=hk s rfl;simp only[zA] at hu J;obtain⟨hx0,ib,rfl⟩:=J;obtain⟨gz,hi⟩:=hp _ (jH.2 rfl);(have gU:i.toNat<length (α:=List t'.den) l:=by omega);obtain⟨I,⟨he,_⟩ | ⟨kj,⟨_,h0⟩ | ⟨cap,cur,e,h1,h2,h3,h4,h5,h6,h7⟩⟩⟩:=hu;subst he;simp at hUV;rw[h0] at gU;simp at gU;obtain⟨u1,hu1,hr⟩:=h7 i.toNat _ (jL gU);rw[if_pos gz] at hr;(have iR:w.rangeAt (G.γ U') (i.toNat*(Ty.sl t').size+(Ty.sl t').poff []) [u1]:=by intro k v I;cases k with|zero=>simp at I;subst I;simp only[Ty.size,Ty.poff,cell?,h2];simpa using hu1|succ k=>simp at I);obtain⟨u2,h13,R⟩:=eM hT iR rfl;refine⟨u2,h13,?_⟩;simp only[Io,Ty.isAgg,jD] at R;injection R with R _;subst R;simp only[zA];refine .inl ?_;rw[<-gz,jM,jL gU];exact hr)|own t' l U' m=>simp only at h;(cases C:(Ty.beq t' t&&Nat.beq U' U&&c.is T (t.pty q)&&AVal.fits (t.pty q) ((AVal.val t' (getD (α:=t'.den) l i.toNat t'.dflt)).at q)) with|false=>simp only[C,jD] at h;cases h|true=>simp only[C,jE,jA,jG] at h;obtain⟨rfl,rfl⟩:=h;simp only[jB] at C;have e:=Ty.eq_of_beq C.1.1.1;subst e;have e:=jC C.1.1.2;subst e;have hT:=DV km C.1.2;obtain⟨u,hu⟩:=hk s rfl;simp only[zA] at hu J;obtain⟨hx0,ib,rfl⟩:=J;have hi:=hp _ (jH.2 rfl);(have gU:i.toNat<l.length:=by omega);obtain⟨⟨kz,gD⟩,hu⟩:=EE hu (yZ ib hT);rcases hu with ⟨_,rfl⟩ | ⟨cap,cur,e,us,_,h2,h3,h4,h5,h6,h7,h8⟩;simp at gU;have qp:=FU (k:=t'.size) (λ_ _ h=>CO h) h6;have hg:=eH (k:=t'.size) (λ_ _ h=>CO h) t'.dflt h6 gU;(have kN:i.toNat*t'.size+t'.size<=l.length*t'.size:=by rw[<-succ_mul];exact jS _ (by omega));(have gM:AF G w t' (.val t' (getD (α:=t'.den) l i.toNat t'.dflt)) (seg us (i.toNat*t'.size) t'.size):=by simp only[AF];exact⟨trivial,gD,hg⟩);obtain⟨h9,h10,h11,h12⟩:=Ny kz gD ib gM;rw[Wp _ _ _ _ _ h10] at h9;(have hr:w.rangeAt (G.γ U') (i.toNat*t'.size+t'.poff q) (seg us (i.toNat*t'.size+t'.poff q) (t'.pty q).size):=by intro j v I;rw[seg_getElem?] at I;split at I;rw[<-h7,List.getElem?_take] at I;split at I;simp only[cell?,h2];simpa using I;cases I;cases I);obtain⟨u,h13,R⟩:=eM hT hr (zB h9);exact⟨u,h13,yF h9 h12 R⟩)|_=>simp at h)|_=>simp[yL] at h
variable {P:Program}{c:Ctx}{G:Gh}{w:World}{tm:Array Value}
theorem S3{x:t.den}(j:AN G.χ w t x us)(C:KZ G.χ w b o us):zA G w tm s (.val (.ptr t) x) (.pointer (some ⟨b,o,none⟩)):=by refine (zC rfl).2 ?_;exact⟨b,o,us,rfl,j,C⟩
theorem N1{l:List t.den}{i:Nat}(h:C6 (AN χ w t) l us)(hi:i<l.length):AN χ w t (l.getD i t.dflt) (seg us (i*t.size) t.size):=eH (R:=AN χ w t) (k:=t.size) (λ_ _ h=>CO h) t.dflt h hi
theorem xJ1 (s:List UInt8)(n:Nat)(h:n<s.length):((⟨s.toArray⟩:ByteArray))[n]?=some (s.getD n 0):=by rw[jM,jL h];rw[getElem?_pos (c:=(⟨s.toArray⟩:ByteArray)) (i:=n) (by grind [ByteArray.size])];rfl
theorem LP(h:AY P τ (.inl T))(w:World):(sizeOf T).run P w=.ok τ.size w:=by obtain⟨⟨i,z,hi,j,_⟩,_⟩:=GP h;simp_all [sizeOf,typeInfo]
theorem eN(h:KZ χ w b o us)(q n:Nat):KZ χ w b (o+q) (seg us q n):=by intro j v C;rw[seg_getElem?] at C;split at C;have:=h _ _ C;grind;grind
theorem eP{p:Fq}:∀{τ:Ty}{x:Nat ⊕ Int},E2 τ p->τ.poff (p++[x])=τ.poff p+(τ.pty p).poff [x]:=by induction p with|nil=>grind [Ty.poff,Ty.pty]|cons y p j=>intro τ x h;rcases y with k|i;cases τ<;>simp only[E2] at h;simp[Ty.pty,Ty.poff];rw[j h.2];omega;cases τ<;>simp only[E2] at h;simp[Ty.pty,Ty.poff];rw[j h.2.2];omega
theorem eQ{p:Fq}:∀{τ:Ty}{x:Nat ⊕ Int},E2 τ p->E2 (τ.pty p) [x]->E2 τ (p++[x]):=by induction p with|nil=>intro τ x _ h;exact h|cons y p j=>intro τ x h C;rcases y with k|i;cases τ<;>simp only[E2] at h;exact⟨h.1,j h.2 C⟩;cases τ<;>simp only[E2] at h;exact⟨h.1,h.2.1,j h.2.2 C⟩
theorem zU3{k:Nat}(C:AY P (.st f) (.inl T))(I:k<f.flen)(hs:0<(f.fty k).size)(w:World):(fieldAt T (.pointer (some ⟨b,o,none⟩)) k).run P w=.ok (.pointer (some ⟨b,o+f.foff k,none⟩)) w:=by obtain⟨fs,J,R⟩:=OY C;obtain⟨fd,j,h4,h5,_⟩:=zY0 R I;rw[Array.getElem?_toList] at j;have h6:=LP h5 w;simp[fieldAt,run_underlying J w,j,sureAddr,fieldPlace,h6];rw[if_neg (by omega)];simp[Addr.add_mid,h4]
theorem yB5(km:E3 P c.tys){k:Nat}(C:zA G w tm none x v)(h:Nk c T x k=some (p,A)):∃u,(fieldAt T v k).run P w=.ok u w/\zA G w tm none A u:=by cases x with|val τ x=>(cases τ with|ptr t=>(cases t with|st f=>simp only[Nk] at h;(cases hi:(c.is T (.st f)&&blt k f.flen&&blt 0 (f.fty k).size) with|false=>grind|true=>simp[hi] at h;obtain⟨rfl,rfl⟩:=h;simp only[jB] at hi;have I:=DV km hi.1.1;have j:k<f.flen:=jR hi.1.2;have J:0<(f.fty k).size:=jR hi.2;simp only[zA] at C;rw[zC rfl] at C;obtain⟨b,o,us,R,h1,h2⟩:=C;injection R with R _;subst R;refine⟨_,zU3 I j J w,?_⟩;exact S3 (eL j h1) (eN h2 _ _))|_=>grind [Nk])|_=>grind [Nk])|ref s τ q=>simp only[Nk] at h;split at h;rename_i f hf;(cases hi:(c.is T (.st f)&&blt k f.flen&&blt 0 (f.fty k).size) with|false=>grind|true=>simp[hi] at h;obtain⟨rfl,rfl⟩:=h;simp only[jB] at hi;have I:=DV km hi.1.1;have j:k<f.flen:=jR hi.1.2;have J:0<(f.fty k).size:=jR hi.2;obtain⟨hq,rfl⟩:=C;refine⟨_,zU3 I j J w,?_⟩;refine⟨eQ hq (by grind [E2]),?_⟩;grind [eP,Ty.poff]);grind|eref s U t i q=>simp only[Nk] at h;split at h;rename_i f hf;(cases hi:(c.is T (.st f)&&blt k f.flen&&blt 0 (f.fty k).size) with|false=>grind|true=>simp[hi] at h;obtain⟨rfl,rfl⟩:=h;simp only[jB] at hi;have I:=DV km hi.1.1;have j:k<f.flen:=jR hi.1.2;have J:0<(f.fty k).size:=jR hi.2;obtain⟨h0,hq,rfl⟩:=C;refine⟨_,zU3 I j J w,?_⟩;refine⟨h0,eQ hq (by grind [E2]),?_⟩;grind [eP,Ty.poff,add_assoc]);grind|_=>grind [Nk]
variable {y:Operand}{i:Int}
theorem La{n:Int}(h:∀q∈Jc y i n,q):0<=i/\i<n:=by unfold Jc at h;split at h<;>exact h _ (jH.2 rfl)
variable {cap:Nat}
theorem S4{a:Option Addr}(j:AY P (.sl t) (.inl T))(J:a=some ⟨b,o,none⟩)(hi:0<=i/\i<(n:Int))(w:World):(indexAt T (.slice a n cap) (.int k i)).run P w=.ok (.pointer (some ⟨b,o+i.toNat*t.size,none⟩)) w:=by obtain⟨e,C,I⟩:=GQ j;have R:=LP I w;simp[indexAt,asIntOf,run_underlying C w];simp_all [Addr.add_mid]
theorem zL(j:AY P (.arr n t) (.inl T))(hi:0<=i/\i<(n:Int))(w:World):(indexAt T (.pointer (some ⟨b,o,none⟩)) (.int k i)).run P w=.ok (.pointer (some ⟨b,o+i.toNat*t.size,none⟩)) w:=by obtain⟨e,C,I⟩:=zS j;have J:=LP I w;simp[indexAt,asIntOf,run_underlying C w,sureAddr];simp_all [Addr.add_mid]
variable {oy:Operand}
theorem yB6(km:E3 P c.tys){s:Nat}{y:AVal}(C:zA G w tm none x v)(hy:zA G w tm none y u)(h:dF c T x s y oy=some (p,A))(hp:∀q∈p,q):∃r,(indexAt T v u).run P w=.ok r w/\zA G w tm none A r:=by (have J:∀k (i:Int),y=.val (.int k) i->u=.int k i:=by rintro k i rfl;simp only[zA] at hy;exact VRep_int.1 hy);unfold dF at h;split at h;rename_i t l k i;have:=J _ _ rfl;subst this;(cases hi:c.is T (.sl t) with|false=>simp[hi] at h|true=>simp only[hi,jE,jA,jG] at h;obtain⟨rfl,rfl⟩:=h;have hb:=La hp;have I:=DV km hi;simp only[zA] at C;rw[zC rfl] at C;simp only[AN] at C;obtain⟨a,cap,R,C⟩:=C;injection R with R _;subst R;rcases C with rfl|⟨b,o,us,ha,h1,h2,h3⟩;simp at hb;omega;refine⟨_,S4 I ha hb w,?_⟩;exact S3 (N1 h2 (by omega)) (eN h3 _ _));rename_i t l U m k i;have:=J _ _ rfl;subst this;(cases hi:c.is T (.sl t) with|false=>simp[hi] at h|true=>simp only[hi,jE] at h;have I:=DV km hi;cases m with|true=>simp only[jE,jA,jG] at h;obtain⟨rfl,rfl⟩:=h;have hb:=La hp;simp only[zA] at C;rcases (EE C (eC I)).2 with ⟨_,rfl⟩ | ⟨cap,cur,e,us,rfl,h2,h3,h4,h5,h6,h7,h8⟩;simp at hb;omega;refine⟨_,S4 I rfl hb w,?_⟩;simp only[zA];exact⟨hb.1,trivial,by simp[Ty.poff]⟩|false=>simp only[jD,jA,jG] at h;obtain⟨rfl,rfl⟩:=h;have hb:=La hp;simp only[zA] at C;have gm:=Gl C;simp only[AN] at gm;obtain⟨a,cap,R,hx3⟩:=gm;injection R with R _;subst R;rcases hx3 with he|⟨b,o,us,ha,h1,h2,h3⟩;rw[he] at hb;simp at hb;omega;refine⟨_,S4 I ha hb w,?_⟩;exact S3 (N1 h2 (by omega)) (eN h3 _ _));rename_i t l U j V m k i;have:=J _ _ rfl;subst this;(cases hi:(c.is T (.sl (.sl t))&&(m||!(Nat.beq U V))) with|false=>simp only[hi,jD,reduceCtorEq] at h|true=>simp only[hi,jE,jA,jG] at h;obtain⟨rfl,rfl⟩:=h;simp only[jB] at hi;obtain⟨hi,hUV⟩:=hi;have I:=DV km hi;have hb:=La hp;simp only[zA] at C;obtain⟨_,⟨he,⟨rfl,_⟩ | ⟨_,⟨_,rfl⟩ | ⟨cap,cur,e,rfl,_⟩⟩⟩ | ⟨_,⟨_,rfl⟩ | ⟨cap,cur,e,rfl,_⟩⟩⟩:=C;subst he;simp at hUV;simp at hb;omega;refine⟨_,S4 I rfl hb w,?_⟩;simp only[zA];exact⟨hb.1,trivial,by simp[Ty.poff]⟩;simp at hb;omega;refine⟨_,S4 I rfl hb w,?_⟩;simp only[zA];exact⟨hb.1,trivial,by simp[Ty.poff]⟩);rename_i n t l k i;have:=J _ _ rfl;subst this;(cases hi:c.is T (.arr n t) with|false=>simp[hi] at h|true=>simp only[hi,jE,jA,jG] at h;obtain⟨rfl,rfl⟩:=h;have hb:=La hp;have I:=DV km hi;simp only[zA] at C;rw[zC rfl] at C;simp only[AN] at C;obtain⟨b,o,us,R,⟨h1,h2⟩,h3⟩:=C;injection R with R _;subst R;refine⟨_,zL I hb w,?_⟩;exact S3 (N1 h2 (by omega)) (eN h3 _ _));rename_i s' τ q k i;have:=J _ _ rfl;subst this;split at h;rename_i n t hf;(cases hi:c.is T (.arr n t) with|false=>simp[hi] at h|true=>simp only[hi,jE,jA,jG] at h;obtain⟨rfl,rfl⟩:=h;have hb:=La hp;have I:=DV km hi;simp only[zA] at C;obtain⟨hq,rfl⟩:=C;refine⟨_,zL I hb w,?_⟩;simp only[zA];refine⟨eQ hq (by rw[hf];simp only[E2];exact⟨hb.1,hb.2,trivial⟩),?_⟩;rw[eP hq,hf];simp[Ty.poff]);cases h;rename_i s' U t' j q k i;have:=J _ _ rfl;subst this;split at h;rename_i n t hf;(cases hi:c.is T (.arr n t) with|false=>simp[hi] at h|true=>simp only[hi,jE,jA,jG] at h;obtain⟨rfl,rfl⟩:=h;have hb:=La hp;have I:=DV km hi;simp only[zA] at C;obtain⟨h0,hq,rfl⟩:=C;refine⟨_,zL I hb w,?_⟩;simp only[zA];refine⟨h0,eQ hq (by rw[hf];simp only[E2];exact⟨hb.1,hb.2,trivial⟩),?_⟩;rw[eP hq,hf];simp[Ty.poff,add_assoc]);cases h;cases h
theorem Pb(j:AY P τ (.inl T))(R:o+τ.size<=us.length)(w:World):∃u,(part T us.toArray o).run P w=.ok u w/\Io τ (seg us o τ.size) u:=by obtain⟨⟨i,z,hi,hs,_⟩,d,hu,C⟩:=GP j;unfold part Io;rw[run_bind,yF0 hu w,C];cases I:τ.isAgg with|true=>simp[LP j w,seg]|false=>have h1:=yZ2 j I;(have J:o<us.length:=by omega);refine⟨us[o],?_,?_⟩;simp_all;apply ext_getElem?;grind [seg_getElem?,jL]
theorem yP1(km:E3 P c.tys){y:AVal}(I:zA G w tm none x v)(hy:zA G w tm none y u)(h:xH2 c T x y oy=some (p,A))(J:∀q∈p,q):∃r,(Instr.index T v u).run P w=.ok r w/\zA G w tm none A r:=by (have C:∀k (i:Int),y=.val (.int k) i->u=.int k i:=by grind [zA,VRep_int]);unfold xH2 at h;split at h;rename_i s k i;(cases hi:c.is T .str with|false=>grind|true=>simp[hi] at h;obtain⟨rfl,rfl⟩:=h;have hb:=La J;have R:=Nw (DV km hi);have hv:=VRep_str.1 I;(have j:i.toNat<length (α:=UInt8) s:=by omega);have hg:=xJ1 s i.toNat j;refine⟨.int .u8 ((getD (α:=UInt8) s i.toNat 0).toNat:Int),?_,?_⟩;simp_all [Instr.index,asIntOf,run_underlying];exact VRep_int.2 rfl);rename_i n t l k i;have:=C _ _ rfl;subst this;(cases hi:c.is T (.arr n t) with|false=>grind|true=>simp[hi,jE,jA,jG] at h;obtain⟨rfl,rfl⟩:=h;have hb:=La J;have R:=DV km hi;obtain⟨e,h1,h2⟩:=zS R;obtain⟨vs,rfl,gm⟩:=(Jo rfl).1 I;simp only[AN] at gm;have hlen:=FU (k:=t.size) (λ_ _ h=>CO h) gm.2;(have j:i.toNat<length (α:=t.den) l:=by omega);(have hle:i.toNat*t.size+t.size<=vs.length:=by rw[hlen,<-succ_mul];exact jS _ (by omega));obtain⟨r,h3,h4⟩:=Pb h2 hle w;refine⟨r,?_,?_⟩;simp[Instr.index,asIntOf,run_underlying h1 w];grind [run_bind,andThen_ok,LP];exact⟨_,N1 gm.2 j,h4⟩);grind
theorem yP2(km:E3 P c.tys){k:Nat}(C:zA G w tm none x v)(h:xH3 c T x k=some (p,A)):∃u,(field T v k).run P w=.ok u w/\zA G w tm none A u:=by unfold xH3 at h;split at h;rename_i f x;(cases hi:(c.is T (.st f)&&blt k f.flen) with|false=>grind|true=>simp[hi] at h;obtain⟨rfl,rfl⟩:=h;simp only[jB] at hi;have J:=DV km hi.1;have j:k<f.flen:=jR hi.2;obtain⟨fs,h1,R⟩:=OY J;obtain⟨fd,h3,h4,I,_⟩:=zY0 R j;obtain⟨vs,rfl,gm⟩:=(Jo rfl).1 C;simp only[AN] at gm;have hle:=Ws j;have gw:=CO gm;obtain⟨u,h6,h7⟩:=Pb I (o:=f.foff k) (us:=vs) (by omega) w;refine⟨u,?_,?_⟩;simp_all [field,run_underlying,asAgg];exact⟨_,eL j gm,h7⟩);rename_i f a;(cases hi:(c.is T (.st f)&&blt k f.flen) with|false=>grind|true=>simp[hi] at h;obtain⟨rfl,rfl⟩:=h;simp only[jB] at hi;have J:=DV km hi.1;have j:k<f.flen:=jR hi.2;obtain⟨fs,h1,R⟩:=OY J;obtain⟨fd,h3,h4,I,_⟩:=zY0 R j;obtain⟨vs,rfl,C⟩:=C;have hle:=Ws j;have gw:=zB C;obtain⟨u,h6,h7⟩:=Pb I (o:=f.foff k) (us:=vs) (by omega) w;refine⟨u,?_,yF (yM j C) (FV I) h7⟩;simp_all [field,run_underlying,asAgg]);grind
variable {P:Program}{c:Ctx}{G:Gh}{w:World}{tm:Array Value}
theorem zT9{xs:List Value}(h:seg xs o n=us++vs)(j:us.length+vs.length=n):seg xs o us.length=us/\seg xs (o+us.length) vs.length=vs:=by
 constructor
 ·grind [Wp,eE]
 ·have:=Wp xs o n us.length vs.length (by omega);have C:=zW0 us vs 0 vs.length
  grind [eD]
theorem yH7:∀{τ:Ty},
  (∀{T d:Nat}{x y:Value}{a b:τ.den},AY P τ (.inl T)->τ.cmp->τ.ht<=d->DO G.χ w τ a x->DO G.χ w τ b y->(equalIn (d+1) T x y).run P w=.ok (τ.eqb a b) w) /\
  (∀{fs:List Field}{o d:Nat}{xs ys:List Value}{a b:τ.den},AY P τ (.inr (fs,o))->τ.cmp->τ.ht<=d->o+τ.size<=xs.length->o+τ.size<=ys.length ->
   AN G.χ w τ a (seg xs o τ.size)->AN G.χ w τ b (seg ys o τ.size)->(Op.eqFields (d+1) xs.toArray ys.toArray fs).run P w=.ok (τ.eqb a b) w):=by
 intro τ
 induction τ with
 |int k =>
  refine⟨?_,λh=>by simp[AY] at h⟩;intro T d x y a b hT _ _ hx hy;rw[VRep_int.1 hx,VRep_int.1 hy];exact run_equalIn_int w d T k k a b (eB hT)
 |bool =>
  refine⟨?_,λh=>by simp[AY] at h⟩;intro T d x y a b hT _ _ hx hy;rw[VRep_bool.1 hx,VRep_bool.1 hy];exact run_equalIn_bool w d T a b (yO7 hT)
 |str =>
  refine⟨?_,λh=>by simp[AY] at h⟩;intro T d x y a b hT _ _ hx hy;rw[VRep_str.1 hx,VRep_str.1 hy,run_equalIn_string w d T _ _ (Nw hT)];simp only[ByteArray.toList_eq,Ty.eqb]
 |nl =>
  refine⟨λh=>by simp[AY] at h,?_⟩;intro fs o d xs ys a b hT _ _ _ _ _ _;cases fs with
  |nil=>simp[Op.eqFields,Ty.eqb]
  |cons f fs=>simp[AY] at hT
 |cons h t ihh qd =>
  refine⟨λh=>by simp[AY] at h,?_⟩;intro fs o d xs ys a b hT hc hd hlx hly hx hy;cases fs with
  |nil=>simp[AY] at hT
  |cons fd r =>
   simp only[AY,jB] at hT;obtain⟨⟨⟨h1,h2⟩,h3⟩,h4⟩:=hT;have h1:=jC h1;simp only[Ty.cmp,jB] at hc;simp only[Ty.ht] at hd;simp only[Ty.size] at hlx hly hx hy;simp only[AN] at hx hy;obtain⟨us,ws,e1,hu,hw⟩:=hx;obtain⟨us',ws',e2,gI,nb⟩:=hy;have l1:=CO hu;have l2:=CO hw;have l3:=CO gI;have l4:=CO nb;obtain⟨s1,s2⟩:=zT9 e1 (by omega);obtain⟨s3,s4⟩:=zT9 e2 (by omega);obtain⟨p1,q1,q2⟩:=Pb h3 (o:=o) (us:=xs) (by omega) w;obtain⟨p2,q3,q4⟩:=Pb h3 (o:=o) (us:=ys) (by omega) w;have hn:fd.name≠"_":=by simpa using h2
   obtain⟨ihh1,_⟩:=ihh;obtain⟨_,iht2⟩:=qd;have he:=ihh1 (d:=d) (x:=p1) (y:=p2) (a:=a.1) (b:=b.1) h3 hc.1 (by omega) ⟨us,hu,by rw[<-s1,l1];exact q2⟩ ⟨us',gI,by rw[<-s3,l3];exact q4⟩;have hr:=iht2 (fs:=r) (o:=o+h.size) (d:=d) (xs:=xs) (ys:=ys) (a:=a.2) (b:=b.2) h4 hc.2 (by omega) (by omega) (by omega) (by rw[<-l2,<-l1,s2];exact hw) (by rw[<-l4,<-l3,s4];exact nb);simp only[Op.eqFields,hn,ne_eq,not_false_eq_true,if_true,h1,run_bind,q1,q3,andThen_ok,he,Ty.eqb];cases hb:h.eqb a.1 b.1 with
   |true=>simpa using hr
   |false=>simp
 |st f ih =>
  refine⟨?_,λh=>by simp[AY] at h⟩;intro T d x y a b hT hc hd hx hy;obtain⟨fs,h1,h2⟩:=OY hT;obtain⟨xs,rfl,gj⟩:=(Jo rfl).1 hx;obtain⟨ys,rfl,hy'⟩:=(Jo rfl).1 hy;clear hx hy;have hx:=gj;have hy:=hy';clear gj hy';simp only[AN] at hx hy;have l1:=CO hx;have l2:=CO hy;simp only[Ty.ht] at hd;have hfo:P.fieldsOf T=fs:=by simp[Program.fieldsOf,h1]
  have hu:P.underlying T=some (.struct (P.fieldsOf T)):=by rw[hfo];exact h1
  rw[run_equalIn_struct w d T _ _ hu (xB9 hT),hfo];obtain⟨d',rfl⟩:∃d',d=d'+1:=⟨d-1,by omega⟩;obtain⟨_,ih2⟩:=ih;exact ih2 (d:=d') h2 hc (by omega) (by omega) (by omega) (by rw[<-l1,eD];exact hx) (by rw[<-l2,eD];exact hy)
 |arr n t ih =>
  refine⟨?_,λh=>by simp[AY] at h⟩;intro T d x y a b hT hc hd hx hy;obtain⟨e,h1,h2⟩:=zS hT;obtain⟨xs,rfl,gj⟩:=(Jo rfl).1 hx;obtain⟨ys,rfl,hy'⟩:=(Jo rfl).1 hy;clear hx hy;have hx:=gj;have hy:=hy';clear gj hy';simp only[AN] at hx hy;simp only[Ty.ht] at hd;simp only[Ty.cmp] at hc;obtain⟨⟨i,z,hi,hs,_⟩,_⟩:=GP h2;rw[run_equalIn_array w d _ _ h1 hi];obtain⟨d',rfl⟩:∃d',d=d'+1:=⟨d-1,by omega⟩;have hce:P.cellsOf e=t.size:=by simp[Program.cellsOf,hi,hs]
  rw[hce];have l1:=FU (k:=t.size) (λ_ _ h=>CO h) hx.2;have l2:=FU (k:=t.size) (λ_ _ h=>CO h) hy.2;obtain⟨ih1,_⟩:=ih;have key:∀is:List Nat,(∀j∈is,j<n)->(eqItems (d'+1) e t.size xs.toArray ys.toArray is).run P w=.ok (is.all λi=>t.eqb (getD (α:=t.den) a i t.dflt) (getD (α:=t.den) b i t.dflt)) w:=by
   intro is
   induction is with
   |nil=>intro _;simp[eqItems]
   |cons j is ihl =>
    intro hj;have hjn:j<n:=hj j (by simp);have hle:j*t.size+t.size<=n*t.size:=by rw[<-succ_mul];exact jS _ (by omega)
    obtain⟨p1,q1,q2⟩:=Pb h2 (o:=j*t.size) (us:=xs) (by rw[l1,hx.1];exact hle) w;obtain⟨p2,q3,q4⟩:=Pb h2 (o:=j*t.size) (us:=ys) (by rw[l2,hy.1];exact hle) w;have he:=ih1 (d:=d') (x:=p1) (y:=p2) (a:=getD (α:=t.den) a j t.dflt) (b:=getD (α:=t.den) b j t.dflt) h2 hc (by omega)
     ⟨_,N1 hx.2 (by rw[hx.1];exact hjn),q2⟩ ⟨_,N1 hy.2 (by rw[hy.1];exact hjn),q4⟩
    have hr:=ihl (λk hk=>hj k (by simp[hk]));simp only[eqItems,run_bind,q1,q3,andThen_ok,he];rw[all_cons];cases hb:t.eqb (getD (α:=t.den) a j t.dflt) (getD (α:=t.den) b j t.dflt) with
    |true=>simpa using hr
    |false=>simp
  exact key (range n) (λj hj=>by simpa using hj)
 |sl t _=>exact⟨λ_ h=>by simp[Ty.cmp] at h,λh=>by simp[AY] at h⟩
 |ptr t _=>exact⟨λ_ h=>by simp[Ty.cmp] at h,λh=>by simp[AY] at h⟩
variable {P:Program}{c:Ctx}{G:Gh}{w:World}{tm:Array Value}
variable {wr:Bool}
theorem S5{r:Int}(h:∀q∈(JM wr k r).1,q):zA G w tm none (JM wr k r).2 (.int k (k.wrap r)):=by unfold JM at h ⊢;cases j:(!wr&&xV8 k) with|true=>simp only[j] at h ⊢;(have C:k=.i64:=by grind [xV8]);have I:=h _ (jH.2 rfl);subst C;rw[IntWalk.i64_in r I];exact VRep_int.2 rfl|false=>exact VRep_int.2 rfl
variable {a:Act}
theorem yF2{n:Int}{b:Int}(h:VY y=some n)(j:a.eval y=.int k b):n=b:=by unfold VY at h;grind [Act.eval,Value.int.injEq]
theorem zW3{b:Int}(j:a.eval y=.int k b)(h:∀q∈dD y b,q):b≠0:=by unfold dD at h;split at h;rename_i n C;have:=yF2 C j;subst this;intro he;simp_all;exact h _ (jH.2 rfl)
theorem zZ6{b:Int}(j:a.eval y=.int k b)(h:∀q∈dE y b,q):0<=b:=by unfold dE at h;split at h;(·rename_i n C;have:=yF2 C j;subst this;by_cases he:0<=n;all_goals simp_all);(·exact h _ (jH.2 rfl))
variable {op:BinOp}{k':IntKind}
theorem zL0{x:Operand}{a b:Int}(w:World):(eqGuard op T x y (.int k a) (.int k' b)).run P w=.ok () w:=by simp_all [eqGuard]
theorem yF3{x:Operand}{a b:ByteArray}(w:World):(eqGuard op T x y (.string a) (.string b)).run P w=.ok () w:=by simp_all [eqGuard]
theorem yB7{x:Operand}{a b:Bool}(w:World):(eqGuard op T x y (.bool a) (.bool b)).run P w=.ok () w:=by simp_all [eqGuard]
theorem zD{n:Int}:zA G w tm s (.val (.int k) n) (.int k n):=by exact VRep_int.2 rfl
theorem FW{b:Bool}:zA G w tm s (.val .bool b) (.bool b):=by exact VRep_bool.2 rfl
theorem yM0{b:List UInt8}:zA G w tm s (.val .str b) (.string ⟨b.toArray⟩):=by exact VRep_str.2 rfl
variable {β:Type}
theorem yT7{x:α×β}{p:α}{A:β}(h:x=(p,A)):x.1=p/\x.2=A:=by grind
variable {ac:Act}
theorem yP3{a b:Int}(C:ac.eval oy=.int k b)(J:yT0 op=false)(h:xH0 wr op k a b oy=some (p,A))(j:∀q∈p,q):∃r,(binOp op T (.int k a) (.int k b)).run P w=.ok r w/\zA G w tm none A r:=by cases op<;>simp[xH0,jA] at h;(case add=>obtain⟨rfl,rfl⟩:=yT7 h;exact⟨_,by simp[binOp,Op.intArith],S5 j⟩);(case sub=>obtain⟨rfl,rfl⟩:=yT7 h;exact⟨_,by simp[binOp,Op.intArith],S5 j⟩);(case mul=>obtain⟨rfl,rfl⟩:=yT7 h;exact⟨_,by simp[binOp,Op.intArith],S5 j⟩);(case quo=>obtain⟨rfl,rfl⟩:=h;have hb:=zW3 C (λq I=>j q (List.mem_append_left _ I));exact⟨_,by simp[binOp,Op.intDiv,hb],S5 (λq I=>j q (List.mem_append_right _ I))⟩);(case rem=>obtain⟨rfl,rfl⟩:=h;have hb:=zW3 C j;exact⟨_,by simp[binOp,Op.intDiv,hb],zD⟩);(case and=>obtain⟨rfl,rfl⟩:=h;exact⟨_,by simp only[binOp];rw[if_neg (by simp)];rfl,zD⟩);(case or=>obtain⟨rfl,rfl⟩:=h;exact⟨_,by simp only[binOp];rw[if_neg (by simp)];rfl,zD⟩);(case xor=>obtain⟨rfl,rfl⟩:=h;exact⟨_,by simp only[binOp];rw[if_neg (by simp)];rfl,zD⟩);(case andNot=>obtain⟨rfl,rfl⟩:=h;exact⟨_,by simp only[binOp];rw[if_neg (by simp)];rfl,zD⟩);(case eql=>obtain⟨rfl,rfl⟩:=h;exact⟨_,by simp[binOp,intCmp],FW⟩);(case neq=>obtain⟨rfl,rfl⟩:=h;exact⟨_,by simp[binOp,intCmp],FW⟩);(case lss=>obtain⟨rfl,rfl⟩:=h;exact⟨_,by simp[binOp,intCmp],FW⟩);(case leq=>obtain⟨rfl,rfl⟩:=h;exact⟨_,by simp[binOp,intCmp],FW⟩);(case gtr=>obtain⟨rfl,rfl⟩:=h;exact⟨_,by simp[binOp,intCmp],FW⟩);(case geq=>obtain⟨rfl,rfl⟩:=h;exact⟨_,by simp[binOp,intCmp],FW⟩);all_goals grind
theorem yH8{a b:Int}(j:ac.eval oy=.int k' b)(h:yK9 wr op k a b oy=some (p,A))(C:∀q∈p,q):∃r,(binOp op T (.int k a) (.int k' b)).run P w=.ok r w/\zA G w tm none A r:=by cases op<;>simp[yK9] at h;(case shl=>obtain⟨rfl,rfl⟩:=h;have hb:=zZ6 j (λq I=>C q (List.mem_append_left _ I));exact⟨_,by simp[binOp,Op.shift,Int.not_lt.2 hb],S5 (λq I=>C q (List.mem_append_right _ I))⟩);(case shr=>obtain⟨rfl,rfl⟩:=h;have hb:=zZ6 j C;exact⟨_,by simp[binOp,Op.shift,Int.not_lt.2 hb],zD⟩);all_goals grind
theorem yP4{a b:List UInt8}(h:xH1 op a b=some (p,A))(j:∀q∈p,q):∃r,(binOp op T (.string ⟨a.toArray⟩) (.string ⟨b.toArray⟩)).run P w=.ok r w/\zA G w tm none A r:=by cases op<;>simp[xH1,jA,jG] at h;(case add=>obtain⟨rfl,rfl⟩:=h;have hb:=j _ (jH.2 rfl);refine⟨.string ⟨(a++b).toArray⟩,?_,yM0⟩;(have e:(⟨a.toArray⟩++⟨b.toArray⟩:ByteArray)=⟨(a++b).toArray⟩:=by apply ByteArray.ext;simp_all);simp_all [ByteArray.size,binOp,stringOp]);(case eql=>obtain⟨rfl,rfl⟩:=h;exact⟨_,by simp_all [binOp,stringOp],FW⟩);(case neq=>obtain⟨rfl,rfl⟩:=h;exact⟨_,by simp_all [binOp,stringOp],FW⟩);(case lss=>obtain⟨rfl,rfl⟩:=h;exact⟨_,by simp_all [binOp,stringOp],FW⟩);(case leq=>obtain⟨rfl,rfl⟩:=h;exact⟨_,by simp_all [binOp,stringOp],FW⟩);(case gtr=>obtain⟨rfl,rfl⟩:=h;exact⟨_,by simp_all [binOp,stringOp],FW⟩);(case geq=>obtain⟨rfl,rfl⟩:=h;exact⟨_,by simp_all [binOp,stringOp],FW⟩);all_goals grind
theorem xJ2{a b:τ.den}{x y:Value}(h:τ.eqs)(j:DO χ w τ a x)(C:DO χ w τ b y):(∃p q,x=.bool p/\y=.bool q)\/(∃p q,x=.agg p/\y=.agg q):=by cases τ with|bool=>grind [VRep_bool]|st f=>obtain⟨xs,rfl,_⟩:=(Jo rfl).1 j;obtain⟨ys,rfl,_⟩:=(Jo rfl).1 C;simp_all|arr n t=>obtain⟨xs,rfl,_⟩:=(Jo rfl).1 j;obtain⟨ys,rfl,_⟩:=(Jo rfl).1 C;simp_all|_=>grind [Ty.eqs]
variable {ox:Operand}
theorem yT8(km:E3 P c.tys){y:AVal}(hx:zA G w tm none x v)(hy:zA G w tm none y u)
  (h:xV9 op (c.ty T) x y=some (p,A)):∃r,(do eqGuard op T ox oy v u;binOp op T v u:Sem Value).run P w=.ok r w/\zA G w tm none A r:=by
 unfold xV9 at h;split at h
 ·rename_i a b I ha hb;simp  at I;have J:=Im km T (by grind [Ty.eqs]);have R:=FV J;have j:=Ip ha R hx;have C:=Ip hb R hy;have he:(Op.equal T v u).run P w=.ok ((c.ty T).eqb a b) w:=(yH7 (G:=G) (P:=P) (w:=w)).1 (d:=9999) J I.1 (by grind [xW2]) j C;have tz:=xJ2 I.2 j C;have hg:(eqGuard op T ox oy v u).run P w=.ok () w:=by
   grind [yB7,run_eqGuard_agg,xB8]
  have gB:∀o:BinOp,o=.eql\/o=.neq->(binOp o T v u).run P w=.ok (.bool (if o=.eql then (c.ty T).eqb a b else !((c.ty T).eqb a b))) w:=by
   intro o ho;rcases tz with ⟨p,q,rfl,rfl⟩ | ⟨p,q,rfl,rfl⟩<;>rcases ho with rfl|rfl<;>simp[binOp,he]
  split at h
  ·obtain⟨rfl,rfl⟩:=h;exact⟨_,by rw[run_bind,hg,andThen_ok,gB .eql (.inl rfl)];rfl,FW⟩
  ·obtain⟨rfl,rfl⟩:=h;exact⟨_,by rw[run_bind,hg,andThen_ok,gB .neq (.inr rfl)];rfl,FW⟩
  grind
 grind
theorem yT9(km:E3 P c.tys)(C:zA G w tm none x v)(hu:u=.slice none 0 0)
  (h:xW c op T x=some (p,A)) (J:∀q∈p,q):∃r,(do eqGuard op T ox oy v u;binOp op T v u:Sem Value).run P w=.ok r w/\zA G w tm none A r:=by
 subst hu;unfold xW at h;split at h
 ·rename_i t0 R;have I:=Im km T (by grind);rw[R] at I;obtain⟨e,hu,_⟩:=GQ I;have key:∀(a:Option Addr) n cap (b:Bool) q,b=a.isNone->Nj op q b=some (p,A)->v=.slice a n cap->∃r,(do eqGuard op T ox oy v (.slice none 0 0);binOp op T v (.slice none 0 0):Sem Value).run P w=.ok r w/\zA G w tm none A r:=by
   intro a n cap b q hb j hv;have hg:(eqGuard op T ox oy (.slice a n cap) (.slice none 0 0)).run P w=.ok () w:=by simp_all [eqGuard]
   have he:(Op.equal T (.slice a n cap) (.slice none 0 0)).run P w=.ok b w:=by
    subst hb;have hd:∀d:Nat,(equalIn (d+1) T (.slice a n cap) (.slice none 0 0)).run P w=.ok a.isNone w:=by
     cases a<;>simp[equalIn,run_underlying hu w]
    exact hd 9999
   unfold Nj at j;split at j
   ·obtain⟨rfl,rfl⟩:=j;exact⟨_,by simp_all [binOp],FW⟩
   ·obtain⟨rfl,rfl⟩:=j;exact⟨_,by simp_all [binOp],FW⟩
   grind
  have hq:∀q b,Nj op [q] b=some (p,A)->q:=by
   intro q b j;unfold Nj at j;split at j
   ·obtain⟨rfl,_⟩:=j;exact J _ (jH.2 rfl)
   ·obtain⟨rfl,_⟩:=j;exact J _ (jH.2 rfl)
   grind
  split at h
  ·exact key none 0 0 true _ rfl h C
  ·obtain⟨a,cap,rfl,hb⟩:=C;exact key a 0 cap _ _ hb.symm h rfl
  ·simp only[zA] at C;rw[zC rfl] at C
   grind [AN]
  ·rename_i t l T' m;cases gr:t.isL with
   |true=>grind
   |false =>
   simp[gr] at h;rcases (EE C gr).2 with ⟨_,hl⟩ | ⟨cap,cur,e,us,h1,_⟩
   ·grind
   ·exact key _ _ cap false _ rfl h h1
  grind
 grind
theorem xC0(km:E3 P c.tys){y:AVal}(j:zA G w tm none x v)(C:zA G w tm none y (ac.eval oy))
  (h:wC c op T x y oy=some (p,A)) (I:∀q∈p,q):∃r,(do eqGuard op T ox oy v (ac.eval oy);binOp op T v (ac.eval oy):Sem Value).run P w=.ok r w/\zA G w tm none A r:=by
 unfold wC at h;split at h
 ·rename_i k a k' b;have hv:=VRep_int.1 j;have hu:=VRep_int.1 C;cases J:yT0 op with
  |true =>
   simp[J] at h;obtain⟨r,R,h2⟩:=yH8 (P:=P) (w:=w) (G:=G) (tm:=tm) (T:=T) hu h I
   grind [run_bind,zL0,andThen_ok]
  |false =>
   simp[J] at h;cases hk:Nat.beq (Fx k) (Fx k') with
   |false=>grind
   |true =>
    simp[hk] at h;have:=Ni (jC hk);subst this;obtain⟨r,R,h2⟩:=yP3 (P:=P) (w:=w) (G:=G) (tm:=tm) (T:=T) hu J h I
    grind [run_bind,zL0,andThen_ok]
 ·have hv:=VRep_str.1 j;have hu:=VRep_str.1 C;obtain⟨r,R,h2⟩:=yP4 (P:=P) (w:=w) (G:=G) (tm:=tm) (T:=T) h I
  grind [run_bind,yF3,andThen_ok]
 ·exact yT9 km j C h I
 ·exact yT8 km j C h
theorem xJ3{op:UnOp}(j:zA G w tm none x v)(h:unA c op x=some (p,A))(C:∀q∈p,q):∃r,(Op.unary op v).run P w=.ok r w/\zA G w tm none A r:=by unfold unA at h;split at h;obtain⟨rfl,rfl⟩:=h;rw[VRep_bool.1 j];exact⟨_,by simp[Op.unary],FW⟩;simp at h;rw[VRep_int.1 j];have I:=congrArg Prod.fst h;have J:=congrArg Prod.snd h;subst I;subst J;exact⟨_,rfl,S5 C⟩;obtain⟨rfl,rfl⟩:=h;rw[VRep_int.1 j];exact⟨_,rfl,zD⟩;grind
theorem yU(km:E3 P c.tys){dst:Nat}(I:zA G w tm none x v)(h:xW0 c T dst x=some (p,A)):∃r,(convert T dst v).run P w=.ok r w/\zA G w tm none A r:=by unfold xW0 at h;split at h;rename_i R k k1 n e1 J;obtain⟨rfl,rfl⟩:=h;have j:=Im km T (by grind);have C:=Im km dst (by grind);rw[e1] at j;rw[J] at C;rw[VRep_int.1 I];exact⟨_,by simp[convert,run_underlying (eB j),run_underlying (eB C),Conv.intToInt],zD⟩;obtain⟨rfl,rfl⟩:=h;have j:=Im km T (by grind);have C:=Im km dst (by grind);rw[VRep_str.1 I];exact⟨_,by simp_all [convert,run_underlying,Nw],yM0⟩;grind
theorem xC1(km:E3 P c.tys){ats:Array TypeId}{ty:TypeId}(I:zA G w tm none x v)(h:wC0 c ats.toList x=some (p,A)):∃r,(len_ ats ty #[v]).run P w=.ok r w/\zA G w tm none A r:=by unfold wC0 at h;split at h;rename_i T r e;(have R:ats[0]?=some T:=by rw[<-Array.getElem?_toList,e];rfl);split at h;rename_i s;(cases hi:c.is T .str with|false=>simp[hi] at h|true=>simp only[hi,jE,jA,jG] at h;obtain⟨rfl,rfl⟩:=h;simp only[zA] at I;rw[VRep_str.1 I];exact⟨.int .i64 (length (α:=UInt8) s:Int),by simp[len_,R,run_underlying (Nw (DV km hi)),goInt];rfl,zD⟩);rename_i t l;(cases hi:c.is T (.sl t) with|false=>simp[hi] at h|true=>simp only[hi,jE,jA,jG] at h;obtain⟨rfl,rfl⟩:=h;obtain⟨e',J,h2⟩:=GQ (DV km hi);simp only[zA] at I;have gm:=(zC rfl).1 I;simp only[AN] at gm;obtain⟨a,cap,C,_⟩:=gm;injection C with C _;rw[C];exact⟨_,by simp[len_,R,run_underlying J,goInt],zD⟩);rename_i t l U m;(cases hi:c.is T (.sl t) with|false=>simp[hi] at h|true=>simp only[hi,jE,jA,jG] at h;obtain⟨rfl,rfl⟩:=h;obtain⟨e',J,h2⟩:=GQ (DV km hi);simp only[zA] at I;rcases (EE I (eC (DV km hi))).2 with ⟨C,hl⟩ | ⟨cap,cur,e,us,C,_⟩;rw[C,hl];exact⟨_,by simp[len_,R,run_underlying J,goInt],zD⟩;rw[C];exact⟨_,by simp[len_,R,run_underlying J,goInt],zD⟩);rename_i t l U j V m;(cases hi:(c.is T (.sl (.sl t))&&!(Nat.beq U V)) with|false=>simp[hi] at h|true=>simp only[hi,jE,jA,jG] at h;obtain⟨rfl,rfl⟩:=h;simp only[jB] at hi;obtain⟨hi,hUV⟩:=hi;obtain⟨e',J,h2⟩:=GQ (DV km hi);simp only[zA] at I;obtain⟨_,⟨he,_⟩ | ⟨_,⟨C,hl⟩ | ⟨cap,cur,e,C,_⟩⟩⟩:=I;subst he;simp at hUV;rw[C,hl];exact⟨_,by simp[len_,R,run_underlying J,goInt],zD⟩;rw[C];exact⟨_,by simp[len_,R,run_underlying J,goInt],zD⟩);(cases hi:(c.is T (c.ty T)&&(c.ty T).isSl) with|false=>simp[hi] at h|true=>simp only[hi,jE,jA,jG] at h;obtain⟨rfl,rfl⟩:=h;simp only[jB] at hi;have hT:=DV km hi.1;(obtain⟨t,ht⟩:∃t,c.ty T=.sl t:=by revert hi;cases c.ty T<;>simp[Ty.isSl]);rw[ht] at hT;obtain⟨e',J,h2⟩:=GQ hT;simp only[zA] at I;rw[I];exact⟨_,by simp[len_,R,run_underlying J,goInt],zD⟩);cases h;cases h
variable {P:Program}{c:Ctx}{G:Gh}{w:World}{tm:Array Value}
theorem eR{y:Nat}{code:BoundsCode}(h:0<=i/\i<=(y:Int))(w:World):(Instr.sliceBound (.int k i) y code).run P w=.ok i.toNat w:=by simp[Instr.sliceBound,asIntOf,h]
variable {hi lo:Option AVal}{vhi vlo:Option Value}
theorem eU{b:Bool}{m:Nat}{a h:Option Int}(hn:n<=m)(C:Ih lo=some a)(R:Ih hi=some h)(ic:∀A,lo=some A->∃v,vlo=some v/\zA G w tm none A v)(gF:lo=none->vlo=none)(iS:∀A,hi=some A->∃v,vhi=some v/\zA G w tm none A v)(gL:hi=none->vhi=none){l:List α}(hl:l.length=n)(I:∀q∈(yO l a h).1,q):∃x y,x<=y/\y<=n/\(sliceBounds b n m vlo vhi none).run P w=.ok (x,y,m) w/\(yO l a h).2=(l.take y).drop x:=by (have opt:∀(lo:Option AVal) (a:Option Int) (vlo:Option Value),Ih lo=some a->(∀A,lo=some A->∃v,vlo=some v/\zA G w tm none A v)->(lo=none->vlo=none)->(a=none/\vlo=none)\/∃k i,a=some i/\vlo=some (.int k i):=by intro lo a vlo C ic gF;cases lo with|none=>simp_all [Ih]|some A=>obtain⟨v,J,hA⟩:=ic A rfl;cases A with|val τ x=>(cases τ with|int k=>simp[Ih] at C;rw[VRep_int.1 hA] at J;exact .inr ⟨k,x,C.symm,J⟩|_=>simp[Ih] at C)|_=>simp[Ih] at C);subst hl;rcases opt lo a vlo C ic gF with ⟨rfl,rfl⟩ | ⟨k,i,rfl,rfl⟩<;>rcases opt hi h vhi R iS gL with ⟨rfl,rfl⟩ | ⟨k',j,rfl,rfl⟩;exact⟨0,l.length,by omega,by omega,by simp[sliceBounds],by simp[yO]⟩;have hb:=I _ (jH.2 rfl);refine⟨0,j.toNat,by omega,by omega,?_,by simp[yO]⟩;have:=eR (P:=P) (k:=k') (i:=j) (y:=m) (code:=if b then .sliceAcap else .sliceAlen) ⟨hb.1,by omega⟩ w;simp[sliceBounds,this];have hb:=I _ (jH.2 rfl);refine⟨i.toNat,l.length,by omega,by omega,?_,by simp[yO]⟩;have:=eR (P:=P) (k:=k) (i:=i) (y:=l.length) (code:=.sliceB) hb w;simp[sliceBounds,this];have hb:=I _ (jH.2 rfl);refine⟨i.toNat,j.toNat,by omega,by omega,?_,by simp[yO]⟩;have h3:=eR (P:=P) (k:=k') (i:=j) (y:=m) (code:=if b then .sliceAcap else .sliceAlen) ⟨by omega,by omega⟩ w;have h4:=eR (P:=P) (k:=k) (i:=i) (y:=j.toNat) (code:=.sliceB) ⟨hb.1,by omega⟩ w;simp[sliceBounds,h3,h4]
theorem yM1 (s:List UInt8)(x y:Nat):(⟨s.toArray⟩:ByteArray).extract x y=⟨((s.take y).drop x).toArray⟩:=by apply ByteArray.ext;simp[List.drop_take]
theorem yP5{x y:Nat}{a:Option Addr}{l:List t.den}(J:AY P (.sl t) (.inl T))(R:x<=y)(hy:y<=l.length)(I:AN G.χ w (.sl t) l [.slice a l.length cap])(gO:l.length<=cap)(hb:(sliceBounds true l.length cap vhi vlo none).run P w=.ok (x,y,cap) w):∃r,(sliceAt T (.slice a l.length cap) vhi vlo none).run P w=.ok r w/\AN G.χ w (.sl t) ((l.take y).drop x) [r]:=by obtain⟨e,h1,h2⟩:=GQ J;refine⟨.slice (if cap=x then a else a.map (·.add (x*t.size))) (y-x) (cap-x),?_,?_⟩;simp[sliceAt,run_underlying h1 w,slice,hb,LP h2 w];obtain⟨a',cap',C,I⟩:=I;obtain⟨rfl,rfl⟩:=C;(have hlen:length (α:=t.den) ((l.take y).drop x)=y-x:=by grind);refine⟨_,cap-x,by rw[hlen],?_⟩;rcases I with rfl|⟨b,o,us,ha,h3,h4,h5⟩;grind;by_cases hz:y=x;grind;right;rw[if_neg (by omega)];subst ha;refine⟨b,o+x*t.size,((us.take (y*t.size)).drop (x*t.size)),by simp[Addr.add_mid],by omega,?_,?_⟩;grind [eJ,CO,eI];intro j v C;rw[List.getElem?_drop,List.getElem?_take] at C;split at C;have:=h5 _ _ C;grind;grind
theorem yU0{l:List t.den}(h:AN χ w (.sl t) l [v]):∃a cap,v=.slice a l.length cap/\l.length<=cap:=by grind [AN]
theorem Lb{l:List t.den}(h:AN G.χ w (.sl t) l [v]):zA G w tm s (.val (.sl t) l) v:=by exact (zC rfl).2 h
theorem yP6{l:List t.den}{a b:Option Int}(I:AY P (.sl t) (.inl T))(j:AN G.χ w (.sl t) l [v])(ea:Ih lo=some a)(eb:Ih hi=some b)(ic:∀A,lo=some A->∃v,vlo=some v/\zA G w tm none A v)(gF:lo=none->vlo=none)(iS:∀A,hi=some A->∃v,vhi=some v/\zA G w tm none A v)(gL:hi=none->vhi=none)(C:∀q∈(yO l a b).1,q):∃r,(sliceAt T v vlo vhi none).run P w=.ok r w/\zA G w tm none (.val (.sl t) (yO l a b).2) r:=by obtain⟨ad,cap,rfl,gO⟩:=yU0 j;obtain⟨x,y,J,R,h3,h4⟩:=eU (P:=P) (G:=G) (w:=w) (tm:=tm) (b:=true) (n:=l.length) (m:=cap) gO ea eb ic gF iS gL (l:=l) rfl C;grind [yP5,Lb]
theorem xC2{l:List t.den}{a b:Option Int}(hT:AY P (.sl t) (.inl T))(hx:BQ G w t l U true v)(ea:Ih lo=some a)(eb:Ih hi=some b)(ic:∀A,lo=some A->∃v,vlo=some v/\zA G w tm none A v)(gF:lo=none->vlo=none)(iS:∀A,hi=some A->∃v,vhi=some v/\zA G w tm none A v)(gL:hi=none->vhi=none)(hp:∀q∈(yO l a b).1,q):∃r,(sliceAt T v vlo vhi none).run P w=.ok r w/\zA G w tm none (.ownh t [(yO l a b).2] U 0 U false) r:=by obtain⟨ko,hs⟩:=EE hx (eC hT);obtain⟨e,h1,h2⟩:=GQ hT;simp only[zA];rcases hs with ⟨rfl,rfl⟩ | ⟨cap,cur,e',us,rfl,g2,g3,g4,g5,g6,g7,g8⟩;obtain⟨x,y,q1,q2,C,I⟩:=eU (P:=P) (G:=G) (w:=w) (tm:=tm) (b:=true) (n:=0) (m:=0) (jI _) ea eb ic gF iS gL (l:=([]:List t.den)) rfl hp;(have J:x=0/\y=0:=by omega);obtain⟨rfl,rfl⟩:=J;(have R:(yO ([]:List t.den) a b).2=([]:List t.den):=by rw[I];simp);rw[R];have q3':(sliceBounds true (length (α:=t.den) []) 0 vlo vhi none).run P w=.ok (0,0,0) w:=C;refine⟨.slice none 0 0,?_,ko,.inl ⟨rfl,.inl ⟨rfl,[],none,0,rfl,rfl,.inl rfl⟩⟩⟩;simp only[sliceAt,run_bind,run_underlying h1 w,andThen_ok,slice,C,LP h2 w,run_pure];simp;obtain⟨x,y,q1,q2,C,I⟩:=eU (P:=P) (G:=G) (w:=w) (tm:=tm) (b:=true) (n:=l.length) (m:=cap) g3 ea eb ic gF iS gL (l:=l) rfl hp;(have hlen:length (α:=t.den) ((l.take y).drop x)=y-x:=by simp;omega);refine⟨.slice (if cap=x then some ⟨G.γ U,0,none⟩ else (some (⟨G.γ U,0,none⟩:Addr)).map (·.add (x*t.size))) (y-x) (cap-x),by simp only[sliceAt,run_bind,run_underlying h1 w,andThen_ok,slice,C,LP h2 w,run_pure],ko,.inl ⟨rfl,.inl ⟨rfl,(l.take y).drop x,_,_,by rw[I],by rw[hlen],?_⟩⟩⟩;by_cases hz:y=x;left;subst hz;apply List.eq_nil_of_length_eq_zero;omega;right;rw[if_neg (by omega)];refine⟨0+x*t.size,(us.take (y*t.size)).drop (x*t.size),cur,e',by simp[Addr.add_mid],by omega,g2,?_,?_,λo=>by rw[g8,if_neg (by simp)]⟩;exact eJ (k:=t.size) (λ_ _ h=>CO h) x (eI (k:=t.size) (λ_ _ h=>CO h) y g6);intro j u hu;rw[List.getElem?_drop,List.getElem?_take] at hu;split at hu;rw[<-g7,List.getElem?_take] at hu;split at hu;rw[Nat.zero_add];exact hu;cases hu;cases hu
theorem zM(km:E3 P c.tys)(C:zA G w tm none x v)(ic:∀A,lo=some A->∃v,vlo=some v/\zA G w tm none A v)(gF:lo=none->vlo=none)(iS:∀A,hi=some A->∃v,vhi=some v/\zA G w tm none A v)(gL:hi=none->vhi=none)(h:xH6 c T x lo hi=some (p,A))(I:∀q∈p,q):∃r,(sliceAt T v vlo vhi none).run P w=.ok r w/\zA G w tm none A r:=by unfold xH6 at h;split at h;rename_i a b ea eb;split at h;rename_i s;(cases gU:c.is T .str with|false=>grind|true=>simp[gU] at h;obtain⟨rfl,rfl⟩:=h;have j:=Nw (DV km gU);rw[VRep_str.1 C];obtain⟨x,y,R,h2,J,h4⟩:=eU (P:=P) (G:=G) (w:=w) (tm:=tm) (b:=false) (m:=length (α:=UInt8) s) (jI _) ea eb ic gF iS gL (l:=s) rfl I;refine⟨.string ⟨(((take y s).drop x)).toArray⟩,?_,?_⟩;(have kN:(⟨toArray s⟩:ByteArray).size=length (α:=UInt8) s:=by simp[ByteArray.size]);simp[sliceAt,run_underlying j w,slice,kN,J,yM1];grind [yM0]);rename_i t l;(cases gU:c.is T (.sl t) with|false=>grind|true=>simp[gU] at h;obtain⟨rfl,rfl⟩:=h;have j:=DV km gU;exact yP6 j ((zC rfl).1 C) ea eb ic gF iS gL I);rename_i t l U m;(cases gU:c.is T (.sl t) with|false=>grind|true=>simp[gU] at h;obtain⟨rfl,rfl⟩:=h;have j:=DV km gU;cases m with|true=>exact xC2 j C ea eb ic gF iS gL I|false=>exact yP6 j (Gl C) ea eb ic gF iS gL I);grind;grind
theorem xJ4:∀{a:AVal}{vs:List Value}{k:Nat},zA G w tm none a (.tuple vs.toArray)->k<a.clen->∃u,vs[k]?=some u/\zA G w tm none (a.nth k) u:=by intro a;induction a with|cons h t _ qd=>intro vs k j C;obtain⟨x,xs,e,I,J⟩:=j;simp only[Value.tuple.injEq] at e;(have e:vs=x::xs:=by grind);subst e;(cases k with|zero=>exact⟨x,rfl,I⟩|succ k=>simp only[AVal.clen] at C;obtain⟨u,h3,R⟩:=qd (k:=k) J (by omega);exact⟨u,by grind,R⟩)|_=>grind [AVal.clen]
theorem xC3{a:AVal}(h:zA G w tm none a v)(j:0<a.clen):∃vs:List Value,v=.tuple vs.toArray:=by cases a<;>grind [zA,AVal.clen]
theorem yH9{k:Nat}(j:zA G w tm none x v)(h:yL0 x k=some (p,A)):∃r,(extract v k).run P w=.ok r w/\zA G w tm none A r:=by unfold yL0 at h;split at h;rename_i a;(cases C:blt k a.clen with|false=>grind|true=>have C:k<a.clen:=jR C;simp only[zA] at j;obtain⟨vs,rfl⟩:=xC3 j (by omega);obtain⟨u,I,J⟩:=xJ4 j C;simp_all [extract]);grind
def C2 {α β:Type}(R:α->β->Prop):List α->List β->Prop
 |[],[]=>True
 |a::r,b::s=>R a b/\C2 R r s
 |_,_=>False
variable {g:Value->Value->Sem Value}
theorem yU1{f:Int->Int->Int}(hg:∀k a b (w:World),(g (.int k a) (.int k b)).run P w=.ok (.int k (f a b)) w):∀{r:List AVal}{vs:List Value}{A B:AVal}{v:Value},VZ A->zA G w tm none A v->C2 (zA G w tm none) r vs->Nl f A r=some B->∃u,(vs.foldlM g v).run P w=.ok u w/\zA G w tm none B u:=by intro r;induction r with|nil=>intro vs A B v hi C j h;cases vs<;>simp_all [C2,Nl]|cons x r J=>intro vs A B v hi C j h;cases vs with|nil=>grind [C2]|cons u us=>obtain⟨R,j⟩:=j;cases A with|val τ a=>(cases τ with|int k=>(cases x with|val τ' b=>(cases τ' with|int k'=>simp only[Nl] at h;(cases I:Nat.beq (Fx k) (Fx k') with|false=>grind|true=>simp[I] at h;have:=Ni (jC I);subst this;have e1:=VRep_int.1 C;have e2:=VRep_int.1 R;subst e2;obtain⟨z,h1,h2⟩:=J (v:=.int k (f a b)) rfl zD j h;simp_all)|_=>grind [Nl])|_=>simp[Nl] at h)|_=>grind [VZ])|_=>simp[VZ] at hi
variable {xs:List AVal}
theorem yJ{f:Int->Int->Int}(I:∀k a b (w:World),(g (.int k a) (.int k b)).run P w=.ok (.int k (f a b)) w)(j:C2 (zA G w tm none) xs vs)(h:Wa f xs=some (p,A)):∃v r,vs=v::r/\∃u,(r.foldlM g v).run P w=.ok u w/\zA G w tm none A u:=by cases xs with|nil=>grind [Wa]|cons x r=>cases vs with|nil=>grind [C2]|cons v us=>obtain⟨j,J⟩:=j;simp only[Wa] at h;cases hi:VZ x with|false=>grind|true=>simp[hi] at h;cases C:Nl f x r with|none=>grind|some B=>simp[C] at h;obtain⟨rfl,rfl⟩:=h;obtain⟨u,R,h2⟩:=yU1 I hi j J C;exact⟨v,us,rfl,u,R,h2⟩
theorem xR1 (k:IntKind)(a b:Int)(w:World):(max2 (.int k a) (.int k b)).run P w=.ok (.int k (GI a b)) w:=by simp[max2,GI]
theorem xR2 (k:IntKind)(a b:Int)(w:World):(min2 (.int k a) (.int k b)).run P w=.ok (.int k (GJ a b)) w:=by simp[min2,GJ]
variable {P:Program}{c:Ctx}{G:Gh}{w:World}{tm:Array Value}
theorem Pc{R:α->List Value->Prop}(h:∀x vs,R x vs->∀u∈vs,u.oneCell'):∀{l us},C6 R l us->∀u∈us,u.oneCell':=by intro l;induction l with|nil=>grind [C6]|cons x l j=>rintro us ⟨vs,ws,rfl,C,I⟩ u hu;grind
theorem N2:∀{τ:Ty}{x:τ.den}{vs:List Value},AN χ w τ x vs->∀u∈vs,u.oneCell':=by intro τ;induction τ with|int k=>intro x vs h u hu;subst h;simp at hu;subst hu;rfl|bool=>intro x vs h u hu;subst h;simp at hu;subst hu;rfl|str=>intro x vs h u hu;subst h;simp at hu;subst hu;rfl|nl=>grind [AN]|cons a b j hb=>grind [AN]|st f C=>grind [AN]|arr n t ht=>grind [AN,Pc]|sl t ht=>intro x vs h u hu;obtain⟨a,cap,rfl,_⟩:=h;simp at hu;subst hu;rfl|ptr t ht=>intro x vs h u hu;obtain⟨b,o,us,rfl,_⟩:=h;simp at hu;subst hu;rfl
theorem Wu{l:List t.den}(h:BQ G w t l T m v):v.oneCell':=by rcases h with h|⟨_,k,e,l',_,_,es,clock,rfl,_⟩;rcases h.2 with ⟨rfl,_⟩ | ⟨cap,cur,e,us,rfl,_⟩<;>rfl;rfl
theorem S6:∀{A:AVal}{τ:Ty}{vs:List Value},AF G w τ A vs->∀u∈vs,u.oneCell':=by intro A;induction A with|val τ' x=>grind [AF,N2]|nil=>intro τ vs h u hu;rw[h.2] at hu;simp at hu;subst hu;rfl|own t l T m=>grind [AF,Wu]|agg f a j=>grind [AF]|nl=>grind [AF]|junk=>grind [AF]|cons a b gA gq=>grind [AF]|_=>grind [AF]
theorem Pd(j:Io τ us u)(C:∀u∈us,u.oneCell'):u.cells.toList=us:=by unfold Io at j;cases I:τ.isAgg with|true=>grind [Value.cells]|false=>cases u<;>simp_all [Value.cells,Value.oneCell']
theorem S7:∀{τ:Ty},τ.noPtr->AN χ w τ τ.dflt (DC τ):=by intro τ;induction τ with|int k=>grind [AN,DC,Ty.dflt]|bool=>grind [AN,DC,Ty.dflt]|str=>grind [AN,DC,Ty.dflt]|nl=>grind [AN,DC]|cons a b j hb=>intro h;simp[Ty.noPtr] at h;exact⟨_,_,rfl,j h.1,hb h.2⟩|st f C=>grind [Ty.noPtr,AN,DC,Ty.dflt]|arr n t ht=>grind [Ty.noPtr,AN,DC,Ty.dflt,zJ]|sl t _=>grind [AN,DC,Ty.dflt]|ptr t _=>grind [Ty.noPtr]
theorem yZ3:∀{τ:Ty},τ.noPtr->τ.plain->AF G w τ (zT5 τ) (DC τ):=by intro τ;induction τ with|int k=>grind [AF,zT5,AN,DC,Ty.isL]|bool=>grind [AF,zT5,AN,DC,Ty.isL]|str=>grind [AF,zT5,AN,DC,Ty.isL]|nl=>grind [AF,zT5,DC]|cons a b C hb=>intro h j;simp[Ty.noPtr] at h;simp[Ty.plain] at j;exact⟨a,b,_,_,rfl,rfl,C h.1 j.1.1.2,hb h.2 j.2⟩|st f I=>intro h j;simp only[Ty.noPtr] at h;simp[Ty.plain] at j;simp only[zT5];(cases J:f.hasSl with|true=>grind [AF,DC]|false=>simp only[jD,AF];exact⟨trivial,rfl,S7 (τ:=.st f) h⟩)|arr n t ht=>intro h j;simp only[zT5,AF];exact⟨trivial,rfl,S7 h⟩|sl t _=>grind [zT5,AF,DC,Ty.isSl]|ptr t _=>grind [Ty.noPtr]
theorem eV:∀{τ:Ty},(DC τ).length=τ.size:=by intro τ;induction τ<;>simp_all [DC,Ty.size]
theorem yP7 (cells:Array Value)(off:Nat)(ps:List Value)(h:off+ps.length<=cells.size):((ps.toArray.zipIdx.foldl (λcs (x:Value×Nat)=>cs.setIfInBounds (off+x.2) x.1) cells)).toList=spl cells.toList off ps:=by (have key:∀(ps:List Value) (k:Nat) (cells:Array Value),off+k+ps.length<=cells.size->((ps.zipIdx k).foldl (λcs (x:Value×Nat)=>cs.setIfInBounds (off+x.2) x.1) cells).toList=spl cells.toList (off+k) ps:=by intro ps;induction ps with|nil=>simp_all [xJ]|cons p ps I=>intro k cells R;simp;rw[I (k+1) _ (by grind)];apply ext_getElem?;intro j;rw[spl_getElem? _ _ _ _ (by grind),spl_getElem? _ _ _ _ (by grind)];simp[List.getElem?_set];by_cases C:off+k=j;subst C;rw[if_neg (by omega),if_pos rfl,if_pos (by grind),if_pos ⟨by omega,by omega⟩];simp;by_cases J:off+(k+1)<=j/\j<off+(k+1)+ps.length;grind;rw[if_neg J,if_neg C,if_neg (by omega)]);grind
theorem yU2{places:Nat->Option (Nat×Nat)}(kz:∀k,k<f.flen->places k=some (f.foff k,(f.fty k).size)):∀{parts:List (Nat×AVal)}{vs:List Value}{ks:List Nat}{z:AVal}{cells:Array Value},f.plain->zV f parts->C2 (zA G w tm none) (parts.map (·.2)) vs->ks=parts.map (·.1)->AF G w f z cells.toList->∃cells',Instr.fill places cells (zip ks vs)=some cells'/\AF G w f (dG parts z) cells'.toList:=by intro parts;induction parts with|nil=>simp_all [Instr.fill,dG]|cons q r ih=>intro vs ks z cells C I J hk R;obtain⟨k,A⟩:=q;cases vs with|nil=>grind [C2]|cons v vs=>simp only[zV,all_cons,jB] at I;obtain⟨⟨nf,hA⟩,hr⟩:=I;have nf:k<f.flen:=jR nf;have iC:=yE9 C nf;obtain⟨us,j,h2⟩:=Wt J.1 hA iC.1;have hc:=Pd h2 (S6 j);have hle:=Ws nf;have kt:=zB R;have qp:=zB j;(have hvs:v.cells=us.toArray:=by grind);subst hk;simp only[map_cons,List.zip_cons_cons,Instr.fill,kz k nf];rw[if_neg (by grind)];(have kF:(Array.foldl (λcs (x:Value×Nat)=>cs.setIfInBounds (f.foff k+x.2) x.1) cells v.cells.zipIdx).toList=spl cells.toList (f.foff k) us:=by grind [yP7,jN]);have ig:=zU2 nf R j;rw[<-kF] at ig;obtain⟨cells',h3,h4⟩:=ih C (by grind [zV]) J.2 rfl ig;exact⟨cells',h3,h4⟩
theorem yP8:∀{parts:List (Nat×AVal)}{vs:List Value}{ks:List Nat}{l l':List t.den}{cells:Array Value},t.isL=false->(∀q∈parts,q.1<l.length)->C2 (zA G w tm none) (parts.map (·.2)) vs->ks=parts.map (·.1)->C6 (AN G.χ w t) l cells.toList->Sf t parts l=some l'->∃cells',Instr.fill (λi=>some (i*t.size,t.size)) cells (zip ks vs)=some cells'/\C6 (AN G.χ w t) l' cells'.toList/\l'.length=l.length:=by intro parts;induction parts with|nil=>intro vs ks l l' cells _ _ C hk I h;simp_all [Sf,Instr.fill]|cons q r ih=>intro vs ks l l' cells hp j C hk I h;obtain⟨k,A⟩:=q;cases vs with|nil=>grind [C2]|cons v vs=>simp[map_cons,C2] at C;simp only[Sf] at h;split at h;rename_i x hx;have nf:k<l.length:=j (k,A) (by simp);obtain⟨us,J,h2⟩:=Ip hx hp C.1;have hc:=Pd h2 (N2 J);have qp:=CO J;have kt:=FU (k:=t.size) (λ_ _ h=>CO h) I;(have hvs:v.cells=us.toArray:=by grind);(have hle:k*t.size+t.size<=l.length*t.size:=by rw[<-succ_mul];exact jS _ (by omega));subst hk;simp only[map_cons,List.zip_cons_cons,Instr.fill];(have kN:v.cells.size=t.size:=by rw[hvs];simpa using qp);rw[if_neg (by simp only[kN];simp;rw[<-jN,kt];exact hle)];(have kF:(Array.foldl (λcs (x:Value×Nat)=>cs.setIfInBounds (k*t.size+x.2) x.1) cells v.cells.zipIdx).toList=spl cells.toList (k*t.size) us:=by grind [yP7,jN]);have ig:=yL9 (R:=AN G.χ w t) (k:=t.size) (λ_ _ h=>CO h) J I nf;rw[<-kF] at ig;obtain⟨cells',h3,h4,h5⟩:=ih hp (λq hq=>by simp;exact j q (by simp[hq])) C.2 rfl ig h;grind;grind
variable {P:Program}{c:Ctx}{G:Gh}{w:World}{tm:Array Value}
theorem xJ5:∀{fs:List Field}{o:Nat},AY P f (.inr (fs,o))->∃pl:List (Nat×Nat),fs.mapM (λf=>(P.info? f.type).map λi=>(f.offset,i.size))=some pl/\∀k,k<f.flen->pl[k]?=some (o+f.foff k,(f.fty k).size):=by induction f with|nl=>intro fs o h;cases fs<;>simp[AY] at h;simp_all [Ty.flen]|cons a b _ gq=>intro fs o h;(cases fs with|nil=>grind [AY]|cons fd r=>simp only[AY,jB] at h;obtain⟨⟨⟨j,_⟩,C⟩,I⟩:=h;have j:=jC j;obtain⟨pl,J,R⟩:=gq I;obtain⟨⟨i,z,hi,hs,_⟩,_⟩:=GP C;refine⟨(fd.offset,i.size)::pl,by grind,λk hk=>?_⟩;cases k<;>grind [Ty.foff,Ty.fty,Ty.flen,add_assoc])|_=>grind [AY]
variable {ρ:Operand->Value}
theorem yP9{ps:List (Nat×Operand)}:ps.map (λx=>(x.1,ρ x.2))=zip (ps.map (·.1)) ((ps.map (·.2)).map ρ):=by grind
theorem zQ5:∀{ps:List (Nat×Operand)}{xs:List AVal},xs.length=ps.length->(Gi ps xs).map (·.2)=xs/\(Gi ps xs).map (·.1)=ps.map (·.1):=by intro ps;induction ps with|nil=>intro xs h;cases xs<;>simp at h;exact⟨rfl,rfl⟩|cons q r j=>intro xs h;cases xs<;>simp_all [Gi]
theorem N3{R:α->β->Prop}:∀{xs:List α}{ys:List β},C2 R xs ys->xs.length=ys.length:=by intro xs;induction xs with|nil=>grind [C2]|cons x xs j=>intro ys h;cases ys<;>simp[C2] at h ⊢;grind
theorem yQ(km:E3 P c.tys){ps:Array (Nat×Operand)}(J:C2 (zA G w tm none) xs ((ps.toList.map (·.2)).map ρ))(h:xH5 c T (Gi ps.toList xs)=some (p,A)):∃r,(Instr.build T (ps.map λ(i,x)=>(i,ρ x))).run P w=.ok r w/\zA G w tm none A r:=by (have hl:xs.length=ps.toList.length:=by rw[N3 J];simp);obtain⟨e1,e2⟩:=zQ5 hl;(have kU:(ps.map λ(i,x)=>(i,ρ x)).toList=zip ((Gi ps.toList xs).map (·.1)) ((ps.toList.map (·.2)).map ρ):=by rw[e2,<-yP9];simp);(have gj:C2 (zA G w tm none) ((Gi ps.toList xs).map (·.2)) ((ps.toList.map (·.2)).map ρ):=by rw[e1];exact J);unfold xH5 at h;split at h;rename_i f I;have j:=Im km T (by rw[I];simp);rw[I] at j;(cases hb:(zV f (Gi ps.toList xs)&&f.noPtr) with|false=>simp[hb] at h|true=>simp only[hb,jE] at h;simp only[jB] at hb;obtain⟨fs,h1,R⟩:=OY j;obtain⟨pl,h3,h4⟩:=xJ5 R;have kz:=Nx j;simp only[Ty.plain,jB] at kz;obtain⟨⟨i,z,hi,hs,_,hz,ik,_⟩,_⟩:=GP j;(have C:AF G w f (zT5 f) z.cells.toList:=by rw[ik];exact yZ3 hb.2 kz.2);obtain⟨cells',h5,h6⟩:=yU2 (G:=G) (w:=w) (tm:=tm) (places:=(pl.toArray[·]?)) (λk hk=>by simpa using h4 k hk) kz.2 hb.1 gj rfl C;(have il:P.built T (ps.map λ(i,x)=>(i,ρ x)).toList=some cells':=by rw[kU];simp only[Program.built,hi,h1,hz,h3];exact h5);refine⟨.agg cells',run_build w T _ cells' il,?_⟩;cases hs:f.hasSl with|true=>simp only[hs,jE,jA,jG] at h;obtain⟨rfl,rfl⟩:=h;simp only[zA];exact⟨cells'.toList,by simp,h6⟩|false=>simp only[hs,jD] at h;split at h;rename_i x J;simp only[jA,jG] at h;obtain⟨rfl,rfl⟩:=h;simp only[zA];exact (Jo rfl).2 ⟨cells'.toList,by simp,by simp only[AN];exact JV J h6⟩;cases h);rename_i n t I;have j:=Im km T (by rw[I];simp);rw[I] at j;(cases hb:((Gi ps.toList xs).all (λq=>blt q.1 n)&&t.noPtr) with|false=>simp[hb] at h|true=>simp only[hb,jE] at h;simp only[jB] at hb;obtain⟨e,h1,R⟩:=zS j;obtain⟨⟨i,z,hi,hs,_,hz,ik,_⟩,_⟩:=GP j;obtain⟨⟨ie,ze,iT,gV,_⟩,_⟩:=GP R;split at h;rename_i l hl;simp only[jA,jG] at h;obtain⟨rfl,rfl⟩:=h;(have C:C6 (AN G.χ w t) (replicate n t.dflt) z.cells.toList:=by rw[ik];exact zJ (S7 hb.2) n);obtain⟨cells',h5,h6,h7⟩:=yP8 (G:=G) (w:=w) (tm:=tm) (FV R) (λq hq=>by simp;exact jR (all_eq_true.1 hb.1 q hq)) gj rfl C hl;(have il:P.built T (ps.map λ(i,x)=>(i,ρ x)).toList=some cells':=by rw[kU];simp only[Program.built,hi,h1,hz,iT,gV];exact h5);refine⟨.agg cells',run_build w T _ cells' il,?_⟩;simp only[zA];exact (Jo rfl).2 ⟨cells'.toList,by simp,by simp only[AN];exact⟨by rw[h7];simp,h6⟩⟩;cases h);cases h
theorem CI (s T:Nat):BL s≠AL T:=by grind [BL,AL]
theorem JW{s t:Nat}(h:BL s=BL t):s=t:=by grind [BL]
theorem CJ{s t:Nat}(h:AL s=AL t):s=t:=by grind [AL]
theorem Hh (s:Nat):¬(0=BL s):=by grind [BL]
theorem DE (s:Nat):¬(0=AL s):=by grind [AL]
def Gh.newBox (G:Gh)(b d:Nat):Gh:={ χ:=λb' o=>if b'=b then BL d else G.χ b' o,β:=λs=>if s=d then b else G.β s,γ:=G.γ }
def Gh.newArr (G:Gh)(b d:Nat):Gh:={ χ:=λb' o=>if b'=b then AL d else G.χ b' o,β:=G.β,γ:=λs=>if s=d then b else G.γ s }
theorem Lc (w:World)(o:Obj):(w.alloc o).heap[w.heap.size]?=some o:=by show (w.heap.push o)[w.heap.size]?=_;simp
theorem zY1(h:b<w.heap.size)(x:Obj):(w.alloc x).cell? ⟨b,o,none⟩=w.cell? ⟨b,o,none⟩:=by grind [Below.heap_alloc,cell?]
theorem eW (x:Obj)(d:Nat):Ext (· =BL d) (· =BL d) G w (G.newBox w.heap.size d) (w.alloc x):=by refine⟨λb o hb h=>?_,λb hb _=>?_,by simp,λs j=>?_,λT _=>rfl,λ_ h=>h⟩;exact⟨by simp only[Gh.newBox];grind,zY1 hb x⟩;exact⟨Below.heap_alloc w x b hb,λo=>by simp only[Gh.newBox];rw[if_neg (by omega)]⟩;simp only[Gh.newBox];rw[if_neg (λe=>j (by rw[e]))]
theorem Wv (x:Obj)(d:Nat):Ext (· =AL d) (· =AL d) G w (G.newArr w.heap.size d) (w.alloc x):=by refine⟨λb o hb h=>?_,λb hb _=>?_,by simp,λs _=>rfl,λT j=>?_,λ_ h=>h⟩;exact⟨by simp only[Gh.newArr];grind,zY1 hb x⟩;exact⟨Below.heap_alloc w x b hb,λo=>by simp only[Gh.newArr];rw[if_neg (by omega)]⟩;simp only[Gh.newArr];rw[if_neg (λe=>j (by rw[e]))]
variable {χ0:Nat->Nat->Nat}{w0:World}
theorem Pe(h:Frame0 χ0 w0 G.χ w)(x:Obj)(χ':Nat->Nat->Nat)(hχ:∀b o,b<w.heap.size->χ' b o=G.χ b o):Frame0 χ0 w0 χ' (w.alloc x):=by refine⟨h.os,h.tape,h.output,Nat.le_trans h.size (by simp),λb hb C=>?_,λb o hb C=>?_⟩;rw[Below.heap_alloc w x b (Nat.lt_of_lt_of_le hb h.size)];exact h.block b hb C;have j:=Nat.lt_of_lt_of_le hb h.size;rw[zY1 j,hχ b o j];exact h.cell b o hb C
theorem yJ0(j:∀T,¬X (AL T)):∀{A:AVal}{τ:Ty}{us:List Value},AF G w τ A us->¬A.names X Y none:=by intro A;induction A with|val _ _=>grind [AVal.names]|nil=>grind [AVal.names]|own t l T m=>grind [AVal.names]|agg f a C=>grind [AF,AVal.names]|nl=>grind [AVal.names]|junk=>grind [AVal.names]|cons a b gA gq=>intro τ us h;simp only[AF] at h;simp[AVal.names];grind|_=>grind [AF]
variable {d:Nat}
theorem yQ0:∀{A:AVal}{s:Option Nat},A.hasRef d=false->s≠some d->¬A.names (· =BL d) (· =BL d) s:=by intro A;induction A with|own t l T m=>grind [AVal.names,CI]|ownh t l T i U m=>grind [AVal.names,CI]|eref _ T _ _ _=>grind [AVal.names,CI]|ref I τ p=>intro s h _;intro e;have:=JW e;simp_all [AVal.hasRef]|opt _ _ _ A j=>intro s h _;exact j h (by simp)|box τ a j=>intro s h C;(cases s with|none=>exact j h (by simp)|some s=>simp[AVal.names];exact⟨λe=>C (by rw[JW e]),j h (by simp)⟩)|cons a b gA gq=>grind [AVal.hasRef,AVal.names]|agg f a j=>intro s h _;exact j h (by simp)|tup a j=>intro s h _;exact j h (by simp)|fn f a j=>intro s h _;exact j h (by simp)|raw=>intro s _ C;cases s<;>grind [AVal.names,JW]|rref I=>intro s h _;intro e;have:=JW e;simp_all [AVal.hasRef]|fptr f caps=>intro s h _;rintro⟨k,τ,hm,e⟩;have:=JW e;simp only[AVal.hasRef] at h;have:=List.any_eq_true.2 ⟨_,hm,show xV7 k (some (k,τ))=true by simp[xV7]⟩;grind|_=>grind [AVal.names]
theorem yQ1:∀{A:AVal}{s:Option Nat},A.hasTag T=false->¬A.names (· =AL T) (· =AL T) s:=by intro A;induction A with|own t l T' m=>intro s h;intro e;have:=CJ e;simp_all [AVal.hasTag]|ownh t l T' i U m=>intro s h;simp[AVal.names];exact⟨λe=>by have:=CJ e;simp_all [AVal.hasTag],λe=>by have:=CJ e;simp_all [AVal.hasTag]⟩|eref _ T' _ _ _=>intro s h;intro e;have:=CJ e;simp_all [AVal.hasTag]|ref C τ p=>grind [AVal.names,CI]|opt _ _ _ A j=>intro s h;exact j h|box τ a j=>intro s h;(cases s with|none=>exact j h|some s=>simp[AVal.names];exact⟨CI _ _,j h⟩)|cons a b gA gq=>grind [AVal.hasTag,AVal.names]|agg f a j=>intro s h;exact j h|tup a j=>intro s h;exact j h|fn f a j=>intro s h;exact j h|raw=>intro s h;cases s<;>grind [AVal.names,CI]|rref C=>grind [AVal.names,CI]|fptr f caps=>grind [AVal.names,CI]|_=>grind [AVal.names]
theorem xJ6{e:Nat}(h:AF G w τ A us)(j:Ik τ):zA (G.newBox w.heap.size d) (w.alloc (.cells us.toArray e)) tm (some d) (.box τ A) (.pointer (some ⟨w.heap.size,0,none⟩)):=by refine⟨by simp[Gh.newBox],j,us.toArray,e,?_,?_,λo=>by simp[Gh.newBox]⟩;simp only[Gh.newBox];exact Lc w _;exact dY (eW _ d) (Hh d) (yJ0 (λT=>λe=>CI _ _ e.symm) h) h
theorem xJ7{l:List t.den}{rest:List Value}{e:Nat}(h:C6 (AN G.χ w t) l us)(C:Ik t)(gO:(us++rest).length=cap*t.size)(j:l.length<=cap)(hm:cap<=maxLen):zA (G.newArr w.heap.size d) (w.alloc (.cells (us++rest).toArray e)) tm (some d) (.own t l d true) (.slice (some ⟨w.heap.size,0,none⟩) l.length cap):=by have qp:=FU (k:=t.size) (λ_ _ h=>CO h) h;refine .inl ⟨C,.inr ⟨cap,(us++rest).toArray,e,us,by simp[Gh.newArr],?_,j,hm,by grind,?_,?_,λo=>by simp[Gh.newArr]⟩⟩;simp only[Gh.newArr];exact Lc w _;exact EU (λ_ _ h=>CX (Wv _ d).prot h) h;grind
variable {P:Program}{c:Ctx}{G:Gh}{w:World}{tm:Array Value}
theorem S8 (b:Nat)(e:TypeId)(fr:Nat×Nat):∀(vs:List Value) (o:Nat) (w:World) (cur:Array Value),w.heap[b]?=some (.cells cur e fr)->o+vs.length<=cur.size ->
  ∃cur',(w.setCells b o vs).heap[b]?=some (.cells cur' e fr)/\cur'.toList=spl cur.toList o vs:=by
 intro vs
 induction vs with
 |nil=>intro o w cur h _;exact⟨cur,h,by simp[xJ]⟩
 |cons v r J =>
  intro o w cur h hl;have C:(w.setCell ⟨b,o,none⟩ v).heap[b]?=some (.cells (cur.setIfInBounds o v) e fr):=by
   simp only[World.setCell,Array.getElem?_modify,h];simp
  obtain⟨cur',I,R⟩:=J (o+1) _ _ C (by grind);refine⟨cur',I,?_⟩;rw[R];apply ext_getElem?;intro j;rw[spl_getElem? _ _ _ _ (by grind),spl_getElem? _ _ _ _ (by grind)];simp[List.getElem?_set];by_cases C:o=j
  ·subst C;rw[if_neg (by omega),if_pos rfl,if_pos (by grind),if_pos ⟨by omega,by omega⟩];simp
  ·by_cases I:o+1<=j/\j<o+1+r.length
   ·rw[if_pos I,if_pos ⟨by omega,by omega⟩,show j-o=(j-(o+1))+1 from by omega];simp
   ·rw[if_neg I,if_neg C,if_neg (by omega)]
theorem Pf (b:Nat):∀(vs:List Value) (o:Nat) (w:World) (k:Nat),k≠b->(w.setCells b o vs).heap[k]?=w.heap[k]?:=by
 intro vs
 induction vs<;>grind [setCells,Below.heap_setCell]
theorem eX (b:Nat):∀(vs:List Value) (o:Nat) (w:World),(w.setCells b o vs).heap.size=w.heap.size:=by
 intro vs
 induction vs<;>grind [setCells,World.setCell]
theorem yB8 (b:Nat):∀(vs:List Value) (o:Nat) (w:World),(w.setCells b o vs).os=w.os/\(w.setCells b o vs).tape=w.tape/\(w.setCells b o vs).output=w.output:=by
 intro vs
 induction vs with
 |nil=>intro o w;exact⟨rfl,rfl,rfl⟩
 |cons v r j=>intro o w;exact j _ _
theorem zI(C:AY P τ (.inl T))(R:u.cells.toList=us)(hl:us.length=τ.size)(I:∀x∈us,x.oneCell'=true)
  (hb:w.heap[b]?=some (.cells cur e (0,0))) (ho:o+us.length<=cur.size) :
  (storeAt T (.pointer (some ⟨b,o,none⟩)) u).run P w=.ok () (w.setCells b o us):=by
 obtain⟨⟨i,z,hi,hs,_⟩,_⟩:=GP C;have:=run_storeCells_cells (P:=P) b o us 0 w (λj J=>by
   grind [cell?]) (λj J=>by grind [World.frozen?]) I
 grind [storeAt,sureAddr,run_bind,run_pure,andThen_ok,storeVar,LP]
theorem Ww(C:∀o,X (G.χ b o))(I:¬X 0):Ext X (λ_=>False) G w G (w.setCells b o us):=by
 refine⟨λj o' hb h=>⟨h,?_⟩,λj hb h=>⟨?_,λ_=>rfl⟩,by grind [eX],λ_ _=>rfl,λ_ _=>rfl,λ_ h=>h.elim⟩
 ·grind [cell?,Pf]
 ·have kj:j≠b:=by intro e;simp_all
  grind [Pf]
theorem Wx(h:Frame0 χ0 w0 G.χ w)(hb:∀o,1<G.χ b o):Frame0 χ0 w0 G.χ (w.setCells b o us):=by
 obtain⟨s1,s2,I⟩:=yB8 b us o w;refine⟨s1.trans h.os,s2.trans h.tape,I.trans h.output,by rw[eX];exact h.size,λj kE C=>?_,λj o' kE C=>?_⟩
 ·have kj:j≠b:=by
   intro e;subst e;have J:=(h.cell j 0 kE (C 0)).1
   grind
  rw[Pf b us o w j kj];exact h.block j kE C
 ·have J:=h.cell j o' kE C
  grind [cell?,Pf]
theorem yQ2(km:E3 P c.tys){s:Nat}{k v C:AVal}{kv vv:Value}(hx:zA G w tm none x u)(hk:∀j,EF x=some j->zA G w tm (some j) k kv)(hv:zA G w tm none v vv)
  (h:xH4 c T x k v=some (s,C)) :
  ∃us o,(storeAt T u vv).run P w=.ok () (w.setCells (G.β s) o us)/\(∀o,G.χ (G.β s) o=BL s)/\EF x=some s/\zA G (w.setCells (G.β s) o us) tm (some s) C kv:=by
 unfold xH4 at h;split at h
 ·rename_i j τ q;split at h
  ·rename_i τ' k;cases hc:(Ty.beq τ' τ&&c.is T (τ.pty q)&&AVal.fits (τ.pty q) v&&AVal.laxT (k.at q) (τ.pty q)&&AVal.laxT (AVal.put q k v) τ) with
   |false=>grind
   |true =>
    simp[hc,jE,jA,jG] at h;obtain⟨rfl,rfl⟩:=h;simp  at hc;obtain⟨⟨⟨⟨h1,h2⟩,h3⟩,h4⟩,h5⟩:=hc;have e:=Ty.eq_of_beq h1;subst e;have hT:=DV km h2;have J:=hk j rfl;obtain⟨⟨kz,gD⟩,cur,e,g1,g2,g3⟩:=N0 J;obtain⟨hq,rfl⟩:=hx;obtain⟨t1,t2,t3,t4⟩:=Ny kz gD hq g2;obtain⟨us,u1,u2⟩:=Wt hv h3 t4;have kQ:=S6 u1;have iU:=Pd u2 kQ;have qp:=zB u1;have kt:=zB g2;have kl:τ'.poff q+us.length<=cur.size:=by grind
    refine⟨us,τ'.poff q,zI hT iU qp kQ g1 kl,g3,rfl,?_⟩;obtain⟨cur',c1,c2⟩:=S8 (G.β j) e (0,0) us (τ'.poff q) w cur g1 kl;have I:=yZ1 kz gD hq g2 u1 h5;have R:Ext (·=BL j) (λ_=>False) G w G (w.setCells (G.β j) (τ'.poff q) us):=Ww (λo=>g3 o) (Hh j);have hput':=dY R (Hh j) (yJ0 (λT=>λe=>CI _ _ e.symm) I) I;exact⟨J.1,⟨kz,gD⟩,cur',e,c1,by grind,g3⟩
  grind
 grind
end Go.Am
