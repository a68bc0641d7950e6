/- The abstract machine, part 1: a typed interpreter for the program's code, and that it is sound. No condition. -/
import Derived.Calls
import Derived.KernelRfl
import Derived.Orders
import Derived.Laws.AppendOwn
import Derived.Below
import Derived.Deep.MidRow
import Derived.IntWalk
import Derived.Laws.StructEq
import Derived.ChangeKeysEq
import Derived.Great.BuildSlice
namespace Go.Am
open Go
theorem jA {α:Type _}(a b:α):(some a=some b)=(a=b):=Option.some.injEq a b
theorem jB (a b:Bool):((a&&b)=true)=(a=true∧b=true):=Bool.and_eq_true a b
theorem jC {n m:Nat}(h:Nat.beq n m=true):n=m:=Nat.eq_of_beq_eq_true h
theorem jD {α:Sort _}(a b:α):(cond false a b)=b:=rfl
theorem jE {α:Sort _}(a b:α):(cond true a b)=a:=rfl
theorem jF {p:Prop}[i:Decidable p](h:decide p=true):p:=of_decide_eq_true h
theorem jG {α:Type _}{β:Type _}(a:α)(b:β)(c:α)(d:β):((a,b)=(c,d))=(a=c∧b=d):=Prod.mk.injEq a b c d
theorem jH {α:Type _}{a b:α}:a∈[b]↔a=b:=List.mem_singleton
theorem jI (n:Nat):n≤n:=Nat.le_refl n
theorem jJ {x y:Bool}:(x||y)=false↔x=false∧y=false:=Bool.or_eq_false_iff
theorem jK (b:Bool):((!b)=true)=(b=false):=Bool.not_eq_true' b
theorem jL {α:Type _}{l:List α}{i:Nat}(h:i<l.length):l[i]?=some (l[i]'h):=List.getElem?_eq_getElem h
theorem jM {α:Type _}{l:List α}{i:Nat}{a:α}:l.getD i a=l[i]?.getD a:=List.getD_eq_getElem?_getD
theorem jN {α:Type _}{xs:Array α}:xs.toList.length=xs.size:=Array.length_toList
theorem jO {α:Type _}{as bs:List α}:(as++bs).length=as.length+bs.length:=List.length_append
theorem jP {α:Type _}(y:α){a:α}{l:List α}(h:a∈l):a∈y::l:=List.mem_cons_of_mem y h
theorem jQ {α:Type _}{a:α}{l:List α}:a∈a::l:=List.mem_cons_self
theorem jR {n m:Nat}(h:n.ble m=true):n≤m:=Nat.le_of_ble_eq_true h
theorem jS {n m:Nat}(k:Nat)(h:n≤m):n*k≤m*k:=Nat.mul_le_mul_right k h
theorem jT {α:Type _}{i:Nat}{l:List α}:(List.take i l).length=min i l.length:=List.length_take
inductive Ty where
 |int (k:IntKind)|bool|str|nl|cons (h t:Ty)|st (f:Ty)|arr (n:Nat) (t:Ty)|sl (t:Ty)|ptr (t:Ty)
@[reducible] def Ty.den:Ty->Type
 |.int _=>Int|.bool=>Bool|.str=>List UInt8|.nl=>Unit|.cons h t=>h.den×t.den
 |.st f=>f.den|.arr _ t=>List t.den|.sl t=>List t.den|.ptr t=>t.den
def zH5:IntKind->Nat
 |.i8=>0|.i16=>1|.i32=>2|.i64=>3|.u8=>4|.u16=>5|.u32=>6|.u64=>7
theorem zG9 {a b:IntKind}(h:zH5 a=zH5 b):a=b:=by cases a<;>cases b<;>first|rfl | (simp[zH5] at h)
def Ty.beq:Ty->Ty->Bool
 |.int k,.int k'=>Nat.beq (zH5 k) (zH5 k')
 |.bool,.bool=>true
 |.str,.str=>true
 |.nl,.nl=>true
 |.cons a b,.cons c d=>Ty.beq a c&&Ty.beq b d
 |.st a,.st b=>Ty.beq a b
 |.arr n a,.arr m b=>Nat.beq n m&&Ty.beq a b
 |.sl a,.sl b=>Ty.beq a b
 |.ptr a,.ptr b=>Ty.beq a b
 |_,_=>false
theorem Ty.eq_of_beq:∀{a b:Ty},Ty.beq a b=true->a=b:=by intro a;induction a with|int k=>intro b h;cases b<;>simp[Ty.beq] at h;rename_i C;have:=zG9 h;rw[this]|bool=>intro b h;cases b<;>simp[Ty.beq] at h;rfl|str=>intro b h;cases b<;>simp[Ty.beq] at h;rfl|nl=>intro b h;cases b<;>simp[Ty.beq] at h;rfl|cons x y j o=>intro b h;cases b<;>simp[Ty.beq] at h;rw[j h.1,o h.2]|st x j=>intro b h;cases b<;>simp[Ty.beq] at h;rw[j h]|arr n x j=>intro b h;cases b<;>simp[Ty.beq] at h;rw[h.1,j h.2]|sl x j=>intro b h;cases b<;>simp[Ty.beq] at h;rw[j h]|ptr x j=>intro b h;cases b<;>simp[Ty.beq] at h;rw[j h]
def Ty.cast {a:Ty}(b:Ty)(x:a.den):Option b.den:=
 match h:Ty.beq a b with
 |true=>some (Ty.eq_of_beq h ▸ x)
 |false=>none
def Ty.dflt:(τ:Ty)->τ.den
 |.int _=>(0:Int)|.bool=>false|.str=>([]:List UInt8)|.nl=>()|.cons h t=>(h.dflt,t.dflt)
 |.st f=>f.dflt|.arr n t=>List.replicate n t.dflt|.sl t=>([]:List t.den)|.ptr t=>t.dflt
def Ty.size:Ty->Nat
 |.int _=>1|.bool=>1|.str=>1|.nl=>0|.cons h t=>h.size+t.size
 |.st f=>f.size|.arr n t=>n*t.size|.sl _=>1|.ptr _=>1
def Ty.isAgg:Ty->Bool
 |.st _=>true|.arr _ _=>true|_=>false
def Ty.isL:Ty->Bool
 |.nl=>true|.cons _ _=>true|_=>false
def Ty.plain:Ty->Bool
 |.cons h t=>!h.isL&&h.plain&&t.isL&&t.plain
 |.st f=>f.isL&&f.plain
 |.arr _ t=>!t.isL&&t.plain
 |.sl t=>!t.isL&&t.plain
 |.ptr t=>!t.isL&&t.plain
 |_=>true
def Ty.hasSl:Ty->Bool
 |.sl _=>true|.cons h t=>h.hasSl||t.hasSl|.st f=>f.hasSl|_=>false
def Ty.fty:Ty->Nat->Ty
 |.cons h _,0=>h
 |.cons _ t,k+1=>t.fty k
 |_,_=>.nl
def Ty.fget:(f:Ty)->(k:Nat)->f.den->(f.fty k).den
 |.cons _ _,0,x=>x.1
 |.cons _ t,k+1,x=>t.fget k x.2
 |.int _,_,_=>()|.bool,_,_=>()|.str,_,_=>()|.nl,_,_=>()|.st _,_,_=>()|.arr _ _,_,_=>()|.sl _,_,_=>()|.ptr _,_,_=>()
def Ty.fset:(f:Ty)->(k:Nat)->(f.fty k).den->f.den->f.den
 |.cons _ _,0,y,x=>(y,x.2)
 |.cons _ t,k+1,y,x=>(x.1,t.fset k y x.2)
 |.int _,_,_,x=>x|.bool,_,_,x=>x|.str,_,_,x=>x|.nl,_,_,x=>x|.st _,_,_,x=>x|.arr _ _,_,_,x=>x|.sl _,_,_,x=>x|.ptr _,_,_,x=>x
def Ty.foff:Ty->Nat->Nat
 |.cons _ _,0=>0
 |.cons h t,k+1=>h.size+t.foff k
 |_,_=>0
def Ty.flen:Ty->Nat
 |.cons _ t=>t.flen+1
 |_=>0
def Ty.eqb:(τ:Ty)->τ.den->τ.den->Bool
 |.int _,x,y=>@BEq.beq Int _ x y
 |.bool,x,y=>@BEq.beq Bool _ x y
 |.str,x,y=>@BEq.beq (List UInt8) _ x y
 |.nl,_,_=>true
 |.cons h t,x,y=>h.eqb x.1 y.1&&t.eqb x.2 y.2
 |.st f,x,y=>f.eqb x y
 |.arr n t,x,y=>(List.range n).all λi=>t.eqb (List.getD (α:=t.den) x i t.dflt) (List.getD (α:=t.den) y i t.dflt)
 |.sl _,_,_=>false
 |.ptr _,_,_=>false
def Ty.cmp:Ty->Bool
 |.int _=>true|.bool=>true|.str=>true|.nl=>true|.cons h t=>h.cmp&&t.cmp|.st f=>f.cmp|.arr _ t=>t.cmp|.sl _=>false|.ptr _=>false
def Ty.noPtr:Ty->Bool
 |.ptr _=>false|.cons h t=>h.noPtr&&t.noPtr|.st f=>f.noPtr|.arr _ t=>t.noPtr|_=>true
def Ty.eqs:Ty->Bool
 |.bool=>true|.st _=>true|.arr _ _=>true|_=>false
def Ty.ht:Ty->Nat
 |.cons h t=>max h.ht t.ht|.st f=>f.ht+1|.arr _ t=>t.ht+1|_=>0
abbrev yH8:=List (Nat ⊕ Int)
def Ty.pty:Ty->yH8->Ty
 |τ,[]=>τ
 |.st f,.inl k::p=>(f.fty k).pty p
 |.arr _ t,.inr _::p=>t.pty p
 |_,_=>.nl
def Ty.poff:Ty->yH8->Nat
 |_,[]=>0
 |.st f,.inl k::p=>f.foff k+(f.fty k).poff p
 |.arr _ t,.inr i::p=>i.toNat*t.size+t.poff p
 |_,_=>0
inductive AVal where
 |junk
 |val (τ:Ty) (x:τ.den)
 |opt (s:Nat) (want g:Bool) (A:AVal)
 |nil
 |nn (b:Bool)
 |own (t:Ty) (l:List t.den) (T:Nat) (m:Bool)
 |box (τ:Ty) (c:AVal)
 |ref (s:Nat) (τ:Ty) (p:yH8)
 |eref (s:Nat) (T:Nat) (t:Ty) (i:Int) (p:yH8)
 |nl
 |cons (h t:AVal)
 |agg (f:Ty) (c:AVal)
 |tup (c:AVal)
 |fn (f:Nat) (c:AVal)
 |raw
 |rref (s:Nat)
 |fptr (f:Nat) (caps:List (Option (Nat×Ty)))
 |ownh (t:Ty) (l:List (List t.den)) (T i U:Nat) (m:Bool)
abbrev St:=List (Nat×AVal)
def zA9:Nat:=1000000
def St.get:St->Nat->AVal
 |[],_=>.junk
 |(s,A)::r,n=>cond (Nat.beq s n) A (cond (Nat.beq s zA9) (.junk) (St.get r n))
def AVal.nth:AVal->Nat->AVal
 |.cons h _,0=>h
 |.cons _ t,k+1=>t.nth k
 |_,_=>.junk
def AVal.setNth:AVal->Nat->AVal->AVal
 |.cons _ t,0,B=>.cons B t
 |.cons h t,k+1,B=>.cons h (t.setNth k B)
 |A,_,_=>A
def zQ1:Ty->AVal
 |.sl _=>.nil
 |.nl=>.nl
 |.cons h t=>.cons (zQ1 h) (zQ1 t)
 |.st f=>cond f.hasSl (.agg f (zQ1 f)) (.val (.st f) f.dflt)
 |.int k=>.val (.int k) (0:Int)
 |.bool=>.val .bool false
 |.str=>.val .str ([]:List UInt8)
 |.arr n t=>.val (.arr n t) (Ty.dflt (.arr n t))
 |.ptr _=>.junk
def xU1:Value->AVal
 |.bool b=>.val .bool b
 |.int k n=>.val (.int k) n
 |.string s=>.val .str s.data.toList
 |.slice none 0 0=>.nil
 |_=>.junk
def yD0:(f:Ty)->f.den->AVal
 |.cons h t,x=>.cons (.val h x.1) (yD0 t x.2)
 |_,_=>.nl
def xY:(τ:Ty)->Option τ.den
 |.sl _=>some []
 |_=>none
def wB5:(τ:Ty)->Option τ.den
 |.nl=>some ()
 |_=>none
def wB9 (g:(f:Ty)->Option f.den):(τ:Ty)->Option τ.den
 |.st f=>g f
 |_=>none
def yY1 (g g':(f:Ty)->Option f.den):(τ:Ty)->Option τ.den
 |.cons h t=>match g h,g' t with|some x,some y=>some (x,y)|_,_=>none
 |_=>none
def AVal.asT:AVal->(τ:Ty)->Option τ.den
 |.val τ' x,τ=>cond τ'.isL none (Ty.cast τ x)
 |.nil,τ=>xY τ
 |.own t l _ m,τ=>cond m none (Ty.cast (a:=.sl t) τ l)
 |.agg f c,τ=>cond (Ty.beq (.st f) τ) (wB9 (AVal.asT c) τ) none
 |.nl,τ=>wB5 τ
 |.cons a b,τ=>yY1 (AVal.asT a) (AVal.asT b) τ
 |_,_=>none
def AVal.as (τ:Ty)(A:AVal):Option τ.den:=A.asT τ
def Ty.isSl:Ty->Bool
 |.sl _=>true|_=>false
def zD8 (g g':Ty->Bool):Ty->Bool
 |.cons h t=>g h&&g' t
 |_=>false
def AVal.fitsT:AVal->Ty->Bool
 |.val τ' _,τ=>Ty.beq τ' τ&&!τ'.isL
 |.nil,τ=>τ.isSl
 |.own t _ _ _,τ=>Ty.beq (.sl t) τ
 |.agg f c,τ=>Ty.beq (.st f) τ&&AVal.fitsT c f
 |.nl,τ=>Ty.beq .nl τ
 |.cons a b,τ=>zD8 (AVal.fitsT a) (AVal.fitsT b) τ
 |_,_=>false
def AVal.fits (τ:Ty)(A:AVal):Bool:=A.fitsT τ
def AVal.laxT:AVal->Ty->Bool
 |.val τ' _,τ=>Ty.beq τ' τ&&!τ'.isL
 |.nil,τ=>τ.isSl
 |.own t _ _ _,τ=>Ty.beq (.sl t) τ
 |.agg f c,τ=>Ty.beq (.st f) τ&&AVal.laxT c f
 |.nl,τ=>Ty.beq .nl τ
 |.cons a b,τ=>zD8 (AVal.laxT a) (AVal.laxT b) τ
 |.junk,τ=>τ.isSl
 |_,_=>false
def AVal.fld (k:Nat):AVal->AVal
 |.val (.st f) x=>.val (f.fty k) (f.fget k x)
 |.agg _ c=>c.nth k
 |_=>.junk
def AVal.ix (i:Int):AVal->AVal
 |.val (.arr _ t) l=>.val t (List.getD (α:=t.den) l i.toNat t.dflt)
 |_=>.junk
def AVal.at (c:AVal):yH8->AVal
 |[]=>c
 |.inl k::p=>(c.fld k).at p
 |.inr i::p=>(c.ix i).at p
def AVal.put:yH8->AVal->AVal->AVal
 |[],_,B=>B
 |.inl k::p,.agg f c,B=>.agg f (c.setNth k (AVal.put p (c.nth k) B))
 |.inl k::p,.val (.st f) x,B =>
  let C:=AVal.put p (.val (f.fty k) (f.fget k x)) B
  match AVal.as (f.fty k) C with
  |some y=>.val (.st f) (f.fset k y x)
  |none=>.agg f ((yD0 f x).setNth k C)
 |.inr i::p,.val (.arr n t) l,B =>
  match AVal.as t (AVal.put p (.val t (List.getD (α:=t.den) l i.toNat t.dflt)) B) with
  |some y=>.val (.arr n t) (List.set (α:=t.den) l i.toNat y)
  |none=>.junk
 |_,_,_=>.junk
def AVal.hasTag (T:Nat):AVal->Bool
 |.own _ _ T' _=>Nat.beq T T'
 |.eref _ T' _ _ _=>Nat.beq T T'
 |.ownh _ _ T' _ U _=>Nat.beq T T'||Nat.beq T U
 |.opt _ _ _ A=>A.hasTag T
 |.box _ c=>c.hasTag T
 |.cons h t=>h.hasTag T||t.hasTag T
 |.agg _ c=>c.hasTag T
 |.tup c=>c.hasTag T
 |.fn _ c=>c.hasTag T
 |_=>false
def xV (s:Nat):Option (Nat×Ty)->Bool
 |some (k,_)=>Nat.beq s k
 |none=>false
def AVal.hasRef (s:Nat):AVal->Bool
 |.ref s' _ _=>Nat.beq s s'
 |.rref s'=>Nat.beq s s'
 |.fptr _ caps=>caps.any (xV s)
 |.opt _ _ _ A=>A.hasRef s
 |.box _ c=>c.hasRef s
 |.cons h t=>h.hasRef s||t.hasRef s
 |.agg _ c=>c.hasRef s
 |.tup c=>c.hasRef s
 |.fn _ c=>c.hasRef s
 |_=>false
def AVal.mapOwn (g:(t:Ty)->List t.den->Nat->Bool->AVal)(h:Nat->Nat->Ty->Int->yH8->AVal):AVal->AVal
 |.own t l T m=>g t l T m
 |.eref s T t i p=>h s T t i p
 |.opt s w b A=>.opt s w b (A.mapOwn g h)
 |.box τ c=>cond ((c.mapOwn g h).laxT τ) (.box τ (c.mapOwn g h)) (.junk)
 |.cons x y=>.cons (x.mapOwn g h) (y.mapOwn g h)
 |.agg f c=>cond ((c.mapOwn g h).laxT f) (.agg f (c.mapOwn g h)) (.junk)
 |.tup c=>.tup (c.mapOwn g h)
 |.fn f c=>.fn f (c.mapOwn g h)
 |.ownh _ _ _ _ _ _=>.junk
 |A=>A
def AVal.retag (T U:Nat):AVal->AVal:=
 AVal.mapOwn (λt l T' m=>.own t l (cond (Nat.beq T T') U T') m) (λs T' t i p=>.eref s (cond (Nat.beq T T') U T') t i p)
def AVal.retagH (T U:Nat):AVal->AVal
 |.ownh t l T' i V m=>.ownh t l (cond (Nat.beq T T') U T') i (cond (Nat.beq T V) U V) m
 |A=>A.retag T U
def AVal.lose (T:Nat):AVal->AVal:=
 AVal.mapOwn (λt l T' m=>cond (Nat.beq T T') (cond m (.junk) (.val (.sl t) l)) (.own t l T' m)) (λs T' t i p=>cond (Nat.beq T T') (.junk) (.eref s T' t i p))
def AVal.gone (T:Nat):AVal->AVal:=
 AVal.mapOwn (λt l T' m=>cond (Nat.beq T T') (.junk) (.own t l T' m)) (λs T' t i p=>cond (Nat.beq T T') (.junk) (.eref s T' t i p))
def AVal.hung (d:Nat):AVal->Bool
 |.opt s _ _ A=>Nat.beq s d||A.hung d
 |.cons a b=>a.hung d||b.hung d
 |.tup c=>c.hung d
 |.fn _ c=>c.hung d
 |_=>false
def AVal.hasOpt:AVal->Bool
 |.opt _ _ _ _=>true
 |.cons a b=>a.hasOpt||b.hasOpt
 |.tup c=>c.hasOpt
 |.fn _ c=>c.hasOpt
 |_=>false
structure GTab where
 tab:List (Nat×(τ:Ty)×τ.den)
abbrev GlobTab:Type:=Inhabited GTab
def GlobTab.tab [i:GlobTab]:List (Nat×(τ:Ty)×τ.den):=(@default GTab i).tab
def Ty.nsl:Ty->Nat
 |.sl _=>1|.cons h t=>h.nsl+t.nsl|.st f=>f.nsl|_=>0
def AVal.pos:AVal->Ty->Nat->AVal
 |.own t l _ m,_,b=>.own t l b m
 |.agg f c,_,b=>.agg f (c.pos f b)
 |.cons x y,.cons h t,b=>.cons (x.pos h b) (y.pos t (b+h.nsl))
 |.cons _ _,_,_=>.junk
 |A,_,_=>A
def AVal.tags:AVal->Ty->Nat->List (Nat×Nat)
 |.own _ _ T _,_,b=>[(T,b)]
 |.agg f c,_,b=>c.tags f b
 |.cons x y,.cons h t,b=>x.tags h b++y.tags t (b+h.nsl)
 |_,_,_=>[]
def Ty.noMem:Ty->Bool
 |.sl _=>false|.ptr _=>false|.cons h t=>h.noMem&&t.noMem|.st f=>f.noMem|.arr _ t=>t.noMem|_=>true
def AVal.scal:AVal->Bool
 |.val τ _=>τ.noMem
 |.nil=>true
 |.own t _ _ _=>t.noMem
 |.tup c=>c.scal
 |.nl=>true
 |.cons a b=>a.scal&&b.scal
 |_=>false
def AVal.pureL:AVal->Bool
 |.nl=>true
 |.cons (.val _ _) t=>t.pureL
 |.cons .nil t=>t.pureL
 |.cons (.fn _ .nl) t=>t.pureL
 |_=>false
end Go.Am
namespace Go.Am
open Go
structure CallOut where
 ok:List Prop
 res:AVal
 outs:List (Nat×AVal)
 eats:List Nat
abbrev Spec:=List AVal->Option CallOut
structure Comp where
 kind:Nat
 g:Option Bool
 d:St
structure Out where
 ok:List Prop
 comps:List Comp
structure Ctx where
 tys:List (Nat×Ty)
 fns:List (Nat×Spec)
 loops:List (Nat×(St->Option Out))
 gh:List (Nat×List (Nat×Nat×Nat×Nat))
 wrap:Bool
 n:Nat
 keep:List Nat
 wr:List Nat
 wants:List (Nat×List Nat):=[]
 exts:List (Nat×(List AVal->Option (List Prop×AVal))):=[]
 maps:List (Nat×(Ty×Ty)):=[]
 fts:List Nat:=[]
 clones:List (Nat×Nat):=[]
def look {α:Type}(dflt:α):List (Nat×α)->Nat->α
 |[],_=>dflt
 |(k,a)::r,n=>cond (Nat.beq k n) a (look dflt r n)
def Ctx.ty (c:Ctx)(T:Nat):Ty:=look .nl c.tys T
def xY0:Ty->Bool
 |.nl=>false|_=>true
def Ctx.is (c:Ctx)(T:Nat)(τ:Ty):Bool:=Ty.beq τ (c.ty T)&&xY0 τ
def Ctx.mapTy (c:Ctx)(T:Nat):Option (Ty×Ty):=look none (c.maps.map λe=>(e.1,some e.2)) T
@[reducible] def xG5 (k v:Ty):Ty:=.cons k (.cons v .nl)
def yK3 (k v:Ty)(x:k.den):List (k.den×v.den×Unit)->Option v.den
 |[]=>none
 |e::r=>cond (k.eqb x e.1) (some e.2.1) (yK3 k v x r)
def xP5 (k v:Ty)(x:k.den)(y:v.den):List (k.den×v.den×Unit)->List (k.den×v.den×Unit)
 |[]=>[(x,y,())]
 |e::r=>cond (k.eqb x e.1) ((x,y,())::r) (e::xP5 k v x y r)
def InR (r:Int):Prop:=-9223372036854775808<=r/\r<=9223372036854775807
def xG6:List (Nat×(τ:Ty)×τ.den)->Nat->AVal
 |[],_=>.junk
 |(k,⟨τ,x⟩)::r,g=>cond (Nat.beq k g) (.val (.ptr τ) x) (xG6 r g)
def arg [GlobTab] (S:St):Operand->AVal
 |.tmp t=>match S.get t with|.box τ _=>.ref t τ []|.raw=>.rref t | A=>A
 |.const v=>xU1 v
 |.func f=>.fn f .nl
 |.global g=>xG6 GlobTab.tab g
def zA5 (S:St):AVal->AVal
 |.ref s _ _=>S.get s
 |.eref s _ _ _ _=>S.get s
 |.rref s=>S.get s
 |_=>.junk
def yK4:Option Bool->Option Bool->Option Bool
 |none,g=>g
 |some a,none=>some a
 |some a,some b=>some (a&&b)
abbrev Gd:=Option (Nat×Bool×Bool)
def zK7 (dsts:List (Option Nat))(S:St):Option (Nat×Bool)->Option Gd
 |none=>some none
 |some (j,want) =>
  match dsts[j]? with
  |some (some s)=>match S.get s with
   |.val .bool b=>some (some (s,want,cond want b (!b)))
   |.opt _ _ g (.val .bool b)=>some (some (s,want,g&&(cond want b (!b))))
   |_=>none
  |_=>none
def zF1 (gd:Gd):AVal->AVal
 |.opt s w _ A=>match gd with
  |some (s',w',_)=>cond (Nat.beq s s'&&(w==w')) A (.junk)
  |none=>.junk
 |A=>A
def yO:Operand->Option Int
 |.const (.int _ n)=>some n
 |_=>none
def xV0:IntKind->Bool
 |.i64=>true|_=>false
def yD1 (wrap:Bool)(k:IntKind)(r:Int):List Prop×AVal:=
 cond (!wrap&&xV0 k) ([InR r],.val (.int k) r) ([],.val (.int k) (k.wrap r))
def yK5 (y:Operand)(b:Int):List Prop:=
 match yO y with
 |some n=>cond (n==0) [False] []
 |none=>[b≠0]
def yY2 (y:Operand)(b:Int):List Prop:=
 match yO y with
 |some n=>cond (decide (0<=n)) [] [False]
 |none=>[0<=b]
def yD2 (k:IntKind)(f:BitVec k.bits->BitVec k.bits->BitVec k.bits)(a b:Int):Int:=
 k.wrap ((f (BitVec.ofInt k.bits a) (BitVec.ofInt k.bits b)).toNat)
def xG7 (wrap:Bool)(op:BinOp)(k:IntKind)(a b:Int)(y:Operand):Option (List Prop×AVal):=
 match op with
 |.add=>some (yD1 wrap k (a+b))
 |.sub=>some (yD1 wrap k (a-b))
 |.mul=>some (yD1 wrap k (a*b))
 |.quo=>some (yK5 y b++(yD1 wrap k (a.tdiv b)).1,(yD1 wrap k (a.tdiv b)).2)
 |.rem=>some (yK5 y b,.val (.int k) (a.tmod b))
 |.and=>some ([],.val (.int k) (yD2 k (λx y=>x &&& y) a b))
 |.or=>some ([],.val (.int k) (yD2 k (λx y=>x ||| y) a b))
 |.xor=>some ([],.val (.int k) (yD2 k (λx y=>x ^^^ y) a b))
 |.andNot=>some ([],.val (.int k) (yD2 k (λx y=>x &&& ~~~y) a b))
 |.eql=>some ([],.val .bool (a==b))
 |.neq=>some ([],.val .bool (a !=b))
 |.lss=>some ([],.val .bool (decide (a<b)))
 |.leq=>some ([],.val .bool (decide (a<=b)))
 |.gtr=>some ([],.val .bool (decide (a>b)))
 |.geq=>some ([],.val .bool (decide (a≥b)))
 |_=>none
def yK6 (wrap:Bool)(op:BinOp)(k:IntKind)(a b:Int)(y:Operand):Option (List Prop×AVal):=
 match op with
 |.shl=>some (yY2 y b++(yD1 wrap k (a*2 ^ (min b.toNat k.bits))).1,(yD1 wrap k (a*2 ^ (min b.toNat k.bits))).2)
 |.shr=>some (yY2 y b,.val (.int k) (a.fdiv (2 ^ (min b.toNat k.bits))))
 |_=>none
def yS9:BinOp->Bool
 |.shl=>true|.shr=>true|_=>false
def xG8 (op:BinOp)(a b:List UInt8):Option (List Prop×AVal):=
 match op with
 |.add=>some ([((a.length+b.length:Nat):Int)<=9223372036854775807],.val .str (a++b))
 |.eql=>some ([],.val .bool (a==b))
 |.neq=>some ([],.val .bool (!(a==b)))
 |.lss=>some ([],.val .bool (Op.bytesLess a b))
 |.leq=>some ([],.val .bool (Op.bytesLess a b||a==b))
 |.gtr=>some ([],.val .bool (!(Op.bytesLess a b||a==b)))
 |.geq=>some ([],.val .bool (!(Op.bytesLess a b)))
 |_=>none
def xV1 (op:BinOp)(τ:Ty)(x y:AVal):Option (List Prop×AVal):=
 match τ.cmp&&τ.eqs,AVal.as τ x,AVal.as τ y with
 |true,some a,some b =>
  match op with
  |.eql=>some ([],.val .bool (τ.eqb a b))
  |.neq=>some ([],.val .bool (!(τ.eqb a b)))
  |_=>none
 |_,_,_=>none
def zZ (op:BinOp)(p:List Prop)(b:Bool):Option (List Prop×AVal):=
 match op with
 |.eql=>some (p,.val .bool b)
 |.neq=>some (p,.val .bool (!b))
 |_=>none
def xV2 (c:Ctx)(op:BinOp)(T:Nat)(x:AVal):Option (List Prop×AVal):=
 match c.ty T with
 |.sl _=>(match x with
  |.nil=>zZ op [] true
  |.nn b=>zZ op [] b
  |.val (.sl t) l=>zZ op [0<List.length (α:=t.den) l] false
  |.own t l _ _=>cond t.isL none (zZ op [0<l.length] false)
  |_=>none)
 |_=>none
def wA9 (c:Ctx)(op:BinOp)(T:Nat)(x y:AVal)(oy:Operand):Option (List Prop×AVal):=
 match x,y with
 |.val (.int k) a,.val (.int k') b =>
  bif yS9 op then yK6 c.wrap op k a b oy
  else cond (Nat.beq (zH5 k) (zH5 k')) (xG7 c.wrap op k a b oy) none
 |.val .str a,.val .str b=>xG8 op a b
 |x,.nil=>xV2 c op T x
 |x,y=>xV1 op (c.ty T) x y
def unA (c:Ctx)(op:UnOp)(x:AVal):Option (List Prop×AVal):=
 match op,x with
 |.not,.val .bool b=>some ([],.val .bool (!b))
 |.neg,.val (.int k) n=>some (yD1 c.wrap k (Int.sub 0 n))
 |.xor,.val (.int k) n=>some ([],.val (.int k) (yD2 k (λx y=>x ^^^ y) (if k.signed then -1 else k.max) n))
 |_,_=>none
def xV3 (c:Ctx)(src dst:Nat)(x:AVal):Option (List Prop×AVal):=
 match c.ty src,c.ty dst,x with
 |.int _,.int k,.val (.int _) n=>some ([],.val (.int k) (k.wrap n))
 |.str,.str,.val .str s=>some ([],.val .str s)
 |_,_,_=>none
def zP5 (ix:Operand)(i:Int)(n:Int):List Prop:=
 match yO ix with
 |some _=>[0<=i/\i<n]
 |none=>[0<=i/\i<n]
def zS0 (c:Ctx)(T:Nat)(x:AVal)(s:Nat)(i:AVal)(ix:Operand):Option (List Prop×AVal):=
 match x,i with
 |.val (.sl t) l,.val (.int _) i=>cond (c.is T (.sl t)) (some (zP5 ix i (List.length (α:=t.den) l:Int),.val (.ptr t) (List.getD (α:=t.den) l i.toNat t.dflt))) none
 |.own t l U m,.val (.int _) i =>
  bif c.is T (.sl t) then
   (bif m then some (zP5 ix i (l.length:Int),.eref s U t i [])
    else some (zP5 ix i (l.length:Int),.val (.ptr t) (List.getD (α:=t.den) l i.toNat t.dflt))) else none
 |.ownh t l U _ V m,.val (.int _) i=>cond (c.is T (.sl (.sl t))&&(m||!(Nat.beq U V))) (some (zP5 ix i (List.length (α:=List t.den) l:Int),.eref s U (.sl t) i [])) none
 |.val (.ptr (.arr n t)) l,.val (.int _) i=>cond (c.is T (.arr n t)) (some (zP5 ix i (n:Int),.val (.ptr t) (List.getD (α:=t.den) l i.toNat t.dflt))) none
 |.ref s τ p,.val (.int _) i =>
  match τ.pty p with
  |.arr n t=>cond (c.is T (.arr n t)) (some (zP5 ix i (n:Int),.ref s τ (p++[.inr i]))) none
  |_=>none
 |.eref s U t j p,.val (.int _) i =>
  match t.pty p with
  |.arr n t'=>cond (c.is T (.arr n t')) (some (zP5 ix i (n:Int),.eref s U t j (p++[.inr i]))) none
  |_=>none
 |_,_=>none
def xG9 (c:Ctx)(T:Nat)(x i:AVal)(ix:Operand):Option (List Prop×AVal):=
 match x,i with
 |.val .str s,.val (.int _) i=>cond (c.is T .str) (some (zP5 ix i (List.length (α:=UInt8) s:Int),.val (.int .u8) ((List.getD (α:=UInt8) s i.toNat 0).toNat:Int))) none
 |.val (.arr n t) l,.val (.int _) i=>cond (c.is T (.arr n t)) (some (zP5 ix i (n:Int),.val t (List.getD (α:=t.den) l i.toNat t.dflt))) none
 |_,_=>none
def zH (c:Ctx)(T:Nat)(x:AVal)(k:Nat):Option (List Prop×AVal):=
 match x with
 |.val (.ptr (.st f)) v=>cond (c.is T (.st f)&&Nat.blt k f.flen&&Nat.blt 0 (f.fty k).size) (some ([],.val (.ptr (f.fty k)) (f.fget k v))) none
 |.ref s τ p =>
  match τ.pty p with
  |.st f=>cond (c.is T (.st f)&&Nat.blt k f.flen&&Nat.blt 0 (f.fty k).size) (some ([],.ref s τ (p++[.inl k]))) none
  |_=>none
 |.eref s U t i p =>
  match t.pty p with
  |.st f=>cond (c.is T (.st f)&&Nat.blt k f.flen&&Nat.blt 0 (f.fty k).size) (some ([],.eref s U t i (p++[.inl k]))) none
  |_=>none
 |_=>none
def xH (c:Ctx)(T:Nat)(x:AVal)(k:Nat):Option (List Prop×AVal):=
 match x with
 |.val (.st f) v=>cond (c.is T (.st f)&&Nat.blt k f.flen) (some ([],.val (f.fty k) (f.fget k v))) none
 |.agg f a=>cond (c.is T (.st f)&&Nat.blt k f.flen) (some ([],a.nth k)) none
 |_=>none
def xV4 (f:Nat)(caps:List (Option (Nat×Ty))):List (Option (Nat×Ty))->AVal
 |[]=>.nl
 |some (k,τ)::r=>.cons (.ref k τ []) (xV4 f caps r)
 |none::r=>.cons (.fptr f caps) (xV4 f caps r)
def zT8 (s:Nat):AVal->Option (List (Option (Nat×Ty)))
 |.nl=>some []
 |.cons (.ref k τ []) t=>(match zT8 s t with|some r=>some (some (k,τ)::r)|none=>none)
 |.cons (.rref s') t=>cond (Nat.beq s s') (match zT8 s t with|some r=>some (none::r)|none=>none) none
 |_=>none
def yK7 (c:Ctx)(T:Nat)(x cont:AVal):Option (List Prop×AVal):=
 match x with
 |.fptr f caps=>cond (c.fts.any (Nat.beq T)) (some ([],.fn f (xV4 f caps caps))) none
 |.val (.ptr t) v=>cond (c.is T t) (some ([],.val t v)) none
 |.ref _ τ p =>
  match cont with
  |.box τ' k=>cond (Ty.beq τ' τ&&c.is T (τ.pty p)&&AVal.fits (τ.pty p) (k.at p)) (some ([],k.at p)) none
  |_=>none
 |.eref _ U t i p =>
  match cont with
  |.ownh t' l U' j V m=>cond (Ty.beq (.sl t') t&&Nat.beq U' U&&c.is T (.sl t')&&p.isEmpty&&!(Nat.beq U' V)) (some ([i.toNat=j/\i<(List.length (α:=List t'.den) l:Int)],.own t' (List.getD (α:=List t'.den) l j []) V m)) none
  |.own t' l U' _=>cond (Ty.beq t' t&&Nat.beq U' U&&c.is T (t.pty p)&&AVal.fits (t.pty p) ((AVal.val t' (List.getD (α:=t'.den) l i.toNat t'.dflt)).at p)) (some ([i<(l.length:Int)],(AVal.val t' (List.getD (α:=t'.den) l i.toNat t'.dflt)).at p)) none
  |_=>none
 |_=>none
def xH0 (c:Ctx)(T:Nat)(x cont v:AVal):Option (Nat×AVal):=
 match x with
 |.ref s τ p =>
  match cont with
  |.box τ' k =>
   cond (Ty.beq τ' τ&&c.is T (τ.pty p)&&AVal.fits (τ.pty p) v&&AVal.laxT (k.at p) (τ.pty p)&&AVal.laxT (AVal.put p k v) τ) (some (s,.box τ (AVal.put p k v))) none
  |_=>none
 |_=>none
def wA0 (parts:List (Nat×AVal))(z:AVal):AVal:=parts.foldl (λa q=>a.setNth q.1 q.2) z
def xX0 (t:Ty):List (Nat×AVal)->List t.den->Option (List t.den)
 |[],l=>some l
 |(k,A)::r,l=>match AVal.as t A with|some x=>xX0 t r (l.set k x)|none=>none
def zU9 (f:Ty)(parts:List (Nat×AVal)):Bool:=parts.all λq=>Nat.blt q.1 f.flen&&AVal.fits (f.fty q.1) q.2
def xH1 (c:Ctx)(T:Nat)(parts:List (Nat×AVal)):Option (List Prop×AVal):=
 match c.ty T with
 |.st f =>
  bif zU9 f parts&&f.noPtr then
   (bif f.hasSl then some ([],.agg f (wA0 parts (zQ1 f)))
    else match AVal.as f (wA0 parts (zQ1 f)) with|some x=>some ([],.val (.st f) x)|none=>none)
  else none
 |.arr n t=>cond (parts.all (λq=>Nat.blt q.1 n)&&t.noPtr) (match xX0 t parts (List.replicate n t.dflt) with|some l=>some ([],.val (.arr n t) l)|none=>none) none
 |_=>none
def zV (c:Ctx)(T len dst:Nat)(parts:List (Nat×AVal)):Option (List Prop×AVal):=
 match parts with
 |[(0,.nil)]=>bif c.wr.any (Nat.beq dst)&&Nat.beq len 1 then
   (match c.ty T with
    |.sl (.sl s)=>cond (!s.isL) (some ([],.ownh s [[]] dst 0 (100000+dst) true)) none
    |_=>none) else none
 |_=>none
def yD3 (c:Ctx)(T len dst:Nat)(parts:List (Nat×AVal)):Option (List Prop×AVal):=
 match c.ty T with
 |.sl t=>cond (parts.all (λq=>Nat.blt q.1 len)&&Nat.ble (len*t.size) 16777216&&Nat.blt 0 t.size&&t.noPtr) (match xX0 t parts (List.replicate len t.dflt) with|some l=>some ([],.own t l dst true)|none=>none) none
 |_=>none
def wB (c:Ctx)(Ts:List Nat)(x:AVal):Option (List Prop×AVal):=
 match Ts with
 |T::_ =>
  (match x with
   |.val .str s=>cond (c.is T .str) (some ([],.val (.int .i64) (List.length (α:=UInt8) s:Int))) none
   |.val (.sl t) l=>cond (c.is T (.sl t)) (some ([],.val (.int .i64) (List.length (α:=t.den) l:Int))) none
   |.own t l _ _=>cond (c.is T (.sl t)) (some ([],.val (.int .i64) (l.length:Int))) none
   |.ownh t l U _ V _=>cond (c.is T (.sl (.sl t))&&!(Nat.beq U V)) (some ([],.val (.int .i64) (List.length (α:=List t.den) l:Int))) none
   |.nil=>cond (c.is T (c.ty T)&&(c.ty T).isSl) (some ([],.val (.int .i64) (0:Int))) none
   |_=>none)
 |[]=>none
def zM7:Option AVal->Option (Option Int)
 |none=>some none
 |some (.val (.int _) n)=>some (some n)
 |some _=>none
def yN8 {α:Type}(l:List α)(lo hi:Option Int):List Prop×List α:=
 match lo,hi with
 |none,none=>([],l)
 |none,some h=>([0<=h/\h<=(l.length:Int)],l.take h.toNat)
 |some a,none=>([0<=a/\a<=(l.length:Int)],l.drop a.toNat)
 |some a,some h=>([0<=a/\a<=h/\h<=(l.length:Int)],(l.take h.toNat).drop a.toNat)
def xH2 (c:Ctx)(T:Nat)(x:AVal)(lo hi:Option AVal):Option (List Prop×AVal):=
 match zM7 lo,zM7 hi with
 |some a,some b =>
  match x with
  |.val .str s=>cond (c.is T .str) (some ((yN8 (α:=UInt8) s a b).1,.val .str (yN8 (α:=UInt8) s a b).2)) none
  |.val (.sl t) l=>cond (c.is T (.sl t)) (some ((yN8 (α:=t.den) l a b).1,.val (.sl t) (yN8 (α:=t.den) l a b).2)) none
  |.own t l U m=>cond (c.is T (.sl t)) (some ((yN8 l a b).1,cond m (.ownh t [(yN8 l a b).2] U 0 U false) (.val (.sl t) (yN8 l a b).2))) none
  |_=>none
 |_,_=>none
def xY1 (n m:Int):List Prop:=[0<=n/\n<=m/\m<=4294967296]
def yY3 (c:Ctx)(T dst:Nat)(n m:AVal):Option (List Prop×AVal):=
 match c.ty T,n,m with
 |.sl t,.val (.int _) n,.val (.int _) m=>cond (Nat.blt 0 t.size&&t.noPtr) (some (xY1 n m,.own t (List.replicate (Int.toNat n) t.dflt) dst true)) none
 |_,_,_=>none
def yT (c:Ctx)(T:Nat)(x y:AVal)(ok:Bool):Option (List Prop×AVal):=
 match c.mapTy T with
 |some (k,v) =>
  match x with
  |.own t l _ _ =>
   match Ty.cast (a:=.sl t) (.sl (xG5 k v)) l,AVal.as k y with
   |some m,some q=>cond ok (some ([],.tup (.cons (.val v ((yK3 k v q m).getD v.dflt)) (.cons (.val .bool (yK3 k v q m).isSome) .nl)))) (some ([],.val v ((yK3 k v q m).getD v.dflt)))
   |_,_=>none
  |_=>none
 |none=>none
def xU2 (c:Ctx)(T dst:Nat):Option (List Prop×AVal):=
 match c.mapTy T with
 |some (k,v)=>some ([],.own (xG5 k v) [] dst true)
 |none=>none
def wB0 (x y:Int):Int:=if y>x then y else x
def wB1 (x y:Int):Int:=if y<x then y else x
def yO0 (f:Int->Int->Int):AVal->List AVal->Option AVal
 |A,[]=>some A
 |.val (.int k) x,.val (.int k') y::r=>cond (Nat.beq (zH5 k) (zH5 k')) (yO0 f (.val (.int k) (f x y)) r) none
 |_,_=>none
def yO1:AVal->Bool
 |.val (.int _) _=>true|_=>false
def xY2 (f:Int->Int->Int):List AVal->Option (List Prop×AVal)
 |A::r=>cond (yO1 A) (match yO0 f A r with|some B=>some ([],B)|none=>none) none
 |[]=>none
def AVal.clen:AVal->Nat
 |.cons _ t=>t.clen+1
 |_=>0
def yK8 (x:AVal)(k:Nat):Option (List Prop×AVal):=
 match x with
 |.tup a=>cond (Nat.blt k a.clen) (some ([],a.nth k)) none
 |_=>none
end Go.Am
namespace Go.Am
open Go
def zC6:Op->List Operand
 |.move x=>[x]|.assign x=>[x]|.box _ x=>[x]|.load _ a=>[a]|.store _ a v=>[a,v]|.nilCheck x=>[x]
 |.pick x a b=>[x,a,b]
 |.binOp _ _ x y _=>[x,y]|.unOp _ _ x=>[x]|.convert _ _ x=>[x]
 |.build _ ps=>ps.toList.map (·.2)|.buildSlice _ _ ps=>ps.toList.map (·.2)
 |.makeSlice _ a b=>[a,b]
 |.slice _ x lo hi mx=>x::(lo.toList++(hi.toList++mx.toList))
 |.fieldAddr _ x _=>[x]|.field _ x _=>[x]|.indexAddr _ x i=>[x,i]|.index _ x i=>[x,i]|.extract t _=>[t]
 |.makeFunc _ _ cs=>cs.toList
 |.lookup _ x i _=>[x,i]
 |.mapUpdate _ m k v=>[m,k,v]
 |.call { callee:=.value f,args,.. }=>f::args.toList
 |.call { callee:=.builtin _,args,.. }=>args.toList
 |_=>[]
def AVal.toL:AVal->List AVal
 |.cons h t=>h::t.toL
 |_=>[]
def AVal.ofL:List AVal->AVal
 |[]=>.nl
 |A::r=>.cons A (AVal.ofL r)
def xY3:Op->List AVal->List AVal
 |.call { callee:=.value _,.. },.fn _ cs::r=>r++cs.toL
 |_,xs=>xs
def zZ0:List Operand->List Nat
 |[]=>[]
 |.tmp t::r=>t::zZ0 r
 |_::r=>zZ0 r
def xY4:Operand->Nat
 |.tmp t=>t|_=>0
def zD9 (ps:List (Nat×Operand))(xs:List AVal):List (Nat×AVal):=List.zipWith (λp A=>(p.1,A)) ps xs
def yK9:List AVal->List Nat
 |[]=>[]
 |.ref s _ _::r=>s::yK9 r
 |.eref s _ _ _ _::r=>s::yK9 r
 |.rref s::r=>s::yK9 r
 |_::r=>yK9 r
def zD0:AVal->AVal->AVal
 |.ref _ τ [],.box τ' k=>cond (Ty.beq τ' τ) (match AVal.as τ k with|some x=>.box τ (.val τ x)|none=>.junk) (.junk)
 |.val τ x,_=>.val τ x
 |.nil,_=>.nil
 |.own t l _ m,_=>cond m (.junk) (.val (.sl t) l)
 |.agg f a,_=>match AVal.as (.st f) (.agg f a) with|some x=>.val (.st f) x|none=>.junk
 |.fn f cs,_=>cond cs.pureL (.fn f cs) (.junk)
 |_,_=>.junk
def zH6:AVal->Bool
 |.box _ _=>true|_=>false
def zV0 (outs:List (Nat×AVal)):Nat->List AVal->Bool
 |_,[]=>true
 |i,A::r=>(!(zH6 A)||outs.any (λe=>Nat.beq e.1 i))&&zV0 outs (i+1) r
def zG2:AVal->Bool
 |.junk=>true|.val _ _=>true|.nil=>true|.own _ _ T _=>Nat.blt T 4|.agg _ c=>zG2 c|.nl=>true|.cons a b=>zG2 a&&zG2 b|.tup c=>zG2 c
 |_=>false
def zI5:AVal->Bool
 |.nl=>true|.cons _ t=>zI5 t|_=>false
def zK:List AVal->Bool
 |[]=>true
 |.ref s _ _::r=>!((yK9 r).any (Nat.beq s))&&zK r
 |_::r=>zK r
def zM (fns:List (Nat×Spec))(f:Nat)(args:List AVal):Option CallOut:=
 match fns with
 |[]=>none
 |(g,sp)::r=>cond (Nat.beq g f) (match sp args with|some o=>some o|none=>zM r f args) (zM r f args)
def AVal.tagTo (d:Nat):AVal->AVal
 |.own t l T m=>.own t l (T*100000+d) m
 |.cons h t=>.cons (h.tagTo d) (t.tagTo d)
 |.agg f c=>.agg f (c.tagTo d)
 |.tup c=>.tup (c.tagTo d)
 |A=>A
def yH9:AVal->Bool
 |.val _ _=>true|_=>false
def yI (ys args:List AVal):List (Nat×AVal)->Option St
 |[]=>some []
 |(i,k)::r =>
  match ys[i]?,args[i]?,yI ys args r with
  |some (.ref s τ []),some (.box τ' _),some u=>cond (Ty.beq τ' τ&&AVal.fits τ k&&yH9 k) (some ((s,.box τ k)::u)) none
  |_,_,_=>none
def zF4:List AVal->List AVal->Bool
 |.ref _ _ []::r,A::l=>zH6 A&&zF4 r l
 |_::r,_::l=>zF4 r l
 |_,_=>true
def zK8:Option Operand->List AVal->Option AVal×List AVal
 |none,xs=>(none,xs)
 |some _,A::r=>(some A,r)
 |some _,[]=>(some .junk,[])
def zV1 (c:Ctx)(d:Nat)(op:Op)(xs ks:List AVal):Option (List Prop×AVal):=
 match op,xs,ks with
 |.move _,[A],_=>some ([],A)
 |.assign _,[A],_=>some ([],A)
 |.box T _,[A],_=>cond (c.is T (c.ty T)&&AVal.fits (c.ty T) A) (some ([],.box (c.ty T) A)) none
 |.alloc T,[],_=>cond (c.fts.any (Nat.beq T)) (some ([],.raw)) (cond (c.is T (c.ty T)&&(c.ty T).noPtr) (some ([],.box (c.ty T) (zQ1 (c.ty T)))) none)
 |.load T _,[A],[k]=>yK7 c T A k
 |.nilCheck _,[A],_=>match A with|.val (.ptr _) _=>some ([],A)|.ref _ _ _=>some ([],A)|.eref _ _ _ _ _=>some ([],A)|.fn _ _=>some ([],A)|_=>none
 |.binOp o T _ y _,[A,B],_=>wA9 c o T A B y
 |.unOp o _ _,[A],_=>unA c o A
 |.convert s t _,[A],_=>xV3 c s t A
 |.build T ps,xs,_=>xH1 c T (zD9 ps.toList xs)
 |.buildSlice T n ps,xs,_=>(match zV c T n d (zD9 ps.toList xs) with|some r=>some r|none=>yD3 c T n d (zD9 ps.toList xs))
 |.makeSlice T _ _,[A,B],_=>yY3 c T d A B
 |.slice T _ lo hi none,A::r,_=>xH2 c T A (zK8 lo r).1 (zK8 hi (zK8 lo r).2).1
 |.fieldAddr T _ k,[A],_=>zH c T A k
 |.field T _ k,[A],_=>xH c T A k
 |.indexAddr T x i,[A,B],_=>zS0 c T A (xY4 x) B i
 |.index T _ i,[A,B],_=>xG9 c T A B i
 |.extract _ k,[A],_=>yK8 A k
 |.lookup T _ _ ok,[A,B],_=>yT c T A B ok
 |.makeMap T none,[],_=>xU2 c T d
 |.makeFunc (.func f) fs _,cs,_=>match fs.toList with | []=>some ([],.fn f (AVal.ofL cs))|_=>none
 |.call { callee:=.builtin .len,argTypes,.. },[A],_=>wB c argTypes.toList A
 |.call { callee:=.builtin .max,.. },xs,_=>xY2 wB0 xs
 |.call { callee:=.builtin .min,.. },xs,_=>xY2 wB1 xs
 |_,_,_=>none
def xY5:AVal->Bool
 |.box _ _=>true
 |.own _ _ _ _=>true
 |.ownh _ _ _ _ _ _=>true
 |.raw=>true
 |_=>false
def zB6 (T:Nat)(h:AVal->AVal)(S:St):St->St
 |[]=>[]
 |(s,_)::r=>cond ((S.get s).hasTag T) ((s,h (S.get s))::zB6 T h S r) (zB6 T h S r)
def zB8 (T:Nat)(S:St):Bool:=S.all λe=>!(e.2.hasTag T)
def zQ2 (s:Nat)(S:St):Bool:=S.all λe=>!(e.2.hasRef s)
def yI0 (T:Nat)(S:St):Bool:=S.all λe=>!((S.get e.1).hasTag T)
def AVal.setEl0 (T:Nat)(t:Ty)(i:Nat)(y:t.den):AVal->AVal:=
 AVal.mapOwn (λt' l T' m=>cond (Nat.beq T T') (match Ty.cast t' y with|some y'=>cond m (.own t' (l.set i y') T' m) (.junk)|none=>.junk) (.own t' l T' m)) (λs T' t i p=>.eref s T' t i p)
def AVal.setEl (T:Nat)(t:Ty)(i:Nat)(y:t.den):AVal->AVal
 |.ownh t' l T' j U m=>cond (Nat.beq T U&&m&&!(Nat.beq T' U)) (match Ty.cast t' y with|some y'=>.ownh t' (List.set (α:=List t'.den) l j ((List.getD (α:=List t'.den) l j []).set i y')) T' j U m|none=>.junk) (.junk)
 |A=>A.setEl0 T t i y
def AVal.setHole (T:Nat)(s:Ty)(i:Nat)(x:List s.den)(V:Nat)(m:Bool):AVal->AVal:=
 AVal.mapOwn (λt0 l0 T0 m0=>cond (Nat.beq T T0) (match Ty.cast (a:=.sl t0) (.sl (.sl s)) l0 with|some l1=>cond m0 (.ownh s (List.set (α:=List s.den) l1 i x) T i V m) (.junk)|none=>.junk) (.own t0 l0 T0 m0)) (λs T' t i p=>.eref s T' t i p)
def wA1 (t:Ty):AVal->Option (List t.den)
 |.own t' l _ _=>Ty.cast (a:=.sl t') (.sl t) l
 |.nn _=>some []
 |B=>AVal.as (.sl t) B
def xH3 (c:Ctx)(T d:Nat)(A B:AVal):Option (List Prop×AVal×Option Nat):=
 match c.ty T with
 |.sl t =>
  bif !(Nat.blt 0 t.size) then none else
  match wA1 t B with
  |some l2 =>
   match A with
   |.nil=>some ([(l2.length:Int)<=4294967296],.own t l2 d true,none)
   |.own t' l U m=>match Ty.cast (a:=.sl t') (.sl t) l with
    |some l1=>some ([((List.length (α:=t.den) l1+l2.length:Nat):Int)<=4294967296],.own t (List.append (α:=t.den) l1 l2) d m,some U)
    |none=>none
   |_=>none
  |none=>none
 |_=>none
def zX4 (gd:Gd)(sc:Operand)(want:Bool):AVal->AVal
 |.opt s w g A=>match sc with
  |.tmp c=>cond (Nat.beq s c&&(w==want)) A (zF1 gd (.opt s w g A))
  |_=>zF1 gd (.opt s w g A)
 |A=>A
def zH3 (gd:Gd)(A:AVal):AVal:=
 match gd with
 |none=>A
 |some (s,w,g)=>.opt s w g A
def zZ1 (gd:Gd)(l:List Prop):List Prop:=
 match gd with
 |none=>l
 |some (_,_,g)=>l.map λp=>g=true->p
def xV5:AVal->Bool
 |.own _ _ _ m=>m|_=>false
def yD4 (c:Ctx)(T U:Nat)(t:Ty)(i:Int)(p:yH8)(t':Ty)(n:Nat)(U':Nat)(v:AVal)(S:St):Option (List Prop×St×Bool):=
 match v with
 |.own s x V m=>bif Ty.beq t' t&&Ty.beq (.sl s) t'&&Nat.beq U' U&&c.is T (.sl s)&&p.isEmpty&&!(Nat.beq V U)&&!s.isL then
   some ([i<(n:Int)],zB6 U (AVal.setHole U s i.toNat x V m) S S,true) else none
 |_=>none
def AVal.fill (U:Nat)(t:Ty)(i:Nat)(x:List t.den)(V:Nat)(m:Bool):AVal->AVal
 |.ownh t' l T' j U' true=>cond (Nat.beq T' U&&Nat.beq U' U) (match Ty.cast (a:=.sl t) (.sl t') x with|some x'=>.ownh t' (List.set (α:=List t'.den) l i x') U i V m|none=>.junk) (.junk)
 |A=>A.gone U
def zV2 (c:Ctx)(U:Nat)(t:Ty)(i:Nat)(x:List t.den)(V:Nat)(m:Bool)(s0:Nat)(S:St):St->St
 |[]=>[]
 |(s,_)::r=>cond ((S.get s).hasTag U) ((s,cond (Nat.beq s s0||c.wr.any (Nat.beq s)) ((S.get s).fill U t i x V m) ((S.get s).gone U))::zV2 c U t i x V m s0 S r) (zV2 c U t i x V m s0 S r)
def zV3 (U:Nat)(i:Int):AVal->List Prop
 |.ownh t l T j U' true=>cond (Nat.beq T U&&Nat.beq U' U) [i.toNat=j/\i<(List.length (α:=List t.den) l:Int)] []
 |_=>[]
def zV4 (U:Nat)(i:Int)(s0:Nat)(S:St):List Nat->List Prop
 |[]=>[]
 |s::r=>(cond (Nat.beq s s0) [] (zV3 U i (S.get s)))++zV4 U i s0 S r
def yD5 (c:Ctx)(T s U:Nat)(t:Ty)(i:Int)(p:yH8)(t':Ty)(l:List (List t'.den))(U' j U2:Nat)(v:AVal)(S:St):Option (List Prop×St×Bool):=
 match v with
 |.own s' x V m=>bif Ty.beq (.sl t') t&&Nat.beq U' U2&&Nat.beq U' U&&c.is T (.sl t')&&p.isEmpty&&!(Nat.beq V U)&&!t'.isL then
   (match Ty.cast (a:=.sl s') (.sl t') x with
    |some x'=>some ((i.toNat=j/\i<(List.length (α:=List t'.den) l:Int))::zV4 U i s S c.wr,zV2 c U t' i.toNat x' V m s S S,true)
    |none=>none) else none
 |_=>none
def zV5 (c:Ctx)(T:Nat)(A k v:AVal)(S:St):Option (List Prop×St×Bool):=
 match A with
 |.eref s U t i p=>match k with
  |.ownh t' l U' j U2 true=>yD5 c T s U t i p t' l U' j U2 v S
  |.own t' l U' true=>bif xV5 v then yD4 c T U t i p t' l.length U' v S else bif Ty.beq t' t&&Nat.beq U' U&&c.is T (t'.pty p)&&AVal.fits (t'.pty p) v then
    (match AVal.as t' (AVal.put p (.val t' (List.getD (α:=t'.den) l i.toNat t'.dflt)) v) with
     |some y=>some ([i<(l.length:Int)],zB6 U (AVal.setEl U t' i.toNat y) S S,true)
     |none=>none) else none
  |_=>none
 |.rref s=>(match k,v with
  |.raw,.fn f cs=>cond (c.fts.any (Nat.beq T)) (match zT8 s cs with|some caps=>some ([],[(s,.fptr f caps)],false)|none=>none) none
  |_,_=>none)
 |A=>match xH0 c T A k v with|some u=>some ([],[u],false)|none=>none
def AVal.setMap (T:Nat)(k v:Ty)(x:k.den)(y:v.den):AVal->AVal:=
 AVal.mapOwn (λt' l T' m=>cond (Nat.beq T T') (match Ty.cast (a:=.sl t') (.sl (xG5 k v)) l with|some l'=>.own (xG5 k v) (xP5 k v x y l') T' m|none=>.junk) (.own t' l T' m)) (λs T' t i p=>.eref s T' t i p)
def yL (c:Ctx)(T:Nat)(A B C:AVal)(S:St):Option (List Prop×St×Bool):=
 match c.mapTy T with
 |some (k,v) =>
  match A with
  |.own t l U _ =>
   match Ty.cast (a:=.sl t) (.sl (xG5 k v)) l,AVal.as k B,AVal.as v C with
   |some _,some x,some y=>some ([],zB6 U (AVal.setMap U k v x y) S S,true)
   |_,_,_=>none
  |_=>none
 |none=>none
def xH4 (c:Ctx)(T d:Nat)(A B:AVal):Option (List Prop×AVal×Nat):=
 match B with
 |.ownh s [[]] T' 0 V m =>
  (match A with
   |.own t' l U true=>bif c.is T (.sl (.sl s))&&!(Nat.beq V U)&&!(Nat.beq T' V)&&!(Nat.beq V d) then
    (match Ty.cast (a:=.sl t') (.sl (.sl s)) l with
     |some l1=>some ([((List.length (α:=List s.den) l1+1:Nat):Int)<=4294967296],.ownh s (List.append (α:=List s.den) l1 [[]]) d (List.length (α:=List s.den) l1) V m,U)
     |none=>none) else none
   |_=>none)
 |_=>none
def zM8 (c:Ctx)(d T:Nat)(A B:AVal)(S:St):Option (List Prop×St×Bool):=
 bif zB8 d S then
  (match xH4 c T d A B with
   |some (p,R,U)=>some (p,(d,R)::zB6 U (AVal.lose U) S S,true)
   |none=>(match xH3 c T d A B with
    |some (p,R,some U)=>some (p,(d,R)::zB6 U (AVal.lose U) S S,true)
    |some (p,R,none)=>some (p,[(d,R)],true)
    |none=>none)) else none
def zH7 (c:Ctx)(gd:Gd)(dst:Option Nat)(f:Nat)(ys ks:List AVal)(S:St):Option (List Prop×St×Bool):=
 match zM c.fns f (List.zipWith zD0 ys ks) with
 |none=>none
 |some co=>bif !(zV0 co.outs 0 (List.zipWith zD0 ys ks)&&zG2 co.res&&zK ys&&zF4 ys (List.zipWith zD0 ys ks)) then none else match yI ys (List.zipWith zD0 ys ks) co.outs,co.eats with
  |some u,[] =>
   (match gd with
    |none=>(match dst with
     |none=>some (co.ok,u,false)
     |some d=>cond (zB8 d S&&zB8 (100000+d) S&&zB8 (200000+d) S&&zB8 (300000+d) S) (some (co.ok,(d,co.res.tagTo d)::u,false)) none)
    |some _=>(match dst,u,co.res with
     |some d,[],.val τ x=>some (zZ1 gd co.ok,[(d,zH3 gd (.val τ x))],false)
     |_,_,_=>none))
  |_,_=>none
def zP6:List Nat->Bool
 |[]=>true
 |a::r=>!(r.any (Nat.beq a))&&zP6 r
def zT6 (i:Nat):Nat:=400000+100*i
def yO2 (i:Nat):AVal->List (Nat×Nat)
 |.ref s _ []=>[(s,i)]
 |_=>[]
def zP7:Nat->List AVal->List (Nat×Nat)
 |i,Y::r=>yO2 i Y++zP7 (i+1) r
 |_,[]=>[]
def lkB:List (Nat×Nat)->Nat->Option Nat
 |[],_=>none
 |(s,i)::r,k=>cond (Nat.beq s k) (some i) (lkB r k)
def zZ2 (HB:List (Nat×Nat)):List (Option (Nat×Ty))->Option (List (Option (Nat×Ty)))
 |[]=>some []
 |none::r=>(match zZ2 HB r with|some l=>some (none::l)|none=>none)
 |some (k,τ)::r=>(match lkB HB k,zZ2 HB r with|some i,some l=>some (some (i,τ)::l)|_,_=>none)
def zJ4 (HB:List (Nat×Nat))(wants:List Nat)(i:Nat):AVal->AVal->AVal
 |.ref _ τ [],.box τ' k=>cond (Ty.beq τ' τ) (.box τ (k.pos τ (zT6 i))) (.junk)
 |.own t l _ m,_=>cond (wants.any (Nat.beq i)) (.own t l (zT6 i) m) (cond m (.junk) (.val (.sl t) l))
 |.agg f a,_=>bif wants.any (Nat.beq i) then .agg f (a.pos f (zT6 i)) else match AVal.as (.st f) (.agg f a) with|some x=>.val (.st f) x|none=>.junk
 |.val τ x,_=>.val τ x
 |.nil,_=>.nil
 |.fn f cs,_=>cond cs.pureL (.fn f cs) (.junk)
 |.fptr f caps,_=>(match zZ2 HB caps with|some l=>.fptr f l|none=>.junk)
 |_,_=>.junk
def yH4 (HB:List (Nat×Nat))(wants:List Nat):Nat->List AVal->List AVal->List AVal
 |i,Y::r,k::s=>zJ4 HB wants i Y k::yH4 HB wants (i+1) r s
 |_,_,_=>[]
def yO3 (wants:List Nat)(i:Nat):AVal->AVal->List (Nat×Nat)
 |.ref _ τ [],.box _ c=>c.tags τ (zT6 i)
 |.own _ _ T _,_=>cond (wants.any (Nat.beq i)) [(T,zT6 i)] []
 |.agg f c,_=>cond (wants.any (Nat.beq i)) (c.tags f (zT6 i)) []
 |_,_=>[]
def zZ3 (wants:List Nat):Nat->List AVal->List AVal->List (Nat×Nat)
 |i,Y::r,k::s=>yO3 wants i Y k++zZ3 wants (i+1) r s
 |_,_,_=>[]
def xP7 (l:List (Nat×Nat)):Bool:=l.all λp=>Nat.beq p.1 p.2
structure Bor where
 U:Nat
 T:Nat
 t:Ty
 l:List t.den
 l':List t.den
 m:Bool
def zH0:AVal->AVal->Option (List Bor)
 |.own t l U _,k=>(match k with
  |.own t' l' T m'=>(match Ty.cast (a:=.sl t') (.sl t) l' with|some l2=>cond (Nat.blt 0 t.size) (some [⟨U,T,t,l,l2,m'⟩]) none|none=>none)
  |_=>none)
 |.agg f c,k=>(match k with|.agg f' c'=>cond (Ty.beq f f') (zH0 c c') none|_=>none)
 |.cons a b,k=>(match k with|.cons a' b'=>(match zH0 a a',zH0 b b' with|some x,some y=>some (x++y)|_,_=>none)|_=>none)
 |.val _ _,_=>some []
 |.nil,_=>some []
 |.nl,_=>some []
 |_,_=>none
def zX5:List Bor->Nat->Option Bor
 |[],_=>none
 |b::r,T=>cond (Nat.beq b.U T) (some b) (zX5 r T)
def AVal.turn (bs:List Bor)(L:List Nat):AVal->AVal:=
 AVal.mapOwn (λt l T m=>match zX5 bs T with
  |some b=>(match Ty.cast (a:=.sl b.t) (.sl t) b.l' with|some l2=>.own t l2 T b.m|none=>.junk)
  |none=>cond (L.any (Nat.beq T)) (cond m (.junk) (.val (.sl t) l)) (.own t l T m))
  (λs T t i p=>cond (L.any (Nat.beq T)) (.junk) (.eref s T t i p))
def AVal.turnH (bs:List Bor)(L:List Nat):AVal->AVal
 |.ownh t l T i U _=>cond (!(Nat.beq T U)&&!(L.any (Nat.beq T))) (.ownh t l T i T true) (.junk)
 |A=>A.turn bs L
def AVal.borAsks (bs:List Bor):AVal->List Prop
 |.own _ l T _=>match zX5 bs T with|some b=>[l.length=b.l.length]|none=>[]
 |.opt _ _ _ A=>A.borAsks bs
 |.box _ c=>c.borAsks bs
 |.cons a b=>a.borAsks bs++b.borAsks bs
 |.agg _ c=>c.borAsks bs
 |.tup c=>c.borAsks bs
 |.fn _ c=>c.borAsks bs
 |_=>[]
def zQ3 (L:List Nat)(A:AVal):Bool:=L.any λT=>A.hasTag T
def zJ8 (bs:List Bor)(L:List Nat)(S:St):St->St
 |[]=>[]
 |(s,_)::r=>cond (zQ3 L (S.get s)) ((s,(S.get s).turnH bs L)::zJ8 bs L S r) (zJ8 bs L S r)
def zV6 (bs:List Bor)(L:List Nat)(S:St):Nat->List Prop
 |0=>[]
 |s+1=>zV6 bs L S s++(cond (zQ3 L (S.get s)) ((S.get s).borAsks bs) [])
def xU3 (Y:AVal)(i:Nat)(k:AVal):Option (St×List Bor×List (Nat×Nat)):=
 match Y with
 |.ref s τ []=>cond (AVal.fits τ k&&xP7 (k.tags τ (zT6 i))) (some ([(s,.box τ (k.pos τ (zT6 s)))],[],k.tags τ (zT6 s))) none
 |Y=>match zH0 Y k with|some bs=>some ([],bs,bs.map λb=>(b.T,b.U))|none=>none
def xH5 (ys:List AVal):List (Nat×AVal)->Option (St×List Bor×List (Nat×Nat))
 |[]=>some ([],[],[])
 |(i,k)::r =>
  match ys[i]?,xH5 ys r with
  |some Y,some (u,bs,K)=>(match xU3 Y i k with|some (u',bs',K')=>some (u'++u,bs'++bs,K'++K)|none=>none)
  |_,_=>none
def xX1 (dst:Option Nat):List (Nat×Nat):=
 match dst with
 |some d=>[(0,d),(1,100000+d),(2,200000+d),(3,300000+d)]
 |none=>[]
def xH6 (c:Ctx)(dst:Option Nat)(f:Nat)(ys:List AVal)(S:St):Option (List Prop×St×Bool):=
 match zM c.fns f (yH4 (zP7 0 ys) (look [] c.wants f) 0 ys (ys.map (zA5 S))) with
 |none=>none
 |some co=>match xH5 ys co.outs with
  |none=>none
  |some (u,bs,K) =>
   bif zV0 co.outs 0 (yH4 (zP7 0 ys) (look [] c.wants f) 0 ys (ys.map (zA5 S)))&&zG2 co.res&&zF4 ys (yH4 (zP7 0 ys) (look [] c.wants f) 0 ys (ys.map (zA5 S))) &&
    zP6 ((zP7 0 ys).map (·.1))&&zP6 ((zZ3 (look [] c.wants f) 0 ys (ys.map (zA5 S))).map (·.1))&&zP6 ((zZ3 (look [] c.wants f) 0 ys (ys.map (zA5 S))).map (·.2)) &&
    zP6 ((xX1 dst++K).map (·.1))&&zP6 ((xX1 dst++K).map (·.2))&&zP6 ((match dst with|some d=>[d]|none=>[])++u.map (·.1)) then
    some (co.ok++(bs.map (λb=>0<b.l.length)++zV6 bs ((zZ3 (look [] c.wants f) 0 ys (ys.map (zA5 S))).map (·.1)++(xX1 dst++K).map (·.2)) S c.n),
     (match dst with|some d=>(d,co.res.tagTo d)::u|none=>u)++zJ8 bs ((zZ3 (look [] c.wants f) 0 ys (ys.map (zA5 S))).map (·.1)++(xX1 dst++K).map (·.2)) S S,true)
   else none
def AVal.lent:AVal->AVal:=AVal.mapOwn (λt l _ _=>cond t.isL (.junk) (.val (.sl t) l)) (λ_ _ _ _ _=>.junk)
def yA6:AVal->AVal->AVal
 |.ref _ τ [],.box τ' k=>cond (Ty.beq τ' τ) (match AVal.as τ k.lent with|some x=>.val (.ptr τ) x|none=>.junk) (.junk)
 |.own t l _ _,_=>cond t.isL (.junk) (.val (.sl t) l)
 |.ownh t l T _ U m,_=>cond (Nat.beq T U&&!m) (match l with | [x]=>.val (.sl t) x|_=>.junk) (.junk)
 |.agg f a,_=>(match AVal.as (.st f) (.agg f a.lent) with|some x=>.val (.st f) x|none=>.junk)
 |.val τ x,_=>.val τ x
 |.nil,_=>.nil
 |.fn f cs,_=>cond cs.pureL (.fn f cs) (.junk)
 |_,_=>.junk
def yA7 (c:Ctx)(dst:Option Nat)(f:Nat)(ys ks:List AVal)(S:St):Option (List Prop×St×Bool):=
 match zM c.fns f (List.zipWith yA6 ys ks) with
 |none=>none
 |some co=>match co.outs,dst with
  |[],some d=>cond (zG2 co.res&&co.res.scal&&zB8 d S&&zB8 (100000+d) S&&zB8 (200000+d) S&&zB8 (300000+d) S) (some (co.ok,[(d,co.res.tagTo d)],false)) none
  |_,_=>none
def yD6 (exts:List (Nat×(List AVal->Option (List Prop×AVal))))(f:Nat)(ys:List AVal):Option (List Prop×AVal):=
 match exts with
 |[]=>none
 |(g,e)::r=>cond (Nat.beq g f) (e ys) (yD6 r f ys)
def zU0 (c:Ctx)(gd:Gd)(dst:Option Nat)(f:Nat)(ys:List AVal):Option (List Prop×St×Bool):=
 match yD6 c.exts f ys,dst with
 |some (p,.val τ x),some d=>some (zZ1 gd p,[(d,zH3 gd (.val τ x))],false)
 |some (p,.tup a),some d=>match gd with|none=>cond (zG2 (.tup a)&&AVal.scal (.tup a)&&!(a.hung d)) (some (p,[(d,.tup a)],false)) none|some _=>none
 |_,_=>none
def zJ5 {α:Type}(x y:Option α):Option α:=match x with|some a=>some a|none=>y
def xA9 (c:Ctx)(dst:Option Nat)(f:Nat)(ys:List AVal)(S:St):Option (List Prop×St×Bool):=
 match ys,dst with
 |[.ownh t [x] T _ U false],some d=>bif Nat.beq T U&&c.clones.any (λp=>Nat.beq p.1 f&&Nat.beq p.2 t.size)&&zB8 d S then
   some ([0<List.length (α:=t.den) x/\(List.length (α:=t.den) x:Int)<=4294967296],[(d,.own t x d true)],true) else none
 |_,_=>none
def xH7 (c:Ctx)(gd:Gd)(dst:Option Nat)(f:Nat)(ys:List AVal)(S:St):Option (List Prop×St×Bool):=
 match yA7 c dst f ys (ys.map (zA5 S)) S with
 |some (p,[(d,.own t l T m)],_)=>some (zZ1 gd p,[(d,zH3 gd (.own t l T m))],true)
 |_=>none
def yI1 (c:Ctx)(gd:Gd)(dst:Option Nat)(f:Nat)(ys:List AVal)(S:St):Option (List Prop×St×Bool):=
 match gd with
 |none=>zJ5 (yA7 c dst f ys (ys.map (zA5 S)) S) (zJ5 (xA9 c dst f ys S) (xH6 c dst f ys S))
 |some q=>xH7 c (some q) dst f ys S
def yL0 (c:Ctx)(gd:Gd)(dst:Option Nat)(f:Nat)(ys:List AVal)(S:St):Option (List Prop×St×Bool):=
 zJ5 (zU0 c gd dst f ys) (zJ5 (zH7 c gd dst f ys (ys.map (zA5 S)) S) (yI1 c gd dst f ys S))
def yB7 (gd:Gd)(dst:Option Nat)(x:Operand)(xs0:List AVal):Option (List Prop×St×Bool):=
 match dst,xs0 with
 |some d,[C,A,B] =>
  match zF1 gd C,zX4 gd x true A,zX4 gd x false B with
  |.val .bool b,.val τ a,.val _ y=>match Ty.cast τ y with
   |some z=>some ([],[(d,zH3 gd (.val τ (cond b a z)))],false)
   |none=>none
  |_,_,_=>none
 |_,_=>none
def zT7:Op->Bool
 |.box _ _=>true|.alloc _=>true|.buildSlice _ _ _=>true|.makeSlice _ _ _=>true|.makeMap _ _=>true|_=>false
def gMk (gd:Gd)(d:Nat)(p:List Prop)(A:AVal)(S:St):Option (List Prop×St×Bool):=
 match gd,A with
 |some q,.own t l T _=>cond (zQ2 d S&&zB8 d S&&Nat.beq T d&&!t.isL) (some (zZ1 (some q) p,[(d,zH3 (some q) (.val (.sl t) l))],false)) none
 |_,_=>none
def zK0 (c:Ctx)(gd:Gd)(dst:Option Nat)(op:Op)(xs ks:List AVal)(S:St):Option (List Prop×St×Bool):=
 match dst with
 |none=>none
 |some d=>match zV1 c d op xs ks with
  |none=>none
  |some (p,A) =>
   bif zT7 op then (cond (gd.isNone&&zQ2 d S&&zB8 d S) (some (p,[(d,A)],false)) (gMk gd d p A S))
   else some (zZ1 gd p,[(d,zH3 gd A)],false)
def zP8:Op->Nat
 |.pick _ _ _=>0
 |.store _ _ _=>1
 |.mapUpdate _ _ _ _=>1
 |.call { callee:=.builtin .append,.. }=>2
 |.call { callee:=.value _,.. }=>3
 |.makeInterface _ _=>4
 |.panic _=>4
 |_=>5
def yL1 (c:Ctx)(gd:Gd)(o:Oper)(S:St)(xs0 xs:List AVal):Option (List Prop×St×Bool):=
 match zP8 o.op with
 |0=>(match o.op with|.pick x _ _=>yB7 gd o.dst x xs0|_=>none)
 |1=>(match gd,o.dst,o.op,xs with
  |none,none,.store T _ _,[A,v]=>zV5 c T A (zA5 S A) v S
  |none,none,.mapUpdate T _ _ _,[A,k,v]=>yL c T A k v S
  |_,_,_,_=>none)
 |2=>(match gd,o.dst,o.op,xs with
  |none,some d,.call { argTypes,.. },[A,B]=>(match argTypes.toList with
   |[T,T']=>cond (Nat.beq T T') (zM8 c d T A B S) none
   |_=>none)
  |_,_,_,_=>none)
 |3=>(match xs with
  |.fn f cs::r=>cond (zI5 cs) (yL0 c gd o.dst f (r++cs.toL) S) none
  |_=>none)
 |4=>(match gd with|none=>some ([False],[],false)|some _=>none)
 |_=>zK0 c gd o.dst o.op xs ((xs.map (zA5 S)).map (zF1 gd)) S
def zQ4 [GlobTab] (c:Ctx)(dsts:List (Option Nat))(o:Oper)(S:St):Option (List Prop×St×Bool):=
 match zK7 dsts S o.guard with
 |none=>none
 |some gd=>yL1 c gd o S ((zC6 o.op).map (arg S)) (((zC6 o.op).map (arg S)).map (zF1 gd))
def xU4 (c:Ctx)(S:St):St->Option St
 |(d,.own t l T true)::u=>cond (Nat.beq T d&&!(c.wr.any (Nat.beq d))) (cond (zB8 T (u++S)&&!t.isL) (some ((d,.own t l T false)::u)) none) (some ((d,.own t l T true)::u))
 |u=>some u
def xX2:Op->Bool
 |.buildSlice _ _ _=>true
 |.makeSlice _ _ _=>true
 |.call { callee:=.builtin .append,.. }=>true
 |_=>false
def yA8 [GlobTab] (c:Ctx)(dsts:List (Option Nat))(o:Oper)(S:St):Option (List Prop×St×Bool):=
 match zQ4 c dsts o S with
 |none=>none
 |some (p,u,h)=>cond (xX2 o.op) (match xU4 c S u with|some u'=>some (p,u',h)|none=>none) (some (p,u,h))
def bare:AVal->AVal
 |.opt _ _ _ A=>A
 |A=>A
def St.has (s:Nat)(S:St):Bool:=S.any λe=>Nat.beq e.1 s
def yY4 (dst:Option Nat)(S:St):St->Bool
 |[(d',.val _ _)]=>(match dst with|some d=>Nat.beq d d'&&!(St.has d' S)|none=>false)
 |_=>false
structure Tr where
 heavy:Bool
 rd:List Nat
 dst:Option Nat
 u:St
 pl:Bool
def yD7 (dsts:List (Option Nat)):Option (Nat×Bool)->List Nat
 |some (j,_)=>(match dsts[j]? with|some (some s)=>[s]|_=>[])
 |none=>[]
def yI2 [GlobTab] (dsts:List (Option Nat))(o:Oper)(S:St)(u:St)(heavy:Bool):Tr:=
 ⟨heavy,zZ0 (zC6 o.op)++(yD7 dsts o.guard++yK9 (xY3 o.op ((zC6 o.op).map (λx=>bare (arg S x))))),o.dst,u,!heavy&&yY4 o.dst S u⟩
def xB (u:St)(A:AVal):Bool:=u.any λe=>A.hung e.1
def yO4 [GlobTab] (c:Ctx)(dsts:List (Option Nat)):List Oper->St->St->Option (List Prop×St×List Tr)
 |[],_,U=>some ([],U,[])
 |o::r,S,U =>
  match yA8 c dsts o (U++S) with
  |none=>none
  |some (p,u,h)=>bif (u++U).any (λe=>xB u e.2)||!(u.all λe=>Nat.blt e.1 c.n) then none else
   match yO4 c dsts r S (u++U) with
   |none=>none
   |some (p',u',t')=>some (p++p',u',yI2 dsts o (U++S) u h::t')
def apart:List Nat->List Nat->Bool
 |[],_=>true
 |a::r,l=>!(l.any (Nat.beq a))&&apart r l
def yI3 (d:Nat)(A:AVal):Bool:=!(A.hasRef d)&&(!(A.hasTag d)&&(!(A.hasTag (100000+d))&&(!(A.hasTag (200000+d))&&!(A.hasTag (300000+d)))))
def xP8 (d:Option Nat)(u u':St):Bool:=u'.all λe=>!(xB u e.2)&&(match d with|some d=>yI3 d e.2|none=>true)
def yA9 (t t':Tr):Bool:=
 bif t.heavy then !(t'.pl&&(apart (t.u.map (·.1)) t'.rd&&(apart (t.u.map (·.1)) (t'.u.map (·.1))&&(match t.dst with|some d=>!(St.has d t'.u)|none=>true))))
 else t'.heavy||!(apart (t.u.map (·.1)) t'.rd&&(apart (t.u.map (·.1)) (t'.u.map (·.1))&&(apart t.rd (t'.u.map (·.1))&&xP8 t.dst t.u t'.u)))
def zE6 (acc:List Nat):List Edge->Nat
 |[]=>0
 |e::r=>cond (Region.binds .any e) (Nat.lor (Nat.lor (Nat.pow 2 e.on) (acc.getD e.on 0)) (zE6 acc r)) (zE6 acc r)
def ahead:List Oper->List Nat->List Nat
 |[],acc=>acc
 |o::r,acc=>ahead r (acc++[zE6 acc o.after.toList])
def zH8:Nat->List Oper->Bool
 |_,[]=>true
 |i,o::r=>o.after.toList.all (λe=>!(Region.binds .any e)||Nat.blt e.on i)&&zH8 (i+1) r
def yB8 (k bits:Nat)(t:Tr):Nat->List Tr->Bool
 |_,[]=>true
 |i,t'::r=>(Nat.blt i k||(!(yA9 t' t)||Nat.testBit bits i))&&yB8 k bits t (i+1) r
def zM3 (k:Nat)(trs:List Tr):List Nat->List Tr->Bool
 |b::bs,t::r=>yB8 k b t 0 trs&&zM3 k (trs++[t]) bs r
 |[],[]=>true
 |_,_=>false
def zX6 [GlobTab] (c:Ctx)(S:St)(o:Oper):Bool:=
 match o.guard,o.dst with
 |none,some _=>(match o.op,(zC6 o.op).map (arg S) with
  |.move _,_=>true
  |.call { callee:=.builtin .len,argTypes,.. },[.ownh t _ U _ V _]=>(match argTypes.toList with | [T]=>c.is T (.sl (.sl t))&&!(Nat.beq U V)|_=>false)
  |.binOp .sub _ _ _ _,[.val (.int k) _,.val (.int k') _]=>Nat.beq (zH5 k) (zH5 k')
  |.indexAddr T _ _,[.val (.sl t) _,.val (.int _) _]=>c.is T (.sl t)
  |_,_=>false)
 |_,_=>false
def yD8 (ops:Array Oper)(i:Nat)(oi:Oper):Nat->List Oper->Bool
 |_,[]=>true
 |j,oj::r=>(Nat.ble j i||(oj.after.toList.any (λe=>Region.binds .any e&&Nat.beq e.on i)||oi.apart ops oj))&&yD8 ops i oi (j+1) r
def zP9 [GlobTab] (c:Ctx)(ops:List Oper)(S:St):Nat->List Oper->List Tr->St->Nat
 |i,o::r,t::ts,U=>cond (zX6 c (U++S) o&&yD8 ops.toArray i o 0 ops) (zP9 c ops S (i+1) r ts (t.u++U)) i
 |i,_,_,_=>i
def xB0 (k:Nat):AVal->Option Nat
 |.own _ _ T _=>some T
 |.box _ a=>match a.fld k with|.own _ _ T _=>some T | _=>none
 |.ownh _ _ T _ U _=>cond (Nat.beq T U) none (some U)
 |_=>none
def zF5 (k:Nat):AVal->AVal
 |.ownh t l T _ _ _=>.own (.sl t) l T true
 |.own t l T _=>cond t.isL (.junk) (.own t l T false)
 |.box τ (.agg f a)=>match a.nth k with
  |.own t l T _=>cond t.isL (.junk) (cond (((a.gone T).setNth k (.own t l T false)).fitsT f) (.box τ (.agg f ((a.gone T).setNth k (.own t l T false)))) (.junk))
  |_=>.junk
 |_=>.junk
def xB1 (s:Nat)(h:AVal->AVal)(S:St):St->St
 |[]=>[]
 |(k,_)::r=>cond ((S.get k).hasRef s) ((k,h (S.get k))::xB1 s h S r) (xB1 s h S r)
def yL2 (s:Nat)(τ:Ty)(x:τ.den):AVal->AVal
 |.ref s' τ' []=>cond (Nat.beq s s'&&Ty.beq τ' τ) (.val (.ptr τ) x) (.junk)
 |_=>.junk
def yT0 (S:St)(s:Nat):Option St:=
 match S.get s with
 |.box τ c=>(match AVal.as τ c with|some x=>some ((s,.val (.ptr τ) x)::xB1 s (yL2 s τ x) S S)|none=>none)
 |_=>none
def xH8 (S:St):Nat×Nat×Nat×Nat->Option St
 |(kind,s,k,U) =>
  bif Nat.beq kind 3 then yT0 S s else
  bif Nat.beq kind 4 then (cond (Nat.beq k U) (some []) (cond (yI0 U S) (some (zB6 k (AVal.retagH k U) S S)) none)) else
  bif Nat.beq kind 5 then some (zB6 k (AVal.lose k) S S) else
  match xB0 k (S.get s) with
  |none=>none
  |some T =>
   match kind with
   |0=>cond (Nat.beq T U) (some []) (cond (yI0 U S) (some (zB6 T (AVal.retagH T U) S S)) none)
   |1=>some ((s,zF5 k (S.get s))::zB6 T (AVal.gone T) S S)
   |_=>some (zB6 T (AVal.lose T) S S)
def yI4:List (Nat×Nat×Nat×Nat)->St->Option St
 |[],_=>some []
 |g::r,S=>match xH8 S g with
  |none=>none
  |some u=>match yI4 r (u++S) with
   |none=>none
   |some u'=>some (u'++u)
def yT1 [GlobTab] (c:Ctx)(gh:List (Nat×Nat×Nat×Nat))(ops:List Oper)(draw:Bool)(S:St):Option (List Prop×St):=
 bif S.any (λe=>e.2.hasOpt) then none else
 match yO4 c (ops.map (·.dst)) ops S [] with
 |none=>none
 |some (p,u0,t) =>
  let u:=u0.map λe=>(e.1,cond e.2.hasOpt (.junk) e.2)
  bif !draw||(zH8 0 ops&&(zM3 0 [] (ahead ops []) t||zM3 (zP9 c ops S 0 ops t []) [] (ahead ops []) t)) then
   (match yI4 gh (u++S) with
    |some u'=>cond (u'.all (λe=>Nat.blt e.1 c.n)) (some (p,u'++u)) none
    |none=>none)
  else none
def ovA (g:Bool)(t:Ty)(l:List t.den)(m:Bool)(τ':Ty)(y:τ'.den):AVal:=
 bif m then .junk else match Ty.cast (.sl t) y with|some z=>.val (.sl t) (cond g l z)|none=>.junk
def voA (g:Bool)(τ:Ty)(x:τ.den)(t:Ty)(l:List t.den)(m:Bool):AVal:=
 bif m then .junk else match Ty.cast (a:=.sl t) τ l with|some z=>.val τ (cond g x z)|none=>.junk
def zA0 (g:Bool):AVal->AVal->AVal
 |.val τ x,.val _ y=>match Ty.cast τ y with|some z=>.val τ (cond g x z)|none=>.junk
 |.nil,.nil=>.nil
 |.nil,.val (.sl t) y=>.val (.sl t) (cond g [] y)
 |.val (.sl t) x,.nil=>.val (.sl t) (cond g x [])
 |.nil,.own t l T m=>cond (t.plain&&!t.isL) (.own t (cond g [] l) T m) (.junk)
 |.own t l T m,.nil=>cond (t.plain&&!t.isL) (.own t (cond g l []) T m) (.junk)
 |.own t l _ m,.val τ' y=>ovA g t l m τ' y
 |.val τ x,.own t l _ m=>voA g τ x t l m
 |.own t l T m,.own t' l' T' m'=>cond (Nat.beq T T'&&(m==m')) (match Ty.cast (a:=.sl t') (.sl t) l' with|some l2=>.own t (cond g l l2) T m|none=>.junk) (.junk)
 |.box τ a,.box τ' b=>cond (Ty.beq τ τ'&&AVal.fits τ (zA0 g a b)) (.box τ (zA0 g a b)) (.junk)
 |.ref s τ [],.ref s' τ' []=>cond (Nat.beq s s'&&Ty.beq τ τ') (.ref s τ []) (.junk)
 |.nl,.nl=>.nl
 |.cons a b,.cons a' b'=>.cons (zA0 g a a') (zA0 g b b')
 |.agg f a,.agg f' b=>cond (Ty.beq f f'&&AVal.fits f (zA0 g a b)) (.agg f (zA0 g a b)) (.junk)
 |.agg f a,.val (.st f') y=>match AVal.as (.st f') (.agg f a) with|some x=>.val (.st f') (cond g x y)|none=>.junk
 |.val (.st f) x,.agg f' b=>match AVal.as (.st f) (.agg f' b) with|some y=>.val (.st f) (cond g x y)|none=>.junk
 |.tup a,.tup b=>.tup (zA0 g a b)
 |.ownh t l T i U m,.ownh t' l' T' i' U' m'=>cond (Nat.beq T T'&&Nat.beq U U'&&(m==m')) (match Ty.cast (a:=.sl (.sl t')) (.sl (.sl t)) l' with|some l2=>.ownh t (cond g l l2) T (cond g i i') U m|none=>.junk) (.junk)
 |_,_=>.junk
def yI5 (g:Bool)(d1 d2 S:St):St->St
 |[]=>[]
 |(s,_)::r=>(s,cond (Nat.beq s zA9) (.junk) (zA0 g (St.get (d1++S) s) (St.get (d2++S) s)))::yI5 g d1 d2 S r
def yD9 (d:St):St:=d.filter λe=>!(Nat.beq e.1 zA9)
def zK9 (d:St):St:=d.filter λe=>Nat.beq e.1 zA9
def zM0 (g:Bool)(d1 d2 S:St):St:=yI5 g d1 d2 S (yD9 d1++(yD9 d2++(zK9 d1++zK9 d2)))
def zA4 (k:Nat):List Comp->Option Comp
 |[]=>none
 |x::r=>cond (Nat.beq x.kind k) (some x) (zA4 k r)
def zI4 (k:Nat)(l:List Comp):List Comp:=l.filter λx=>!(Nat.beq x.kind k)
def gor (a b:Option Bool):Option Bool:=
 match a,b with
 |some x,some y=>some (x||y)
 |_,_=>none
def zU1 (t:Bool)(x y:Option Comp):Option Bool:=
 match x,y with
 |some a,some b=>(match a.g,b.g with|none,none=>none|ga,gb=>some (cond t (ga.getD true) (gb.getD true)))
 |some a,none=>yK4 a.g (some t)
 |none,some b=>yK4 b.g (some (!t))
 |none,none=>none
def xH9 (t:Bool)(S:St)(la lb:List Comp):List Comp->List Comp
 |[]=>[]
 |x::r =>
  {kind:=x.kind,g:=zU1 t (zA4 x.kind la) (zA4 x.kind lb),
   d:=match zA4 x.kind la,zA4 x.kind lb with
    |some a,some b=>zM0 t a.d b.d S
    |some a,none=>a.d
    |none,some b=>b.d
    |none,none=>[] }::xH9 t S la lb r
def xI:List Prop->Prop
 |[]=>True
 |[p]=>p
 |p::r=>p/\xI r
def xY6 (b:Prop):List Prop->List Prop
 |[]=>[]
 |p::r=>[b->xI (p::r)]
def imp (g:Option Bool)(l:List Prop):List Prop:=
 match g with
 |none=>l
 |some b=>xY6 (b=true) l
def zX7 (t:Bool)(S:St)(a b:Out):Out:=
 {ok:=xY6 (t=true) a.ok++xY6 (t=false) b.ok,
  comps:=xH9 t S a.comps b.comps (a.comps++b.comps.filter λx=>(zA4 x.kind a.comps).isNone) }
def xX3 (n:Comp)(S:St)(la:List Comp):List Comp->List Comp
 |[]=>[]
 |x::r =>
  (match zA4 x.kind la with
   |some a=>{ kind:=x.kind,g:=gor a.g (yK4 n.g x.g),d:=zM0 (a.g.getD true) a.d (x.d++n.d) S }
   |none=>{ kind:=x.kind,g:=yK4 n.g x.g,d:=x.d++n.d })::xX3 n S la r
def yI6 (n:Comp)(S:St)(a b:Out):Out:=
 {ok:=a.ok++imp n.g b.ok,
  comps:=xX3 n S (zI4 0 a.comps) b.comps++(zI4 0 a.comps).filter λx=>(zA4 x.kind b.comps).isNone }
def yB9 (id:Nat)(S:St)(a:Out):Out:=
 match zA4 0 a.comps,zA4 (id+2) a.comps with
 |_,none=>a
 |none,some e=>{ a with comps:={ e with kind:=0 }::zI4 (id+2) a.comps }
 |some n,some e=>{ a with comps:={ kind:=0,g:=gor e.g n.g,d:=zM0 (e.g.getD true) e.d n.d S }::zI4 0 (zI4 (id+2) a.comps) }
def zE8:Code->Nat
 |.region id _ _=>id
 |.seq a _=>zE8 a
 |.block _ a=>zE8 a
 |.loop a=>zE8 a
 |.scope a=>zE8 a
 |_=>0
def eval [GlobTab] (c:Ctx):Code->St->Option Out
 |.skip,_=>some { ok:=[],comps:=[⟨0,none,[]⟩] }
 |.region id ops draw,S=>match yI4 (look [] c.gh (2*id)) S with
  |none=>none
  |some v=>bif !(v.all (λe=>Nat.blt e.1 c.n)) then none else match yT1 c (look [] c.gh (2*id+1)) ops.toList draw (v++S) with
   |some (p,u)=>some { ok:=p,comps:=[⟨0,none,u++v⟩] }
   |none=>none
 |.seq a b,S=>match eval c a S with
  |none=>none
  |some oa=>match zA4 0 oa.comps with
   |none=>some oa
   |some n=>match eval c b (n.d++S) with
    |none=>none
    |some ob=>some (yI6 n S oa ob)
 |.cond x a b,S=>match arg S x with
  |.val .bool t=>match eval c a S,eval c b S with
   |some oa,some ob=>some (zX7 t S oa ob)
   |_,_=>none
  |_=>none
 |.block id a,S=>match eval c a S with
  |some oa=>some (yB9 id S oa)
  |none=>none
 |.loop a,S=>look (λ_=>none) c.loops (zE8 a) S
 |.exit id,_=>some { ok:=[],comps:=[⟨id+2,none,[]⟩] }
 |.ret,_=>some { ok:=[],comps:=[⟨1,none,[]⟩] }
 |_,_=>none
end Go.Am
namespace Go.Am
open Go Go.RowKit
def zG3 (s:Nat):Nat:=2*s+4
def zB2 (T:Nat):Nat:=2*T+5
def yL3 (χ:Nat->Nat->Nat)(w:World)(b o:Nat)(vs:List Value):Prop:=
 ∀j v,vs[j]?=some v->w.cell? ⟨b,o+j,none⟩=some v/\χ b (o+j)=0
def zJ9 {α:Type}(R:α->List Value->Prop):List α->List Value->Prop
 |[],us=>us=[]
 |x::l,us=>∃vs ws,us=vs++ws/\R x vs/\zJ9 R l ws
def zB (χ:Nat->Nat->Nat)(w:World):(τ:Ty)->τ.den->List Value->Prop
 |.int k,x,vs=>vs=[.int k x]
 |.bool,x,vs=>vs=[.bool x]
 |.str,x,vs=>vs=[.string ⟨List.toArray x⟩]
 |.nl,_,vs=>vs=[]
 |.cons h t,x,vs=>∃us ws,vs=us++ws/\zB χ w h x.1 us/\zB χ w t x.2 ws
 |.st f,x,vs=>zB χ w f x vs
 |.arr n t,l,vs=>List.length (α:=t.den) l=n/\zJ9 (zB χ w t) l vs
 |.sl t,l,vs=>∃a cap,vs=[.slice a (List.length (α:=t.den) l) cap]/\(l=([]:List t.den)\/∃b o us,a=some ⟨b,o,none⟩/\List.length (α:=t.den) l<=cap/\zJ9 (zB χ w t) l us/\yL3 χ w b o us)
 |.ptr t,x,vs=>∃b o us,vs=[.pointer (some ⟨b,o,none⟩)]/\zB χ w t x us/\yL3 χ w b o us
def zQ (χ:Nat->Nat->Nat)(w:World)(τ:Ty)(x:τ.den)(v:Value):Prop:=
 ∃vs,zB χ w τ x vs/\(cond τ.isAgg (v=.agg vs.toArray) (vs=[v]))
structure Gh where
 χ:Nat->Nat->Nat
 β:Nat->Nat
 γ:Nat->Nat
def yE (t:Ty):Prop:=t.plain=true/\t.isL=false
def yS8 (G:Gh)(w:World)(t:Ty)(l:List t.den)(T:Nat)(m:Bool)(v:Value):Prop:=
 yE t/\((v=.slice none 0 0/\l=[]) \/
 ∃cap cur e us,v=.slice (some ⟨G.γ T,0,none⟩) l.length cap/\w.heap[G.γ T]?=some (.cells cur e (0,0))/\l.length<=cap/\cap<=maxLen/\cur.size=cap*t.size /\
  zJ9 (zB G.χ w t) l us/\cur.toList.take (l.length*t.size)=us/\(∀o,G.χ (G.γ T) o=if m=false/\o<l.length*t.size then 0 else zB2 T))
def yO5 (χ:Nat->Nat->Nat)(w:World)(k v:Ty):List (k.den×v.den×Unit)->List MapEntry->Prop
 |[],es=>es=[]
 |x::l,es=>∃e r,es=e::r/\zQ χ w k x.1 e.key/\zQ χ w v x.2.1 e.val/\yO5 χ w k v l r
def xP9 (G:Gh)(w:World)(k e:Ty)(l:List (k.den×e.den×Unit))(T:Nat)(v:Value):Prop:=
 ∃es clock,v=.map (some (G.γ T))/\w.heap[G.γ T]?=some (.map es clock)/\yO5 G.χ w k e l es.toList/\∀o,G.χ (G.γ T) o=zB2 T
def xX4 (G:Gh)(w:World)(t:Ty)(l:List t.den)(T:Nat)(v:Value):Prop:=
 ∃k e,∃l':List (k.den×e.den×Unit),t=xG5 k e/\HEq l l'/\xP9 G w k e l' T v
def zG0 (G:Gh)(w:World)(t:Ty)(l:List t.den)(T:Nat)(m:Bool)(v:Value):Prop:=yS8 G w t l T m v\/(m=true/\xX4 G w t l T v)
def zA2 (G:Gh)(w:World)(τ:Ty):AVal->List Value->Prop
 |.val τ' x,vs=>τ'=τ/\τ'.isL=false/\zB G.χ w τ' x vs
 |.nil,vs=>τ.isSl=true/\vs=[.slice none 0 0]
 |.junk,vs=>τ.isSl=true/\∃v,vs=[v]/\v.oneCell'=true
 |.own t l T m,vs=>τ=.sl t/\∃v,vs=[v]/\zG0 G w t l T m v
 |.agg f c,vs=>τ=.st f/\zA2 G w f c vs
 |.nl,vs=>τ=.nl/\vs=[]
 |.cons a b,vs=>∃h t us ws,τ=.cons h t/\vs=us++ws/\zA2 G w h a us/\zA2 G w t b ws
 |_,_=>False
def wB2 (G:Gh)(w:World)(s:Nat)(τ:Ty)(c:AVal):Prop:=
 yE τ/\∃cur e,w.heap[G.β s]?=some (.cells cur e (0,0))/\zA2 G w τ c cur.toList/\∀o,G.χ (G.β s) o=zG3 s
def zE:Ty->yH8->Prop
 |_,[]=>True
 |.st f,.inl k::p=>k<f.flen/\zE (f.fty k) p
 |.arr n t,.inr i::p=>0<=i/\i<(n:Int)/\zE t p
 |_,_=>False
def yN9 (G:Gh)(v:Value):Option (Nat×Ty)->Value
 |some (k,_)=>.pointer (some ⟨G.β k,0,none⟩)
 |none=>v
def wC (G:Gh)(w:World)(t:Ty)(l:List (List t.den))(T:Nat)(v:Value):Prop:=
 ∃x a cap,l=[x]/\v=.slice a (List.length (α:=t.den) x) cap/\(x=([]:List t.den)\/∃o us cur e,a=some ⟨G.γ T,o,none⟩/\List.length (α:=t.den) x<=cap/\w.heap[G.γ T]?=some (.cells cur e (0,0)) /\
  zJ9 (zB G.χ w t) x us/\(∀j u,us[j]?=some u->cur.toList[o+j]?=some u)/\∀o,G.χ (G.γ T) o=zB2 T)
def wB3 (G:Gh)(w:World)(t:Ty)(l:List (List t.den))(T i:Nat)(v:Value):Prop:=
 (v=.slice none 0 0/\l=[])\/∃cap cur e,v=.slice (some ⟨G.γ T,0,none⟩) (List.length (α:=List t.den) l) cap/\w.heap[G.γ T]?=some (.cells cur e (0,0))/\List.length (α:=List t.den) l<=cap/\cap<=maxLen/\cur.size=cap/\(∀o,G.χ (G.γ T) o=zB2 T) /\
  ∀(j:Nat) (x:List t.den),l[j]?=some x->j≠i->∃u,cur.toList[j]?=some u/\zB G.χ w (.sl t) x [u]
def xG3 (G:Gh)(w:World)(t:Ty)(l:List (List t.den))(T i U:Nat)(m:Bool)(v:Value):Prop:=
 yE t/\((T=U/\((m=false/\wC G w t l T v)\/(m=true/\wB3 G w t l T i v)))\/T≠U/\((v=.slice none 0 0/\l=[])\/∃cap cur e,v=.slice (some ⟨G.γ T,0,none⟩) (List.length (α:=List t.den) l) cap/\w.heap[G.γ T]?=some (.cells cur e (0,0))/\List.length (α:=List t.den) l<=cap/\cap<=maxLen/\cur.size=cap/\(∀o,G.χ (G.γ T) o=zB2 T) /\
  ∀(j:Nat) (x:List t.den),l[j]?=some x->∃u,cur.toList[j]?=some u/\if j=i then yS8 G w t x U m u else zB G.χ w (.sl t) x [u]))
def zA (G:Gh)(w:World)(tm:Array Value):Option Nat->AVal->Value->Prop
 |_,.junk,_=>True
 |_,.val τ x,v=>zQ G.χ w τ x v
 |_,.opt s' want g A,v=>(tm.getD s' undef=.bool want↔g=true)/\(g=true->zA G w tm none A v)/\(g=false->v=undef)
 |_,.nil,v=>v=.slice none 0 0
 |_,.nn b,v=>∃a cap,v=.slice a 0 cap/\a.isNone=b
 |_,.own t l T m,v=>zG0 G w t l T m v
 |some s,.box τ c,v=>v=.pointer (some ⟨G.β s,0,none⟩)/\wB2 G w s τ c
 |none,.box _ _,_=>False
 |_,.ref s' τ p,v=>zE τ p/\v=.pointer (some ⟨G.β s',τ.poff p,none⟩)
 |_,.eref _ T t i p,v=>0<=i/\zE t p/\v=.pointer (some ⟨G.γ T,i.toNat*t.size+t.poff p,none⟩)
 |_,.agg f c,v=>∃vs,v=.agg vs.toArray/\zA2 G w f c vs
 |_,.nl,v=>v=.tuple #[]
 |_,.cons a b,v=>∃x xs,v=.tuple (x::xs).toArray/\zA G w tm none a x/\zA G w tm none b (.tuple xs.toArray)
 |_,.tup c,v=>zA G w tm none c v
 |_,.fn f c,v=>∃vs,v=.func (.func f) #[] vs/\zA G w tm none c (.tuple vs)
 |some s,.raw,v=>v=.pointer (some ⟨G.β s,0,none⟩)/\∃u e,w.heap[G.β s]?=some (.cells #[u] e (0,0))/\∀o,G.χ (G.β s) o=zG3 s
 |none,.raw,_=>False
 |_,.rref s',v=>v=.pointer (some ⟨G.β s',0,none⟩)
 |_,.ownh t l T i U m,v=>xG3 G w t l T i U m v
 |_,.fptr f caps,v=>∃b,v=.pointer (some ⟨b,0,none⟩)/\G.χ b 0=0/\w.cell? ⟨b,0,none⟩=some (.func (.func f) #[] (caps.map (yN9 G v)).toArray)
structure Ext (X Y:Nat->Prop) (G:Gh) (w:World) (G':Gh) (w':World):Prop where
 prot:∀b o,b<w.heap.size->G.χ b o=0->G'.χ b o=0/\w'.cell? ⟨b,o,none⟩=w.cell? ⟨b,o,none⟩
 block:∀b,b<w.heap.size->(∀o,¬X (G.χ b o))->w'.heap[b]?=w.heap[b]?/\∀o,G'.χ b o=G.χ b o
 size:w.heap.size<=w'.heap.size
 box:∀s,¬Y (zG3 s)->G'.β s=G.β s
 tag:∀T,¬Y (zB2 T)->G'.γ T=G.γ T
 sub:∀n,Y n->X n
def GlobOk [GlobTab] (χ:Nat->Nat->Nat)(w:World):Prop:=
 ∀g τ (x:τ.den),(g,⟨τ,x⟩)∈GlobTab.tab->∃vs,zB χ w τ x vs/\yL3 χ w g 0 vs
structure Frame0 (χ0:Nat->Nat->Nat) (w0:World) (χ:Nat->Nat->Nat) (w:World):Prop where
 os:w.os=w0.os
 tape:w.tape=w0.tape
 output:w.output=w0.output
 size:w0.heap.size<=w.heap.size
 block:∀b,b<w0.heap.size->(∀o,χ0 b o<=1)->w.heap[b]?=w0.heap[b]?
 cell:∀b o,b<w0.heap.size->χ0 b o<=1->χ b o=χ0 b o/\w.cell? ⟨b,o,none⟩=w0.cell? ⟨b,o,none⟩
structure Rel [GlobTab] (n:Nat) (χ0:Nat->Nat->Nat) (w0:World) (S:St) (a:Act) (w:World) (G:Gh):Prop where
 len:a.tmps.size=n
 defers:a.defers=[]
 reps:∀s,zA G w a.tmps (some s) (S.get s) (a.tmps.getD s undef)
 frame:Frame0 χ0 w0 G.χ w
 glob:GlobOk G.χ w
theorem zB7 {α:Type}{R R':α->List Value->Prop}(h:∀x vs,R x vs->R' x vs):∀{l us},zJ9 R l us->zJ9 R' l us:=by intro l;induction l with|nil=>intro us hu;exact hu|cons x l j=>rintro us ⟨vs,ws,rfl,o,C⟩;exact⟨vs,ws,rfl,h _ _ o,j C⟩
theorem zB4 {α:Type}{R:α->List Value->Prop}{k:Nat}(h:∀x vs,R x vs->vs.length=k):∀{l us},zJ9 R l us->us.length=l.length*k:=by intro l;induction l with|nil=>intro us hu;simp[zJ9] at hu;simp[hu]|cons x l j=>rintro us ⟨vs,ws,rfl,o,C⟩;simp[h _ _ o,j C,Nat.add_mul,Nat.add_comm]
theorem zA1 {χ:Nat->Nat->Nat}{w:World}:∀{τ:Ty}{x:τ.den}{vs:List Value},zB χ w τ x vs->vs.length=τ.size:=by intro τ;induction τ with|int k=>intro x vs h;simp only[zB] at h;simp[h,Ty.size]|bool=>intro x vs h;simp only[zB] at h;simp[h,Ty.size]|str=>intro x vs h;simp only[zB] at h;simp[h,Ty.size]|nl=>intro x vs h;simp only[zB] at h;simp[h,Ty.size]|cons a b I hb=>intro x vs h;simp only[zB] at h;obtain⟨us,ws,rfl,j,C⟩:=h;simp[I j,hb C,Ty.size]|st f J=>intro x vs h;simp only[zB] at h;simp[J h,Ty.size]|arr n t ht=>intro x vs h;simp only[zB] at h;obtain⟨j,C⟩:=h;have:=zB4 (k:=t.size) (λ_ _ h=>ht h) C;rw[this,j];rfl|sl t ht=>intro x vs h;simp only[zB] at h;obtain⟨a,cap,rfl,_⟩:=h;simp[Ty.size]|ptr t ht=>intro x vs h;simp only[zB] at h;obtain⟨b,o,us,rfl,_⟩:=h;simp[Ty.size]
theorem zX8 {χ χ':Nat->Nat->Nat}{w C:World}(h:∀b o,b<w.heap.size->χ b o=0->χ' b o=0/\C.cell? ⟨b,o,none⟩=w.cell? ⟨b,o,none⟩){b o:Nat}{vs:List Value}(J:yL3 χ w b o vs):yL3 χ' C b o vs:=by intro j v R;obtain⟨I,h2⟩:=J j v R;(have hb:b<w.heap.size:=by by_cases hb:b<w.heap.size;exact hb;have:w.heap[b]?=none:=Array.getElem?_eq_none (by omega);simp[World.cell?,this] at I);have:=h _ _ hb h2;exact⟨by rw[this.2];exact I,this.1⟩
theorem zA3 {χ χ':Nat->Nat->Nat}{w J:World}(h:∀b o,b<w.heap.size->χ b o=0->χ' b o=0/\J.cell? ⟨b,o,none⟩=w.cell? ⟨b,o,none⟩):∀{τ:Ty}{x:τ.den}{vs:List Value},zB χ w τ x vs->zB χ' J τ x vs:=by intro τ;induction τ with|int k=>intro x vs j;exact j|bool=>intro x vs j;exact j|str=>intro x vs j;exact j|nl=>intro x vs j;exact j|cons a b R hb=>intro x vs j;simp only[zB] at j ⊢;obtain⟨us,ws,rfl,C,I⟩:=j;exact⟨us,ws,rfl,R C,hb I⟩|st f hf=>intro x vs j;simp only[zB] at j ⊢;exact hf j|arr n t ht=>intro x vs j;simp only[zB] at j ⊢;exact⟨j.1,zB7 (λ_ _ h=>ht h) j.2⟩|sl t ht=>intro x vs j;simp only[zB] at j ⊢;obtain⟨a,cap,rfl,j⟩:=j;refine⟨a,cap,rfl,?_⟩;rcases j with j|⟨b,o,us,C,I,h3,h4⟩;exact .inl j;exact .inr ⟨b,o,us,C,I,zB7 (λ_ _ h=>ht h) h3,zX8 h h4⟩|ptr t ht=>intro x vs j;simp only[zB] at j ⊢;obtain⟨b,o,us,rfl,C,I⟩:=j;exact⟨b,o,us,rfl,ht C,zX8 h I⟩
theorem zG7 [GlobTab]{χ χ':Nat->Nat->Nat}{w j:World}(h:∀b o,b<w.heap.size->χ b o=0->χ' b o=0/\j.cell? ⟨b,o,none⟩=w.cell? ⟨b,o,none⟩)(C:GlobOk χ w):GlobOk χ' j:=by intro g τ x hm;obtain⟨vs,I,J⟩:=C g τ x hm;exact⟨vs,zA3 h I,zX8 h J⟩
theorem zC8 {χ χ':Nat->Nat->Nat}{w j:World}(h:∀b o,b<w.heap.size->χ b o=0->χ' b o=0/\j.cell? ⟨b,o,none⟩=w.cell? ⟨b,o,none⟩){τ:Ty}{x:τ.den}{v:Value}(C:zQ χ w τ x v):zQ χ' j τ x v:=by obtain⟨vs,I,J⟩:=C;exact⟨vs,zA3 h I,J⟩
theorem Ext.refl (X:Nat->Prop)(G:Gh)(w:World):Ext X X G w G w:=⟨λ_ _ _ h=>⟨h,rfl⟩,λ_ _ _=>⟨rfl,λ_=>rfl⟩,jI _,λ_ _=>rfl,λ_ _=>rfl,λ_ h=>h⟩
def AVal.names (X Y:Nat->Prop):Option Nat->AVal->Prop
 |_,.own _ _ T _=>X (zB2 T)
 |_,.opt _ _ _ A=>A.names X Y none
 |some s,.box _ c=>X (zG3 s)\/c.names X Y none
 |none,.box _ c=>c.names X Y none
 |_,.ref s' _ _=>Y (zG3 s')
 |_,.eref _ T _ _ _=>Y (zB2 T)
 |_,.ownh _ _ T _ U _=>X (zB2 T)\/X (zB2 U)
 |_,.cons a b=>a.names X Y none\/b.names X Y none
 |_,.agg _ c=>c.names X Y none
 |_,.tup c=>c.names X Y none
 |_,.fn _ c=>c.names X Y none
 |some s,.raw=>X (zG3 s)
 |_,.rref s'=>Y (zG3 s')
 |_,.fptr _ caps=>∃k τ,some (k,τ)∈caps/\Y (zG3 k)
 |_,_=>False
theorem zE0 {w:World}{b:Nat}{o:Obj}(h:w.heap[b]?=some o):b<w.heap.size:=(Array.getElem?_eq_some_iff.1 h).1
theorem yE0 {χ χ':Nat->Nat->Nat}{w j:World}(h:∀b o,b<w.heap.size->χ b o=0->χ' b o=0/\j.cell? ⟨b,o,none⟩=w.cell? ⟨b,o,none⟩){k v:Ty}:∀{l:List (k.den×v.den×Unit)}{es:List MapEntry},yO5 χ w k v l es->yO5 χ' j k v l es:=by intro l;induction l with|nil=>intro es h;exact h|cons x l C=>rintro es ⟨e,r,rfl,I,J,R⟩;exact⟨e,r,rfl,zC8 h I,zC8 h J,C R⟩
theorem zV7 {X Y:Nat->Prop}{G G':Gh}{w I:World}(j:Ext X Y G w G' I)(h0:¬X 0){t:Ty}{l:List t.den}{T:Nat}{m:Bool}{v:Value}(hn:¬X (zB2 T))(h:yS8 G w t l T m v):yS8 G' I t l T m v:=by refine⟨h.1,?_⟩;rcases h.2 with h|⟨cap,cur,e,us,h1,J,h3,h4,h5,h6,h7,R⟩;exact .inl h;have hb:=j.block (G.γ T) (zE0 J) (λo=>by rw[R o];split<;>assumption);have C:=j.tag T (λh=>hn (j.sub _ h));refine .inr ⟨cap,cur,e,us,by rw[C];exact h1,by rw[C,hb.1];exact J,h3,h4,h5,zB7 (λ_ _ h=>zA3 j.prot h) h6,h7,λo=>?_⟩;rw[C,hb.2 o];exact R o
theorem xQ {X Y:Nat->Prop}{G G':Gh}{w J:World}(C:Ext X Y G w G' J){t:Ty}{l:List (List t.den)}{T i:Nat}{v:Value}(R:¬X (zB2 T))(h:wB3 G w t l T i v):wB3 G' J t l T i v:=by rcases h with h|⟨cap,cur,e,h1,h2,h3,h4,h5,h6,h7⟩;exact .inl h;have hb:=C.block (G.γ T) (zE0 h2) (λo=>by rw[h6 o];exact R);have I:=C.tag T (λh=>R (C.sub _ h));refine .inr ⟨cap,cur,e,by rw[I];exact h1,by rw[I,hb.1];exact h2,h3,h4,h5,λo=>by rw[I,hb.2 o];exact h6 o,λj x hj kh=>?_⟩;obtain⟨u,hu,hr⟩:=h7 j x hj kh;exact⟨u,hu,zA3 C.prot hr⟩
theorem xQ0 {X Y:Nat->Prop}{G G':Gh}{w w':World}(C:Ext X Y G w G' w')(h0:¬X 0){t:Ty}{l:List (List t.den)}{T i U:Nat}{m:Bool}{v:Value}(J:¬X (zB2 T))(hU:¬X (zB2 U))(h:xG3 G w t l T i U m v):xG3 G' w' t l T i U m v:=by obtain⟨hv,⟨he,⟨hm,x,a,cap,h1,h2,R⟩ | ⟨hm,hK⟩⟩ | ⟨kh,h|⟨cap,cur,e,h1,h2,R,h4,h5,h6,h7⟩⟩⟩:=h;rotate_left;exact⟨hv,.inl ⟨he,.inr ⟨hm,xQ C J hK⟩⟩⟩;rotate_right;refine⟨hv,.inl ⟨he,.inl ⟨hm,x,a,cap,h1,h2,?_⟩⟩⟩;rcases R with R|⟨o,us,cur,e,g1,g2,g3,g4,g5,g6⟩;exact .inl R;have hb:=C.block (G.γ T) (zE0 g3) (λo=>by rw[g6 o];exact J);have I:=C.tag T (λh=>J (C.sub _ h));exact .inr ⟨o,us,cur,e,by rw[I];exact g1,g2,by rw[I,hb.1];exact g3,zB7 (λ_ _ h=>zA3 C.prot h) g4,g5,λo=>by rw[I,hb.2 o];exact g6 o⟩;exact⟨hv,.inr ⟨kh,.inl h⟩⟩;have hb:=C.block (G.γ T) (zE0 h2) (λo=>by rw[h6 o];exact J);have I:=C.tag T (λh=>J (C.sub _ h));refine⟨hv,.inr ⟨kh,.inr ⟨cap,cur,e,by rw[I];exact h1,by rw[I,hb.1];exact h2,R,h4,h5,λo=>by rw[I,hb.2 o];exact h6 o,λj x hj=>?_⟩⟩⟩;obtain⟨u,hu,hr⟩:=h7 j x hj;refine⟨u,hu,?_⟩;split;rename_i e;rw[if_pos e] at hr;exact zV7 C h0 hU hr;rename_i e;rw[if_neg e] at hr;exact zA3 C.prot hr
theorem xQ1 {X Y:Nat->Prop}{G G':Gh}{w I:World}(j:Ext X Y G w G' I){t:Ty}{l:List t.den}{T:Nat}{v:Value}(J:¬X (zB2 T))(h:xX4 G w t l T v):xX4 G' I t l T v:=by obtain⟨k,e,l',ht,hl,es,clock,h1,R,h3,h4⟩:=h;have hb:=j.block (G.γ T) (zE0 R) (λo=>by rw[h4 o];exact J);have C:=j.tag T (λh=>J (j.sub _ h));exact⟨k,e,l',ht,hl,es,clock,by rw[C];exact h1,by rw[C,hb.1];exact R,yE0 j.prot h3,λo=>by rw[C,hb.2 o];exact h4 o⟩
theorem zE4 {X Y:Nat->Prop}{G G':Gh}{w j:World}(o:Ext X Y G w G' j)(I:¬X 0){t:Ty}{l:List t.den}{T:Nat}{m:Bool}{v:Value}(C:¬X (zB2 T))(h:zG0 G w t l T m v):zG0 G' j t l T m v:=h.imp (zV7 o I C) λh=>⟨h.1,xQ1 o C h.2⟩
theorem xI0 {G G':Gh}{w j:World}{t:Ty}{l:List t.den}{T U:Nat}{v:Value}(hγ:G'.γ U=G.γ T)(C:j.heap[G.γ T]?=w.heap[G.γ T]?)(I:∀b o,b<w.heap.size->G.χ b o=0->G'.χ b o=0/\j.cell? ⟨b,o,none⟩=w.cell? ⟨b,o,none⟩)(J:(∀o,G.χ (G.γ T) o=zB2 T)->∀o,G'.χ (G.γ T) o=zB2 U)(h:xX4 G w t l T v):xX4 G' j t l U v:=by obtain⟨k,e,l',ht,R,es,clock,h1,h2,h3,h4⟩:=h;exact⟨k,e,l',ht,R,es,clock,by rw[hγ];exact h1,by rw[hγ,C];exact h2,yE0 I h3,λo=>by rw[hγ];exact J h4 o⟩
theorem zV8 {G G':Gh}{w j:World}{t:Ty}{l:List t.den}{T U:Nat}{m:Bool}{v:Value}(C:yS8 G w t l T m v->yS8 G' j t l U m v)(hγ:G'.γ U=G.γ T)(I:j.heap[G.γ T]?=w.heap[G.γ T]?)(J:∀b o,b<w.heap.size->G.χ b o=0->G'.χ b o=0/\j.cell? ⟨b,o,none⟩=w.cell? ⟨b,o,none⟩)(R:xX4 G w t l T v->(∀o,G.χ (G.γ T) o=zB2 T)->∀o,G'.χ (G.γ T) o=zB2 U)(h:zG0 G w t l T m v):zG0 G' j t l U m v:=h.imp C λh=>⟨h.1,xI0 hγ I J (R h.2) h.2⟩
theorem xB2 {G:Gh}{w:World}{t:Ty}{l:List t.den}{T:Nat}{v:Value}(h:zG0 G w t l T false v):yS8 G w t l T false v:=h.elim id λh=>(by cases h.1)
theorem zB0 {G:Gh}{w:World}{t:Ty}{l:List t.den}{T:Nat}{m:Bool}{v:Value}(h:zG0 G w t l T m v)(ht:t.isL=false):yS8 G w t l T m v:=by rcases h with h|⟨_,k,e,_,rfl,_⟩;exact h;simp[Ty.isL] at ht
theorem yC {X Y:Nat->Prop}{G G':Gh}{w J:World}(R:Ext X Y G w G' J)(h0:¬X 0):∀{c:AVal}{τ:Ty}{vs:List Value},¬c.names X Y none->zA2 G w τ c vs->zA2 G' J τ c vs:=by intro c;induction c with|val τ' x=>intro τ vs _ h;simp only[zA2] at h ⊢;exact⟨h.1,h.2.1,zA3 R.prot h.2.2⟩|junk=>intro τ vs _ h;simp only[zA2] at h ⊢;exact h|nil=>intro τ vs _ h;simp only[zA2] at h ⊢;exact h|own t l T m=>intro τ vs j h;simp only[AVal.names] at j;simp only[zA2] at h ⊢;obtain⟨o,v,C,I⟩:=h;exact⟨o,v,C,zE4 R h0 j I⟩|agg f a ih=>intro τ vs j h;simp only[AVal.names] at j;simp only[zA2] at h ⊢;exact⟨h.1,ih j h.2⟩|nl=>intro τ vs _ h;simp only[zA2] at h ⊢;exact h|cons a b gj kQ=>intro τ vs j h;simp only[zA2] at h ⊢;simp only[AVal.names,not_or] at j;obtain⟨o,t1,us,ws,e,C,I,h4⟩:=h;exact⟨o,t1,us,ws,e,C,gj j.1 I,kQ j.2 h4⟩|_=>intro τ vs _ h;simp only[zA2] at h
theorem yC0 {X Y:Nat->Prop}{G G':Gh}{w w':World}(C:Ext X Y G w G' w')(h0:¬X 0)(tm:Array Value):∀{A:AVal}{s:Option Nat}{v:Value},¬A.names X Y s->zA G w tm s A v->zA G' w' tm s A v:=by intro A;induction A with|val τ x=>intro s v _ h;simp only[zA] at h ⊢;exact zC8 C.prot h|junk=>intro s v _ _;simp only[zA]|nil=>intro s v _ h;simp only[zA] at h ⊢;exact h|nn b=>intro s v _ h;simp only[zA] at h ⊢;exact h|own t l T m=>intro s v j h;simp only[zA] at h ⊢;simp only[AVal.names] at j;exact zE4 C h0 j h|opt s' want g A ih=>intro s v j h;simp only[zA] at h ⊢;simp only[AVal.names] at j;exact⟨h.1,λR=>ih j (h.2.1 R),h.2.2⟩|box τ c ih=>intro s v j h;(cases s with|none=>simp only[zA] at h|some s=>simp only[AVal.names,not_or] at j;simp only[zA] at h ⊢;obtain⟨J,kE,cur,e,I,h3,h4⟩:=h;have hb:=C.block (G.β s) (zE0 I) (λo=>by rw[h4 o];exact j.1);have R:=C.box s (λh=>j.1 (C.sub _ h));exact⟨by rw[R];exact J,kE,cur,e,by rw[R,hb.1];exact I,yC C h0 j.2 h3,λo=>by rw[R,hb.2 o];exact h4 o⟩)|ref s' τ p=>intro s v j h;simp only[AVal.names] at j;simp only[zA] at h ⊢;rw[C.box s' j];exact h|eref _ T t i p=>intro s v j h;simp only[AVal.names] at j;simp only[zA] at h ⊢;rw[C.tag T j];exact h|ownh t l T i U m=>intro s v j h;simp only[AVal.names,not_or] at j;simp only[zA] at h ⊢;exact xQ0 C h0 j.1 j.2 h|agg f c _=>intro s v j h;simp only[AVal.names] at j;simp only[zA] at h ⊢;obtain⟨vs,J,I⟩:=h;exact⟨vs,J,yC C h0 j I⟩|nl=>intro s v _ h;simp only[zA] at h ⊢;exact h|cons a b gj kQ=>intro s v j h;simp only[AVal.names,not_or] at j;simp only[zA] at h ⊢;obtain⟨x,xs,J,I,h3⟩:=h;exact⟨x,xs,J,gj j.1 I,kQ j.2 h3⟩|tup c ih=>intro s v j h;simp only[AVal.names] at j;simp only[zA] at h ⊢;exact ih j h|fn f c ih=>intro s v j h;simp only[AVal.names] at j;simp only[zA] at h ⊢;obtain⟨vs,J,I⟩:=h;exact⟨vs,J,ih j I⟩|raw=>intro s v j h;(cases s with|none=>simp only[zA] at h|some s=>simp only[AVal.names] at j;simp only[zA] at h ⊢;obtain⟨J,u,e,I,h3⟩:=h;have hb:=C.block (G.β s) (zE0 I) (λo=>by rw[h3 o];exact j);have R:=C.box s (λh=>j (C.sub _ h));exact⟨by rw[R];exact J,u,e,by rw[R,hb.1];exact I,λo=>by rw[R,hb.2 o];exact h3 o⟩)|rref s'=>intro s v j h;simp only[AVal.names] at j;simp only[zA] at h ⊢;rw[C.box s' j];exact h|fptr f caps=>intro s v j h;simp only[AVal.names] at j;simp only[zA] at h ⊢;obtain⟨b,J,I,h3⟩:=h;(have hb:b<w.heap.size:=by by_cases hb:b<w.heap.size;exact hb;have:w.heap[b]?=none:=Array.getElem?_eq_none (by omega);simp[World.cell?,this] at h3);obtain⟨h4,h5⟩:=C.prot b 0 hb I;refine⟨b,J,h4,?_⟩;rw[h5,h3];congr 3;refine List.map_congr_left λq hq=>?_;cases q with|none=>rfl|some q=>obtain⟨k,τ⟩:=q;simp only[yN9];rw[C.box k (λhY=>j ⟨k,τ,hq,hY⟩)]
theorem zN9 {G:Gh}{w:World}{tm tm':Array Value}{A:AVal}:∀{s:Option Nat}{v:Value},(∀d,A.hung d=true->tm'.getD d undef=tm.getD d undef)->zA G w tm s A v->zA G w tm' s A v:=by induction A with|opt J want g A o=>intro s v ht h;simp only[zA] at h ⊢;refine⟨by rw[ht J (by simp[AVal.hung])];exact h.1,λR=>o (λd j=>ht d (by simp[AVal.hung,j])) (h.2.1 R),h.2.2⟩|cons a b gj kQ=>intro s v ht h;simp only[zA] at h ⊢;obtain⟨x,xs,C,I,h3⟩:=h;exact⟨x,xs,C,gj (λd j=>ht d (by simp[AVal.hung,j])) I,kQ (λd j=>ht d (by simp[AVal.hung,j])) h3⟩|tup c o=>intro s v ht h;simp only[zA] at h ⊢;exact o (λd j=>ht d (by simp[AVal.hung,j])) h|fn f c o=>intro s v ht h;simp only[zA] at h ⊢;obtain⟨vs,C,I⟩:=h;exact⟨vs,C,o (λd j=>ht d (by simp[AVal.hung,j])) I⟩|box τ c _=>intro s v _ h;cases s<;>simp only[zA] at h ⊢;exact h|raw=>intro s v _ h;cases s<;>simp only[zA] at h ⊢;exact h|_=>intro s v _ h;simp only[zA] at h ⊢;try exact h
theorem zM9 {G:Gh}{w:World}{tm:Array Value}{A:AVal}{s:Option Nat}{v:Value}(h:zA G w tm s A v)(hb:∀τ c,A≠.box τ c)(j:A≠.raw):zA G w tm none A v:=by cases A<;>first | (exfalso;exact hb _ _ rfl) | (exfalso;exact j rfl) | (simp only[zA] at h ⊢;try exact h)
theorem zL {G:Gh}{w:World}{tm:Array Value}{A:AVal}{s:Option Nat}{v:Value}(h:zA G w tm none A v):zA G w tm s A v:=by cases A<;>(simp only[zA] at h ⊢;try exact h)
end Go.Am
namespace Go.Am
open Go Go.RowKit
variable {P:Program}
def zB3:Ty->List Value
 |.int k=>[.int k 0]|.bool=>[.bool false]|.str=>[.string ⟨#[]⟩]|.nl=>[]|.cons h t=>zB3 h++zB3 t
 |.st f=>zB3 f|.arr n t=>(List.replicate n (zB3 t)).flatten|.sl _=>[.slice none 0 0]|.ptr _=>[.pointer none]
def xI1:Value->Value->Bool
 |.int k n,.int k' m=>Nat.beq (zH5 k) (zH5 k')&&(n==m)
 |.bool a,.bool b=>a==b
 |.string a,.string b=>a.data.toList.isEmpty&&b.data.toList.isEmpty
 |.slice none 0 0,.slice none 0 0=>true
 |.pointer none,.pointer none=>true
 |_,_=>false
theorem xI2 {a b:Value}(h:xI1 a b=true):a=b:=by unfold xI1 at h;split at h;simp at h;rw[zG9 h.1,h.2];simp at h;rw[h];rename_i a b;simp at h;obtain⟨⟨a⟩⟩:=a;obtain⟨⟨b⟩⟩:=b;simp_all;rfl;rfl;cases h
def yE1:List Value->List Value->Bool
 |[],[]=>true
 |a::r,b::s=>xI1 a b&&yE1 r s
 |_,_=>false
theorem xB3:∀{a b:List Value},yE1 a b=true->a=b:=by intro a;induction a with|nil=>intro b h;cases b<;>simp[yE1] at h ⊢|cons x r j=>intro b h;cases b<;>simp[yE1] at h;rw[xI2 h.1,j h.2]
def yO6:Value->Bool
 |.agg _=>true|_=>false
def zN (P:Program)(T:Nat)(τ:Ty):Bool:=
 match P.info? T with
 |some i=>Nat.beq i.size τ.size&&Nat.ble i.bytes 32768&&!(P.eqGuardType P.depth T)&&Nat.ble τ.ht 9000&&(match i.zero with|some v=>yE1 v.cells.toList (zB3 τ)&&(yO6 v==τ.isAgg)|none=>false)
 |none=>false
def zC0 (P:Program):Ty->Nat ⊕ (List Field×Nat)->Bool
 |.int k,.inl T=>(match P.underlying T with|some (.int k')=>Nat.beq (zH5 k') (zH5 k)|_=>false)&&zN P T (.int k)
 |.bool,.inl T=>(match P.underlying T with|some .bool=>true|_=>false)&&zN P T .bool
 |.str,.inl T=>(match P.underlying T with|some .string=>true|_=>false)&&zN P T .str
 |.nl,.inr ([],_)=>true
 |.cons h t,.inr (fd::r,o)=>Nat.beq fd.offset o&&!(fd.name=="_")&&zC0 P h (.inl fd.type)&&zC0 P t (.inr (r,o+h.size))
 |.st f,.inl T=>(match P.underlying T with|some (.struct fs)=>zC0 P f (.inr (fs.toList,0))&&!(P.stoodInHeld T)|_=>false)&&zN P T (.st f)
 |.arr n t,.inl T=>(match P.underlying T with|some (.array m e)=>Nat.beq m n&&zC0 P t (.inl e)|_=>false)&&zN P T (.arr n t)
 |.sl t,.inl T=>(match P.underlying T with|some (.slice e)=>zC0 P t (.inl e)|_=>false)&&zN P T (.sl t)
 |.ptr t,.inl T=>(match P.underlying T with|some (.pointer e)=>zC0 P t (.inl e)|_=>false)&&zN P T (.ptr t)
 |_,_=>false
def zM4 (P:Program)(l:List (Nat×Ty)):Bool:=l.all λe=>zC0 P e.2 (.inl e.1)
theorem xQ2 {l:List (Nat×Ty)}{T:Nat}:look Ty.nl l T=.nl\/(T,look Ty.nl l T)∈l:=by induction l with|nil=>exact .inl rfl|cons e r j=>obtain⟨k,τ⟩:=e;simp only[look];cases o:Nat.beq k T with|true=>have:=jC o;subst this;simp|false=>simp only[jD];rcases j with h|h;exact .inl h;exact .inr (jP _ h)
theorem zI6 {c:Ctx}(h:zM4 P c.tys=true)(T:Nat)(o:c.ty T≠.nl):zC0 P (c.ty T) (.inl T)=true:=by rcases xQ2 (l:=c.tys) (T:=T) with j | j;exact absurd j o;exact (List.all_eq_true.1 h) _ j
structure TyIs (P:Program) (T:Nat) (τ:Ty):Prop where
 info:∃i z,P.info? T=some i/\i.size=τ.size/\i.bytes<=32768/\i.zero=some z/\z.cells.toList=zB3 τ/\yO6 z=τ.isAgg
 und:∃d,P.underlying T=some d/\d.isRow=τ.isAgg
theorem zL0 {T:Nat}{τ:Ty}(h:zN P T τ=true):∃i z,P.info? T=some i/\i.size=τ.size/\i.bytes<=32768/\i.zero=some z/\z.cells.toList=zB3 τ/\yO6 z=τ.isAgg:=by unfold zN at h;split at h;rename_i i j;split at h;rename_i v o;simp only[jB,beq_iff_eq] at h;exact⟨i,v,j,jC h.1.1.1.1,jR h.1.1.1.2,o,xB3 h.2.1,h.2.2⟩;simp at h;cases h
theorem yO7 {T:Nat}{τ:Ty}(h:zN P T τ=true):P.eqGuardType P.depth T=false:=by unfold zN at h;split at h;split at h;simp only[jB,jK] at h;exact h.1.1.2;simp at h;cases h
theorem xI3 {T:Nat}{τ:Ty}(h:zN P T τ=true):τ.ht<=9000:=by unfold zN at h;split at h;split at h;simp only[jB,jK] at h;exact jR h.1.2;simp at h;cases h
theorem xV6 {τ:Ty}{T:Nat}(h:zC0 P τ (.inl T)=true):τ.ht<=9000:=by cases τ<;>simp only[zC0,jB] at h<;>first|exact xI3 h.2|cases h
theorem xB4 {τ:Ty}{T:Nat}(h:zC0 P τ (.inl T)=true):P.eqGuardType P.depth T=false:=by cases τ<;>simp only[zC0,jB] at h<;>first|exact yO7 h.2|cases h
theorem zF6 {τ:Ty}{T:Nat}(h:zC0 P τ (.inl T)=true):TyIs P T τ:=by cases τ with|nl=>simp[zC0] at h|cons a b=>simp[zC0] at h|int k=>simp only[zC0,jB] at h;refine⟨zL0 h.2,?_⟩;(cases hu:P.underlying T with|none=>simp[hu] at h|some d=>refine⟨d,rfl,?_⟩;rw[hu] at h;cases d<;>simp_all [TypeDesc.isRow,Ty.isAgg])|bool=>simp only[zC0,jB] at h;refine⟨zL0 h.2,?_⟩;(cases hu:P.underlying T with|none=>simp[hu] at h|some d=>refine⟨d,rfl,?_⟩;rw[hu] at h;cases d<;>simp_all [TypeDesc.isRow,Ty.isAgg])|str=>simp only[zC0,jB] at h;refine⟨zL0 h.2,?_⟩;(cases hu:P.underlying T with|none=>simp[hu] at h|some d=>refine⟨d,rfl,?_⟩;rw[hu] at h;cases d<;>simp_all [TypeDesc.isRow,Ty.isAgg])|st f=>simp only[zC0,jB] at h;refine⟨zL0 h.2,?_⟩;(cases hu:P.underlying T with|none=>simp[hu] at h|some d=>refine⟨d,rfl,?_⟩;rw[hu] at h;cases d<;>simp_all [TypeDesc.isRow,Ty.isAgg])|arr n t=>simp only[zC0,jB] at h;refine⟨zL0 h.2,?_⟩;(cases hu:P.underlying T with|none=>simp[hu] at h|some d=>refine⟨d,rfl,?_⟩;rw[hu] at h;cases d<;>simp_all [TypeDesc.isRow,Ty.isAgg])|sl t=>simp only[zC0,jB] at h;refine⟨zL0 h.2,?_⟩;(cases hu:P.underlying T with|none=>simp[hu] at h|some d=>refine⟨d,rfl,?_⟩;rw[hu] at h;cases d<;>simp_all [TypeDesc.isRow,Ty.isAgg])|ptr t=>simp only[zC0,jB] at h;refine⟨zL0 h.2,?_⟩;cases hu:P.underlying T with|none=>simp[hu] at h|some d=>refine⟨d,rfl,?_⟩;rw[hu] at h;cases d<;>simp_all [TypeDesc.isRow,Ty.isAgg]
theorem zX9 {f:Ty}:∀{fs:List Field}{o k:Nat},zC0 P f (.inr (fs,o))=true->k<f.flen->∃fd,fs[k]?=some fd/\fd.offset=o+f.foff k/\zC0 P (f.fty k) (.inl fd.type)=true/\fd.name≠"_":=by induction f with|cons h t _ gz=>intro fs o k hk hl;(cases fs with|nil=>simp[zC0] at hk|cons fd r=>simp only[zC0,jB] at hk;obtain⟨⟨⟨h1,h2⟩,h3⟩,h4⟩:=hk;have h1:=jC h1;cases k with|zero=>exact⟨fd,rfl,by simp[Ty.foff,h1],by simpa[Ty.fty] using h3,by simpa using h2⟩|succ k=>simp only[Ty.flen] at hl;obtain⟨fd',h5,h6,h7,h8⟩:=gz h4 (k:=k) (by omega);exact⟨fd',by simpa using h5,by simp[Ty.foff];omega,by simpa[Ty.fty] using h7,h8⟩)|_=>intro fs o k hk hl;simp[Ty.flen] at hl
theorem zQ5 {f:Ty}{T:Nat}(h:zC0 P (.st f) (.inl T)=true):∃fs,P.underlying T=some (.struct fs)/\zC0 P f (.inr (fs.toList,0))=true:=by simp only[zC0,jB] at h;cases hu:P.underlying T with|none=>simp[hu] at h|some d=>rw[hu] at h;cases d<;>simp_all
theorem xB5 {f:Ty}{T:Nat}(h:zC0 P (.st f) (.inl T)=true):P.stoodInHeld T=false:=by simp only[zC0,jB] at h;cases hu:P.underlying T with|none=>simp[hu] at h|some d=>rw[hu] at h;cases d<;>simp_all
theorem zO {n:Nat}{t:Ty}{T:Nat}(h:zC0 P (.arr n t) (.inl T)=true):∃e,P.underlying T=some (.array n e)/\zC0 P t (.inl e)=true:=by simp only[zC0,jB] at h;cases hu:P.underlying T with|none=>simp[hu] at h|some d=>rw[hu] at h;cases d<;>simp_all
theorem zF7 {t:Ty}{T:Nat}(h:zC0 P (.sl t) (.inl T)=true):∃e,P.underlying T=some (.slice e)/\zC0 P t (.inl e)=true:=by simp only[zC0,jB] at h;cases hu:P.underlying T with|none=>simp[hu] at h|some d=>rw[hu] at h;cases d<;>simp_all
theorem xQ3 {t:Ty}{T:Nat}(h:zC0 P (.ptr t) (.inl T)=true):∃e,P.underlying T=some (.pointer e)/\zC0 P t (.inl e)=true:=by simp only[zC0,jB] at h;cases hu:P.underlying T with|none=>simp[hu] at h|some d=>rw[hu] at h;cases d<;>simp_all
theorem yC1 {k:IntKind}{T:Nat}(h:zC0 P (.int k) (.inl T)=true):P.underlying T=some (.int k):=by simp only[zC0,jB] at h;cases hu:P.underlying T with|none=>simp[hu] at h|some d=>rw[hu] at h;cases d<;>simp_all;exact (zG9 h.1)
theorem yO8 {T:Nat}(h:zC0 P .bool (.inl T)=true):P.underlying T=some .bool:=by simp only[zC0,jB] at h;cases hu:P.underlying T with|none=>simp[hu] at h|some d=>rw[hu] at h;cases d<;>simp_all
theorem zK1 {T:Nat}(h:zC0 P .str (.inl T)=true):P.underlying T=some .string:=by simp only[zC0,jB] at h;cases hu:P.underlying T with|none=>simp[hu] at h|some d=>rw[hu] at h;cases d<;>simp_all
theorem xI4 {τ:Ty}{T:Nat}(h:zC0 P τ (.inl T)=true):τ.isL=false:=by cases τ<;>first|rfl|simp[zC0] at h
theorem yY5 {t:Ty}{q:yH8}{T:Nat}(j:zE t q)(h:zC0 P (t.pty q) (.inl T)=true):t.isL=false:=by cases q with|nil=>exact xI4 h|cons e r=>cases t<;>first|rfl | (exfalso;cases e<;>simp[zE] at j)
theorem yC2 {t:Ty}{T:Nat}(h:zC0 P (.sl t) (.inl T)=true):t.isL=false:=by obtain⟨e,_,h⟩:=zF7 h;exact xI4 h
end Go.Am
namespace Go.Am
open Go Go.RowKit
variable {P:Program}
def seg (vs:List Value)(o n:Nat):List Value:=(vs.drop o).take n
def spl (vs:List Value)(o:Nat)(ys:List Value):List Value:=vs.take o++(ys++vs.drop (o+ys.length))
theorem xB6 {vs:List Value}{o n:Nat}(h:o+n<=vs.length):(seg vs o n).length=n:=by simp[seg];omega
theorem seg_getElem? (vs:List Value)(o n j:Nat):(seg vs o n)[j]?=if j<n then vs[o+j]? else none:=by
 simp only[seg,List.getElem?_take,List.getElem?_drop]
theorem yE2 (vs:List Value)(o n o' C:Nat)(h:o'+C<=n):seg (seg vs o n) o' C=seg vs (o+o') C:=by
 apply List.ext_getElem?;intro j;simp only[seg_getElem?];by_cases I:j<C
 ·simp only[I,if_true];rw[if_pos (by omega)];congr 1;omega
 ·simp[I]
theorem yL4 (vs:List Value):seg vs 0 vs.length=vs:=by simp[seg]
theorem yC3 (us ws:List Value):seg (us++ws) 0 us.length=us:=by simp[seg]
theorem zV9 (us ws:List Value)(o n:Nat):seg (us++ws) (us.length+o) n=seg ws o n:=by
 unfold seg;rw[List.drop_append,List.drop_of_length_le (by omega),List.nil_append];congr 2;omega
theorem zN0 {vs ys:List Value}{o:Nat}(h:o+ys.length<=vs.length):(spl vs o ys).length=vs.length:=by simp[spl];omega
theorem yL5 (us ws ys:List Value)(h:ys.length=us.length):spl (us++ws) 0 ys=ys++ws:=by
 simp[spl,h]
theorem yE3 (us ws ys:List Value)(o:Nat):spl (us++ws) (us.length+o) ys=us++spl ws o ys:=by
 unfold spl;rw[List.take_append,List.take_of_length_le (by omega),List.drop_append,List.drop_of_length_le (by omega),List.nil_append,List.append_assoc];congr 3
 ·omega
 ·congr 1;omega
theorem xI5 (vs:List Value)(o:Nat):spl vs o []=vs:=by simp[spl]
theorem xV7 (vs ys:List Value)(h:ys.length=vs.length):spl vs 0 ys=ys:=by simp[spl,h]
theorem spl_getElem? (vs ys:List Value)(o j:Nat)(h:o+ys.length<=vs.length) :
  (spl vs o ys)[j]?=if o<=j/\j<o+ys.length then ys[j-o]? else vs[j]?:=by
 unfold spl;by_cases C:j<o
 ·rw[List.getElem?_append_left (by simp;omega)];simp[C];omega
 ·rw[List.getElem?_append_right (by simp;omega)];have I:(vs.take o).length=o:=by simp;omega
  rw[I];by_cases J:j<o+ys.length
  ·rw[List.getElem?_append_left (by omega),if_pos ⟨by omega,J⟩]
  ·rw[List.getElem?_append_right (by omega),if_neg (by omega),List.getElem?_drop];congr 1;omega
theorem yE4 (vs ys:List Value)(o n o':Nat)(h:o+n<=vs.length)(h':o'+ys.length<=n):spl vs o (spl (seg vs o n) o' ys)=spl vs (o+o') ys:=by
 have R:(seg vs o n).length=n:=xB6 h;have C:(spl (seg vs o n) o' ys).length=n:=by rw[zN0 (by omega),R]
 apply List.ext_getElem?;intro j;rw[spl_getElem? vs _ o j (by omega),spl_getElem? vs ys (o+o') j (by omega),C];by_cases I:o<=j/\j<o+n
 ·rw[if_pos I,spl_getElem? _ _ _ _ (by omega)];by_cases J:o'<=j-o/\j-o<o'+ys.length
  ·rw[if_pos J,if_pos (by omega)];congr 1;omega
  ·rw[if_neg J,if_neg (by omega),seg_getElem?,if_pos (by omega)];congr 1;omega
 ·rw[if_neg I,if_neg (by omega)]
theorem yC4 {α:Type}{R:α->List Value->Prop}{k:Nat}(I:∀x vs,R x vs->vs.length=k)(d:α) :
  ∀{l:List α}{us:List Value}{i:Nat},zJ9 R l us->i<l.length->R (l.getD i d) (seg us (i*k) k):=by
 intro l
 induction l with
 |nil=>intro us i _ j;simp at j
 |cons x l J =>
  rintro us i ⟨vs,ws,rfl,o,hl⟩ j;have C:=I _ _ o;cases i with
  |zero=>simp only[Nat.zero_mul,List.getD_cons_zero];rw[<-C,yC3];exact o
  |succ i =>
   simp only[List.getD_cons_succ];rw[show (i+1)*k=vs.length+i*k from by rw[C,Nat.add_mul];omega,zV9];exact J hl (by simpa using j)
theorem yL6 {α:Type}{R:α->List Value->Prop}{k:Nat}(o:∀x vs,R x vs->vs.length=k){y:α}{ys:List Value}(C:R y ys) :
  ∀{l:List α}{us:List Value}{i:Nat},zJ9 R l us->i<l.length->zJ9 R (l.set i y) (spl us (i*k) ys):=by
 intro l
 induction l with
 |nil=>intro us i _ j;simp at j
 |cons x l ih =>
  rintro us i ⟨vs,ws,rfl,I,J⟩ j;have hv:=o _ _ I;have mm:=o _ _ C;cases i with
  |zero=>simp only[Nat.zero_mul,List.set_cons_zero];rw[yL5 _ _ _ (by omega)];exact⟨ys,ws,rfl,C,J⟩
  |succ i =>
   simp only[List.set_cons_succ];rw[show (i+1)*k=vs.length+i*k from by rw[hv,Nat.add_mul];omega,yE3];exact⟨vs,_,rfl,I,ih J (by simpa using j)⟩
theorem yE5 {α:Type}{R:α->List Value->Prop}:∀{l m:List α}{us ws:List Value},zJ9 R l us->zJ9 R m ws->zJ9 R (l++m) (us++ws):=by
 intro l
 induction l with
 |nil=>intro m us ws h hm;simp only[zJ9] at h;subst h;simpa using hm
 |cons x l j=>rintro m us ws ⟨vs,ws',rfl,o,C⟩ hm;exact⟨vs,ws'++ws,by simp,o,j C hm⟩
theorem yO9 {α:Type}{R:α->List Value->Prop}{k:Nat}(C:∀x vs,R x vs->vs.length=k) :
  ∀{l:List α}{us:List Value}(n:Nat),zJ9 R l us->zJ9 R (l.take n) (us.take (n*k)):=by
 intro l
 induction l with
 |nil=>intro us n h;simp only[zJ9] at h;subst h;simp[zJ9]
 |cons x l I =>
  rintro us n ⟨vs,ws,rfl,j,J⟩;have o:=C _ _ j;cases n with
  |zero=>simp[zJ9]
  |succ n =>
   simp only[List.take_succ_cons];refine⟨vs,ws.take (n*k),?_,j,I n J⟩;rw[List.take_append,List.take_of_length_le (by rw[o,Nat.add_mul];omega),show (n+1)*k-vs.length=n*k from by rw[o,Nat.add_mul];omega]
theorem yP {α:Type}{R:α->List Value->Prop}{k:Nat}(I:∀x vs,R x vs->vs.length=k) :
  ∀{l:List α}{us:List Value}(n:Nat),zJ9 R l us->zJ9 R (l.drop n) (us.drop (n*k)):=by
 intro l
 induction l with
 |nil=>intro us n h;simp only[zJ9] at h;subst h;simp[zJ9]
 |cons x l J =>
  rintro us n ⟨vs,ws,rfl,j,o⟩;have C:=I _ _ j;cases n with
  |zero=>simp only[Nat.zero_mul,List.drop_zero];exact⟨vs,ws,rfl,j,o⟩
  |succ n =>
   simp only[List.drop_succ_cons];have e:(vs++ws).drop ((n+1)*k)=ws.drop (n*k):=by
    rw[List.drop_append,List.drop_of_length_le (l:=vs) (by rw[C,Nat.add_mul];omega),show (n+1)*k-vs.length=n*k from by rw[C,Nat.add_mul];omega,List.nil_append]
   rw[e];exact J n o
theorem zJ0 {α:Type}{R:α->List Value->Prop}{x:α}{vs:List Value}(h:R x vs):∀n,zJ9 R (List.replicate n x) (List.replicate n vs).flatten:=by
 intro n
 induction n with
 |zero=>simp[zJ9]
 |succ n j=>exact⟨vs,_,by simp[List.replicate_succ],h,j⟩
theorem yE6 {f:Ty}:∀{k:Nat},k<f.flen->f.foff k+(f.fty k).size<=f.size:=by
 induction f with
 |cons h t _ gz =>
  intro k j;cases k with
  |zero=>simp[Ty.foff,Ty.fty,Ty.size]
  |succ k=>simp only[Ty.flen] at j;have:=gz (k:=k) (by omega);simp[Ty.foff,Ty.fty,Ty.size];omega
 |_=>intro k j;simp[Ty.flen] at j
theorem zW {χ:Nat->Nat->Nat}{w:World}{f:Ty}:∀{k:Nat}{x:f.den}{vs:List Value},k<f.flen->zB χ w f x vs->zB χ w (f.fty k) (f.fget k x) (seg vs (f.foff k) (f.fty k).size):=by
 induction f with
 |cons h t _ gz =>
  intro k x vs j o;simp only[zB] at o;obtain⟨us,ws,rfl,C,J⟩:=o;have I:=zA1 C;cases k with
  |zero=>simp only[Ty.fty,Ty.fget,Ty.foff];rw[<-I,yC3];exact C
  |succ k =>
   simp only[Ty.flen] at j;simp only[Ty.fty,Ty.fget,Ty.foff];rw[<-I,zV9];exact gz (by omega) J
 |_=>intro k x vs j;simp[Ty.flen] at j
theorem xI6 {χ:Nat->Nat->Nat}{w:World}{f:Ty}:∀{k:Nat}{x:f.den}{y:(f.fty k).den}{vs ys:List Value},k<f.flen->zB χ w f x vs->zB χ w (f.fty k) y ys->zB χ w f (f.fset k y x) (spl vs (f.foff k) ys):=by
 induction f with
 |cons h t _ gz =>
  intro k x y vs ys o C j;simp only[zB] at C;obtain⟨us,ws,rfl,I,J⟩:=C;have R:=zA1 I;cases k with
  |zero =>
   simp only[Ty.fty] at y j;have mm:=zA1 j;simp only[Ty.fset,Ty.foff];rw[yL5 _ _ _ (by omega)];exact⟨ys,ws,rfl,j,J⟩
  |succ k =>
   simp only[Ty.flen] at o;simp only[Ty.fset,Ty.foff];rw[<-R,yE3];exact⟨us,_,rfl,I,gz (by omega) J j⟩
 |_=>intro k x y vs ys o;simp[Ty.flen] at o
theorem zB1 {G:Gh}{w:World}:∀{c:AVal}{τ:Ty}{vs:List Value},zA2 G w τ c vs->vs.length=τ.size:=by
 intro c
 induction c with
 |val τ' x=>intro τ vs h;simp only[zA2] at h;rw[<-h.1];exact zA1 h.2.2
 |nil=>intro τ vs h;simp only[zA2] at h;obtain⟨j,rfl⟩:=h;cases τ<;>simp[Ty.isSl] at j;rfl
 |own t l T m=>intro τ vs h;simp only[zA2] at h;obtain⟨rfl,v,rfl,_⟩:=h;rfl
 |agg f a o=>intro τ vs h;simp only[zA2] at h;obtain⟨rfl,h⟩:=h;have:=o (τ:=f) h;simpa only[Ty.size] using this
 |nl=>intro τ vs h;simp only[zA2] at h;obtain⟨rfl,rfl⟩:=h;rfl
 |junk=>intro τ vs h;simp only[zA2] at h;obtain⟨j,v,rfl,_⟩:=h;cases τ<;>simp[Ty.isSl] at j;rfl
 |cons a b gj kQ=>intro τ vs h;simp only[zA2] at h;obtain⟨h,t,us,ws,rfl,rfl,j,C⟩:=h;simp[gj j,kQ C,Ty.size]
 |_=>intro τ vs h;simp only[zA2] at h
theorem zO0 {G:Gh}{w:World}{h t:Ty}{c:AVal}{vs:List Value}(j:zA2 G w (.cons h t) c vs):∃a b us ws,c=.cons a b/\vs=us++ws/\zA2 G w h a us/\zA2 G w t b ws:=by
 cases c with
 |cons a b=>simp only[zA2] at j;obtain⟨J,t',us,ws,e,rfl,o,C⟩:=j;injection e with e1 I;subst e1;subst I;exact⟨a,b,us,ws,rfl,rfl,o,C⟩
 |val τ' x=>simp only[zA2] at j;obtain⟨rfl,h,_⟩:=j;simp[Ty.isL] at h
 |nil=>simp[zA2,Ty.isSl] at j
 |junk=>simp[zA2,Ty.isSl] at j
 |_=>simp[zA2] at j
theorem yL7 {G:Gh}{w:World}{f:Ty}:∀{c:AVal}{k:Nat}{vs:List Value},k<f.flen->zA2 G w f c vs->zA2 G w (f.fty k) (c.nth k) (seg vs (f.foff k) (f.fty k).size):=by
 induction f with
 |cons h t _ gz =>
  intro c k vs j I;obtain⟨a,b,us,ws,rfl,rfl,o,J⟩:=zO0 I;have C:=zB1 o;cases k with
  |zero=>simp only[Ty.fty,AVal.nth,Ty.foff];rw[<-C,yC3];exact o
  |succ k =>
   simp only[Ty.flen] at j;simp only[Ty.fty,AVal.nth,Ty.foff];rw[<-C,zV9];exact gz (by omega) J
 |_=>intro c k vs j;simp[Ty.flen] at j
theorem zU2 {G:Gh}{w:World}{f:Ty}:∀{c B:AVal}{k:Nat}{vs ys:List Value},k<f.flen->zA2 G w f c vs->zA2 G w (f.fty k) B ys->zA2 G w f (c.setNth k B) (spl vs (f.foff k) ys):=by
 induction f with
 |cons h t _ gz =>
  intro c B k vs ys o J j;obtain⟨a,b,us,ws,rfl,rfl,C,I⟩:=zO0 J;have R:=zB1 C;cases k with
  |zero =>
   simp only[Ty.fty] at j;have mm:=zB1 j;simp only[AVal.setNth,Ty.foff];rw[yL5 _ _ _ (by omega)];simp only[zA2];exact⟨h,t,ys,ws,rfl,rfl,j,I⟩
  |succ k =>
   simp only[Ty.flen] at o;simp only[AVal.setNth,Ty.foff];rw[<-R,yE3];simp only[zA2];exact⟨h,t,us,_,rfl,rfl,C,gz (by omega) I j⟩
 |_=>intro c B k vs ys o;simp[Ty.flen] at o
theorem zC4 {τ:Ty}{T:Nat}(h:zC0 P τ (.inl T)=true):τ.isL=false:=by
 cases τ<;>first|rfl | (simp[zC0] at h)
theorem yY6 {τ:Ty}{x:List Field×Nat}(h:zC0 P τ (.inr x)=true):τ.isL=true:=by
 cases τ<;>first|rfl | (simp[zC0] at h)
theorem zH1:∀{τ:Ty}{x:Nat ⊕ (List Field×Nat)},zC0 P τ x=true->τ.plain=true:=by
 intro τ
 induction τ with
 |cons h t I gz =>
  intro x j;rcases x with x|⟨fs,o⟩
  ·simp[zC0] at j
  ·cases fs with
   |nil=>simp[zC0] at j
   |cons fd r =>
    simp only[zC0,jB] at j;simp[Ty.plain,I j.1.2,gz j.2,zC4 j.1.2,yY6 j.2]
 |st f C =>
  intro x j;rcases x with x|x
  ·obtain⟨fs,_,h⟩:=zQ5 j;simp[Ty.plain,C h,yY6 h]
  ·simp[zC0] at j
 |arr n t C =>
  intro x j;rcases x with x|x
  ·obtain⟨e,_,h⟩:=zO j;simp[Ty.plain,C h,zC4 h]
  ·simp[zC0] at j
 |sl t C =>
  intro x j;rcases x with x|x
  ·obtain⟨e,_,h⟩:=zF7 j;simp[Ty.plain,C h,zC4 h]
  ·simp[zC0] at j
 |ptr t C =>
  intro x j;rcases x with x|x
  ·obtain⟨e,_,h⟩:=xQ3 j;simp[Ty.plain,C h,zC4 h]
  ·simp[zC0] at j
 |_=>intro x _;rfl
theorem yE7 {f:Ty}:∀{k:Nat},f.plain=true->k<f.flen->(f.fty k).isL=false/\(f.fty k).plain=true:=by
 induction f with
 |cons h t _ gz =>
  intro k j o;simp only[Ty.plain,jB,jK] at j;cases k with
  |zero=>exact⟨j.1.1.1,j.1.1.2⟩
  |succ k=>simp only[Ty.flen] at o;exact gz j.2 (by omega)
 |_=>intro k _ o;simp[Ty.flen] at o
theorem yP0 {G:Gh}{w:World}{f:Ty}:∀{x:f.den}{vs:List Value},f.isL=true->f.plain=true->zB G.χ w f x vs->zA2 G w f (yD0 f x) vs:=by
 induction f with
 |cons h t _ gz =>
  intro x vs C o j;simp only[Ty.plain,jB,jK] at o;simp only[zB] at j;obtain⟨us,ws,rfl,I,J⟩:=j;simp only[yD0,zA2];exact⟨h,t,us,ws,rfl,rfl,⟨rfl,o.1.1.1,I⟩,gz o.1.2 o.2 J⟩
 |nl=>intro x vs _ _ j;simp only[zB] at j;simp only[yD0,zA2];exact⟨trivial,j⟩
 |_=>intro x vs C;simp[Ty.isL] at C
theorem zC7 {a b:Ty}{x:a.den}{y:b.den}(h:Ty.cast b x=some y):∃e:a=b,e ▸ x=y:=by
 unfold Ty.cast at h;split at h
 ·rename_i hb;exact⟨Ty.eq_of_beq hb,by injection h⟩
 ·cases h
theorem zD1 {G:Gh}{w:World}{t:Ty}{l:List t.den}{T:Nat}{v:Value}(h:zG0 G w t l T false v):zB G.χ w (.sl t) l [v]:=by
 simp only[zB];rcases (xB2 h).2 with ⟨rfl,rfl⟩ | ⟨cap,cur,e,us,rfl,C,I,h4,h5,o,J,R⟩
 ·exact⟨none,0,rfl,.inl rfl⟩
 ·refine⟨_,cap,rfl,?_⟩;refine .inr ⟨G.γ T,0,us,rfl,I,o,λj u hu=>?_⟩;have gH:=zB4 (k:=t.size) (λ_ _ h=>zA1 h) o;have hj:j<l.length*t.size:=by rw[<-gH];exact (List.getElem?_eq_some_iff.1 hu).1
  rw[<-J,List.getElem?_take,if_pos hj] at hu;refine⟨?_,by rw[R,if_pos ⟨rfl,by omega⟩]⟩;simp only[World.cell?,C];simpa using hu
theorem zL1 {G:Gh}{w:World}:∀{A:AVal}{τ:Ty}{x:τ.den}{vs:List Value},AVal.as τ A=some x->zA2 G w τ A vs->zB G.χ w τ x vs:=by
 intro A
 induction A with
 |val τ' y =>
  intro τ x vs h ht;simp only[AVal.as,AVal.asT] at h;simp only[zA2] at ht;rw[ht.2.1,jD] at h;obtain⟨e,rfl⟩:=zC7 h;subst e;exact ht.2.2
 |nil =>
  intro τ x vs h ht;simp only[zA2] at ht;obtain⟨j,rfl⟩:=ht;cases τ with
  |sl t =>
   have h:(some []:Option (List t.den))=some x:=h;injection h with h
   subst h;simp only[zB];exact⟨none,0,rfl,.inl (by first|rfl|trivial)⟩
  |_=>simp[Ty.isSl] at j
 |own t l T m =>
  intro τ x vs h ht;simp only[AVal.as,AVal.asT] at h;simp only[zA2] at ht;obtain⟨rfl,v,rfl,o⟩:=ht;cases m with
  |true=>simp only[jE] at h;cases h
  |false =>
   simp only[jD] at h;obtain⟨e,rfl⟩:=zC7 h;exact zD1 o
 |agg f c C =>
  intro τ x vs h ht;simp only[zA2] at ht;obtain⟨rfl,ht⟩:=ht;simp only[AVal.as,AVal.asT] at h;cases hb:Ty.beq (.st f) (.st f) with
  |false=>rw[hb,jD] at h;cases h
  |true =>
   rw[hb,jE] at h;simp only[zB];exact C h ht
 |nl =>
  intro τ x vs h ht;simp only[zA2] at ht;obtain⟨rfl,rfl⟩:=ht;simp only[zB]
 |cons a b gj kQ =>
  intro τ x vs h ht;simp only[zA2] at ht;obtain⟨j,t1,us,ws,rfl,rfl,I,J⟩:=ht;simp only[AVal.as,AVal.asT,yY1] at h;split at h
  ·rename_i y z R hz;injection h with h
   subst h;simp only[zB];exact⟨us,ws,rfl,gj R I,kQ hz J⟩
  ·cases h
 |junk=>intro τ x vs h ht;simp only[AVal.as,AVal.asT] at h;cases h
 |_=>intro τ x vs h ht;simp only[zA2] at ht
theorem zQ6 {G:Gh}{w:World}:∀{p:yH8}{τ:Ty}{c:AVal}{vs:List Value},τ.plain=true->τ.isL=false->zE τ p->zA2 G w τ c vs ->
  (zA2 G w (τ.pty p) (c.at p) (seg vs (τ.poff p) (τ.pty p).size)/\τ.poff p+(τ.pty p).size<=τ.size/\(τ.pty p).plain=true/\(τ.pty p).isL=false):=by
 intro p
 induction p with
 |nil=>intro τ c vs j hl _ h;have:=zB1 h;simp only[Ty.pty,AVal.at,Ty.poff];rw[<-this,yL4];exact⟨h,by omega,j,hl⟩
 |cons x p ih =>
  intro τ c vs j hl o h;rcases x with k|i
  ·cases τ<;>simp only[zE] at o;rename_i f;simp only[Ty.plain,jB] at j;have qj:=yE7 j.2 o.1;have hle:=yE6 o.1;have I:zA2 G w (f.fty k) (c.fld k) (seg vs (f.foff k) (f.fty k).size):=by
    cases c with
    |val τ' x=>simp only[zA2] at h;obtain⟨rfl,_,h⟩:=h;simp only[AVal.fld,zA2];simp only[zB] at h;exact⟨trivial,qj.1,zW o.1 h⟩
    |agg f' a=>simp only[zA2] at h;obtain⟨e,h⟩:=h;injection e with e;subst e;simp only[AVal.fld];exact yL7 o.1 h
    |nil=>simp[zA2,Ty.isSl] at h
    |junk=>simp[zA2,Ty.isSl] at h
    |_=>simp[zA2] at h
   obtain⟨J,R,C,h4⟩:=ih qj.2 qj.1 o.2 I;simp only[Ty.pty,AVal.at,Ty.poff,Ty.size];rw[yE2 _ _ _ _ _ R] at J;exact⟨J,by omega,C,h4⟩
  ·cases τ<;>simp only[zE] at o;rename_i n t;simp only[Ty.plain,jB,jK] at j;cases c with
   |val τ' x =>
    simp only[zA2] at h;obtain⟨rfl,_,h⟩:=h;simp only[zB] at h;obtain⟨J,R⟩:=h;have hi:i.toNat<List.length (α:=t.den) x:=by omega
    have hg:=yC4 (k:=t.size) (λ_ _ h=>zA1 h) t.dflt R hi;have I:zA2 G w t (.val t (List.getD (α:=t.den) x i.toNat t.dflt)) (seg vs (i.toNat*t.size) t.size):=(by simp only[zA2];exact⟨trivial,j.1,hg⟩);obtain⟨C,h4,h5,h6⟩:=ih j.2 j.1 o.2.2 I;simp only[Ty.pty,AVal.at,Ty.poff,Ty.size,AVal.ix];rw[yE2 _ _ _ _ _ h4] at C;refine⟨C,?_,h5,h6⟩;have:i.toNat*t.size+t.size<=n*t.size:=by rw[<-Nat.succ_mul];exact jS _ (by omega)
    omega
   |nil=>simp[zA2,Ty.isSl] at h
   |junk=>simp[zA2,Ty.isSl] at h
   |_=>simp[zA2] at h
theorem zQ7:∀{A:AVal}{τ:Ty}{x:τ.den},AVal.as τ A=some x->A.fitsT τ=true:=by
 intro A
 induction A with
 |val τ' y =>
  intro τ x h;simp only[AVal.as,AVal.asT] at h;cases j:τ'.isL with
  |true=>rw[j,jE] at h;cases h
  |false =>
   rw[j,jD] at h;simp only[AVal.fitsT,j,Bool.not_false,Bool.and_true];unfold Ty.cast at h;split at h
   ·assumption
   ·cases h
 |nil=>intro τ x h;cases τ<;>first|rfl | (simp only[AVal.as,AVal.asT,xY] at h;cases h)
 |own t l T m =>
  intro τ x h;simp only[AVal.as,AVal.asT] at h;cases m with
  |true=>simp only[jE] at h;cases h
  |false =>
   simp only[jD] at h;simp only[AVal.fitsT];unfold Ty.cast at h;split at h
   ·assumption
   ·cases h
 |agg f c o =>
  intro τ x h;simp only[AVal.as,AVal.asT] at h;cases hb:Ty.beq (.st f) τ with
  |false=>rw[hb,jD] at h;cases h
  |true =>
   rw[hb,jE] at h;have:=Ty.eq_of_beq hb;subst this;simp only[AVal.fitsT,hb,Bool.true_and];exact o h
 |nl=>intro τ x h;cases τ<;>first|rfl | (simp only[AVal.as,AVal.asT,wB5] at h;cases h)
 |cons a b gj kQ =>
  intro τ x h;cases τ with
  |cons J t1 =>
   simp only[AVal.as,AVal.asT,yY1] at h;split at h
   ·rename_i y z C I;simp only[AVal.fitsT,zD8,jB];exact⟨gj C,kQ I⟩
   ·cases h
  |_=>simp only[AVal.as,AVal.asT,yY1] at h;cases h
 |_=>intro τ x h;simp only[AVal.as,AVal.asT] at h;cases h
theorem zO1:∀{A:AVal}{τ:Ty},A.fitsT τ=true->A.laxT τ=true:=by
 intro A
 induction A with
 |agg f c j=>intro τ h;simp only[AVal.fitsT,AVal.laxT,jB] at h ⊢;exact⟨h.1,j h.2⟩
 |cons a b gj kQ =>
  intro τ h;cases τ with
  |cons o t1=>simp only[AVal.fitsT,AVal.laxT,zD8,jB] at h ⊢;exact⟨gj h.1,kQ h.2⟩
  |_=>simp[AVal.fitsT,zD8] at h
 |val τ' y=>intro τ h;exact h
 |nil=>intro τ h;exact h
 |own t l T m=>intro τ h;exact h
 |nl=>intro τ h;exact h
 |_=>intro τ h;simp[AVal.fitsT] at h
theorem yI7 {G:Gh}{w:World}{f:Ty}:∀{c B:AVal}{k:Nat}{vs:List Value},k<f.flen->zA2 G w f c vs->(c.setNth k B).laxT f=true->B.laxT (f.fty k)=true:=by
 induction f with
 |cons h t _ gz =>
  intro c B k vs o C j;obtain⟨a,b,us,ws,rfl,rfl,J,I⟩:=zO0 C;cases k with
  |zero=>simp only[AVal.setNth,AVal.laxT,zD8,jB] at j;exact j.1
  |succ k =>
   simp only[Ty.flen] at o;simp only[AVal.setNth,AVal.laxT,zD8,jB] at j;exact gz (by omega) I j.2
 |_=>intro c B k vs o;simp[Ty.flen] at o
theorem yY7 {G:Gh}{w:World}:∀{p:yH8}{τ:Ty}{c B:AVal}{vs ys:List Value},τ.plain=true->τ.isL=false->zE τ p->zA2 G w τ c vs->zA2 G w (τ.pty p) B ys ->
  (AVal.put p c B).laxT τ=true->zA2 G w τ (AVal.put p c B) (spl vs (τ.poff p) ys):=by
 intro p
 induction p with
 |nil=>intro τ c B vs ys o hl _ h I _;simp only[Ty.pty] at I;have:=zB1 h;have:=zB1 I;simp only[AVal.put,Ty.poff];rw[xV7 _ _ (by omega)];exact I
 |cons x p ih =>
  intro τ c B vs ys o hl j h I C;have hat:=zQ6 o hl j h;rcases x with k|i
  ·cases τ<;>simp only[zE] at j;rename_i f;simp only[Ty.plain,jB] at o;have qj:=yE7 o.2 j.1;have hle:=yE6 j.1;have mm:=zB1 I;simp only[Ty.pty] at mm I hat;simp only[Ty.poff,Ty.size] at hat ⊢;have mn:=zB1 h;simp only[Ty.size] at mn;cases c with
   |val τ' x =>
    simp only[zA2] at h;obtain⟨rfl,_,h⟩:=h;simp only[zB] at h;have hg:zA2 G w (f.fty k) (.val (f.fty k) (f.fget k x)) (seg vs (f.foff k) (f.fty k).size):=(by simp only[zA2];exact⟨trivial,qj.1,zW j.1 h⟩);have hat2:=zQ6 qj.2 qj.1 j.2 hg;simp only[AVal.put] at C ⊢;have hC:=λhn=>ih (B:=B) qj.2 qj.1 j.2 hg I hn;cases J:AVal.as (f.fty k) (AVal.put p (.val (f.fty k) (f.fget k x)) B) with
    |some y =>
     simp only[J] at C ⊢;have:=xI6 j.1 h (zL1 J (hC (zO1 (zQ7 J))));rw[yE4 _ _ _ _ _ (by omega) (by omega)] at this;simp only[zA2];exact⟨trivial,rfl,by simpa only[zB] using this⟩
    |none =>
     simp only[J] at C ⊢;have hex:=yP0 o.1 o.2 h;simp only[AVal.laxT,jB] at C;have:=zU2 j.1 hex (hC (yI7 j.1 hex C.2));rw[yE4 _ _ _ _ _ (by omega) (by omega)] at this;simp only[zA2];exact⟨trivial,this⟩
   |agg f' a =>
    simp only[zA2] at h;obtain⟨e,h⟩:=h;injection e with e;subst e
    have hg:=yL7 j.1 h;have hat2:=zQ6 qj.2 qj.1 j.2 hg;simp only[AVal.put] at C ⊢;simp only[AVal.laxT,jB] at C;have:=zU2 j.1 h (ih qj.2 qj.1 j.2 hg I (yI7 j.1 h C.2));rw[yE4 _ _ _ _ _ (by omega) (by omega)] at this;simp only[zA2];exact⟨trivial,this⟩
   |nil=>simp[zA2,Ty.isSl] at h
   |junk=>simp[zA2,Ty.isSl] at h
   |_=>simp[zA2] at h
  ·cases τ<;>simp only[zE] at j;rename_i n t;simp only[Ty.plain,jB,jK] at o;have mm:=zB1 I;have mn:=zB1 h;simp only[Ty.pty,Ty.size] at mm I mn;cases c with
   |val τ' x =>
    simp only[zA2] at h;obtain⟨rfl,_,h⟩:=h;simp only[zB] at h;obtain⟨h1,h2⟩:=h;have hi:i.toNat<List.length (α:=t.den) x:=by omega
    have hg:=yC4 (k:=t.size) (λ_ _ h=>zA1 h) t.dflt h2 hi;have hc:zA2 G w t (.val t (List.getD (α:=t.den) x i.toNat t.dflt)) (seg vs (i.toNat*t.size) t.size):=(by simp only[zA2];exact⟨trivial,o.1,hg⟩);have hat2:=zQ6 o.2 o.1 j.2.2 hc;have kB:i.toNat*t.size+t.size<=n*t.size:=by rw[<-Nat.succ_mul];exact jS _ (by omega)
    simp only[AVal.put] at C ⊢;cases J:AVal.as t (AVal.put p (.val t (List.getD (α:=t.den) x i.toNat t.dflt)) B) with
    |none=>simp only[J,AVal.laxT] at C;cases C
    |some y =>
     simp only[J] at C ⊢;have hn:=zO1 (zQ7 J);have:=yL6 (R:=zB G.χ w t) (k:=t.size) (λ_ _ h=>zA1 h) (zL1 J (ih o.2 o.1 j.2.2 hc I hn)) h2 hi;rw[yE4 _ _ _ _ _ (by omega) (by omega)] at this;simp only[zA2,Ty.poff];exact⟨trivial,rfl,by simp only[zB];exact⟨(List.length_set (α:=t.den)).trans h1,this⟩⟩
   |nil=>simp[zA2,Ty.isSl] at h
   |junk=>simp[zA2,Ty.isSl] at h
   |_=>simp[zA2] at h
end Go.Am
namespace Go.Am
open Go Go.RowKit
variable {P:Program}{c:Ctx}{G:Gh}{w:World}{tm:Array Value}
theorem zB5 (km:zM4 P c.tys=true){T:Nat}{τ:Ty}(h:c.is T τ=true):zC0 P τ (.inl T)=true:=by simp only[Ctx.is,jB] at h;have e:=Ty.eq_of_beq h.1;rw[e];exact zI6 km T (by rw[<-e];intro j;rw[j] at h;simp[xY0] at h)
theorem VRep_int {χ:Nat->Nat->Nat}{k:IntKind}{n:Int}{v:Value}:zQ χ w (.int k) n v↔v=.int k n:=by constructor;rintro⟨vs,o,j⟩;simp only[zB] at o;simp only[Ty.isAgg,jD] at j;rw[o] at j;injection j with j _;exact j.symm;rintro rfl;exact⟨[.int k n],by simp only[zB],by simp[Ty.isAgg]⟩
theorem VRep_bool {χ:Nat->Nat->Nat}{b:Bool}{v:Value}:zQ χ w .bool b v↔v=.bool b:=by constructor;rintro⟨vs,o,j⟩;simp only[zB] at o;simp only[Ty.isAgg,jD] at j;rw[o] at j;injection j with j _;exact j.symm;rintro rfl;exact⟨[.bool b],by simp only[zB],by simp[Ty.isAgg]⟩
theorem VRep_str {χ:Nat->Nat->Nat}{s:List UInt8}{v:Value}:zQ χ w .str s v↔v=.string ⟨s.toArray⟩:=by constructor;rintro⟨vs,o,j⟩;simp only[zB] at o;simp only[Ty.isAgg,jD] at j;rw[o] at j;injection j with j _;exact j.symm;rintro rfl;exact⟨[.string ⟨s.toArray⟩],by simp only[zB],by simp[Ty.isAgg]⟩
theorem zC3 {χ:Nat->Nat->Nat}{τ:Ty}{x:τ.den}{v:Value}(h:τ.isAgg=false):zQ χ w τ x v↔zB χ w τ x [v]:=by constructor;rintro⟨vs,j,o⟩;rw[h,jD] at o;rw[<-o];exact j;intro j;exact⟨[v],j,by rw[h,jD]⟩
theorem zG6 {χ:Nat->Nat->Nat}{τ:Ty}{x:τ.den}{v:Value}(h:τ.isAgg=true):zQ χ w τ x v↔∃vs,v=.agg vs.toArray/\zB χ w τ x vs:=by constructor;rintro⟨vs,o,j⟩;rw[h,jE] at j;exact⟨vs,j,o⟩;rintro⟨vs,o,j⟩;exact⟨vs,j,by rw[h,jE];exact o⟩
def zN1 (τ:Ty)(us:List Value)(u:Value):Prop:=cond τ.isAgg (u=.agg us.toArray) (us=[u])
theorem yE8 {τ:Ty}{A:AVal}{us:List Value}{u:Value}(h:zA2 G w τ A us)(o:τ.isL=false)(hu:zN1 τ us u):zA G w tm none A u:=by unfold zN1 at hu;cases A with|val τ' x=>simp only[zA2] at h;obtain⟨rfl,j,C⟩:=h;simp only[zA];exact⟨us,C,hu⟩|nil=>simp only[zA2] at h;obtain⟨j,rfl⟩:=h;cases τ<;>simp[Ty.isSl] at j;simp only[Ty.isAgg,jD] at hu;simp only[zA];injection hu with hu _;exact hu.symm|own t l T m=>simp only[zA2] at h;obtain⟨rfl,v,rfl,j⟩:=h;simp only[Ty.isAgg,jD] at hu;injection hu with hu _;subst hu;simp only[zA];exact j|agg f a=>simp only[zA2] at h;obtain⟨rfl,j⟩:=h;simp only[Ty.isAgg,jE] at hu;simp only[zA];exact⟨us,hu,j⟩|nl=>simp only[zA2] at h;obtain⟨rfl,_⟩:=h;simp[Ty.isL] at o|cons a b=>simp only[zA2] at h;obtain⟨_,_,_,_,rfl,_⟩:=h;simp[Ty.isL] at o|junk=>simp only[zA]|_=>simp only[zA2] at h
theorem zQ8 {τ:Ty}{A:AVal}{u:Value}(h:zA G w tm none A u)(j:A.fitsT τ=true)(o:τ.isL=false):∃us,zA2 G w τ A us/\zN1 τ us u:=by unfold zN1;cases A with|val τ' x=>simp only[AVal.fitsT,jB,jK] at j;have e:=Ty.eq_of_beq j.1;subst e;simp only[zA] at h;obtain⟨us,C,I⟩:=h;exact⟨us,by simp only[zA2];exact⟨trivial,o,C⟩,I⟩|nil=>simp only[zA] at h;subst h;simp only[AVal.fitsT] at j;cases τ<;>simp[Ty.isSl] at j;exact⟨[.slice none 0 0],by simp[zA2,Ty.isSl],by simp[Ty.isAgg]⟩|own t l T m=>simp only[AVal.fitsT] at j;have e:=Ty.eq_of_beq j;subst e;simp only[zA] at h;exact⟨[u],by simp only[zA2];exact⟨trivial,u,rfl,h⟩,by simp[Ty.isAgg]⟩|agg f a=>simp only[AVal.fitsT,jB] at j;have e:=Ty.eq_of_beq j.1;subst e;simp only[zA] at h;obtain⟨us,C,I⟩:=h;exact⟨us,by simp only[zA2];exact⟨trivial,I⟩,by simp[Ty.isAgg,C]⟩|nl=>simp only[AVal.fitsT] at j;have e:=Ty.eq_of_beq j;subst e;simp[Ty.isL] at o|cons a b=>simp only[AVal.fitsT] at j;cases τ<;>simp[zD8] at j;simp[Ty.isL] at o|_=>simp[AVal.fitsT] at j
theorem zI7 {τ:Ty}{A:AVal}{x:τ.den}{u:Value}(h:AVal.as τ A=some x)(j:τ.isL=false)(o:zA G w tm none A u):zQ G.χ w τ x u:=by obtain⟨us,C,I⟩:=zQ8 o (zQ7 h) j;exact⟨us,zL1 h C,I⟩
theorem yY8 {τ:Ty}{T:Nat}(h:zC0 P τ (.inl T)=true)(j:τ.isAgg=false):τ.size=1:=by cases τ<;>simp[Ty.isAgg,zC0] at h j<;>rfl
theorem yE9 {T:Nat}{d:TypeDesc}(hu:P.underlying T=some d)(w:World):(isAgg T).run P w=.ok d.isRow w:=by unfold isAgg;rw[Sem.run_bind,run_underlying hu w];cases d<;>simp[TypeDesc.isRow]
theorem zJ1 {τ:Ty}{T b o:Nat}{us:List Value}(I:zC0 P τ (.inl T)=true)(J:w.rangeAt b o us)(j:us.length=τ.size):∃u,(Instr.loadAt T (.pointer (some ⟨b,o,none⟩))).run P w=.ok u w/\zN1 τ us u:=by obtain⟨⟨i,z,hi,hs,_⟩,d,hu,R⟩:=zF6 I;unfold zN1;cases C:τ.isAgg with|true=>exact⟨_,run_loadAt_mid w b o T us d J hu (by rw[R,C]) (by simp[hi,hs,j]),by simp⟩|false=>have h1:=yY8 I C;rw[h1] at j;(obtain⟨u,rfl⟩:∃u,us=[u]:=by cases us with|nil=>simp at j|cons x r=>cases r with|nil=>exact⟨x,rfl⟩|cons _ _=>simp at j);refine⟨u,?_,by simp⟩;have hc:=J 0 u rfl;have hg:=yE9 hu w;rw[R,C] at hg;simp only[Nat.add_zero] at hc;simp only[Instr.loadAt,Instr.sureAddr,Sem.run_bind,Sem.run_pure,Result.andThen_ok,loadVar,hg];simp[hc]
theorem yT2 {χ:Nat->Nat->Nat}{b o:Nat}{us:List Value}(h:yL3 χ w b o us):w.rangeAt b o us:=λj v C=>(h j v C).1
theorem yT3 {b:Nat}{cur:Array Value}{e:TypeId}{fr:Nat×Nat}(h:w.heap[b]?=some (.cells cur e fr))(o n:Nat):w.rangeAt b o (seg cur.toList o n):=by intro j v C;rw[seg_getElem?] at C;split at C;simp only[World.cell?,h];simpa using C;cases C
def zD:AVal->Option Nat
 |.ref s _ _=>some s
 |.eref s _ _ _ _=>some s
 |.rref s=>some s
 |_=>none
theorem zF8 {s:Nat}{τ:Ty}{k:AVal}{u:Value}(h:zA G w tm (some s) (.box τ k) u):yE τ/\∃cur e,w.heap[G.β s]?=some (.cells cur e (0,0))/\zA2 G w τ k cur.toList/\(∀o,G.χ (G.β s) o=zG3 s):=by simp only[zA] at h;exact h.2
def wB6 (P:Program)(T:Nat):Bool:=
 match P.info? T,P.underlying T with
 |some i,some d=>Nat.beq i.size 1&&!d.isRow&&(match i.zero with|some z=>Nat.beq z.cells.size 1|none=>false)
 |_,_=>false
def yT4 (P:Program)(l:List Nat):Bool:=l.all (wB6 P)
theorem yT5 {l:List Nat}(h:yT4 P l=true){T:Nat}(o:l.any (Nat.beq T)=true):∃i d z u,P.info? T=some i/\P.underlying T=some d/\i.size=1/\d.isRow=false/\i.zero=some z/\z.cells=#[u]:=by obtain⟨T',hm,hb⟩:=List.any_eq_true.1 o;have:=jC hb;subst this;have:=List.all_eq_true.1 h _ hm;unfold wB6 at this;split at this;rename_i i d C I;simp only[jB,jK] at this;obtain⟨⟨J,R⟩,j⟩:=this;split at j;rename_i z hz;have j:=jC j;obtain⟨u,hu⟩:=Array.size_eq_one_iff.1 j;exact⟨i,d,z,u,C,I,jC J,R,hz,hu⟩;cases j;cases this
theorem xQ4 {f:Nat}{caps:List (Option (Nat×Ty))}{v:Value}(o:zA G w tm none (.fptr f caps) v):∀r,zA G w tm none (xV4 f caps r) (.tuple (r.map (yN9 G v)).toArray):=by intro r;induction r with|nil=>simp only[xV4,zA,List.map_nil]|cons q r j=>cases q with|none=>simp only[xV4];rw[zA];exact⟨v,r.map (yN9 G v),by simp[yN9],o,j⟩|some q=>obtain⟨k,τ⟩:=q;simp only[xV4];rw[zA];refine⟨.pointer (some ⟨G.β k,0,none⟩),r.map (yN9 G v),by simp[yN9],?_,j⟩;simp only[zA];exact⟨by simp only[zE],by simp[Ty.poff]⟩
theorem yF (km:zM4 P c.tys=true)(uw:yT4 P c.fts=true){T:Nat}{x k A:AVal}{v:Value}{p:List Prop}(J:zA G w tm none x v)(hk:∀s,zD x=some s->∃u,zA G w tm (some s) k u)(h:yK7 c T x k=some (p,A))(hp:∀q∈p,q):∃u,(Instr.loadAt T v).run P w=.ok u w/\zA G w tm none A u:=by cases x with|fptr f caps=>simp only[yK7] at h;(cases hb:c.fts.any (Nat.beq T) with|false=>simp[hb] at h|true=>simp only[hb,jE,jA,jG] at h;obtain⟨rfl,rfl⟩:=h;obtain⟨i,d,z,u,hi,hu,_,ta,_,_⟩:=yT5 uw hb;have I:=J;simp only[zA] at J;obtain⟨b,rfl,_,C⟩:=J;refine⟨.func (.func f) #[] (caps.map (yN9 G (.pointer (some ⟨b,0,none⟩)))).toArray,?_,?_⟩;have hg:=yE9 hu w;rw[ta] at hg;simp only[Instr.loadAt,Instr.sureAddr,Sem.run_bind,Sem.run_pure,Result.andThen_ok,loadVar,hg];simp[C];rw[zA];exact⟨_,rfl,xQ4 I caps⟩)|val τ x=>(cases τ with|ptr t=>simp only[yK7] at h;(cases hi:c.is T t with|false=>simp[hi] at h|true=>simp only[hi,jE,jA,jG] at h;obtain⟨rfl,rfl⟩:=h;have hT:=zB5 km hi;simp only[zA] at J;rw[zC3 rfl] at J;simp only[zB] at J;obtain⟨b,o,us,I,h1,h2⟩:=J;injection I with I _;subst I;obtain⟨u,h3,h4⟩:=zJ1 hT (yT2 h2) (zA1 h1);exact⟨u,h3,by simp only[zA];exact⟨us,h1,h4⟩⟩)|_=>simp[yK7] at h)|ref s τ q=>simp only[yK7] at h;(cases k with|box τ' k=>simp only at h;(cases C:(Ty.beq τ' τ&&c.is T (τ.pty q)&&AVal.fits (τ.pty q) (k.at q)) with|false=>simp[C] at h|true=>simp only[C,jE,jA,jG] at h;obtain⟨rfl,rfl⟩:=h;simp only[jB] at C;have e:=Ty.eq_of_beq C.1.1;subst e;have hT:=zB5 km C.1.2;obtain⟨u,hu⟩:=hk s rfl;obtain⟨⟨kx,gV⟩,cur,e,h1,h2,h3⟩:=zF8 hu;simp only[zA] at J;obtain⟨gY,rfl⟩:=J;obtain⟨h4,h5,h6,h7⟩:=zQ6 kx gV gY h2;obtain⟨u,h8,h9⟩:=zJ1 hT (yT3 h1 _ _) (zB1 h4);exact⟨u,h8,yE8 h4 h7 h9⟩)|_=>simp at h)|eref s U t i q=>simp only[yK7] at h;(cases k with|ownh t' l U' j V m=>simp only at h;(cases C:(Ty.beq (.sl t') t&&Nat.beq U' U&&c.is T (.sl t')&&q.isEmpty&&!(Nat.beq U' V)) with|false=>simp only[C,jD] at h;cases h|true=>simp only[C,jE,jA,jG] at h;obtain⟨rfl,rfl⟩:=h;simp only[jB] at C;obtain⟨C,hUV⟩:=C;have e:=Ty.eq_of_beq C.1.1.1;subst e;have e:=jC C.1.1.2;subst e;have hq:q=[]:=List.isEmpty_iff.1 C.2;subst hq;have hT:=zB5 km C.1.2;obtain⟨u,hu⟩:=hk s rfl;simp only[zA] at hu J;obtain⟨hx0,gY,rfl⟩:=J;obtain⟨gl,hi⟩:=hp _ (jH.2 rfl);(have gO:i.toNat<List.length (α:=List t'.den) l:=by omega);obtain⟨I,⟨he,_⟩ | ⟨kh,⟨_,h0⟩ | ⟨cap,cur,e,h1,h2,h3,h4,h5,h6,h7⟩⟩⟩:=hu;subst he;simp at hUV;rw[h0] at gO;simp at gO;obtain⟨u1,hu1,hr⟩:=h7 i.toNat _ (jL gO);rw[if_pos gl] at hr;(have iX:w.rangeAt (G.γ U') (i.toNat*(Ty.sl t').size+(Ty.sl t').poff []) [u1]:=by intro k v I;cases k with|zero=>simp at I;subst I;simp only[Ty.size,Ty.poff,World.cell?,h2];simpa using hu1|succ k=>simp at I);obtain⟨u2,h13,R⟩:=zJ1 hT iX rfl;refine⟨u2,h13,?_⟩;simp only[zN1,Ty.isAgg,jD] at R;injection R with R _;subst R;simp only[zA];refine .inl ?_;rw[<-gl,jM,jL gO];exact hr)|own t' l U' m=>simp only at h;(cases C:(Ty.beq t' t&&Nat.beq U' U&&c.is T (t.pty q)&&AVal.fits (t.pty q) ((AVal.val t' (List.getD (α:=t'.den) l i.toNat t'.dflt)).at q)) with|false=>simp only[C,jD] at h;cases h|true=>simp only[C,jE,jA,jG] at h;obtain⟨rfl,rfl⟩:=h;simp only[jB] at C;have e:=Ty.eq_of_beq C.1.1.1;subst e;have e:=jC C.1.1.2;subst e;have hT:=zB5 km C.1.2;obtain⟨u,hu⟩:=hk s rfl;simp only[zA] at hu J;obtain⟨hx0,gY,rfl⟩:=J;have hi:=hp _ (jH.2 rfl);(have gO:i.toNat<l.length:=by omega);obtain⟨⟨kx,gV⟩,hu⟩:=zB0 hu (yY5 gY hT);rcases hu with ⟨_,rfl⟩ | ⟨cap,cur,e,us,_,h2,h3,h4,h5,h6,h7,h8⟩;simp at gO;have gH:=zB4 (k:=t'.size) (λ_ _ h=>zA1 h) h6;have hg:=yC4 (k:=t'.size) (λ_ _ h=>zA1 h) t'.dflt h6 gO;(have kB:i.toNat*t'.size+t'.size<=l.length*t'.size:=by rw[<-Nat.succ_mul];exact jS _ (by omega));(have qh:zA2 G w t' (.val t' (List.getD (α:=t'.den) l i.toNat t'.dflt)) (seg us (i.toNat*t'.size) t'.size):=by simp only[zA2];exact⟨trivial,gV,hg⟩);obtain⟨h9,h10,h11,h12⟩:=zQ6 kx gV gY qh;rw[yE2 _ _ _ _ _ h10] at h9;(have hr:w.rangeAt (G.γ U') (i.toNat*t'.size+t'.poff q) (seg us (i.toNat*t'.size+t'.poff q) (t'.pty q).size):=by intro j v I;rw[seg_getElem?] at I;split at I;rw[<-h7,List.getElem?_take] at I;split at I;simp only[World.cell?,h2];simpa using I;cases I;cases I);obtain⟨u,h13,R⟩:=zJ1 hT hr (zB1 h9);exact⟨u,h13,yE8 h9 h12 R⟩)|_=>simp at h)|_=>simp[yK7] at h
end Go.Am
namespace Go.Am
open Go Go.RowKit
variable {P:Program}{c:Ctx}{G:Gh}{w:World}{tm:Array Value}
theorem zS1 {s:Option Nat}{t:Ty}{x:t.den}{b o:Nat}{us:List Value}(j:zB G.χ w t x us)(C:yL3 G.χ w b o us):zA G w tm s (.val (.ptr t) x) (.pointer (some ⟨b,o,none⟩)):=by simp only[zA];refine (zC3 rfl).2 ?_;simp only[zB];exact⟨b,o,us,rfl,j,C⟩
theorem zO2 {χ:Nat->Nat->Nat}{t:Ty}{l:List t.den}{us:List Value}{i:Nat}(h:zJ9 (zB χ w t) l us)(j:i<l.length):zB χ w t (l.getD i t.dflt) (seg us (i*t.size) t.size):=yC4 (R:=zB χ w t) (k:=t.size) (λ_ _ h=>zA1 h) t.dflt h j
theorem xI7 (s:List UInt8)(n:Nat)(h:n<s.length):((⟨s.toArray⟩:ByteArray))[n]?=some (s.getD n 0):=by rw[jM,jL h];rw[getElem?_pos (c:=(⟨s.toArray⟩:ByteArray)) (i:=n) (by simpa[ByteArray.size] using h)];rfl
theorem zD2 {τ:Ty}{T:Nat}(h:zC0 P τ (.inl T)=true)(w:World):(sizeOf T).run P w=.ok τ.size w:=by obtain⟨⟨i,z,j,o,_⟩,_⟩:=zF6 h;simp[sizeOf,typeInfo,j,o]
theorem zW0 {χ:Nat->Nat->Nat}{b o:Nat}{us:List Value}(h:yL3 χ w b o us)(q n:Nat):yL3 χ w b (o+q) (seg us q n):=by intro j v C;rw[seg_getElem?] at C;split at C;have:=h _ _ C;rw[<-Nat.add_assoc] at this;exact this;cases C
theorem zO3 {p:yH8}:∀{τ:Ty}{x:Nat ⊕ Int},zE τ p->τ.poff (p++[x])=τ.poff p+(τ.pty p).poff [x]:=by induction p with|nil=>intro τ x _;simp[Ty.poff,Ty.pty]|cons y p j=>intro τ x h;rcases y with k|i;cases τ<;>simp only[zE] at h;simp only[List.cons_append,Ty.pty,Ty.poff];rw[j h.2];omega;cases τ<;>simp only[zE] at h;simp only[List.cons_append,Ty.pty,Ty.poff];rw[j h.2.2];omega
theorem zK2 {p:yH8}:∀{τ:Ty}{x:Nat ⊕ Int},zE τ p->zE (τ.pty p) [x]->zE τ (p++[x]):=by induction p with|nil=>intro τ x _ h;exact h|cons y p j=>intro τ x h o;rcases y with k|i;cases τ<;>simp only[zE] at h;simp only[List.cons_append,zE];exact⟨h.1,j h.2 o⟩;cases τ<;>simp only[zE] at h;simp only[List.cons_append,zE];exact⟨h.1,h.2.1,j h.2.2 o⟩
theorem zU3 {f:Ty}{T b o k:Nat}(C:zC0 P (.st f) (.inl T)=true)(I:k<f.flen)(hs:0<(f.fty k).size)(w:World):(Instr.fieldAt T (.pointer (some ⟨b,o,none⟩)) k).run P w=.ok (.pointer (some ⟨b,o+f.foff k,none⟩)) w:=by obtain⟨fs,J,R⟩:=zQ5 C;obtain⟨fd,j,h4,h5,_⟩:=zX9 R I;rw[Array.getElem?_toList] at j;have h6:=zD2 h5 w;simp only[Instr.fieldAt,Sem.run_bind,run_underlying J w,Result.andThen_ok,j,Instr.sureAddr,Sem.run_pure,fieldPlace,h6];rw[if_neg (by omega)];simp[Addr.add_mid,h4]
theorem yB (km:zM4 P c.tys=true){T k:Nat}{x A:AVal}{v:Value}{p:List Prop}(C:zA G w tm none x v)(h:zH c T x k=some (p,A)):∃u,(Instr.fieldAt T v k).run P w=.ok u w/\zA G w tm none A u:=by cases x with|val τ x=>(cases τ with|ptr t=>(cases t with|st f=>simp only[zH] at h;(cases j:(c.is T (.st f)&&Nat.blt k f.flen&&Nat.blt 0 (f.fty k).size) with|false=>simp[j] at h|true=>simp only[j,jE,jA,jG] at h;obtain⟨rfl,rfl⟩:=h;simp only[jB] at j;have J:=zB5 km j.1.1;have I:k<f.flen:=jR j.1.2;have R:0<(f.fty k).size:=jR j.2;simp only[zA] at C;rw[zC3 rfl] at C;simp only[zB] at C;obtain⟨b,o,us,hv,h1,h2⟩:=C;injection hv with hv _;subst hv;refine⟨_,zU3 J I R w,?_⟩;exact zS1 (zW I h1) (zW0 h2 _ _))|_=>simp[zH] at h)|_=>simp[zH] at h)|ref s τ q=>simp only[zH] at h;split at h;rename_i f hf;(cases j:(c.is T (.st f)&&Nat.blt k f.flen&&Nat.blt 0 (f.fty k).size) with|false=>simp[j] at h|true=>simp only[j,jE,jA,jG] at h;obtain⟨rfl,rfl⟩:=h;simp only[jB] at j;have J:=zB5 km j.1.1;have I:k<f.flen:=jR j.1.2;have R:0<(f.fty k).size:=jR j.2;simp only[zA] at C;obtain⟨hq,rfl⟩:=C;refine⟨_,zU3 J I R w,?_⟩;simp only[zA];refine⟨zK2 hq (by rw[hf];simp only[zE];exact⟨I,trivial⟩),?_⟩;rw[zO3 hq,hf];simp[Ty.poff]);cases h|eref s U t i q=>simp only[zH] at h;split at h;rename_i f hf;(cases j:(c.is T (.st f)&&Nat.blt k f.flen&&Nat.blt 0 (f.fty k).size) with|false=>simp[j] at h|true=>simp only[j,jE,jA,jG] at h;obtain⟨rfl,rfl⟩:=h;simp only[jB] at j;have J:=zB5 km j.1.1;have I:k<f.flen:=jR j.1.2;have R:0<(f.fty k).size:=jR j.2;simp only[zA] at C;obtain⟨h0,hq,rfl⟩:=C;refine⟨_,zU3 J I R w,?_⟩;simp only[zA];refine⟨h0,zK2 hq (by rw[hf];simp only[zE];exact⟨I,trivial⟩),?_⟩;rw[zO3 hq,hf];simp[Ty.poff,Nat.add_assoc]);cases h|_=>simp[zH] at h
theorem zG4 {ix:Operand}{i n:Int}(h:∀q∈zP5 ix i n,q):0<=i/\i<n:=by unfold zP5 at h;split at h<;>exact h _ (jH.2 rfl)
theorem zF2 {t:Ty}{T:Nat}{k:IntKind}{i:Int}{a:Option Addr}{b o len cap:Nat}(j:zC0 P (.sl t) (.inl T)=true)(C:a=some ⟨b,o,none⟩)(I:0<=i/\i<(len:Int))(w:World):(Instr.indexAt T (.slice a len cap) (.int k i)).run P w=.ok (.pointer (some ⟨b,o+i.toNat*t.size,none⟩)) w:=by obtain⟨e,J,R⟩:=zF7 j;have h3:=zD2 R w;subst C;simp only[Instr.indexAt,asIntOf,Sem.run_bind,Sem.run_pure,Result.andThen_ok,run_underlying J w];simp[I,h3,Addr.add_mid]
theorem zL2 {t:Ty}{T n:Nat}{k:IntKind}{i:Int}{b o:Nat}(j:zC0 P (.arr n t) (.inl T)=true)(C:0<=i/\i<(n:Int))(w:World):(Instr.indexAt T (.pointer (some ⟨b,o,none⟩)) (.int k i)).run P w=.ok (.pointer (some ⟨b,o+i.toNat*t.size,none⟩)) w:=by obtain⟨e,I,J⟩:=zO j;have R:=zD2 J w;simp only[Instr.indexAt,asIntOf,Sem.run_bind,Sem.run_pure,Result.andThen_ok,run_underlying I w,Instr.sureAddr];simp[C,R,Addr.add_mid]
theorem yB0 (km:zM4 P c.tys=true){T s:Nat}{x y A:AVal}{v u:Value}{ix:Operand}{p:List Prop}(I:zA G w tm none x v)(hy:zA G w tm none y u)(h:zS0 c T x s y ix=some (p,A))(hp:∀q∈p,q):∃r,(Instr.indexAt T v u).run P w=.ok r w/\zA G w tm none A r:=by (have R:∀k (i:Int),y=.val (.int k) i->u=.int k i:=by rintro k i rfl;simp only[zA] at hy;exact VRep_int.1 hy);unfold zS0 at h;split at h;rename_i t l k i;have:=R _ _ rfl;subst this;(cases C:c.is T (.sl t) with|false=>simp[C] at h|true=>simp only[C,jE,jA,jG] at h;obtain⟨rfl,rfl⟩:=h;have hb:=zG4 hp;have J:=zB5 km C;simp only[zA] at I;rw[zC3 rfl] at I;simp only[zB] at I;obtain⟨a,cap,hv,I⟩:=I;injection hv with hv _;subst hv;rcases I with rfl|⟨b,o,us,ha,h1,h2,h3⟩;simp at hb;omega;refine⟨_,zF2 J ha hb w,?_⟩;exact zS1 (zO2 h2 (by omega)) (zW0 h3 _ _));rename_i t l U m k i;have:=R _ _ rfl;subst this;(cases C:c.is T (.sl t) with|false=>simp[C] at h|true=>simp only[C,jE] at h;have J:=zB5 km C;cases m with|true=>simp only[jE,jA,jG] at h;obtain⟨rfl,rfl⟩:=h;have hb:=zG4 hp;simp only[zA] at I;rcases (zB0 I (yC2 J)).2 with ⟨_,rfl⟩ | ⟨cap,cur,e,us,rfl,h2,h3,h4,h5,h6,h7,h8⟩;simp at hb;omega;refine⟨_,zF2 J rfl hb w,?_⟩;simp only[zA];exact⟨hb.1,trivial,by simp[Ty.poff]⟩|false=>simp only[jD,jA,jG] at h;obtain⟨rfl,rfl⟩:=h;have hb:=zG4 hp;simp only[zA] at I;have kW:=zD1 I;simp only[zB] at kW;obtain⟨a,cap,hv,hx3⟩:=kW;injection hv with hv _;subst hv;rcases hx3 with he|⟨b,o,us,ha,h1,h2,h3⟩;rw[he] at hb;simp at hb;omega;refine⟨_,zF2 J ha hb w,?_⟩;exact zS1 (zO2 h2 (by omega)) (zW0 h3 _ _));rename_i t l U j V m k i;have:=R _ _ rfl;subst this;(cases C:(c.is T (.sl (.sl t))&&(m||!(Nat.beq U V))) with|false=>simp only[C,jD,reduceCtorEq] at h|true=>simp only[C,jE,jA,jG] at h;obtain⟨rfl,rfl⟩:=h;simp only[jB] at C;obtain⟨C,hUV⟩:=C;have J:=zB5 km C;have hb:=zG4 hp;simp only[zA] at I;obtain⟨_,⟨he,⟨rfl,_⟩ | ⟨_,⟨_,rfl⟩ | ⟨cap,cur,e,rfl,_⟩⟩⟩ | ⟨_,⟨_,rfl⟩ | ⟨cap,cur,e,rfl,_⟩⟩⟩:=I;subst he;simp at hUV;simp at hb;omega;refine⟨_,zF2 J rfl hb w,?_⟩;simp only[zA];exact⟨hb.1,trivial,by simp[Ty.poff]⟩;simp at hb;omega;refine⟨_,zF2 J rfl hb w,?_⟩;simp only[zA];exact⟨hb.1,trivial,by simp[Ty.poff]⟩);rename_i n t l k i;have:=R _ _ rfl;subst this;(cases C:c.is T (.arr n t) with|false=>simp[C] at h|true=>simp only[C,jE,jA,jG] at h;obtain⟨rfl,rfl⟩:=h;have hb:=zG4 hp;have J:=zB5 km C;simp only[zA] at I;rw[zC3 rfl] at I;simp only[zB] at I;obtain⟨b,o,us,hv,⟨h1,h2⟩,h3⟩:=I;injection hv with hv _;subst hv;refine⟨_,zL2 J hb w,?_⟩;exact zS1 (zO2 h2 (by omega)) (zW0 h3 _ _));rename_i s' τ q k i;have:=R _ _ rfl;subst this;split at h;rename_i n t hf;(cases C:c.is T (.arr n t) with|false=>simp[C] at h|true=>simp only[C,jE,jA,jG] at h;obtain⟨rfl,rfl⟩:=h;have hb:=zG4 hp;have J:=zB5 km C;simp only[zA] at I;obtain⟨hq,rfl⟩:=I;refine⟨_,zL2 J hb w,?_⟩;simp only[zA];refine⟨zK2 hq (by rw[hf];simp only[zE];exact⟨hb.1,hb.2,trivial⟩),?_⟩;rw[zO3 hq,hf];simp[Ty.poff]);cases h;rename_i s' U t' j q k i;have:=R _ _ rfl;subst this;split at h;rename_i n t hf;(cases C:c.is T (.arr n t) with|false=>simp[C] at h|true=>simp only[C,jE,jA,jG] at h;obtain⟨rfl,rfl⟩:=h;have hb:=zG4 hp;have J:=zB5 km C;simp only[zA] at I;obtain⟨h0,hq,rfl⟩:=I;refine⟨_,zL2 J hb w,?_⟩;simp only[zA];refine⟨h0,zK2 hq (by rw[hf];simp only[zE];exact⟨hb.1,hb.2,trivial⟩),?_⟩;rw[zO3 hq,hf];simp[Ty.poff,Nat.add_assoc]);cases h;cases h
theorem zO4 {τ:Ty}{T o:Nat}{us:List Value}(I:zC0 P τ (.inl T)=true)(J:o+τ.size<=us.length)(w:World):∃u,(part T us.toArray o).run P w=.ok u w/\zN1 τ (seg us o τ.size) u:=by obtain⟨⟨i,z,hi,hs,_⟩,d,hu,R⟩:=zF6 I;unfold part zN1;rw[Sem.run_bind,yE9 hu w,R];cases ha:τ.isAgg with|true=>refine⟨.agg (seg us o τ.size).toArray,?_,by simp⟩;simp[zD2 I w,seg]|false=>have h1:=yY8 I ha;rw[h1] at J ⊢;(have C:o<us.length:=by omega);refine⟨us[o],?_,?_⟩;simp[jL C];simp only[jD];apply List.ext_getElem?;intro j;rw[seg_getElem?];cases j with|zero=>simp[jL C]|succ j=>simp
theorem yP1 (km:zM4 P c.tys=true){T:Nat}{x y A:AVal}{v u:Value}{ix:Operand}{p:List Prop}(I:zA G w tm none x v)(R:zA G w tm none y u)(h:xG9 c T x y ix=some (p,A))(hp:∀q∈p,q):∃r,(Instr.index T v u).run P w=.ok r w/\zA G w tm none A r:=by (have C:∀k (i:Int),y=.val (.int k) i->u=.int k i:=by rintro k i rfl;simp only[zA] at R;exact VRep_int.1 R);unfold xG9 at h;split at h;rename_i s k i;have:=C _ _ rfl;subst this;(cases j:c.is T .str with|false=>simp[j] at h|true=>simp only[j,jE,jA,jG] at h;obtain⟨rfl,rfl⟩:=h;have hb:=zG4 hp;have J:=zK1 (zB5 km j);simp only[zA] at I;have hv:=VRep_str.1 I;subst hv;(have o:i.toNat<List.length (α:=UInt8) s:=by omega);have hg:=xI7 s i.toNat o;refine⟨.int .u8 ((List.getD (α:=UInt8) s i.toNat 0).toNat:Int),?_,?_⟩;simp only[Instr.index,asIntOf,Sem.run_bind,Sem.run_pure,Result.andThen_ok,run_underlying J w,hb.1,if_true,hg];simp only[zA];exact VRep_int.2 rfl);rename_i n t l k i;have:=C _ _ rfl;subst this;(cases j:c.is T (.arr n t) with|false=>simp[j] at h|true=>simp only[j,jE,jA,jG] at h;obtain⟨rfl,rfl⟩:=h;have hb:=zG4 hp;have J:=zB5 km j;obtain⟨e,h1,h2⟩:=zO J;simp only[zA] at I;obtain⟨vs,rfl,kW⟩:=(zG6 rfl).1 I;simp only[zB] at kW;have hlen:=zB4 (k:=t.size) (λ_ _ h=>zA1 h) kW.2;(have o:i.toNat<List.length (α:=t.den) l:=by omega);(have hle:i.toNat*t.size+t.size<=vs.length:=by rw[hlen,<-Nat.succ_mul];exact jS _ (by omega));obtain⟨r,h3,h4⟩:=zO4 h2 hle w;refine⟨r,?_,?_⟩;simp only[Instr.index,asIntOf,Sem.run_bind,Sem.run_pure,Result.andThen_ok,run_underlying h1 w];rw[if_pos hb];simpa only[Sem.run_bind,Result.andThen_ok,zD2 h2 w] using h3;simp only[zA];exact⟨_,zO2 kW.2 o,h4⟩);cases h
theorem yP2 (km:zM4 P c.tys=true){T k:Nat}{x A:AVal}{v:Value}{p:List Prop}(C:zA G w tm none x v)(h:xH c T x k=some (p,A)):∃u,(Instr.field T v k).run P w=.ok u w/\zA G w tm none A u:=by unfold xH at h;split at h;rename_i f x;(cases j:(c.is T (.st f)&&Nat.blt k f.flen) with|false=>simp[j] at h|true=>simp only[j,jE,jA,jG] at h;obtain⟨rfl,rfl⟩:=h;simp only[jB] at j;have hT:=zB5 km j.1;have I:k<f.flen:=jR j.2;obtain⟨fs,h1,h2⟩:=zQ5 hT;obtain⟨fd,J,h4,R,_⟩:=zX9 h2 I;rw[Array.getElem?_toList] at J;simp only[zA] at C;obtain⟨vs,rfl,kW⟩:=(zG6 rfl).1 C;simp only[zB] at kW;have hle:=yE6 I;have mn:=zA1 kW;obtain⟨u,h6,h7⟩:=zO4 R (o:=f.foff k) (us:=vs) (by omega) w;refine⟨u,?_,?_⟩;simp only[Instr.field,Sem.run_bind,run_underlying h1 w,Result.andThen_ok,J,asAgg,Sem.run_pure,h4,Nat.zero_add];exact h6;simp only[zA];exact⟨_,zW I kW,h7⟩);rename_i f a;(cases j:(c.is T (.st f)&&Nat.blt k f.flen) with|false=>simp[j] at h|true=>simp only[j,jE,jA,jG] at h;obtain⟨rfl,rfl⟩:=h;simp only[jB] at j;have hT:=zB5 km j.1;have I:k<f.flen:=jR j.2;obtain⟨fs,h1,h2⟩:=zQ5 hT;obtain⟨fd,J,h4,R,_⟩:=zX9 h2 I;rw[Array.getElem?_toList] at J;simp only[zA] at C;obtain⟨vs,rfl,C⟩:=C;have hle:=yE6 I;have mn:=zB1 C;obtain⟨u,h6,h7⟩:=zO4 R (o:=f.foff k) (us:=vs) (by omega) w;refine⟨u,?_,yE8 (yL7 I C) (zC4 R) h7⟩;simp only[Instr.field,Sem.run_bind,run_underlying h1 w,Result.andThen_ok,J,asAgg,Sem.run_pure,h4,Nat.zero_add];exact h6);cases h
end Go.Am
namespace Go.Am
open Go Go.RowKit
variable {P:Program}{c:Ctx}{G:Gh}{w:World}{tm:Array Value}
theorem zT9 {xs us ws:List Value}{o n:Nat}(h:seg xs o n=us++ws)(I:us.length+ws.length=n):seg xs o us.length=us/\seg xs (o+us.length) ws.length=ws:=by (have J:o+n<=xs.length\/n=0:=by by_cases C:n=0;exact .inr C;left;have:=congrArg List.length h;simp[seg] at this;omega);constructor;have:=yE2 xs o n 0 us.length (by omega);rw[h,yC3] at this;simpa using this.symm;have:=yE2 xs o n us.length ws.length (by omega);rw[h] at this;have j:=zV9 us ws 0 ws.length;simp only[Nat.add_zero] at j;rw[j,yL4] at this;exact this.symm
theorem yH5:∀{τ:Ty},(∀{T d:Nat}{x y:Value}{a b:τ.den},zC0 P τ (.inl T)=true->τ.cmp=true->τ.ht<=d->zQ G.χ w τ a x->zQ G.χ w τ b y->(Op.equalIn (d+1) T x y).run P w=.ok (τ.eqb a b) w)/\(∀{fs:List Field}{o d:Nat}{xs ys:List Value}{a b:τ.den},zC0 P τ (.inr (fs,o))=true->τ.cmp=true->τ.ht<=d->o+τ.size<=xs.length->o+τ.size<=ys.length->zB G.χ w τ a (seg xs o τ.size)->zB G.χ w τ b (seg ys o τ.size)->(Op.eqFields (d+1) xs.toArray ys.toArray fs).run P w=.ok (τ.eqb a b) w):=by intro τ;induction τ with|int k=>refine⟨?_,λh=>by simp[zC0] at h⟩;intro T d x y a b hT _ _ hx hy;rw[VRep_int.1 hx,VRep_int.1 hy];exact run_equalIn_int w d T k k a b (yC1 hT)|bool=>refine⟨?_,λh=>by simp[zC0] at h⟩;intro T d x y a b hT _ _ hx hy;rw[VRep_bool.1 hx,VRep_bool.1 hy];exact run_equalIn_bool w d T a b (yO8 hT)|str=>refine⟨?_,λh=>by simp[zC0] at h⟩;intro T d x y a b hT _ _ hx hy;rw[VRep_str.1 hx,VRep_str.1 hy,run_equalIn_string w d T _ _ (zK1 hT)];simp only[ByteArray.toList_eq,Ty.eqb]|nl=>refine⟨λh=>by simp[zC0] at h,?_⟩;intro fs o d xs ys a b hT _ _ _ _ _ _;(cases fs with|nil=>simp[Op.eqFields,Ty.eqb]|cons f fs=>simp[zC0] at hT)|cons h t ihh gz=>refine⟨λh=>by simp[zC0] at h,?_⟩;intro fs o d xs ys a b hT hc hd hlx hly hx hy;(cases fs with|nil=>simp[zC0] at hT|cons fd r=>simp only[zC0,jB] at hT;obtain⟨⟨⟨h1,h2⟩,h3⟩,h4⟩:=hT;have h1:=jC h1;simp only[Ty.cmp,jB] at hc;simp only[Ty.ht] at hd;simp only[Ty.size] at hlx hly hx hy;simp only[zB] at hx hy;obtain⟨us,ws,e1,hu,hw⟩:=hx;obtain⟨us',ws',e2,gp,iT⟩:=hy;have l1:=zA1 hu;have l2:=zA1 hw;have l3:=zA1 gp;have l4:=zA1 iT;obtain⟨s1,s2⟩:=zT9 e1 (by omega);obtain⟨s3,s4⟩:=zT9 e2 (by omega);obtain⟨p1,q1,q2⟩:=zO4 h3 (o:=o) (us:=xs) (by omega) w;obtain⟨p2,q3,q4⟩:=zO4 h3 (o:=o) (us:=ys) (by omega) w;(have hn:fd.name≠"_":=by simpa using h2);obtain⟨ihh1,_⟩:=ihh;obtain⟨_,iht2⟩:=gz;have he:=ihh1 (d:=d) (x:=p1) (y:=p2) (a:=a.1) (b:=b.1) h3 hc.1 (by omega) ⟨us,hu,by rw[<-s1,l1];exact q2⟩ ⟨us',gp,by rw[<-s3,l3];exact q4⟩;have hr:=iht2 (fs:=r) (o:=o+h.size) (d:=d) (xs:=xs) (ys:=ys) (a:=a.2) (b:=b.2) h4 hc.2 (by omega) (by omega) (by omega) (by rw[<-l2,<-l1,s2];exact hw) (by rw[<-l4,<-l3,s4];exact iT);simp only[Op.eqFields,hn,ne_eq,not_false_eq_true,if_true,h1,Sem.run_bind,q1,q3,Result.andThen_ok,he,Ty.eqb];cases hb:h.eqb a.1 b.1 with|true=>simpa using hr|false=>simp)|st f ih=>refine⟨?_,λh=>by simp[zC0] at h⟩;intro T d x y a b hT hc hd hx hy;obtain⟨fs,h1,h2⟩:=zQ5 hT;obtain⟨xs,rfl,gr⟩:=(zG6 rfl).1 hx;obtain⟨ys,rfl,hy'⟩:=(zG6 rfl).1 hy;clear hx hy;have hx:=gr;have hy:=hy';clear gr hy';simp only[zB] at hx hy;have l1:=zA1 hx;have l2:=zA1 hy;simp only[Ty.ht] at hd;(have hfo:P.fieldsOf T=fs:=by simp[Program.fieldsOf,h1]);(have hu:P.underlying T=some (.struct (P.fieldsOf T)):=by rw[hfo];exact h1);rw[run_equalIn_struct w d T _ _ hu (xB5 hT),hfo];obtain⟨d',rfl⟩:∃d',d=d'+1:=⟨d-1,by omega⟩;obtain⟨_,ih2⟩:=ih;exact ih2 (d:=d') h2 hc (by omega) (by omega) (by omega) (by rw[<-l1,yL4];exact hx) (by rw[<-l2,yL4];exact hy)|arr n t ih=>refine⟨?_,λh=>by simp[zC0] at h⟩;intro T d x y a b hT hc hd hx hy;obtain⟨e,h1,h2⟩:=zO hT;obtain⟨xs,rfl,gr⟩:=(zG6 rfl).1 hx;obtain⟨ys,rfl,hy'⟩:=(zG6 rfl).1 hy;clear hx hy;have hx:=gr;have hy:=hy';clear gr hy';simp only[zB] at hx hy;simp only[Ty.ht] at hd;simp only[Ty.cmp] at hc;obtain⟨⟨i,z,hi,hs,_⟩,_⟩:=zF6 h2;rw[run_equalIn_array w d _ _ h1 hi];obtain⟨d',rfl⟩:∃d',d=d'+1:=⟨d-1,by omega⟩;(have hce:P.cellsOf e=t.size:=by simp[Program.cellsOf,hi,hs]);rw[hce];have l1:=zB4 (k:=t.size) (λ_ _ h=>zA1 h) hx.2;have l2:=zB4 (k:=t.size) (λ_ _ h=>zA1 h) hy.2;obtain⟨ih1,_⟩:=ih;(have key:∀is:List Nat,(∀j∈is,j<n)->(Op.eqItems (d'+1) e t.size xs.toArray ys.toArray is).run P w=.ok (is.all λi=>t.eqb (List.getD (α:=t.den) a i t.dflt) (List.getD (α:=t.den) b i t.dflt)) w:=by intro is;induction is with|nil=>intro _;simp[Op.eqItems]|cons j is ihl=>intro hj;have hjn:j<n:=hj j (by simp);(have hle:j*t.size+t.size<=n*t.size:=by rw[<-Nat.succ_mul];exact jS _ (by omega));obtain⟨p1,q1,q2⟩:=zO4 h2 (o:=j*t.size) (us:=xs) (by rw[l1,hx.1];exact hle) w;obtain⟨p2,q3,q4⟩:=zO4 h2 (o:=j*t.size) (us:=ys) (by rw[l2,hy.1];exact hle) w;have he:=ih1 (d:=d') (x:=p1) (y:=p2) (a:=List.getD (α:=t.den) a j t.dflt) (b:=List.getD (α:=t.den) b j t.dflt) h2 hc (by omega) ⟨_,zO2 hx.2 (by rw[hx.1];exact hjn),q2⟩ ⟨_,zO2 hy.2 (by rw[hy.1];exact hjn),q4⟩;have hr:=ihl (λk hk=>hj k (by simp[hk]));simp only[Op.eqItems,Sem.run_bind,q1,q3,Result.andThen_ok,he];rw[List.all_cons];cases hb:t.eqb (List.getD (α:=t.den) a j t.dflt) (List.getD (α:=t.den) b j t.dflt) with|true=>simpa using hr|false=>simp);exact key (List.range n) (λj hj=>by simpa using hj)|sl t _=>exact⟨λ_ h=>by simp[Ty.cmp] at h,λh=>by simp[zC0] at h⟩|ptr t _=>exact⟨λ_ h=>by simp[Ty.cmp] at h,λh=>by simp[zC0] at h⟩
end Go.Am
namespace Go.Am
open Go Go.RowKit
variable {P:Program}{c:Ctx}{G:Gh}{w:World}{tm:Array Value}
theorem zI8 {wr:Bool}{k:IntKind}{r:Int}(h:∀q∈(yD1 wr k r).1,q):zA G w tm none (yD1 wr k r).2 (.int k (k.wrap r)):=by unfold yD1 at h ⊢;cases j:(!wr&&xV0 k) with|true=>simp only[j,jE] at h ⊢;simp only[jB] at j;(have o:k=.i64:=by cases k<;>simp[xV0] at j ⊢);have C:=h _ (jH.2 rfl);subst o;simp only[zA];rw[IntWalk.i64_in r C];exact VRep_int.2 rfl|false=>simp only[jD];simp only[zA];exact VRep_int.2 rfl
theorem yF0 {a:Act}{y:Operand}{n:Int}{k:IntKind}{b:Int}(h:yO y=some n)(j:a.eval y=.int k b):n=b:=by unfold yO at h;split at h;simp only[Act.eval,Value.int.injEq] at j;injection h with h;rw[<-h];exact j.2;cases h
theorem zW1 {a:Act}{y:Operand}{k:IntKind}{b:Int}(j:a.eval y=.int k b)(h:∀q∈yK5 y b,q):b≠0:=by unfold yK5 at h;split at h;rename_i n o;have:=yF0 o j;subst this;intro he;subst he;exact h False (by simp);exact h _ (jH.2 rfl)
theorem zZ4 {a:Act}{y:Operand}{k:IntKind}{b:Int}(j:a.eval y=.int k b)(h:∀q∈yY2 y b,q):0<=b:=by unfold yY2 at h;split at h;rename_i n o;have:=yF0 o j;subst this;by_cases he:0<=n;exact he;exact (h False (by simp[he])).elim;exact h _ (jH.2 rfl)
theorem zL3 {op:BinOp}{T:Nat}{x y:Operand}{k j:IntKind}{a b:Int}(w:World):(eqGuard op T x y (.int k a) (.int j b)).run P w=.ok () w:=by cases op<;>simp[eqGuard]
theorem yF1 {op:BinOp}{T:Nat}{x y:Operand}{a b:ByteArray}(w:World):(eqGuard op T x y (.string a) (.string b)).run P w=.ok () w:=by cases op<;>simp[eqGuard]
theorem yB1 {op:BinOp}{T:Nat}{x y:Operand}{a b:Bool}(w:World):(eqGuard op T x y (.bool a) (.bool b)).run P w=.ok () w:=by cases op<;>simp[eqGuard]
theorem zC9 {s:Option Nat}{k:IntKind}{n:Int}:zA G w tm s (.val (.int k) n) (.int k n):=by simp only[zA];exact VRep_int.2 rfl
theorem zC5 {s:Option Nat}{b:Bool}:zA G w tm s (.val .bool b) (.bool b):=by simp only[zA];exact VRep_bool.2 rfl
theorem yL8 {s:Option Nat}{b:List UInt8}:zA G w tm s (.val .str b) (.string ⟨b.toArray⟩):=by simp only[zA];exact VRep_str.2 rfl
theorem yT6 {α β:Type}{x:α×β}{p:α}{A:β}(h:x=(p,A)):x.1=p/\x.2=A:=by rw[h];exact⟨rfl,rfl⟩
theorem yP3 {ac:Act}{wr:Bool}{op:BinOp}{k:IntKind}{a b:Int}{oy:Operand}{p:List Prop}{A:AVal}{T:Nat}(o:ac.eval oy=.int k b)(I:yS9 op=false)(h:xG7 wr op k a b oy=some (p,A))(j:∀q∈p,q):∃r,(binOp op T (.int k a) (.int k b)).run P w=.ok r w/\zA G w tm none A r:=by cases op<;>simp only[xG7,jA] at h;(case add=>obtain⟨rfl,rfl⟩:=yT6 h;exact⟨_,by simp[binOp,Op.intArith],zI8 j⟩);(case sub=>obtain⟨rfl,rfl⟩:=yT6 h;exact⟨_,by simp[binOp,Op.intArith],zI8 j⟩);(case mul=>obtain⟨rfl,rfl⟩:=yT6 h;exact⟨_,by simp[binOp,Op.intArith],zI8 j⟩);(case quo=>simp only[jG] at h;obtain⟨rfl,rfl⟩:=h;have hb:=zW1 o (λq C=>j q (List.mem_append_left _ C));exact⟨_,by simp[binOp,Op.intDiv,hb],zI8 (λq C=>j q (List.mem_append_right _ C))⟩);(case rem=>simp only[jG] at h;obtain⟨rfl,rfl⟩:=h;have hb:=zW1 o j;exact⟨_,by simp[binOp,Op.intDiv,hb],zC9⟩);(case and=>simp only[jG] at h;obtain⟨rfl,rfl⟩:=h;exact⟨_,by simp only[binOp];rw[if_neg (by simp)];rfl,zC9⟩);(case or=>simp only[jG] at h;obtain⟨rfl,rfl⟩:=h;exact⟨_,by simp only[binOp];rw[if_neg (by simp)];rfl,zC9⟩);(case xor=>simp only[jG] at h;obtain⟨rfl,rfl⟩:=h;exact⟨_,by simp only[binOp];rw[if_neg (by simp)];rfl,zC9⟩);(case andNot=>simp only[jG] at h;obtain⟨rfl,rfl⟩:=h;exact⟨_,by simp only[binOp];rw[if_neg (by simp)];rfl,zC9⟩);(case eql=>simp only[jG] at h;obtain⟨rfl,rfl⟩:=h;exact⟨_,by simp[binOp,Op.intCmp],zC5⟩);(case neq=>simp only[jG] at h;obtain⟨rfl,rfl⟩:=h;exact⟨_,by simp[binOp,Op.intCmp],zC5⟩);(case lss=>simp only[jG] at h;obtain⟨rfl,rfl⟩:=h;exact⟨_,by simp[binOp,Op.intCmp],zC5⟩);(case leq=>simp only[jG] at h;obtain⟨rfl,rfl⟩:=h;exact⟨_,by simp[binOp,Op.intCmp],zC5⟩);(case gtr=>simp only[jG] at h;obtain⟨rfl,rfl⟩:=h;exact⟨_,by simp[binOp,Op.intCmp],zC5⟩);(case geq=>simp only[jG] at h;obtain⟨rfl,rfl⟩:=h;exact⟨_,by simp[binOp,Op.intCmp],zC5⟩);all_goals cases h
theorem yH6 {ac:Act}{wr:Bool}{op:BinOp}{k I:IntKind}{a b:Int}{oy:Operand}{p:List Prop}{A:AVal}{T:Nat}(j:ac.eval oy=.int I b)(h:yK6 wr op k a b oy=some (p,A))(o:∀q∈p,q):∃r,(binOp op T (.int k a) (.int I b)).run P w=.ok r w/\zA G w tm none A r:=by cases op<;>simp only[yK6,jA,jG] at h;(case shl=>obtain⟨rfl,rfl⟩:=h;have hb:=zZ4 j (λq C=>o q (List.mem_append_left _ C));exact⟨_,by simp[binOp,Op.shift,Int.not_lt.2 hb],zI8 (λq C=>o q (List.mem_append_right _ C))⟩);(case shr=>obtain⟨rfl,rfl⟩:=h;have hb:=zZ4 j o;exact⟨_,by simp[binOp,Op.shift,Int.not_lt.2 hb],zC9⟩);all_goals cases h
theorem yP4 {op:BinOp}{a b:List UInt8}{p:List Prop}{A:AVal}{T:Nat}(h:xG8 op a b=some (p,A))(j:∀q∈p,q):∃r,(binOp op T (.string ⟨a.toArray⟩) (.string ⟨b.toArray⟩)).run P w=.ok r w/\zA G w tm none A r:=by cases op<;>simp only[xG8,jA,jG] at h;(case add=>obtain⟨rfl,rfl⟩:=h;have hb:=j _ (jH.2 rfl);refine⟨.string ⟨(a++b).toArray⟩,?_,yL8⟩;(have e:(⟨a.toArray⟩++⟨b.toArray⟩:ByteArray)=⟨(a++b).toArray⟩:=by apply ByteArray.ext;simp[ByteArray.data_append]);(have kB:((⟨a.toArray⟩:ByteArray).size+(⟨b.toArray⟩:ByteArray).size:Nat)=a.length+b.length:=by simp[ByteArray.size]);simp only[binOp,Op.stringOp,kB];rw[if_neg (by simp[IntKind.max,IntKind.bits,IntKind.signed];omega),e];simp);(case eql=>obtain⟨rfl,rfl⟩:=h;exact⟨_,by simp only[binOp,Op.stringOp,ByteArray.toList_eq];rfl,zC5⟩);(case neq=>obtain⟨rfl,rfl⟩:=h;exact⟨_,by simp only[binOp,Op.stringOp,ByteArray.toList_eq];rfl,zC5⟩);(case lss=>obtain⟨rfl,rfl⟩:=h;exact⟨_,by simp only[binOp,Op.stringOp,ByteArray.toList_eq];rfl,zC5⟩);(case leq=>obtain⟨rfl,rfl⟩:=h;exact⟨_,by simp only[binOp,Op.stringOp,ByteArray.toList_eq];rfl,zC5⟩);(case gtr=>obtain⟨rfl,rfl⟩:=h;exact⟨_,by simp only[binOp,Op.stringOp,ByteArray.toList_eq];rfl,zC5⟩);(case geq=>obtain⟨rfl,rfl⟩:=h;exact⟨_,by simp only[binOp,Op.stringOp,ByteArray.toList_eq];rfl,zC5⟩);all_goals cases h
theorem xI8 {χ:Nat->Nat->Nat}{τ:Ty}{a b:τ.den}{x y:Value}(h:τ.eqs=true)(j:zQ χ w τ a x)(o:zQ χ w τ b y):(∃p q,x=.bool p/\y=.bool q)\/(∃p q,x=.agg p/\y=.agg q):=by cases τ with|bool=>exact .inl ⟨_,_,VRep_bool.1 j,VRep_bool.1 o⟩|st f=>obtain⟨xs,rfl,_⟩:=(zG6 rfl).1 j;obtain⟨ys,rfl,_⟩:=(zG6 rfl).1 o;exact .inr ⟨_,_,rfl,rfl⟩|arr n t=>obtain⟨xs,rfl,_⟩:=(zG6 rfl).1 j;obtain⟨ys,rfl,_⟩:=(zG6 rfl).1 o;exact .inr ⟨_,_,rfl,rfl⟩|_=>simp[Ty.eqs] at h
theorem yT7 (km:zM4 P c.tys=true){op:BinOp}{T:Nat}{x y A:AVal}{v u:Value}{ox oy:Operand}{p:List Prop}(hx:zA G w tm none x v)(hy:zA G w tm none y u)
  (h:xV1 op (c.ty T) x y=some (p,A)):∃r,(do eqGuard op T ox oy v u;binOp op T v u:Sem Value).run P w=.ok r w/\zA G w tm none A r:=by
 unfold xV1 at h;split at h
 ·rename_i a b j ha hb;simp only[jB] at j;have J:=zI6 km T (by intro e;rw[e] at j;simp[Ty.eqs] at j);have R:=zC4 J;have C:=zI7 ha R hx;have I:=zI7 hb R hy;have he:(Op.equal T v u).run P w=.ok ((c.ty T).eqb a b) w:=(yH5 (G:=G) (P:=P) (w:=w)).1 (d:=9999) J j.1 (by have:=xV6 J;omega) C I;have ir:=xI8 j.2 C I;have hg:(eqGuard op T ox oy v u).run P w=.ok () w:=by
   rcases ir with ⟨p,q,rfl,rfl⟩ | ⟨p,q,rfl,rfl⟩
   ·exact yB1 w
   ·exact run_eqGuard_agg w op T ox oy _ _ (xB4 J)
  have gm:∀o:BinOp,o=.eql\/o=.neq->(binOp o T v u).run P w=.ok (.bool (if o=.eql then (c.ty T).eqb a b else !((c.ty T).eqb a b))) w:=by
   intro o ho;rcases ir with ⟨p,q,rfl,rfl⟩ | ⟨p,q,rfl,rfl⟩<;>rcases ho with rfl|rfl<;>simp[binOp,he]
  split at h
  ·simp only[jA,jG] at h;obtain⟨rfl,rfl⟩:=h;exact⟨_,by rw[Sem.run_bind,hg,Result.andThen_ok,gm .eql (.inl rfl)];rfl,zC5⟩
  ·simp only[jA,jG] at h;obtain⟨rfl,rfl⟩:=h;exact⟨_,by rw[Sem.run_bind,hg,Result.andThen_ok,gm .neq (.inr rfl)];rfl,zC5⟩
  ·cases h
 ·cases h
theorem yT8 (km:zM4 P c.tys=true){op:BinOp}{T:Nat}{x A:AVal}{v u:Value}{ox oy:Operand}{p:List Prop}(C:zA G w tm none x v)(hu:u=.slice none 0 0)
  (h:xV2 c op T x=some (p,A)) (R:∀q∈p,q):∃r,(do eqGuard op T ox oy v u;binOp op T v u:Sem Value).run P w=.ok r w/\zA G w tm none A r:=by
 subst hu;unfold xV2 at h;split at h
 ·rename_i t0 hT;have I:=zI6 km T (by rw[hT];simp);rw[hT] at I;obtain⟨e,hu,_⟩:=zF7 I;have key:∀(a:Option Addr) n cap (b:Bool) q,b=a.isNone->zZ op q b=some (p,A)->v=.slice a n cap->∃r,(do eqGuard op T ox oy v (.slice none 0 0);binOp op T v (.slice none 0 0):Sem Value).run P w=.ok r w/\zA G w tm none A r:=by
   intro a n cap b q hb j J;subst J;have hg:(eqGuard op T ox oy (.slice a n cap) (.slice none 0 0)).run P w=.ok () w:=by cases op<;>simp[eqGuard]
   have he:(Op.equal T (.slice a n cap) (.slice none 0 0)).run P w=.ok b w:=by
    subst hb;have hd:∀d:Nat,(Op.equalIn (d+1) T (.slice a n cap) (.slice none 0 0)).run P w=.ok a.isNone w:=by
     intro d;cases a<;>simp[Op.equalIn,run_underlying hu w]
    exact hd 9999
   unfold zZ at j;split at j
   ·simp only[jA,jG] at j;obtain⟨rfl,rfl⟩:=j;exact⟨_,by rw[Sem.run_bind,hg,Result.andThen_ok];simp[binOp,he],zC5⟩
   ·simp only[jA,jG] at j;obtain⟨rfl,rfl⟩:=j;exact⟨_,by rw[Sem.run_bind,hg,Result.andThen_ok];simp[binOp,he],zC5⟩
   ·cases j
  have hq:∀q b,zZ op [q] b=some (p,A)->q:=by
   intro q b j;unfold zZ at j;split at j
   ·simp only[jA,jG] at j;obtain⟨rfl,_⟩:=j;exact R _ (jH.2 rfl)
   ·simp only[jA,jG] at j;obtain⟨rfl,_⟩:=j;exact R _ (jH.2 rfl)
   ·cases j
  split at h
  ·simp only[zA] at C;exact key none 0 0 true _ rfl h C
  ·simp only[zA] at C;obtain⟨a,cap,rfl,hb⟩:=C;exact key a 0 cap _ _ hb.symm h rfl
  ·rename_i t l;have kO:=hq _ _ h;simp only[zA] at C;rw[zC3 rfl] at C;simp only[zB] at C;obtain⟨a,cap,J,C⟩:=C;injection J with J _
   rcases C with C|⟨b,o,us,ha,_⟩
   ·rw[C] at kO;simp at kO
   ·exact key a _ cap false _ (by rw[ha];rfl) h J
  ·rename_i t l T' m;cases gy:t.isL with
   |true=>simp only[gy,jE] at h;cases h
   |false =>
   simp only[gy,jD] at h;have kO:=hq _ _ h;simp only[zA] at C;rcases (zB0 C gy).2 with ⟨_,hl⟩ | ⟨cap,cur,e,us,h1,_⟩
   ·rw[hl] at kO;simp at kO
   ·exact key _ _ cap false _ rfl h h1
  ·cases h
 ·cases h
theorem xB7 (km:zM4 P c.tys=true){ac:Act}{op:BinOp}{T:Nat}{x y A:AVal}{v:Value}{ox oy:Operand}{p:List Prop}(o:zA G w tm none x v)(j:zA G w tm none y (ac.eval oy))
  (h:wA9 c op T x y oy=some (p,A)) (J:∀q∈p,q):∃r,(do eqGuard op T ox oy v (ac.eval oy);binOp op T v (ac.eval oy):Sem Value).run P w=.ok r w/\zA G w tm none A r:=by
 unfold wA9 at h;split at h
 ·rename_i k a k' b;simp only[zA] at o j;have R:=VRep_int.1 o;have hu:=VRep_int.1 j;subst R;cases hs:yS9 op with
  |true =>
   simp only[hs,jE] at h;obtain⟨r,C,I⟩:=yH6 (P:=P) (w:=w) (G:=G) (tm:=tm) (T:=T) hu h J;exact⟨r,by rw[hu,Sem.run_bind,zL3,Result.andThen_ok,C],I⟩
  |false =>
   simp only[hs,jD] at h;cases hk:Nat.beq (zH5 k) (zH5 k') with
   |false=>simp[hk] at h
   |true =>
    simp only[hk,jE] at h;have:=zG9 (jC hk);subst this;obtain⟨r,C,I⟩:=yP3 (P:=P) (w:=w) (G:=G) (tm:=tm) (T:=T) hu hs h J;exact⟨r,by rw[hu,Sem.run_bind,zL3,Result.andThen_ok,C],I⟩
 ·rename_i a b;simp only[zA] at o j;have R:=VRep_str.1 o;have hu:=VRep_str.1 j;subst R;obtain⟨r,C,I⟩:=yP4 (P:=P) (w:=w) (G:=G) (tm:=tm) (T:=T) h J;exact⟨r,by rw[hu,Sem.run_bind,yF1,Result.andThen_ok,C],I⟩
 ·simp only[zA] at j;exact yT8 km o j h J
 ·exact yT7 km o j h
theorem xI9 {op:UnOp}{x A:AVal}{v:Value}{p:List Prop}(j:zA G w tm none x v)(h:unA c op x=some (p,A))(I:∀q∈p,q):∃r,(Op.unary op v).run P w=.ok r w/\zA G w tm none A r:=by unfold unA at h;split at h;simp only[jA,jG] at h;obtain⟨rfl,rfl⟩:=h;simp only[zA] at j;rw[VRep_bool.1 j];exact⟨_,by simp[Op.unary],zC5⟩;simp only[jA] at h;simp only[zA] at j;rw[VRep_int.1 j];have o:=congrArg Prod.fst h;have C:=congrArg Prod.snd h;simp only at o C;subst o;subst C;exact⟨_,rfl,zI8 I⟩;simp only[jA,jG] at h;obtain⟨rfl,rfl⟩:=h;simp only[zA] at j;rw[VRep_int.1 j];exact⟨_,rfl,zC9⟩;cases h
theorem yT9 (km:zM4 P c.tys=true){src dst:Nat}{x A:AVal}{v:Value}{p:List Prop}(I:zA G w tm none x v)(h:xV3 c src dst x=some (p,A)):∃r,(convert src dst v).run P w=.ok r w/\zA G w tm none A r:=by unfold xV3 at h;split at h;rename_i J k R n e1 j;simp only[jA,jG] at h;obtain⟨rfl,rfl⟩:=h;have o:=zI6 km src (by rw[e1];simp);have C:=zI6 km dst (by rw[j];simp);rw[e1] at o;rw[j] at C;simp only[zA] at I;rw[VRep_int.1 I];exact⟨_,by simp[convert,run_underlying (yC1 o),run_underlying (yC1 C),Conv.intToInt],zC9⟩;rename_i s e1 j;simp only[jA,jG] at h;obtain⟨rfl,rfl⟩:=h;have o:=zI6 km src (by rw[e1];simp);have C:=zI6 km dst (by rw[j];simp);rw[e1] at o;rw[j] at C;simp only[zA] at I;rw[VRep_str.1 I];exact⟨_,by simp[convert,run_underlying (zK1 o),run_underlying (zK1 C)],yL8⟩;cases h
theorem xB8 (km:zM4 P c.tys=true){ats:Array TypeId}{ty:TypeId}{x A:AVal}{v:Value}{p:List Prop}(I:zA G w tm none x v)(h:wB c ats.toList x=some (p,A)):∃r,(Builtin.len_ ats ty #[v]).run P w=.ok r w/\zA G w tm none A r:=by unfold wB at h;split at h;rename_i T r e;(have R:ats[0]?=some T:=by rw[<-Array.getElem?_toList,e];rfl);split at h;rename_i s;(cases o:c.is T .str with|false=>simp[o] at h|true=>simp only[o,jE,jA,jG] at h;obtain⟨rfl,rfl⟩:=h;simp only[zA] at I;rw[VRep_str.1 I];exact⟨.int .i64 (List.length (α:=UInt8) s:Int),by simp[Builtin.len_,R,run_underlying (zK1 (zB5 km o)),goInt];rfl,zC9⟩);rename_i t l;(cases o:c.is T (.sl t) with|false=>simp[o] at h|true=>simp only[o,jE,jA,jG] at h;obtain⟨rfl,rfl⟩:=h;obtain⟨e',J,h2⟩:=zF7 (zB5 km o);simp only[zA] at I;have kW:=(zC3 rfl).1 I;simp only[zB] at kW;obtain⟨a,cap,C,_⟩:=kW;injection C with C _;rw[C];exact⟨_,by simp[Builtin.len_,R,run_underlying J,goInt],zC9⟩);rename_i t l U m;(cases o:c.is T (.sl t) with|false=>simp[o] at h|true=>simp only[o,jE,jA,jG] at h;obtain⟨rfl,rfl⟩:=h;obtain⟨e',J,h2⟩:=zF7 (zB5 km o);simp only[zA] at I;rcases (zB0 I (yC2 (zB5 km o))).2 with ⟨C,hl⟩ | ⟨cap,cur,e,us,C,_⟩;rw[C,hl];exact⟨_,by simp[Builtin.len_,R,run_underlying J,goInt],zC9⟩;rw[C];exact⟨_,by simp[Builtin.len_,R,run_underlying J,goInt],zC9⟩);rename_i t l U j V m;(cases o:(c.is T (.sl (.sl t))&&!(Nat.beq U V)) with|false=>simp[o] at h|true=>simp only[o,jE,jA,jG] at h;obtain⟨rfl,rfl⟩:=h;simp only[jB] at o;obtain⟨o,hUV⟩:=o;obtain⟨e',J,h2⟩:=zF7 (zB5 km o);simp only[zA] at I;obtain⟨_,⟨he,_⟩ | ⟨_,⟨C,hl⟩ | ⟨cap,cur,e,C,_⟩⟩⟩:=I;subst he;simp at hUV;rw[C,hl];exact⟨_,by simp[Builtin.len_,R,run_underlying J,goInt],zC9⟩;rw[C];exact⟨_,by simp[Builtin.len_,R,run_underlying J,goInt],zC9⟩);(cases o:(c.is T (c.ty T)&&(c.ty T).isSl) with|false=>simp[o] at h|true=>simp only[o,jE,jA,jG] at h;obtain⟨rfl,rfl⟩:=h;simp only[jB] at o;have hT:=zB5 km o.1;(obtain⟨t,ht⟩:∃t,c.ty T=.sl t:=by revert o;cases c.ty T<;>simp[Ty.isSl]);rw[ht] at hT;obtain⟨e',J,h2⟩:=zF7 hT;simp only[zA] at I;rw[I];exact⟨_,by simp[Builtin.len_,R,run_underlying J,goInt],zC9⟩);cases h;cases h
end Go.Am
namespace Go.Am
open Go Go.RowKit
variable {P:Program}{c:Ctx}{G:Gh}{w:World}{tm:Array Value}
theorem zJ2 {k:IntKind}{i:Int}{y:Nat}{code:BoundsCode}(h:0<=i/\i<=(y:Int))(w:World):(Instr.sliceBound (.int k i) y code).run P w=.ok i.toNat w:=by simp[Instr.sliceBound,asIntOf,h]
theorem zH9 {b:Bool}{n m:Nat}{lo C:Option AVal}{vlo vhi:Option Value}{a h:Option Int}(hn:n<=m)(o:zM7 lo=some a)(h2:zM7 C=some h)(qk:∀A,lo=some A->∃v,vlo=some v/\zA G w tm none A v)(gq:lo=none->vlo=none)(iu:∀A,C=some A->∃v,vhi=some v/\zA G w tm none A v)(gA:C=none->vhi=none){α:Type}{l:List α}(hl:l.length=n)(I:∀q∈(yN8 l a h).1,q):∃x y,x<=y/\y<=n/\(Instr.sliceBounds b n m vlo vhi none).run P w=.ok (x,y,m) w/\(yN8 l a h).2=(l.take y).drop x:=by (have opt:∀(lo:Option AVal) (a:Option Int) (vlo:Option Value),zM7 lo=some a->(∀A,lo=some A->∃v,vlo=some v/\zA G w tm none A v)->(lo=none->vlo=none)->(a=none/\vlo=none)\/∃k i,a=some i/\vlo=some (.int k i):=by intro lo a vlo o qk gq;cases lo with|none=>simp only[zM7,jA] at o;exact .inl ⟨o.symm,gq rfl⟩|some A=>obtain⟨v,J,R⟩:=qk A rfl;cases A with|val τ x=>(cases τ with|int k=>simp only[zM7,jA] at o;simp only[zA] at R;rw[VRep_int.1 R] at J;exact .inr ⟨k,x,o.symm,J⟩|_=>simp[zM7] at o)|_=>simp[zM7] at o);subst hl;rcases opt lo a vlo o qk gq with ⟨rfl,rfl⟩ | ⟨k,i,rfl,rfl⟩<;>rcases opt C h vhi h2 iu gA with ⟨rfl,rfl⟩ | ⟨k',j,rfl,rfl⟩;exact⟨0,l.length,by omega,by omega,by simp[Instr.sliceBounds],by simp[yN8]⟩;have hb:=I _ (jH.2 rfl);refine⟨0,j.toNat,by omega,by omega,?_,by simp[yN8]⟩;have:=zJ2 (P:=P) (k:=k') (i:=j) (y:=m) (code:=if b then .sliceAcap else .sliceAlen) ⟨hb.1,by omega⟩ w;simp[Instr.sliceBounds,this];have hb:=I _ (jH.2 rfl);refine⟨i.toNat,l.length,by omega,by omega,?_,by simp[yN8]⟩;have:=zJ2 (P:=P) (k:=k) (i:=i) (y:=l.length) (code:=.sliceB) hb w;simp[Instr.sliceBounds,this];have hb:=I _ (jH.2 rfl);refine⟨i.toNat,j.toNat,by omega,by omega,?_,by simp[yN8]⟩;have h3:=zJ2 (P:=P) (k:=k') (i:=j) (y:=m) (code:=if b then .sliceAcap else .sliceAlen) ⟨by omega,by omega⟩ w;have h4:=zJ2 (P:=P) (k:=k) (i:=i) (y:=j.toNat) (code:=.sliceB) ⟨hb.1,by omega⟩ w;simp[Instr.sliceBounds,h3,h4]
theorem yL9 (s:List UInt8)(x y:Nat):(⟨s.toArray⟩:ByteArray).extract x y=⟨((s.take y).drop x).toArray⟩:=by apply ByteArray.ext;simp[ByteArray.data_extract,List.drop_take]
theorem yP5 {t:Ty}{T x y cap:Nat}{a:Option Addr}{l:List t.den}{lo J:Option Value}(hT:zC0 P (.sl t) (.inl T)=true)(hxy:x<=y)(hy:y<=l.length)(I:zB G.χ w (.sl t) l [.slice a l.length cap])(gB:l.length<=cap)(hb:(Instr.sliceBounds true l.length cap lo J none).run P w=.ok (x,y,cap) w):∃r,(Instr.sliceAt T (.slice a l.length cap) lo J none).run P w=.ok r w/\zB G.χ w (.sl t) ((l.take y).drop x) [r]:=by obtain⟨e,h1,h2⟩:=zF7 hT;refine⟨.slice (if cap=x then a else a.map (·.add (x*t.size))) (y-x) (cap-x),?_,?_⟩;simp only[Instr.sliceAt,Sem.run_bind,run_underlying h1 w,Result.andThen_ok,Instr.slice,hb,zD2 h2 w,Sem.run_pure];simp only[zB] at I ⊢;obtain⟨a',cap',C,I⟩:=I;simp only[List.cons.injEq,Value.slice.injEq,and_true,true_and] at C;obtain⟨rfl,rfl⟩:=C;(have hlen:List.length (α:=t.den) ((l.take y).drop x)=y-x:=by simp;omega);refine⟨_,cap-x,by rw[hlen],?_⟩;rcases I with rfl|⟨b,o,us,ha,h3,R,h5⟩;exact .inl (by simp);by_cases hz:y=x;left;subst hz;apply List.eq_nil_of_length_eq_zero;omega;right;have gH:=zB4 (k:=t.size) (λ_ _ h=>zA1 h) R;rw[if_neg (by omega)];subst ha;refine⟨b,o+x*t.size,((us.take (y*t.size)).drop (x*t.size)),by simp[Addr.add_mid],by omega,?_,?_⟩;exact yP (k:=t.size) (λ_ _ h=>zA1 h) x (yO9 (k:=t.size) (λ_ _ h=>zA1 h) y R);intro j v C;rw[List.getElem?_drop,List.getElem?_take] at C;split at C;have:=h5 _ _ C;rw[<-Nat.add_assoc] at this;exact this;cases C
theorem yU {χ:Nat->Nat->Nat}{t:Ty}{l:List t.den}{v:Value}(h:zB χ w (.sl t) l [v]):∃a cap,v=.slice a l.length cap/\l.length<=cap:=by simp only[zB] at h;obtain⟨a,cap,j,h⟩:=h;injection j with j _;refine⟨a,cap,j,?_⟩;rcases h with rfl|⟨b,o,us,_,C,_⟩;simp;exact C
theorem zM5 {s:Option Nat}{t:Ty}{l:List t.den}{v:Value}(h:zB G.χ w (.sl t) l [v]):zA G w tm s (.val (.sl t) l) v:=by simp only[zA];exact (zC3 rfl).2 h
theorem yP6 {T:Nat}{t:Ty}{l:List t.den}{v:Value}{lo j:Option AVal}{vlo vhi:Option Value}{a b:Option Int}(C:zC0 P (.sl t) (.inl T)=true)(o:zB G.χ w (.sl t) l [v])(ea:zM7 lo=some a)(eb:zM7 j=some b)(qk:∀A,lo=some A->∃v,vlo=some v/\zA G w tm none A v)(gq:lo=none->vlo=none)(iu:∀A,j=some A->∃v,vhi=some v/\zA G w tm none A v)(gA:j=none->vhi=none)(I:∀q∈(yN8 l a b).1,q):∃r,(Instr.sliceAt T v vlo vhi none).run P w=.ok r w/\zA G w tm none (.val (.sl t) (yN8 l a b).2) r:=by obtain⟨ad,cap,rfl,gB⟩:=yU o;obtain⟨x,y,J,R,h3,h4⟩:=zH9 (P:=P) (G:=G) (w:=w) (tm:=tm) (b:=true) (n:=l.length) (m:=cap) gB ea eb qk gq iu gA (l:=l) rfl I;obtain⟨r,h5,h6⟩:=yP5 C J R o gB h3;exact⟨r,h5,by rw[h4];exact zM5 h6⟩
theorem xB9 {T U:Nat}{t:Ty}{l:List t.den}{v:Value}{lo I:Option AVal}{vlo vhi:Option Value}{a b:Option Int}(hT:zC0 P (.sl t) (.inl T)=true)(hx:zG0 G w t l U true v)(ea:zM7 lo=some a)(eb:zM7 I=some b)(qk:∀A,lo=some A->∃v,vlo=some v/\zA G w tm none A v)(gq:lo=none->vlo=none)(iu:∀A,I=some A->∃v,vhi=some v/\zA G w tm none A v)(gA:I=none->vhi=none)(hp:∀q∈(yN8 l a b).1,q):∃r,(Instr.sliceAt T v vlo vhi none).run P w=.ok r w/\zA G w tm none (.ownh t [(yN8 l a b).2] U 0 U false) r:=by obtain⟨kE,hs⟩:=zB0 hx (yC2 hT);obtain⟨e,h1,h2⟩:=zF7 hT;simp only[zA];rcases hs with ⟨rfl,rfl⟩ | ⟨cap,cur,e',us,rfl,g2,g3,g4,g5,g6,g7,g8⟩;obtain⟨x,y,q1,q2,C,J⟩:=zH9 (P:=P) (G:=G) (w:=w) (tm:=tm) (b:=true) (n:=0) (m:=0) (jI _) ea eb qk gq iu gA (l:=([]:List t.den)) rfl hp;(have R:x=0/\y=0:=by omega);obtain⟨rfl,rfl⟩:=R;(have q4':(yN8 ([]:List t.den) a b).2=([]:List t.den):=by rw[J];simp);rw[q4'];have q3':(Instr.sliceBounds true (List.length (α:=t.den) []) 0 vlo vhi none).run P w=.ok (0,0,0) w:=C;refine⟨.slice none 0 0,?_,kE,.inl ⟨rfl,.inl ⟨rfl,[],none,0,rfl,rfl,.inl rfl⟩⟩⟩;simp only[Instr.sliceAt,Sem.run_bind,run_underlying h1 w,Result.andThen_ok,Instr.slice,C,zD2 h2 w,Sem.run_pure];simp;obtain⟨x,y,q1,q2,C,J⟩:=zH9 (P:=P) (G:=G) (w:=w) (tm:=tm) (b:=true) (n:=l.length) (m:=cap) g3 ea eb qk gq iu gA (l:=l) rfl hp;(have hlen:List.length (α:=t.den) ((l.take y).drop x)=y-x:=by simp;omega);refine⟨.slice (if cap=x then some ⟨G.γ U,0,none⟩ else (some (⟨G.γ U,0,none⟩:Addr)).map (·.add (x*t.size))) (y-x) (cap-x),by simp only[Instr.sliceAt,Sem.run_bind,run_underlying h1 w,Result.andThen_ok,Instr.slice,C,zD2 h2 w,Sem.run_pure],kE,.inl ⟨rfl,.inl ⟨rfl,(l.take y).drop x,_,_,by rw[J],by rw[hlen],?_⟩⟩⟩;by_cases hz:y=x;left;subst hz;apply List.eq_nil_of_length_eq_zero;omega;right;rw[if_neg (by omega)];refine⟨0+x*t.size,(us.take (y*t.size)).drop (x*t.size),cur,e',by simp[Addr.add_mid],by omega,g2,?_,?_,λo=>by rw[g8,if_neg (by simp)]⟩;exact yP (k:=t.size) (λ_ _ h=>zA1 h) x (yO9 (k:=t.size) (λ_ _ h=>zA1 h) y g6);intro j u hu;rw[List.getElem?_drop,List.getElem?_take] at hu;split at hu;rw[<-g7,List.getElem?_take] at hu;split at hu;rw[Nat.zero_add];exact hu;cases hu;cases hu
theorem zM1 (km:zM4 P c.tys=true){T:Nat}{x A:AVal}{v:Value}{lo I:Option AVal}{vlo vhi:Option Value}{p:List Prop}(j:zA G w tm none x v)(qk:∀A,lo=some A->∃v,vlo=some v/\zA G w tm none A v)(gq:lo=none->vlo=none)(iu:∀A,I=some A->∃v,vhi=some v/\zA G w tm none A v)(gA:I=none->vhi=none)(h:xH2 c T x lo I=some (p,A))(C:∀q∈p,q):∃r,(Instr.sliceAt T v vlo vhi none).run P w=.ok r w/\zA G w tm none A r:=by unfold xH2 at h;split at h;rename_i a b ea eb;split at h;rename_i s;(cases gO:c.is T .str with|false=>simp[gO] at h|true=>simp only[gO,jE,jA,jG] at h;obtain⟨rfl,rfl⟩:=h;have o:=zK1 (zB5 km gO);simp only[zA] at j;rw[VRep_str.1 j];obtain⟨x,y,h1,h2,J,R⟩:=zH9 (P:=P) (G:=G) (w:=w) (tm:=tm) (b:=false) (m:=List.length (α:=UInt8) s) (jI _) ea eb qk gq iu gA (l:=s) rfl C;refine⟨.string ⟨(((List.take y s).drop x)).toArray⟩,?_,?_⟩;(have kB:(⟨List.toArray s⟩:ByteArray).size=List.length (α:=UInt8) s:=by simp[ByteArray.size]);simp only[Instr.sliceAt,Sem.run_bind,run_underlying o w,Result.andThen_ok,Instr.slice,kB,J,Option.isSome_none,Bool.false_eq_true,if_false,Sem.run_pure,yL9];rw[R];exact yL8);rename_i t l;(cases gO:c.is T (.sl t) with|false=>simp[gO] at h|true=>simp only[gO,jE,jA,jG] at h;obtain⟨rfl,rfl⟩:=h;have o:=zB5 km gO;simp only[zA] at j;exact yP6 o ((zC3 rfl).1 j) ea eb qk gq iu gA C);rename_i t l U m;(cases gO:c.is T (.sl t) with|false=>simp[gO] at h|true=>simp only[gO,jE,jA,jG] at h;obtain⟨rfl,rfl⟩:=h;have o:=zB5 km gO;simp only[zA] at j;cases m with|true=>exact xB9 o j ea eb qk gq iu gA C|false=>exact yP6 o (zD1 j) ea eb qk gq iu gA C);cases h;cases h
theorem xJ:∀{a:AVal}{vs:List Value}{k:Nat},zA G w tm none a (.tuple vs.toArray)->k<a.clen->∃u,vs[k]?=some u/\zA G w tm none (a.nth k) u:=by intro a;induction a with|cons h t _ gz=>intro vs k o j;simp only[zA] at o;obtain⟨x,xs,e,C,I⟩:=o;simp only[Value.tuple.injEq] at e;(have e:vs=x::xs:=by simpa using e);subst e;(cases k with|zero=>exact⟨x,rfl,C⟩|succ k=>simp only[AVal.clen] at j;obtain⟨u,J,R⟩:=gz (k:=k) I (by omega);exact⟨u,by simpa using J,R⟩)|_=>intro vs k _ j;simp[AVal.clen] at j
theorem xC {a:AVal}{v:Value}(h:zA G w tm none a v)(j:0<a.clen):∃vs:List Value,v=.tuple vs.toArray:=by cases a with|cons h t=>simp only[zA] at h;obtain⟨x,xs,e,_⟩:=h;exact⟨x::xs,e⟩|_=>simp[AVal.clen] at j
theorem yH7 {x A:AVal}{v:Value}{k:Nat}{p:List Prop}(o:zA G w tm none x v)(h:yK8 x k=some (p,A)):∃r,(Instr.extract v k).run P w=.ok r w/\zA G w tm none A r:=by unfold yK8 at h;split at h;rename_i a;(cases j:Nat.blt k a.clen with|false=>simp[j] at h|true=>simp only[j,jE,jA,jG] at h;obtain⟨rfl,rfl⟩:=h;have j:k<a.clen:=jR j;simp only[zA] at o;obtain⟨vs,rfl⟩:=xC o (by omega);obtain⟨u,C,I⟩:=xJ o j;exact⟨u,by simp[Instr.extract,C],I⟩);cases h
def zG5 {α β:Type}(R:α->β->Prop):List α->List β->Prop
 |[],[]=>True
 |a::r,b::s=>R a b/\zG5 R r s
 |_,_=>False
theorem yU0 {f:Int->Int->Int}{g:Value->Value->Sem Value}(R:∀k a b (w:World),(g (.int k a) (.int k b)).run P w=.ok (.int k (f a b)) w):∀{r:List AVal}{vs:List Value}{A B:AVal}{v:Value},yO1 A=true->zA G w tm none A v->zG5 (zA G w tm none) r vs->yO0 f A r=some B->∃u,(vs.foldlM g v).run P w=.ok u w/\zA G w tm none B u:=by intro r;induction r with|nil=>intro vs A B v C o j h;(cases vs with|cons _ _=>simp[zG5] at j|nil=>simp only[yO0,jA] at h;subst h;exact⟨v,by simp,o⟩)|cons x r ih=>intro vs A B v C o j h;cases vs with|nil=>simp[zG5] at j|cons u us=>simp only[zG5] at j;obtain⟨J,j⟩:=j;cases A with|val τ a=>(cases τ with|int k=>(cases x with|val τ' b=>(cases τ' with|int k'=>simp only[yO0] at h;(cases I:Nat.beq (zH5 k) (zH5 k') with|false=>simp[I] at h|true=>simp only[I,jE] at h;have:=zG9 (jC I);subst this;simp only[zA] at o J;have e1:=VRep_int.1 o;have e2:=VRep_int.1 J;subst e1;subst e2;obtain⟨z,h1,h2⟩:=ih (v:=.int k (f a b)) rfl zC9 j h;exact⟨z,by simp[List.foldlM_cons,R,h1],h2⟩)|_=>simp[yO0] at h)|_=>simp[yO0] at h)|_=>simp[yO1] at C)|_=>simp[yO1] at C
theorem yI8 {f:Int->Int->Int}{g:Value->Value->Sem Value}(I:∀k a b (w:World),(g (.int k a) (.int k b)).run P w=.ok (.int k (f a b)) w){xs:List AVal}{vs:List Value}{A:AVal}{p:List Prop}(j:zG5 (zA G w tm none) xs vs)(h:xY2 f xs=some (p,A)):∃v r,vs=v::r/\∃u,(r.foldlM g v).run P w=.ok u w/\zA G w tm none A u:=by cases xs with|nil=>simp[xY2] at h|cons x r=>cases vs with|nil=>simp[zG5] at j|cons v us=>simp only[zG5] at j;obtain⟨j,J⟩:=j;simp only[xY2] at h;cases o:yO1 x with|false=>simp[o] at h|true=>simp only[o,jE] at h;cases C:yO0 f x r with|none=>simp[C] at h|some B=>simp only[C,jA,jG] at h;obtain⟨rfl,rfl⟩:=h;obtain⟨u,R,h2⟩:=yU0 I o j J C;exact⟨v,us,rfl,u,R,h2⟩
theorem xQ5 (k:IntKind)(a b:Int)(w:World):(Builtin.max2 (.int k a) (.int k b)).run P w=.ok (.int k (wB0 a b)) w:=by simp[Builtin.max2,wB0]
theorem xQ6 (k:IntKind)(a b:Int)(w:World):(Builtin.min2 (.int k a) (.int k b)).run P w=.ok (.int k (wB1 a b)) w:=by simp[Builtin.min2,wB1]
end Go.Am
namespace Go.Am
open Go Go.RowKit
variable {P:Program}{c:Ctx}{G:Gh}{w:World}{tm:Array Value}
theorem yM {α:Type}{R:α->List Value->Prop}(h:∀x vs,R x vs->∀u∈vs,u.oneCell'=true):∀{l us},zJ9 R l us->∀u∈us,u.oneCell'=true:=by intro l;induction l with|nil=>intro us hu;simp only[zJ9] at hu;subst hu;simp|cons x l j=>rintro us ⟨vs,ws,rfl,o,C⟩ u hu;exact (List.mem_append.1 hu).elim (λhu=>h _ _ o u hu) (λhu=>j C u hu)
theorem yC5 {χ:Nat->Nat->Nat}:∀{τ:Ty}{x:τ.den}{vs:List Value},zB χ w τ x vs->∀u∈vs,u.oneCell'=true:=by intro τ;induction τ with|int k=>intro x vs h u hu;simp only[zB] at h;subst h;simp at hu;subst hu;rfl|bool=>intro x vs h u hu;simp only[zB] at h;subst h;simp at hu;subst hu;rfl|str=>intro x vs h u hu;simp only[zB] at h;subst h;simp at hu;subst hu;rfl|nl=>intro x vs h u hu;simp only[zB] at h;subst h;simp at hu|cons a b j hb=>intro x vs h u hu;simp only[zB] at h;obtain⟨us,ws,rfl,C,I⟩:=h;exact (List.mem_append.1 hu).elim (λhu=>j C u hu) (λhu=>hb I u hu)|st f J=>intro x vs h u hu;simp only[zB] at h;exact J h u hu|arr n t ht=>intro x vs h u hu;simp only[zB] at h;exact yM (λ_ _ h=>ht h) h.2 u hu|sl t ht=>intro x vs h u hu;simp only[zB] at h;obtain⟨a,cap,rfl,_⟩:=h;simp at hu;subst hu;rfl|ptr t ht=>intro x vs h u hu;simp only[zB] at h;obtain⟨b,o,us,rfl,_⟩:=h;simp at hu;subst hu;rfl
theorem zW2 {t:Ty}{l:List t.den}{T:Nat}{m:Bool}{v:Value}(h:zG0 G w t l T m v):v.oneCell'=true:=by rcases h with h|⟨_,k,e,l',_,_,es,clock,rfl,_⟩;rcases h.2 with ⟨rfl,_⟩ | ⟨cap,cur,e,us,rfl,_⟩<;>rfl;rfl
theorem zS2:∀{A:AVal}{τ:Ty}{vs:List Value},zA2 G w τ A vs->∀u∈vs,u.oneCell'=true:=by intro A;induction A with|val τ' x=>intro τ vs h;simp only[zA2] at h;exact yC5 h.2.2|nil=>intro τ vs h u hu;simp only[zA2] at h;rw[h.2] at hu;simp at hu;subst hu;rfl|own t l T m=>intro τ vs h u hu;simp only[zA2] at h;obtain⟨_,v,rfl,h⟩:=h;simp at hu;subst hu;exact zW2 h|agg f a o=>intro τ vs h;simp only[zA2] at h;exact o h.2|nl=>intro τ vs h u hu;simp only[zA2] at h;rw[h.2] at hu;simp at hu|junk=>intro τ vs h u hu;simp only[zA2] at h;obtain⟨_,v,rfl,j⟩:=h;simp at hu;subst hu;exact j|cons a b gj kQ=>intro τ vs h u hu;simp only[zA2] at h;obtain⟨j,t1,us,ws,_,rfl,C,I⟩:=h;exact (List.mem_append.1 hu).elim (λhu=>gj C u hu) (λhu=>kQ I u hu)|_=>intro τ vs h;simp only[zA2] at h
theorem zI9 {τ:Ty}{us:List Value}{u:Value}(j:zN1 τ us u)(C:∀u∈us,u.oneCell'=true):u.cells.toList=us:=by unfold zN1 at j;cases o:τ.isAgg with|true=>rw[o,jE] at j;subst j;simp[Value.cells]|false=>rw[o,jD] at j;subst j;have:=C u (by simp);cases u<;>simp_all [Value.cells,Value.oneCell']
theorem zS3 {χ:Nat->Nat->Nat}:∀{τ:Ty},τ.noPtr=true->zB χ w τ τ.dflt (zB3 τ):=by intro τ;induction τ with|int k=>intro _;simp only[zB,zB3,Ty.dflt]|bool=>intro _;simp only[zB,zB3,Ty.dflt]|str=>intro _;simp only[zB,zB3,Ty.dflt]|nl=>intro _;simp only[zB,zB3]|cons a b j hb=>intro h;simp only[Ty.noPtr,jB] at h;simp only[zB,zB3,Ty.dflt];exact⟨_,_,rfl,j h.1,hb h.2⟩|st f o=>intro h;simp only[Ty.noPtr] at h;simp only[zB,zB3,Ty.dflt];exact o h|arr n t ht=>intro h;simp only[Ty.noPtr] at h;simp only[zB,zB3,Ty.dflt];exact⟨by simp,zJ0 (ht h) n⟩|sl t _=>intro _;simp only[zB,zB3,Ty.dflt];exact⟨none,0,rfl,.inl (by first|rfl|trivial)⟩|ptr t _=>intro h;simp[Ty.noPtr] at h
theorem yY9:∀{τ:Ty},τ.noPtr=true->τ.plain=true->zA2 G w τ (zQ1 τ) (zB3 τ):=by intro τ;induction τ with|int k=>intro _ _;simp only[zA2,zQ1,zB,zB3];simp[Ty.isL]|bool=>intro _ _;simp only[zA2,zQ1,zB,zB3];simp[Ty.isL]|str=>intro _ _;simp only[zA2,zQ1,zB,zB3];simp[Ty.isL]|nl=>intro _ _;simp only[zA2,zQ1,zB3];simp|cons a b o hb=>intro h j;simp only[Ty.noPtr,jB] at h;simp only[Ty.plain,jB,jK] at j;simp only[zQ1,zA2,zB3];exact⟨a,b,_,_,rfl,rfl,o h.1 j.1.1.2,hb h.2 j.2⟩|st f C=>intro h j;simp only[Ty.noPtr] at h;simp only[Ty.plain,jB] at j;simp only[zQ1];(cases I:f.hasSl with|true=>simp only[jE,zA2,zB3];exact⟨trivial,C h j.2⟩|false=>simp only[jD,zA2];exact⟨trivial,rfl,zS3 (τ:=.st f) h⟩)|arr n t ht=>intro h j;simp only[zQ1,zA2];exact⟨trivial,rfl,zS3 h⟩|sl t _=>intro _ _;simp only[zQ1,zA2,zB3];simp[Ty.isSl]|ptr t _=>intro h;simp[Ty.noPtr] at h
theorem zK3:∀{τ:Ty},(zB3 τ).length=τ.size:=by intro τ;induction τ with|cons a b j hb=>simp[zB3,Ty.size,j,hb]|st f o=>simp[zB3,Ty.size,o]|arr n t ht=>simp[zB3,Ty.size,ht]|_=>rfl
theorem yP7 (cells:Array Value)(off:Nat)(ps:List Value)(h:off+ps.length<=cells.size):((ps.toArray.zipIdx.foldl (λcs (x:Value×Nat)=>cs.setIfInBounds (off+x.2) x.1) cells)).toList=spl cells.toList off ps:=by (have key:∀(ps:List Value) (k:Nat) (cells:Array Value),off+k+ps.length<=cells.size->((ps.zipIdx k).foldl (λcs (x:Value×Nat)=>cs.setIfInBounds (off+x.2) x.1) cells).toList=spl cells.toList (off+k) ps:=by intro ps;induction ps with|nil=>intro k cells _;simp[xI5]|cons p ps I=>intro k cells J;simp only[List.length_cons] at J;simp only[List.zipIdx_cons,List.foldl_cons];rw[I (k+1) _ (by simp;omega)];apply List.ext_getElem?;intro j;rw[spl_getElem? _ _ _ _ (by simp;omega),spl_getElem? _ _ _ _ (by simp;omega)];simp only[List.length_cons,Array.toList_setIfInBounds,List.getElem?_set];by_cases o:off+k=j;subst o;rw[if_neg (by omega),if_pos rfl,if_pos (by simp;omega),if_pos ⟨by omega,by omega⟩];simp;by_cases C:off+(k+1)<=j/\j<off+(k+1)+ps.length;rw[if_pos C,if_pos ⟨by omega,by omega⟩];rw[show j-(off+k)=(j-(off+(k+1)))+1 from by omega];simp;rw[if_neg C,if_neg o,if_neg (by omega)]);have:=key ps 0 cells (by omega);simp only[Nat.add_zero] at this;rw[<-this];congr 1;simp
theorem yU1 {f:Ty}{places:Nat->Option (Nat×Nat)}(kx:∀k,k<f.flen->places k=some (f.foff k,(f.fty k).size)):∀{parts:List (Nat×AVal)}{vs:List Value}{ks:List Nat}{z:AVal}{cells:Array Value},f.plain=true->zU9 f parts=true->zG5 (zA G w tm none) (parts.map (·.2)) vs->ks=parts.map (·.1)->zA2 G w f z cells.toList->∃cells',Instr.fill places cells (List.zip ks vs)=some cells'/\zA2 G w f (wA0 parts z) cells'.toList:=by intro parts;induction parts with|nil=>intro vs ks z cells _ _ j I C;subst I;exact⟨cells,by simp[Instr.fill],by simpa[wA0] using C⟩|cons q r ih=>intro vs ks z cells R hf j I C;obtain⟨k,A⟩:=q;cases vs with|nil=>simp[zG5] at j|cons v vs=>simp only[List.map_cons,zG5] at j;simp only[zU9,List.all_cons,jB] at hf;obtain⟨⟨iU,hA⟩,hr⟩:=hf;have iU:k<f.flen:=jR iU;have qj:=yE7 R iU;obtain⟨us,J,h2⟩:=zQ8 j.1 hA qj.1;have hc:=zI9 h2 (zS2 J);have hle:=yE6 iU;have kK:=zB1 C;have gH:=zB1 J;(have tb:v.cells=us.toArray:=by rw[<-hc]);subst I;simp only[List.map_cons,List.zip_cons_cons,Instr.fill,kx k iU];(have kB:v.cells.size=(f.fty k).size:=by rw[tb];simpa using gH);rw[if_neg (by simp only[kB];simp;rw[<-jN,kK];exact hle)];(have kC:(Array.foldl (λcs (x:Value×Nat)=>cs.setIfInBounds (f.foff k+x.2) x.1) cells v.cells.zipIdx).toList=spl cells.toList (f.foff k) us:=by rw[tb];exact yP7 cells (f.foff k) us (by rw[<-jN,kK];omega));have o:=zU2 iU C J;rw[<-kC] at o;obtain⟨cells',h3,h4⟩:=ih R (by simpa[zU9] using hr) j.2 rfl o;exact⟨cells',h3,h4⟩
theorem yP8 {t:Ty}:∀{parts:List (Nat×AVal)}{vs:List Value}{ks:List Nat}{l l':List t.den}{cells:Array Value},t.isL=false->(∀q∈parts,q.1<l.length)->zG5 (zA G w tm none) (parts.map (·.2)) vs->ks=parts.map (·.1)->zJ9 (zB G.χ w t) l cells.toList->xX0 t parts l=some l'->∃cells',Instr.fill (λi=>some (i*t.size,t.size)) cells (List.zip ks vs)=some cells'/\zJ9 (zB G.χ w t) l' cells'.toList/\l'.length=l.length:=by intro parts;induction parts with|nil=>intro vs ks l l' cells _ _ j J I h;subst J;simp only[xX0,jA] at h;subst h;exact⟨cells,by simp[Instr.fill],I,rfl⟩|cons q r ih=>intro vs ks l l' cells hp o j J I h;obtain⟨k,A⟩:=q;cases vs with|nil=>simp[zG5] at j|cons v vs=>simp only[List.map_cons,zG5] at j;simp only[xX0] at h;split at h;rename_i x hx;have iU:k<l.length:=o (k,A) (by simp);obtain⟨us,h1,h2⟩:=zI7 hx hp j.1;have hc:=zI9 h2 (yC5 h1);have gH:=zA1 h1;have kK:=zB4 (k:=t.size) (λ_ _ h=>zA1 h) I;(have tb:v.cells=us.toArray:=by rw[<-hc]);(have hle:k*t.size+t.size<=l.length*t.size:=by rw[<-Nat.succ_mul];exact jS _ (by omega));subst J;simp only[List.map_cons,List.zip_cons_cons,Instr.fill];(have kB:v.cells.size=t.size:=by rw[tb];simpa using gH);rw[if_neg (by simp only[kB];simp;rw[<-jN,kK];exact hle)];(have kC:(Array.foldl (λcs (x:Value×Nat)=>cs.setIfInBounds (k*t.size+x.2) x.1) cells v.cells.zipIdx).toList=spl cells.toList (k*t.size) us:=by rw[tb];exact yP7 cells (k*t.size) us (by rw[<-jN,kK];omega));have C:=yL6 (R:=zB G.χ w t) (k:=t.size) (λ_ _ h=>zA1 h) h1 I iU;rw[<-kC] at C;obtain⟨cells',h3,h4,h5⟩:=ih hp (λq hq=>by simp;exact o q (by simp[hq])) j.2 rfl C h;exact⟨cells',h3,h4,by rw[h5];simp⟩;cases h
end Go.Am
