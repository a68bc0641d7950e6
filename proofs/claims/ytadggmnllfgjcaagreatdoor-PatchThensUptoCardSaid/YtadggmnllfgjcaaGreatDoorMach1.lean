/- The abstract machine, part 1: a typed interpreter for the program's code, and that it is sound. No condition. -/
import Derived.Calls
import Derived.KernelRfl
import Derived.Orders
import Derived.Laws.AppendOwn
import Derived.Below
import Derived.Deep.MidRow
import Derived.IntWalk
import Derived.Laws.StructEq
import Derived.ChangeKeysEq
import Derived.Great.BuildSlice
namespace Go.Am
open Go
open Go.Builtin (len_ max2 min2)
open Go.Instr (extract field fieldAt indexAt loadAt slice sliceAt sliceBounds storeAt sureAddr)
open Go.Op (bytesLess eqItems equalIn intCmp stringOp)
open Go.Result (andThen_ok)
open Go.Sem (run_bind run_pure)
open Go.World (cell? setCells)
open _root_.List (all_cons all_eq_true append drop_append ext_getElem? getD length map_cons range replicate set take toArray zip zipWith)
open _root_.Nat (add_assoc add_mul ble blt lor succ_mul)
theorem jA {α:Type _}(a b:α):(some a=some b)=(a=b):=Option.some.injEq a b
theorem jB (a b:Bool):((a&&b)=true)=(a=true∧b=true):=Bool.and_eq_true a b
theorem jC {n m:Nat}(h:Nat.beq n m):n=m:=Nat.eq_of_beq_eq_true h
theorem jD {α:Sort _}(a b:α):(cond false a b)=b:=rfl
theorem jE {α:Sort _}(a b:α):(cond true a b)=a:=rfl
theorem jF {p:Prop}[i:Decidable p](h:decide p):p:=of_decide_eq_true h
theorem jG {α:Type _}{β:Type _}(a:α)(b:β)(c:α)(d:β):((a,b)=(c,d))=(a=c∧b=d):=Prod.mk.injEq a b c d
theorem jH {α:Type _}{a b:α}:a∈[b]↔a=b:=List.mem_singleton
theorem jI (n:Nat):n≤n:=Nat.le_refl n
theorem jJ {x y:Bool}:(x||y)=false↔x=false∧y=false:=Bool.or_eq_false_iff
theorem jK (b:Bool):((!b)=true)=(b=false):=Bool.not_eq_true' b
theorem jL {α:Type _}{l:List α}{i:Nat}(h:i<l.length):l[i]?=some (l[i]'h):=List.getElem?_eq_getElem h
theorem jM {α:Type _}{l:List α}{i:Nat}{a:α}:l.getD i a=l[i]?.getD a:=List.getD_eq_getElem?_getD
theorem jN {α:Type _}{xs:Array α}:xs.toList.length=xs.size:=Array.length_toList
theorem jO {α:Type _}{as bs:List α}:(as++bs).length=as.length+bs.length:=List.length_append
theorem jP {α:Type _}(y:α){a:α}{l:List α}(h:a∈l):a∈y::l:=List.mem_cons_of_mem y h
theorem jQ {α:Type _}{a:α}{l:List α}:a∈a::l:=List.mem_cons_self
theorem jR {n m:Nat}(h:n.ble m):n≤m:=Nat.le_of_ble_eq_true h
theorem jS {n m:Nat}(k:Nat)(h:n≤m):n*k≤m*k:=Nat.mul_le_mul_right k h
theorem jT {α:Type _}{i:Nat}{l:List α}:(take i l).length=min i l.length:=List.length_take
inductive Ty where
 |int (k:IntKind)|bool|str|nl|cons (h t:Ty)|st (f:Ty)|arr (n:Nat) (t:Ty)|sl (t:Ty)|ptr (t:Ty)
@[reducible] def Ty.den:Ty->Type
 |.int _=>Int|.bool=>Bool|.str=>List UInt8|.nl=>Unit|.cons h t=>h.den×t.den
 |.st f=>f.den|.arr _ t=>List t.den|.sl t=>List t.den|.ptr t=>t.den
def FK:IntKind->Nat
 |.i8=>0|.i16=>1|.i32=>2|.i64=>3|.u8=>4|.u16=>5|.u32=>6|.u64=>7
theorem NM{a b:IntKind}(h:FK a=FK b):a=b:=by cases a<;>cases b<;>first|rfl | (simp[FK] at h)
def Ty.beq:Ty->Ty->Bool
 |.int k,.int k'=>Nat.beq (FK k) (FK k')
 |.bool,.bool=>true
 |.str,.str=>true
 |.nl,.nl=>true
 |.cons a b,.cons c d=>Ty.beq a c&&Ty.beq b d
 |.st a,.st b=>Ty.beq a b
 |.arr n a,.arr m b=>Nat.beq n m&&Ty.beq a b
 |.sl a,.sl b=>Ty.beq a b
 |.ptr a,.ptr b=>Ty.beq a b
 |_,_=>false
theorem Ty.eq_of_beq:∀{a b:Ty},Ty.beq a b->a=b:=by intro a;induction a with|int k=>intro b h;cases b<;>simp[Ty.beq] at h;rename_i k';have:=NM h;rw[this]|bool=>intro b h;cases b<;>simp[Ty.beq] at h;rfl|str=>intro b h;cases b<;>simp[Ty.beq] at h;rfl|nl=>intro b h;cases b<;>simp[Ty.beq] at h;rfl|cons x y j C=>intro b h;cases b<;>simp[Ty.beq] at h;rw[j h.1,C h.2]|st x j=>intro b h;cases b<;>simp[Ty.beq] at h;rw[j h]|arr n x j=>intro b h;cases b<;>simp[Ty.beq] at h;rw[h.1,j h.2]|sl x j=>intro b h;cases b<;>simp[Ty.beq] at h;rw[j h]|ptr x j=>intro b h;cases b<;>simp[Ty.beq] at h;rw[j h]
def Ty.cast {a:Ty}(b:Ty)(x:a.den):Option b.den:=
 match h:Ty.beq a b with
 |true=>some (Ty.eq_of_beq h ▸ x)
 |false=>none
def Ty.dflt:(τ:Ty)->τ.den
 |.int _=>(0:Int)|.bool=>false|.str=>([]:List UInt8)|.nl=>()|.cons h t=>(h.dflt,t.dflt)
 |.st f=>f.dflt|.arr n t=>replicate n t.dflt|.sl t=>([]:List t.den)|.ptr t=>t.dflt
def Ty.size:Ty->Nat
 |.int _=>1|.bool=>1|.str=>1|.nl=>0|.cons h t=>h.size+t.size
 |.st f=>f.size|.arr n t=>n*t.size|.sl _=>1|.ptr _=>1
def Ty.isAgg:Ty->Bool
 |.st _=>true|.arr _ _=>true|_=>false
def Ty.isL:Ty->Bool
 |.nl=>true|.cons _ _=>true|_=>false
def Ty.plain:Ty->Bool
 |.cons h t=>!h.isL&&h.plain&&t.isL&&t.plain
 |.st f=>f.isL&&f.plain
 |.arr _ t=>!t.isL&&t.plain
 |.sl t=>!t.isL&&t.plain
 |.ptr t=>!t.isL&&t.plain
 |_=>true
def Ty.hasSl:Ty->Bool
 |.sl _=>true|.cons h t=>h.hasSl||t.hasSl|.st f=>f.hasSl|_=>false
def Ty.fty:Ty->Nat->Ty
 |.cons h _,0=>h
 |.cons _ t,k+1=>t.fty k
 |_,_=>.nl
def Ty.fget:(f:Ty)->(k:Nat)->f.den->(f.fty k).den
 |.cons _ _,0,x=>x.1
 |.cons _ t,k+1,x=>t.fget k x.2
 |.int _,_,_=>()|.bool,_,_=>()|.str,_,_=>()|.nl,_,_=>()|.st _,_,_=>()|.arr _ _,_,_=>()|.sl _,_,_=>()|.ptr _,_,_=>()
def Ty.fset:(f:Ty)->(k:Nat)->(f.fty k).den->f.den->f.den
 |.cons _ _,0,y,x=>(y,x.2)
 |.cons _ t,k+1,y,x=>(x.1,t.fset k y x.2)
 |.int _,_,_,x=>x|.bool,_,_,x=>x|.str,_,_,x=>x|.nl,_,_,x=>x|.st _,_,_,x=>x|.arr _ _,_,_,x=>x|.sl _,_,_,x=>x|.ptr _,_,_,x=>x
def Ty.foff:Ty->Nat->Nat
 |.cons _ _,0=>0
 |.cons h t,k+1=>h.size+t.foff k
 |_,_=>0
def Ty.flen:Ty->Nat
 |.cons _ t=>t.flen+1
 |_=>0
def Ty.eqb:(τ:Ty)->τ.den->τ.den->Bool
 |.int _,x,y=>@BEq.beq Int _ x y
 |.bool,x,y=>@BEq.beq Bool _ x y
 |.str,x,y=>@BEq.beq (List UInt8) _ x y
 |.nl,_,_=>true
 |.cons h t,x,y=>h.eqb x.1 y.1&&t.eqb x.2 y.2
 |.st f,x,y=>f.eqb x y
 |.arr n t,x,y=>(range n).all λi=>t.eqb (getD (α:=t.den) x i t.dflt) (getD (α:=t.den) y i t.dflt)
 |.sl _,_,_=>false
 |.ptr _,_,_=>false
def Ty.cmp:Ty->Bool
 |.int _=>true|.bool=>true|.str=>true|.nl=>true|.cons h t=>h.cmp&&t.cmp|.st f=>f.cmp|.arr _ t=>t.cmp|.sl _=>false|.ptr _=>false
def Ty.noPtr:Ty->Bool
 |.ptr _=>false|.cons h t=>h.noPtr&&t.noPtr|.st f=>f.noPtr|.arr _ t=>t.noPtr|_=>true
def Ty.eqs:Ty->Bool
 |.bool=>true|.st _=>true|.arr _ _=>true|_=>false
def Ty.ht:Ty->Nat
 |.cons h t=>max h.ht t.ht|.st f=>f.ht+1|.arr _ t=>t.ht+1|_=>0
abbrev FD:=List (Nat ⊕ Int)
def Ty.pty:Ty->FD->Ty
 |τ,[]=>τ
 |.st f,.inl k::p=>(f.fty k).pty p
 |.arr _ t,.inr _::p=>t.pty p
 |_,_=>.nl
def Ty.poff:Ty->FD->Nat
 |_,[]=>0
 |.st f,.inl k::p=>f.foff k+(f.fty k).poff p
 |.arr _ t,.inr i::p=>i.toNat*t.size+t.poff p
 |_,_=>0
inductive AVal where
 |junk
 |val (τ:Ty) (x:τ.den)
 |opt (s:Nat) (want g:Bool) (A:AVal)
 |nil
 |nn (b:Bool)
 |own (t:Ty) (l:List t.den) (T:Nat) (m:Bool)
 |box (τ:Ty) (c:AVal)
 |ref (s:Nat) (τ:Ty) (p:FD)
 |eref (s:Nat) (T:Nat) (t:Ty) (i:Int) (p:FD)
 |nl
 |cons (h t:AVal)
 |agg (f:Ty) (c:AVal)
 |tup (c:AVal)
 |fn (f:Nat) (c:AVal)
 |raw
 |rref (s:Nat)
 |fptr (f:Nat) (caps:List (Option (Nat×Ty)))
 |ownh (t:Ty) (l:List (List t.den)) (T i U:Nat) (m:Bool)
abbrev St:=List (Nat×AVal)
def BQ:Nat:=1000000
def St.get:St->Nat->AVal
 |[],_=>.junk
 |(s,A)::r,n=>cond (Nat.beq s n) A (cond (Nat.beq s BQ) (.junk) (St.get r n))
def AVal.nth:AVal->Nat->AVal
 |.cons h _,0=>h
 |.cons _ t,k+1=>t.nth k
 |_,_=>.junk
def AVal.setNth:AVal->Nat->AVal->AVal
 |.cons _ t,0,B=>.cons B t
 |.cons h t,k+1,B=>.cons h (t.setNth k B)
 |A,_,_=>A
def zT6:Ty->AVal
 |.sl _=>.nil
 |.nl=>.nl
 |.cons h t=>.cons (zT6 h) (zT6 t)
 |.st f=>cond f.hasSl (.agg f (zT6 f)) (.val (.st f) f.dflt)
 |.int k=>.val (.int k) (0:Int)
 |.bool=>.val .bool false
 |.str=>.val .str ([]:List UInt8)
 |.arr n t=>.val (.arr n t) (Ty.dflt (.arr n t))
 |.ptr _=>.junk
def xU9:Value->AVal
 |.bool b=>.val .bool b
 |.int k n=>.val (.int k) n
 |.string s=>.val .str s.data.toList
 |.slice none 0 0=>.nil
 |_=>.junk
def l8:(f:Ty)->f.den->AVal
 |.cons h t,x=>.cons (.val h x.1) (l8 t x.2)
 |_,_=>.nl
def xZ:(τ:Ty)->Option τ.den
 |.sl _=>some []
 |_=>none
def wC7:(τ:Ty)->Option τ.den
 |.nl=>some ()
 |_=>none
def wD2 (g:(f:Ty)->Option f.den):(τ:Ty)->Option τ.den
 |.st f=>g f
 |_=>none
def l9 (g g':(f:Ty)->Option f.den):(τ:Ty)->Option τ.den
 |.cons h t=>match g h,g' t with|some x,some y=>some (x,y)|_,_=>none
 |_=>none
def AVal.asT:AVal->(τ:Ty)->Option τ.den
 |.val τ' x,τ=>cond τ'.isL none (Ty.cast τ x)
 |.nil,τ=>xZ τ
 |.own t l _ m,τ=>cond m none (Ty.cast (a:=.sl t) τ l)
 |.agg f c,τ=>cond (Ty.beq (.st f) τ) (wD2 (AVal.asT c) τ) none
 |.nl,τ=>wC7 τ
 |.cons a b,τ=>l9 (AVal.asT a) (AVal.asT b) τ
 |_,_=>none
def AVal.as (τ:Ty)(A:AVal):Option τ.den:=A.asT τ
def Ty.isSl:Ty->Bool
 |.sl _=>true|_=>false
def GV (g g':Ty->Bool):Ty->Bool
 |.cons h t=>g h&&g' t
 |_=>false
def AVal.fitsT:AVal->Ty->Bool
 |.val τ' _,τ=>Ty.beq τ' τ&&!τ'.isL
 |.nil,τ=>τ.isSl
 |.own t _ _ _,τ=>Ty.beq (.sl t) τ
 |.agg f c,τ=>Ty.beq (.st f) τ&&AVal.fitsT c f
 |.nl,τ=>Ty.beq .nl τ
 |.cons a b,τ=>GV (AVal.fitsT a) (AVal.fitsT b) τ
 |_,_=>false
def AVal.fits (τ:Ty)(A:AVal):Bool:=A.fitsT τ
def AVal.laxT:AVal->Ty->Bool
 |.val τ' _,τ=>Ty.beq τ' τ&&!τ'.isL
 |.nil,τ=>τ.isSl
 |.own t _ _ _,τ=>Ty.beq (.sl t) τ
 |.agg f c,τ=>Ty.beq (.st f) τ&&AVal.laxT c f
 |.nl,τ=>Ty.beq .nl τ
 |.cons a b,τ=>GV (AVal.laxT a) (AVal.laxT b) τ
 |.junk,τ=>τ.isSl
 |_,_=>false
def AVal.fld (k:Nat):AVal->AVal
 |.val (.st f) x=>.val (f.fty k) (f.fget k x)
 |.agg _ c=>c.nth k
 |_=>.junk
def AVal.ix (i:Int):AVal->AVal
 |.val (.arr _ t) l=>.val t (getD (α:=t.den) l i.toNat t.dflt)
 |_=>.junk
def AVal.at (c:AVal):FD->AVal
 |[]=>c
 |.inl k::p=>(c.fld k).at p
 |.inr i::p=>(c.ix i).at p
def AVal.put:FD->AVal->AVal->AVal
 |[],_,B=>B
 |.inl k::p,.agg f c,B=>.agg f (c.setNth k (AVal.put p (c.nth k) B))
 |.inl k::p,.val (.st f) x,B =>
  let C:=AVal.put p (.val (f.fty k) (f.fget k x)) B
  match AVal.as (f.fty k) C with
  |some y=>.val (.st f) (f.fset k y x)
  |none=>.agg f ((l8 f x).setNth k C)
 |.inr i::p,.val (.arr n t) l,B =>
  match AVal.as t (AVal.put p (.val t (getD (α:=t.den) l i.toNat t.dflt)) B) with
  |some y=>.val (.arr n t) (set (α:=t.den) l i.toNat y)
  |none=>.junk
 |_,_,_=>.junk
def AVal.hasTag (T:Nat):AVal->Bool
 |.own _ _ T' _=>Nat.beq T T'
 |.eref _ T' _ _ _=>Nat.beq T T'
 |.ownh _ _ T' _ U _=>Nat.beq T T'||Nat.beq T U
 |.opt _ _ _ A=>A.hasTag T
 |.box _ c=>c.hasTag T
 |.cons h t=>h.hasTag T||t.hasTag T
 |.agg _ c=>c.hasTag T
 |.tup c=>c.hasTag T
 |.fn _ c=>c.hasTag T
 |_=>false
def xV7 (s:Nat):Option (Nat×Ty)->Bool
 |some (k,_)=>Nat.beq s k
 |none=>false
def AVal.hasRef (s:Nat):AVal->Bool
 |.ref s' _ _=>Nat.beq s s'
 |.rref s'=>Nat.beq s s'
 |.fptr _ caps=>caps.any (xV7 s)
 |.opt _ _ _ A=>A.hasRef s
 |.box _ c=>c.hasRef s
 |.cons h t=>h.hasRef s||t.hasRef s
 |.agg _ c=>c.hasRef s
 |.tup c=>c.hasRef s
 |.fn _ c=>c.hasRef s
 |_=>false
def AVal.mapOwn (g:(t:Ty)->List t.den->Nat->Bool->AVal)(h:Nat->Nat->Ty->Int->FD->AVal):AVal->AVal
 |.own t l T m=>g t l T m
 |.eref s T t i p=>h s T t i p
 |.opt s w b A=>.opt s w b (A.mapOwn g h)
 |.box τ c=>cond ((c.mapOwn g h).laxT τ) (.box τ (c.mapOwn g h)) (.junk)
 |.cons x y=>.cons (x.mapOwn g h) (y.mapOwn g h)
 |.agg f c=>cond ((c.mapOwn g h).laxT f) (.agg f (c.mapOwn g h)) (.junk)
 |.tup c=>.tup (c.mapOwn g h)
 |.fn f c=>.fn f (c.mapOwn g h)
 |.ownh _ _ _ _ _ _=>.junk
 |A=>A
def AVal.retag (T U:Nat):AVal->AVal:=
 AVal.mapOwn (λt l T' m=>.own t l (cond (Nat.beq T T') U T') m) (λs T' t i p=>.eref s (cond (Nat.beq T T') U T') t i p)
def AVal.retagH (T U:Nat):AVal->AVal
 |.ownh t l T' i V m=>.ownh t l (cond (Nat.beq T T') U T') i (cond (Nat.beq T V) U V) m
 |A=>A.retag T U
def AVal.lose (T:Nat):AVal->AVal:=
 AVal.mapOwn (λt l T' m=>cond (Nat.beq T T') (cond m (.junk) (.val (.sl t) l)) (.own t l T' m)) (λs T' t i p=>cond (Nat.beq T T') (.junk) (.eref s T' t i p))
def AVal.gone (T:Nat):AVal->AVal:=
 AVal.mapOwn (λt l T' m=>cond (Nat.beq T T') (.junk) (.own t l T' m)) (λs T' t i p=>cond (Nat.beq T T') (.junk) (.eref s T' t i p))
def AVal.hung (d:Nat):AVal->Bool
 |.opt s _ _ A=>Nat.beq s d||A.hung d
 |.cons a b=>a.hung d||b.hung d
 |.tup c=>c.hung d
 |.fn _ c=>c.hung d
 |_=>false
def AVal.hasOpt:AVal->Bool
 |.opt _ _ _ _=>true
 |.cons a b=>a.hasOpt||b.hasOpt
 |.tup c=>c.hasOpt
 |.fn _ c=>c.hasOpt
 |_=>false
structure GTab where
 tab:List (Nat×(τ:Ty)×τ.den)
abbrev GlobTab:Type:=Inhabited GTab
def GlobTab.tab [i:GlobTab]:List (Nat×(τ:Ty)×τ.den):=(@default GTab i).tab
def Ty.nsl:Ty->Nat
 |.sl _=>1|.cons h t=>h.nsl+t.nsl|.st f=>f.nsl|_=>0
def AVal.pos:AVal->Ty->Nat->AVal
 |.own t l _ m,_,b=>.own t l b m
 |.agg f c,_,b=>.agg f (c.pos f b)
 |.cons x y,.cons h t,b=>.cons (x.pos h b) (y.pos t (b+h.nsl))
 |.cons _ _,_,_=>.junk
 |A,_,_=>A
def AVal.tags:AVal->Ty->Nat->List (Nat×Nat)
 |.own _ _ T _,_,b=>[(T,b)]
 |.agg f c,_,b=>c.tags f b
 |.cons x y,.cons h t,b=>x.tags h b++y.tags t (b+h.nsl)
 |_,_,_=>[]
def Ty.noMem:Ty->Bool
 |.sl _=>false|.ptr _=>false|.cons h t=>h.noMem&&t.noMem|.st f=>f.noMem|.arr _ t=>t.noMem|_=>true
def AVal.scal:AVal->Bool
 |.val τ _=>τ.noMem
 |.nil=>true
 |.own t _ _ _=>t.noMem
 |.tup c=>c.scal
 |.nl=>true
 |.cons a b=>a.scal&&b.scal
 |_=>false
def AVal.pureL:AVal->Bool
 |.nl=>true
 |.cons (.val _ _) t=>t.pureL
 |.cons .nil t=>t.pureL
 |.cons (.fn _ .nl) t=>t.pureL
 |_=>false
structure CallOut where
 ok:List Prop
 res:AVal
 outs:List (Nat×AVal)
 eats:List Nat
abbrev Spec:=List AVal->Option CallOut
structure Comp where
 kind:Nat
 g:Option Bool
 d:St
structure Out where
 ok:List Prop
 comps:List Comp
structure Ctx where
 tys:List (Nat×Ty)
 fns:List (Nat×Spec)
 loops:List (Nat×(St->Option Out))
 gh:List (Nat×List (Nat×Nat×Nat×Nat))
 wrap:Bool
 n:Nat
 keep:List Nat
 wr:List Nat
 wants:List (Nat×List Nat):=[]
 exts:List (Nat×(List AVal->Option (List Prop×AVal))):=[]
 maps:List (Nat×(Ty×Ty)):=[]
 fts:List Nat:=[]
 clones:List (Nat×Nat):=[]
def look {α:Type}(dflt:α):List (Nat×α)->Nat->α
 |[],_=>dflt
 |(k,a)::r,n=>cond (Nat.beq k n) a (look dflt r n)
def Ctx.ty (c:Ctx)(T:Nat):Ty:=look .nl c.tys T
def xZ0:Ty->Bool
 |.nl=>false|_=>true
def Ctx.is (c:Ctx)(T:Nat)(τ:Ty):Bool:=Ty.beq τ (c.ty T)&&xZ0 τ
def Ctx.mapTy (c:Ctx)(T:Nat):Option (Ty×Ty):=look none (c.maps.map λe=>(e.1,some e.2)) T
@[reducible] def xH (k v:Ty):Ty:=.cons k (.cons v .nl)
def FE (k v:Ty)(x:k.den):List (k.den×v.den×Unit)->Option v.den
 |[]=>none
 |e::r=>cond (k.eqb x e.1) (some e.2.1) (FE k v x r)
def Jx (k v:Ty)(x:k.den)(y:v.den):List (k.den×v.den×Unit)->List (k.den×v.den×Unit)
 |[]=>[(x,y,())]
 |e::r=>cond (k.eqb x e.1) ((x,y,())::r) (e::Jx k v x y r)
def A5 (r:Int):Prop:=-9223372036854775808<=r/\r<=9223372036854775807
def WV:List (Nat×(τ:Ty)×τ.den)->Nat->AVal
 |[],_=>.junk
 |(k,⟨τ,x⟩)::r,g=>cond (Nat.beq k g) (.val (.ptr τ) x) (WV r g)
def arg [GlobTab] (S:St):Operand->AVal
 |.tmp t=>match S.get t with|.box τ _=>.ref t τ []|.raw=>.rref t | A=>A
 |.const v=>xU9 v
 |.func f=>.fn f .nl
 |.global g=>WV GlobTab.tab g
def CA (S:St):AVal->AVal
 |.ref s _ _=>S.get s
 |.eref s _ _ _ _=>S.get s
 |.rref s=>S.get s
 |_=>.junk
def FL:Option Bool->Option Bool->Option Bool
 |none,g=>g
 |some a,none=>some a
 |some a,some b=>some (a&&b)
abbrev Gd:=Option (Nat×Bool×Bool)
def L1 (dsts:List (Option Nat))(S:St):Option (Nat×Bool)->Option Gd
 |none=>some none
 |some (j,want) =>
  match dsts[j]? with
  |some (some s)=>match S.get s with
   |.val .bool b=>some (some (s,want,cond want b (!b)))
   |.opt _ _ g (.val .bool b)=>some (some (s,want,g&&(cond want b (!b))))
   |_=>none
  |_=>none
def zF (gd:Gd):AVal->AVal
 |.opt s w _ A=>match gd with
  |some (s',w',_)=>cond (Nat.beq s s'&&(w==w')) A (.junk)
  |none=>.junk
 |A=>A
def WW:Operand->Option Int
 |.const (.int _ n)=>some n
 |_=>none
def xV8:IntKind->Bool
 |.i64=>true|_=>false
def Ki (wrap:Bool)(k:IntKind)(r:Int):List Prop×AVal:=
 cond (!wrap&&xV8 k) ([A5 r],.val (.int k) r) ([],.val (.int k) (k.wrap r))
def n5 (y:Operand)(b:Int):List Prop:=
 match WW y with
 |some n=>cond (n==0) [False] []
 |none=>[b≠0]
def n9 (y:Operand)(b:Int):List Prop:=
 match WW y with
 |some n=>cond (0<=n) [] [False]
 |none=>[0<=b]
def P8 (k:IntKind)(f:BitVec k.bits->BitVec k.bits->BitVec k.bits)(a b:Int):Int:=
 k.wrap ((f (BitVec.ofInt k.bits a) (BitVec.ofInt k.bits b)).toNat)
def xH1 (wrap:Bool)(op:BinOp)(k:IntKind)(a b:Int)(y:Operand):Option (List Prop×AVal):=
 match op with
 |.add=>some (Ki wrap k (a+b))
 |.sub=>some (Ki wrap k (a-b))
 |.mul=>some (Ki wrap k (a*b))
 |.quo=>some (n5 y b++(Ki wrap k (a.tdiv b)).1,(Ki wrap k (a.tdiv b)).2)
 |.rem=>some (n5 y b,.val (.int k) (a.tmod b))
 |.and=>some ([],.val (.int k) (P8 k (λx y=>x &&& y) a b))
 |.or=>some ([],.val (.int k) (P8 k (λx y=>x ||| y) a b))
 |.xor=>some ([],.val (.int k) (P8 k (λx y=>x ^^^ y) a b))
 |.andNot=>some ([],.val (.int k) (P8 k (λx y=>x &&& ~~~y) a b))
 |.eql=>some ([],.val .bool (a==b))
 |.neq=>some ([],.val .bool (a !=b))
 |.lss=>some ([],.val .bool (decide (a<b)))
 |.leq=>some ([],.val .bool (decide (a<=b)))
 |.gtr=>some ([],.val .bool (decide (a>b)))
 |.geq=>some ([],.val .bool (decide (a≥b)))
 |_=>none
def yK9 (wrap:Bool)(op:BinOp)(k:IntKind)(a b:Int)(y:Operand):Option (List Prop×AVal):=
 match op with
 |.shl=>some (n9 y b++(Ki wrap k (a*2 ^ (min b.toNat k.bits))).1,(Ki wrap k (a*2 ^ (min b.toNat k.bits))).2)
 |.shr=>some (n9 y b,.val (.int k) (a.fdiv (2 ^ (min b.toNat k.bits))))
 |_=>none
def yT0:BinOp->Bool
 |.shl=>true|.shr=>true|_=>false
def xH2 (op:BinOp)(a b:List UInt8):Option (List Prop×AVal):=
 match op with
 |.add=>some ([((a.length+b.length:Nat):Int)<=9223372036854775807],.val .str (a++b))
 |.eql=>some ([],.val .bool (a==b))
 |.neq=>some ([],.val .bool (!(a==b)))
 |.lss=>some ([],.val .bool (bytesLess a b))
 |.leq=>some ([],.val .bool (bytesLess a b||a==b))
 |.gtr=>some ([],.val .bool (!(bytesLess a b||a==b)))
 |.geq=>some ([],.val .bool (!(bytesLess a b)))
 |_=>none
def xV9 (op:BinOp)(τ:Ty)(x y:AVal):Option (List Prop×AVal):=
 match τ.cmp&&τ.eqs,AVal.as τ x,AVal.as τ y with
 |true,some a,some b =>
  match op with
  |.eql=>some ([],.val .bool (τ.eqb a b))
  |.neq=>some ([],.val .bool (!(τ.eqb a b)))
  |_=>none
 |_,_,_=>none
def NN (op:BinOp)(p:List Prop)(b:Bool):Option (List Prop×AVal):=
 match op with
 |.eql=>some (p,.val .bool b)
 |.neq=>some (p,.val .bool (!b))
 |_=>none
def xW (c:Ctx)(op:BinOp)(T:Nat)(x:AVal):Option (List Prop×AVal):=
 match c.ty T with
 |.sl _=>(match x with
  |.nil=>NN op [] true
  |.nn b=>NN op [] b
  |.val (.sl t) l=>NN op [0<length (α:=t.den) l] false
  |.own t l _ _=>cond t.isL none (NN op [0<l.length] false)
  |_=>none)
 |_=>none
def wC (c:Ctx)(op:BinOp)(T:Nat)(x y:AVal)(oy:Operand):Option (List Prop×AVal):=
 match x,y with
 |.val (.int k) a,.val (.int k') b =>
  bif yT0 op then yK9 c.wrap op k a b oy
  else cond (Nat.beq (FK k) (FK k')) (xH1 c.wrap op k a b oy) none
 |.val .str a,.val .str b=>xH2 op a b
 |x,.nil=>xW c op T x
 |x,y=>xV9 op (c.ty T) x y
def unA (c:Ctx)(op:UnOp)(x:AVal):Option (List Prop×AVal):=
 match op,x with
 |.not,.val .bool b=>some ([],.val .bool (!b))
 |.neg,.val (.int k) n=>some (Ki c.wrap k (Int.sub 0 n))
 |.xor,.val (.int k) n=>some ([],.val (.int k) (P8 k (λx y=>x ^^^ y) (if k.signed then -1 else k.max) n))
 |_,_=>none
def xW0 (c:Ctx)(src dst:Nat)(x:AVal):Option (List Prop×AVal):=
 match c.ty src,c.ty dst,x with
 |.int _,.int k,.val (.int _) n=>some ([],.val (.int k) (k.wrap n))
 |.str,.str,.val .str s=>some ([],.val .str s)
 |_,_,_=>none
def Jy (ix:Operand)(i:Int)(n:Int):List Prop:=
 match WW ix with
 |some _=>[0<=i/\i<n]
 |none=>[0<=i/\i<n]
def o6 (c:Ctx)(T:Nat)(x:AVal)(s:Nat)(i:AVal)(ix:Operand):Option (List Prop×AVal):=
 match x,i with
 |.val (.sl t) l,.val (.int _) i=>cond (c.is T (.sl t)) (some (Jy ix i (length (α:=t.den) l:Int),.val (.ptr t) (getD (α:=t.den) l i.toNat t.dflt))) none
 |.own t l U m,.val (.int _) i =>
  bif c.is T (.sl t) then
   (bif m then some (Jy ix i (l.length:Int),.eref s U t i [])
    else some (Jy ix i (l.length:Int),.val (.ptr t) (getD (α:=t.den) l i.toNat t.dflt))) else none
 |.ownh t l U _ V m,.val (.int _) i=>cond (c.is T (.sl (.sl t))&&(m||!(Nat.beq U V))) (some (Jy ix i (length (α:=List t.den) l:Int),.eref s U (.sl t) i [])) none
 |.val (.ptr (.arr n t)) l,.val (.int _) i=>cond (c.is T (.arr n t)) (some (Jy ix i (n:Int),.val (.ptr t) (getD (α:=t.den) l i.toNat t.dflt))) none
 |.ref s τ p,.val (.int _) i =>
  match τ.pty p with
  |.arr n t=>cond (c.is T (.arr n t)) (some (Jy ix i (n:Int),.ref s τ (p++[.inr i]))) none
  |_=>none
 |.eref s U t j p,.val (.int _) i =>
  match t.pty p with
  |.arr n t'=>cond (c.is T (.arr n t')) (some (Jy ix i (n:Int),.eref s U t j (p++[.inr i]))) none
  |_=>none
 |_,_=>none
def xH3 (c:Ctx)(T:Nat)(x i:AVal)(ix:Operand):Option (List Prop×AVal):=
 match x,i with
 |.val .str s,.val (.int _) i=>cond (c.is T .str) (some (Jy ix i (length (α:=UInt8) s:Int),.val (.int .u8) ((getD (α:=UInt8) s i.toNat 0).toNat:Int))) none
 |.val (.arr n t) l,.val (.int _) i=>cond (c.is T (.arr n t)) (some (Jy ix i (n:Int),.val t (getD (α:=t.den) l i.toNat t.dflt))) none
 |_,_=>none
def NO (c:Ctx)(T:Nat)(x:AVal)(k:Nat):Option (List Prop×AVal):=
 match x with
 |.val (.ptr (.st f)) v=>cond (c.is T (.st f)&&blt k f.flen&&blt 0 (f.fty k).size) (some ([],.val (.ptr (f.fty k)) (f.fget k v))) none
 |.ref s τ p =>
  match τ.pty p with
  |.st f=>cond (c.is T (.st f)&&blt k f.flen&&blt 0 (f.fty k).size) (some ([],.ref s τ (p++[.inl k]))) none
  |_=>none
 |.eref s U t i p =>
  match t.pty p with
  |.st f=>cond (c.is T (.st f)&&blt k f.flen&&blt 0 (f.fty k).size) (some ([],.eref s U t i (p++[.inl k]))) none
  |_=>none
 |_=>none
def xH4 (c:Ctx)(T:Nat)(x:AVal)(k:Nat):Option (List Prop×AVal):=
 match x with
 |.val (.st f) v=>cond (c.is T (.st f)&&blt k f.flen) (some ([],.val (f.fty k) (f.fget k v))) none
 |.agg f a=>cond (c.is T (.st f)&&blt k f.flen) (some ([],a.nth k)) none
 |_=>none
def xY (f:Nat)(caps:List (Option (Nat×Ty))):List (Option (Nat×Ty))->AVal
 |[]=>.nl
 |some (k,τ)::r=>.cons (.ref k τ []) (xY f caps r)
 |none::r=>.cons (.fptr f caps) (xY f caps r)
def L2 (s:Nat):AVal->Option (List (Option (Nat×Ty)))
 |.nl=>some []
 |.cons (.ref k τ []) t=>(match L2 s t with|some r=>some (some (k,τ)::r)|none=>none)
 |.cons (.rref s') t=>cond (Nat.beq s s') (match L2 s t with|some r=>some (none::r)|none=>none) none
 |_=>none
def yL (c:Ctx)(T:Nat)(x cont:AVal):Option (List Prop×AVal):=
 match x with
 |.fptr f caps=>cond (c.fts.any (Nat.beq T)) (some ([],.fn f (xY f caps caps))) none
 |.val (.ptr t) v=>cond (c.is T t) (some ([],.val t v)) none
 |.ref _ τ p =>
  match cont with
  |.box τ' k=>cond (Ty.beq τ' τ&&c.is T (τ.pty p)&&AVal.fits (τ.pty p) (k.at p)) (some ([],k.at p)) none
  |_=>none
 |.eref _ U t i p =>
  match cont with
  |.ownh t' l U' j V m=>cond (Ty.beq (.sl t') t&&Nat.beq U' U&&c.is T (.sl t')&&p.isEmpty&&!(Nat.beq U' V)) (some ([i.toNat=j/\i<(length (α:=List t'.den) l:Int)],.own t' (getD (α:=List t'.den) l j []) V m)) none
  |.own t' l U' _=>cond (Ty.beq t' t&&Nat.beq U' U&&c.is T (t.pty p)&&AVal.fits (t.pty p) ((AVal.val t' (getD (α:=t'.den) l i.toNat t'.dflt)).at p)) (some ([i<(l.length:Int)],(AVal.val t' (getD (α:=t'.den) l i.toNat t'.dflt)).at p)) none
  |_=>none
 |_=>none
def xH5 (c:Ctx)(T:Nat)(x cont v:AVal):Option (Nat×AVal):=
 match x with
 |.ref s τ p =>
  match cont with
  |.box τ' k =>
   cond (Ty.beq τ' τ&&c.is T (τ.pty p)&&AVal.fits (τ.pty p) v&&AVal.laxT (k.at p) (τ.pty p)&&AVal.laxT (AVal.put p k v) τ) (some (s,.box τ (AVal.put p k v))) none
  |_=>none
 |_=>none
def o7 (parts:List (Nat×AVal))(z:AVal):AVal:=parts.foldl (λa q=>a.setNth q.1 q.2) z
def SN (t:Ty):List (Nat×AVal)->List t.den->Option (List t.den)
 |[],l=>some l
 |(k,A)::r,l=>match AVal.as t A with|some x=>SN t r (l.set k x)|none=>none
def WX (f:Ty)(parts:List (Nat×AVal)):Bool:=parts.all λq=>blt q.1 f.flen&&AVal.fits (f.fty q.1) q.2
def xH6 (c:Ctx)(T:Nat)(parts:List (Nat×AVal)):Option (List Prop×AVal):=
 match c.ty T with
 |.st f =>
  bif WX f parts&&f.noPtr then
   (bif f.hasSl then some ([],.agg f (o7 parts (zT6 f)))
    else match AVal.as f (o7 parts (zT6 f)) with|some x=>some ([],.val (.st f) x)|none=>none)
  else none
 |.arr n t=>cond (parts.all (λq=>blt q.1 n)&&t.noPtr) (match SN t parts (replicate n t.dflt) with|some l=>some ([],.val (.arr n t) l)|none=>none) none
 |_=>none
def o8 (c:Ctx)(T len dst:Nat)(parts:List (Nat×AVal)):Option (List Prop×AVal):=
 match parts with
 |[(0,.nil)]=>bif c.wr.any (Nat.beq dst)&&Nat.beq len 1 then
   (match c.ty T with
    |.sl (.sl s)=>cond (!s.isL) (some ([],.ownh s [[]] dst 0 (100000+dst) true)) none
    |_=>none) else none
 |_=>none
def yD2 (c:Ctx)(T len dst:Nat)(parts:List (Nat×AVal)):Option (List Prop×AVal):=
 match c.ty T with
 |.sl t=>cond (parts.all (λq=>blt q.1 len)&&ble (len*t.size) 16777216&&blt 0 t.size&&t.noPtr) (match SN t parts (replicate len t.dflt) with|some l=>some ([],.own t l dst true)|none=>none) none
 |_=>none
def wC0 (c:Ctx)(Ts:List Nat)(x:AVal):Option (List Prop×AVal):=
 match Ts with
 |T::_ =>
  (match x with
   |.val .str s=>cond (c.is T .str) (some ([],.val (.int .i64) (length (α:=UInt8) s:Int))) none
   |.val (.sl t) l=>cond (c.is T (.sl t)) (some ([],.val (.int .i64) (length (α:=t.den) l:Int))) none
   |.own t l _ _=>cond (c.is T (.sl t)) (some ([],.val (.int .i64) (l.length:Int))) none
   |.ownh t l U _ V _=>cond (c.is T (.sl (.sl t))&&!(Nat.beq U V)) (some ([],.val (.int .i64) (length (α:=List t.den) l:Int))) none
   |.nil=>cond (c.is T (c.ty T)&&(c.ty T).isSl) (some ([],.val (.int .i64) (0:Int))) none
   |_=>none)
 |[]=>none
def I0:Option AVal->Option (Option Int)
 |none=>some none
 |some (.val (.int _) n)=>some (some n)
 |some _=>none
def yO {α:Type}(l:List α)(lo hi:Option Int):List Prop×List α:=
 match lo,hi with
 |none,none=>([],l)
 |none,some h=>([0<=h/\h<=(l.length:Int)],l.take h.toNat)
 |some a,none=>([0<=a/\a<=(l.length:Int)],l.drop a.toNat)
 |some a,some h=>([0<=a/\a<=h/\h<=(l.length:Int)],(l.take h.toNat).drop a.toNat)
def xH7 (c:Ctx)(T:Nat)(x:AVal)(lo hi:Option AVal):Option (List Prop×AVal):=
 match I0 lo,I0 hi with
 |some a,some b =>
  match x with
  |.val .str s=>cond (c.is T .str) (some ((yO (α:=UInt8) s a b).1,.val .str (yO (α:=UInt8) s a b).2)) none
  |.val (.sl t) l=>cond (c.is T (.sl t)) (some ((yO (α:=t.den) l a b).1,.val (.sl t) (yO (α:=t.den) l a b).2)) none
  |.own t l U m=>cond (c.is T (.sl t)) (some ((yO l a b).1,cond m (.ownh t [(yO l a b).2] U 0 U false) (.val (.sl t) (yO l a b).2))) none
  |_=>none
 |_,_=>none
def xZ1 (n m:Int):List Prop:=[0<=n/\n<=m/\m<=4294967296]
def yY8 (c:Ctx)(T dst:Nat)(n m:AVal):Option (List Prop×AVal):=
 match c.ty T,n,m with
 |.sl t,.val (.int _) n,.val (.int _) m=>cond (blt 0 t.size&&t.noPtr) (some (xZ1 n m,.own t (replicate (Int.toNat n) t.dflt) dst true)) none
 |_,_,_=>none
def yT1 (c:Ctx)(T:Nat)(x y:AVal)(ok:Bool):Option (List Prop×AVal):=
 match c.mapTy T with
 |some (k,v) =>
  match x with
  |.own t l _ _ =>
   match Ty.cast (a:=.sl t) (.sl (xH k v)) l,AVal.as k y with
   |some m,some q=>cond ok (some ([],.tup (.cons (.val v ((FE k v q m).getD v.dflt)) (.cons (.val .bool (FE k v q m).isSome) .nl)))) (some ([],.val v ((FE k v q m).getD v.dflt)))
   |_,_=>none
  |_=>none
 |none=>none
def xV (c:Ctx)(T dst:Nat):Option (List Prop×AVal):=
 match c.mapTy T with
 |some (k,v)=>some ([],.own (xH k v) [] dst true)
 |none=>none
def GW (x y:Int):Int:=if y>x then y else x
def GX (x y:Int):Int:=if y<x then y else x
def NP (f:Int->Int->Int):AVal->List AVal->Option AVal
 |A,[]=>some A
 |.val (.int k) x,.val (.int k') y::r=>cond (Nat.beq (FK k) (FK k')) (NP f (.val (.int k) (f x y)) r) none
 |_,_=>none
def WY:AVal->Bool
 |.val (.int _) _=>true|_=>false
def WZ (f:Int->Int->Int):List AVal->Option (List Prop×AVal)
 |A::r=>cond (WY A) (match NP f A r with|some B=>some ([],B)|none=>none) none
 |[]=>none
def AVal.clen:AVal->Nat
 |.cons _ t=>t.clen+1
 |_=>0
def yL0 (x:AVal)(k:Nat):Option (List Prop×AVal):=
 match x with
 |.tup a=>cond (blt k a.clen) (some ([],a.nth k)) none
 |_=>none
def DK:Op->List Operand
 |.move x=>[x]|.assign x=>[x]|.box _ x=>[x]|.load _ a=>[a]|.store _ a v=>[a,v]|.nilCheck x=>[x]
 |.pick x a b=>[x,a,b]
 |.binOp _ _ x y _=>[x,y]|.unOp _ _ x=>[x]|.convert _ _ x=>[x]
 |.build _ ps=>ps.toList.map (·.2)|.buildSlice _ _ ps=>ps.toList.map (·.2)
 |.makeSlice _ a b=>[a,b]
 |.slice _ x lo hi mx=>x::(lo.toList++(hi.toList++mx.toList))
 |.fieldAddr _ x _=>[x]|.field _ x _=>[x]|.indexAddr _ x i=>[x,i]|.index _ x i=>[x,i]|.extract t _=>[t]
 |.makeFunc _ _ cs=>cs.toList
 |.lookup _ x i _=>[x,i]
 |.mapUpdate _ m k v=>[m,k,v]
 |.call { callee:=.value f,args,.. }=>f::args.toList
 |.call { callee:=.builtin _,args,.. }=>args.toList
 |_=>[]
def AVal.toL:AVal->List AVal
 |.cons h t=>h::t.toL
 |_=>[]
def AVal.ofL:List AVal->AVal
 |[]=>.nl
 |A::r=>.cons A (AVal.ofL r)
def Xa:Op->List AVal->List AVal
 |.call { callee:=.value _,.. },.fn _ cs::r=>r++cs.toL
 |_,xs=>xs
def NQ:List Operand->List Nat
 |[]=>[]
 |.tmp t::r=>t::NQ r
 |_::r=>NQ r
def xZ4:Operand->Nat
 |.tmp t=>t|_=>0
def Gy (ps:List (Nat×Operand))(xs:List AVal):List (Nat×AVal):=zipWith (λp A=>(p.1,A)) ps xs
def FM:List AVal->List Nat
 |[]=>[]
 |.ref s _ _::r=>s::FM r
 |.eref s _ _ _ _::r=>s::FM r
 |.rref s::r=>s::FM r
 |_::r=>FM r
def Eo:AVal->AVal->AVal
 |.ref _ τ [],.box τ' k=>cond (Ty.beq τ' τ) (match AVal.as τ k with|some x=>.box τ (.val τ x)|none=>.junk) (.junk)
 |.val τ x,_=>.val τ x
 |.nil,_=>.nil
 |.own t l _ m,_=>cond m (.junk) (.val (.sl t) l)
 |.agg f a,_=>match AVal.as (.st f) (.agg f a) with|some x=>.val (.st f) x|none=>.junk
 |.fn f cs,_=>cond cs.pureL (.fn f cs) (.junk)
 |_,_=>.junk
def Fs:AVal->Bool
 |.box _ _=>true|_=>false
def Mk (outs:List (Nat×AVal)):Nat->List AVal->Bool
 |_,[]=>true
 |i,A::r=>(!(Fs A)||outs.any (λe=>Nat.beq e.1 i))&&Mk outs (i+1) r
def EL:AVal->Bool
 |.junk=>true|.val _ _=>true|.nil=>true|.own _ _ T _=>blt T 4|.agg _ c=>EL c|.nl=>true|.cons a b=>EL a&&EL b|.tup c=>EL c
 |_=>false
def I1:AVal->Bool
 |.nl=>true|.cons _ t=>I1 t|_=>false
def Ml:List AVal->Bool
 |[]=>true
 |.ref s _ _::r=>!((FM r).any (Nat.beq s))&&Ml r
 |_::r=>Ml r
def P9 (fns:List (Nat×Spec))(f:Nat)(args:List AVal):Option CallOut:=
 match fns with
 |[]=>none
 |(g,sp)::r=>cond (Nat.beq g f) (match sp args with|some o=>some o|none=>P9 r f args) (P9 r f args)
def AVal.tagTo (d:Nat):AVal->AVal
 |.own t l T m=>.own t l (T*100000+d) m
 |.cons h t=>.cons (h.tagTo d) (t.tagTo d)
 |.agg f c=>.agg f (c.tagTo d)
 |.tup c=>.tup (c.tagTo d)
 |A=>A
def SO:AVal->Bool
 |.val _ _=>true|_=>false
def SP (ys args:List AVal):List (Nat×AVal)->Option St
 |[]=>some []
 |(i,k)::r =>
  match ys[i]?,args[i]?,SP ys args r with
  |some (.ref s τ []),some (.box τ' _),some u=>cond (Ty.beq τ' τ&&AVal.fits τ k&&SO k) (some ((s,.box τ k)::u)) none
  |_,_,_=>none
def Kj:List AVal->List AVal->Bool
 |.ref _ _ []::r,A::l=>Fs A&&Kj r l
 |_::r,_::l=>Kj r l
 |_,_=>true
def Hp:Option Operand->List AVal->Option AVal×List AVal
 |none,xs=>(none,xs)
 |some _,A::r=>(some A,r)
 |some _,[]=>(some .junk,[])
def Ii (c:Ctx)(d:Nat)(op:Op)(xs ks:List AVal):Option (List Prop×AVal):=
 match op,xs,ks with
 |.move _,[A],_=>some ([],A)
 |.assign _,[A],_=>some ([],A)
 |.box T _,[A],_=>cond (c.is T (c.ty T)&&AVal.fits (c.ty T) A) (some ([],.box (c.ty T) A)) none
 |.alloc T,[],_=>cond (c.fts.any (Nat.beq T)) (some ([],.raw)) (cond (c.is T (c.ty T)&&(c.ty T).noPtr) (some ([],.box (c.ty T) (zT6 (c.ty T)))) none)
 |.load T _,[A],[k]=>yL c T A k
 |.nilCheck _,[A],_=>match A with|.val (.ptr _) _=>some ([],A)|.ref _ _ _=>some ([],A)|.eref _ _ _ _ _=>some ([],A)|.fn _ _=>some ([],A)|_=>none
 |.binOp o T _ y _,[A,B],_=>wC c o T A B y
 |.unOp o _ _,[A],_=>unA c o A
 |.convert s t _,[A],_=>xW0 c s t A
 |.build T ps,xs,_=>xH6 c T (Gy ps.toList xs)
 |.buildSlice T n ps,xs,_=>(match o8 c T n d (Gy ps.toList xs) with|some r=>some r|none=>yD2 c T n d (Gy ps.toList xs))
 |.makeSlice T _ _,[A,B],_=>yY8 c T d A B
 |.slice T _ lo hi none,A::r,_=>xH7 c T A (Hp lo r).1 (Hp hi (Hp lo r).2).1
 |.fieldAddr T _ k,[A],_=>NO c T A k
 |.field T _ k,[A],_=>xH4 c T A k
 |.indexAddr T x i,[A,B],_=>o6 c T A (xZ4 x) B i
 |.index T _ i,[A,B],_=>xH3 c T A B i
 |.extract _ k,[A],_=>yL0 A k
 |.lookup T _ _ ok,[A,B],_=>yT1 c T A B ok
 |.makeMap T none,[],_=>xV c T d
 |.makeFunc (.func f) fs _,cs,_=>match fs.toList with | []=>some ([],.fn f (AVal.ofL cs))|_=>none
 |.call { callee:=.builtin .len,argTypes,.. },[A],_=>wC0 c argTypes.toList A
 |.call { callee:=.builtin .max,.. },xs,_=>WZ GW xs
 |.call { callee:=.builtin .min,.. },xs,_=>WZ GX xs
 |_,_,_=>none
def xZ5:AVal->Bool
 |.box _ _=>true
 |.own _ _ _ _=>true
 |.ownh _ _ _ _ _ _=>true
 |.raw=>true
 |_=>false
def CZ (T:Nat)(h:AVal->AVal)(S:St):St->St
 |[]=>[]
 |(s,_)::r=>cond ((S.get s).hasTag T) ((s,h (S.get s))::CZ T h S r) (CZ T h S r)
def C3 (T:Nat)(S:St):Bool:=S.all λe=>!(e.2.hasTag T)
def Hq (s:Nat)(S:St):Bool:=S.all λe=>!(e.2.hasRef s)
def SQ (T:Nat)(S:St):Bool:=S.all λe=>!((S.get e.1).hasTag T)
def AVal.setEl0 (T:Nat)(t:Ty)(i:Nat)(y:t.den):AVal->AVal:=
 AVal.mapOwn (λt' l T' m=>cond (Nat.beq T T') (match Ty.cast t' y with|some y'=>cond m (.own t' (l.set i y') T' m) (.junk)|none=>.junk) (.own t' l T' m)) (λs T' t i p=>.eref s T' t i p)
def AVal.setEl (T:Nat)(t:Ty)(i:Nat)(y:t.den):AVal->AVal
 |.ownh t' l T' j U m=>cond (Nat.beq T U&&m&&!(Nat.beq T' U)) (match Ty.cast t' y with|some y'=>.ownh t' (set (α:=List t'.den) l j ((getD (α:=List t'.den) l j []).set i y')) T' j U m|none=>.junk) (.junk)
 |A=>A.setEl0 T t i y
def AVal.setHole (T:Nat)(s:Ty)(i:Nat)(x:List s.den)(V:Nat)(m:Bool):AVal->AVal:=
 AVal.mapOwn (λt0 l0 T0 m0=>cond (Nat.beq T T0) (match Ty.cast (a:=.sl t0) (.sl (.sl s)) l0 with|some l1=>cond m0 (.ownh s (set (α:=List s.den) l1 i x) T i V m) (.junk)|none=>.junk) (.own t0 l0 T0 m0)) (λs T' t i p=>.eref s T' t i p)
def o9 (t:Ty):AVal->Option (List t.den)
 |.own t' l _ _=>Ty.cast (a:=.sl t') (.sl t) l
 |.nn _=>some []
 |B=>AVal.as (.sl t) B
def xH8 (c:Ctx)(T d:Nat)(A B:AVal):Option (List Prop×AVal×Option Nat):=
 match c.ty T with
 |.sl t =>
  bif !(blt 0 t.size) then none else
  match o9 t B with
  |some l2 =>
   match A with
   |.nil=>some ([(l2.length:Int)<=4294967296],.own t l2 d true,none)
   |.own t' l U m=>match Ty.cast (a:=.sl t') (.sl t) l with
    |some l1=>some ([((length (α:=t.den) l1+l2.length:Nat):Int)<=4294967296],.own t (append (α:=t.den) l1 l2) d m,some U)
    |none=>none
   |_=>none
  |none=>none
 |_=>none
def SR (gd:Gd)(sc:Operand)(want:Bool):AVal->AVal
 |.opt s w g A=>match sc with
  |.tmp c=>cond (Nat.beq s c&&(w==want)) A (zF gd (.opt s w g A))
  |_=>zF gd (.opt s w g A)
 |A=>A
def EH (gd:Gd)(A:AVal):AVal:=
 match gd with
 |none=>A
 |some (s,w,g)=>.opt s w g A
def NR (gd:Gd)(l:List Prop):List Prop:=
 match gd with
 |none=>l
 |some (_,_,g)=>l.map λp=>g->p
def xW1:AVal->Bool
 |.own _ _ _ m=>m|_=>false
def yD3 (c:Ctx)(T U:Nat)(t:Ty)(i:Int)(p:FD)(t':Ty)(n:Nat)(U':Nat)(v:AVal)(S:St):Option (List Prop×St×Bool):=
 match v with
 |.own s x V m=>bif Ty.beq t' t&&Ty.beq (.sl s) t'&&Nat.beq U' U&&c.is T (.sl s)&&p.isEmpty&&!(Nat.beq V U)&&!s.isL then
   some ([i<(n:Int)],CZ U (AVal.setHole U s i.toNat x V m) S S,true) else none
 |_=>none
def AVal.fill (U:Nat)(t:Ty)(i:Nat)(x:List t.den)(V:Nat)(m:Bool):AVal->AVal
 |.ownh t' l T' j U' true=>cond (Nat.beq T' U&&Nat.beq U' U) (match Ty.cast (a:=.sl t) (.sl t') x with|some x'=>.ownh t' (set (α:=List t'.den) l i x') U i V m|none=>.junk) (.junk)
 |A=>A.gone U
def Mm (c:Ctx)(U:Nat)(t:Ty)(i:Nat)(x:List t.den)(V:Nat)(m:Bool)(s0:Nat)(S:St):St->St
 |[]=>[]
 |(s,_)::r=>cond ((S.get s).hasTag U) ((s,cond (Nat.beq s s0||c.wr.any (Nat.beq s)) ((S.get s).fill U t i x V m) ((S.get s).gone U))::Mm c U t i x V m s0 S r) (Mm c U t i x V m s0 S r)
def Xb (U:Nat)(i:Int):AVal->List Prop
 |.ownh t l T j U' true=>cond (Nat.beq T U&&Nat.beq U' U) [i.toNat=j/\i<(length (α:=List t.den) l:Int)] []
 |_=>[]
def p7 (U:Nat)(i:Int)(s0:Nat)(S:St):List Nat->List Prop
 |[]=>[]
 |s::r=>(cond (Nat.beq s s0) [] (Xb U i (S.get s)))++p7 U i s0 S r
def yD4 (c:Ctx)(T s U:Nat)(t:Ty)(i:Int)(p:FD)(t':Ty)(l:List (List t'.den))(U' j U2:Nat)(v:AVal)(S:St):Option (List Prop×St×Bool):=
 match v with
 |.own s' x V m=>bif Ty.beq (.sl t') t&&Nat.beq U' U2&&Nat.beq U' U&&c.is T (.sl t')&&p.isEmpty&&!(Nat.beq V U)&&!t'.isL then
   (match Ty.cast (a:=.sl s') (.sl t') x with
    |some x'=>some ((i.toNat=j/\i<(length (α:=List t'.den) l:Int))::p7 U i s S c.wr,Mm c U t' i.toNat x' V m s S S,true)
    |none=>none) else none
 |_=>none
def p8 (c:Ctx)(T:Nat)(A k v:AVal)(S:St):Option (List Prop×St×Bool):=
 match A with
 |.eref s U t i p=>match k with
  |.ownh t' l U' j U2 true=>yD4 c T s U t i p t' l U' j U2 v S
  |.own t' l U' true=>bif xW1 v then yD3 c T U t i p t' l.length U' v S else bif Ty.beq t' t&&Nat.beq U' U&&c.is T (t'.pty p)&&AVal.fits (t'.pty p) v then
    (match AVal.as t' (AVal.put p (.val t' (getD (α:=t'.den) l i.toNat t'.dflt)) v) with
     |some y=>some ([i<(l.length:Int)],CZ U (AVal.setEl U t' i.toNat y) S S,true)
     |none=>none) else none
  |_=>none
 |.rref s=>(match k,v with
  |.raw,.fn f cs=>cond (c.fts.any (Nat.beq T)) (match L2 s cs with|some caps=>some ([],[(s,.fptr f caps)],false)|none=>none) none
  |_,_=>none)
 |A=>match xH5 c T A k v with|some u=>some ([],[u],false)|none=>none
def AVal.setMap (T:Nat)(k v:Ty)(x:k.den)(y:v.den):AVal->AVal:=
 AVal.mapOwn (λt' l T' m=>cond (Nat.beq T T') (match Ty.cast (a:=.sl t') (.sl (xH k v)) l with|some l'=>.own (xH k v) (Jx k v x y l') T' m|none=>.junk) (.own t' l T' m)) (λs T' t i p=>.eref s T' t i p)
def p9 (c:Ctx)(T:Nat)(A B C:AVal)(S:St):Option (List Prop×St×Bool):=
 match c.mapTy T with
 |some (k,v) =>
  match A with
  |.own t l U _ =>
   match Ty.cast (a:=.sl t) (.sl (xH k v)) l,AVal.as k B,AVal.as v C with
   |some _,some x,some y=>some ([],CZ U (AVal.setMap U k v x y) S S,true)
   |_,_,_=>none
  |_=>none
 |none=>none
def xH9 (c:Ctx)(T d:Nat)(A B:AVal):Option (List Prop×AVal×Nat):=
 match B with
 |.ownh s [[]] T' 0 V m =>
  (match A with
   |.own t' l U true=>bif c.is T (.sl (.sl s))&&!(Nat.beq V U)&&!(Nat.beq T' V)&&!(Nat.beq V d) then
    (match Ty.cast (a:=.sl t') (.sl (.sl s)) l with
     |some l1=>some ([((length (α:=List s.den) l1+1:Nat):Int)<=4294967296],.ownh s (append (α:=List s.den) l1 [[]]) d (length (α:=List s.den) l1) V m,U)
     |none=>none) else none
   |_=>none)
 |_=>none
def Xc (c:Ctx)(d T:Nat)(A B:AVal)(S:St):Option (List Prop×St×Bool):=
 bif C3 d S then
  (match xH9 c T d A B with
   |some (p,R,U)=>some (p,(d,R)::CZ U (AVal.lose U) S S,true)
   |none=>(match xH8 c T d A B with
    |some (p,R,some U)=>some (p,(d,R)::CZ U (AVal.lose U) S S,true)
    |some (p,R,none)=>some (p,[(d,R)],true)
    |none=>none)) else none
def Kk (c:Ctx)(gd:Gd)(dst:Option Nat)(f:Nat)(ys ks:List AVal)(S:St):Option (List Prop×St×Bool):=
 match P9 c.fns f (zipWith Eo ys ks) with
 |none=>none
 |some co=>bif !(Mk co.outs 0 (zipWith Eo ys ks)&&EL co.res&&Ml ys&&Kj ys (zipWith Eo ys ks)) then none else match SP ys (zipWith Eo ys ks) co.outs,co.eats with
  |some u,[] =>
   (match gd with
    |none=>(match dst with
     |none=>some (co.ok,u,false)
     |some d=>cond (C3 d S&&C3 (100000+d) S&&C3 (200000+d) S&&C3 (300000+d) S) (some (co.ok,(d,co.res.tagTo d)::u,false)) none)
    |some _=>(match dst,u,co.res with
     |some d,[],.val τ x=>some (NR gd co.ok,[(d,EH gd (.val τ x))],false)
     |_,_,_=>none))
  |_,_=>none
def Jz:List Nat->Bool
 |[]=>true
 |a::r=>!(r.any (Nat.beq a))&&Jz r
def GY (i:Nat):Nat:=400000+100*i
def Hr (i:Nat):AVal->List (Nat×Nat)
 |.ref s _ []=>[(s,i)]
 |_=>[]
def J0:Nat->List AVal->List (Nat×Nat)
 |i,Y::r=>Hr i Y++J0 (i+1) r
 |_,[]=>[]
def r0:List (Nat×Nat)->Nat->Option Nat
 |[],_=>none
 |(s,i)::r,k=>cond (Nat.beq s k) (some i) (r0 r k)
def PA (HB:List (Nat×Nat)):List (Option (Nat×Ty))->Option (List (Option (Nat×Ty)))
 |[]=>some []
 |none::r=>(match PA HB r with|some l=>some (none::l)|none=>none)
 |some (k,τ)::r=>(match r0 HB k,PA HB r with|some i,some l=>some (some (i,τ)::l)|_,_=>none)
def ET (HB:List (Nat×Nat))(wants:List Nat)(i:Nat):AVal->AVal->AVal
 |.ref _ τ [],.box τ' k=>cond (Ty.beq τ' τ) (.box τ (k.pos τ (GY i))) (.junk)
 |.own t l _ m,_=>cond (wants.any (Nat.beq i)) (.own t l (GY i) m) (cond m (.junk) (.val (.sl t) l))
 |.agg f a,_=>bif wants.any (Nat.beq i) then .agg f (a.pos f (GY i)) else match AVal.as (.st f) (.agg f a) with|some x=>.val (.st f) x|none=>.junk
 |.val τ x,_=>.val τ x
 |.nil,_=>.nil
 |.fn f cs,_=>cond cs.pureL (.fn f cs) (.junk)
 |.fptr f caps,_=>(match PA HB caps with|some l=>.fptr f l|none=>.junk)
 |_,_=>.junk
def L3 (HB:List (Nat×Nat))(wants:List Nat):Nat->List AVal->List AVal->List AVal
 |i,Y::r,k::s=>ET HB wants i Y k::L3 HB wants (i+1) r s
 |_,_,_=>[]
def NS (wants:List Nat)(i:Nat):AVal->AVal->List (Nat×Nat)
 |.ref _ τ [],.box _ c=>c.tags τ (GY i)
 |.own _ _ T _,_=>cond (wants.any (Nat.beq i)) [(T,GY i)] []
 |.agg f c,_=>cond (wants.any (Nat.beq i)) (c.tags f (GY i)) []
 |_,_=>[]
def NT (wants:List Nat):Nat->List AVal->List AVal->List (Nat×Nat)
 |i,Y::r,k::s=>NS wants i Y k++NT wants (i+1) r s
 |_,_,_=>[]
def r7 (l:List (Nat×Nat)):Bool:=l.all λp=>Nat.beq p.1 p.2
structure Bor where
 U:Nat
 T:Nat
 t:Ty
 l:List t.den
 l':List t.den
 m:Bool
def FF:AVal->AVal->Option (List Bor)
 |.own t l U _,k=>(match k with
  |.own t' l' T m'=>(match Ty.cast (a:=.sl t') (.sl t) l' with|some l2=>cond (blt 0 t.size) (some [⟨U,T,t,l,l2,m'⟩]) none|none=>none)
  |_=>none)
 |.agg f c,k=>(match k with|.agg f' c'=>cond (Ty.beq f f') (FF c c') none|_=>none)
 |.cons a b,k=>(match k with|.cons a' b'=>(match FF a a',FF b b' with|some x,some y=>some (x++y)|_,_=>none)|_=>none)
 |.val _ _,_=>some []
 |.nil,_=>some []
 |.nl,_=>some []
 |_,_=>none
def SS:List Bor->Nat->Option Bor
 |[],_=>none
 |b::r,T=>cond (Nat.beq b.U T) (some b) (SS r T)
def AVal.turn (bs:List Bor)(L:List Nat):AVal->AVal:=
 AVal.mapOwn (λt l T m=>match SS bs T with
  |some b=>(match Ty.cast (a:=.sl b.t) (.sl t) b.l' with|some l2=>.own t l2 T b.m|none=>.junk)
  |none=>cond (L.any (Nat.beq T)) (cond m (.junk) (.val (.sl t) l)) (.own t l T m))
  (λs T t i p=>cond (L.any (Nat.beq T)) (.junk) (.eref s T t i p))
def AVal.turnH (bs:List Bor)(L:List Nat):AVal->AVal
 |.ownh t l T i U _=>cond (!(Nat.beq T U)&&!(L.any (Nat.beq T))) (.ownh t l T i T true) (.junk)
 |A=>A.turn bs L
def AVal.borAsks (bs:List Bor):AVal->List Prop
 |.own _ l T _=>match SS bs T with|some b=>[l.length=b.l.length]|none=>[]
 |.opt _ _ _ A=>A.borAsks bs
 |.box _ c=>c.borAsks bs
 |.cons a b=>a.borAsks bs++b.borAsks bs
 |.agg _ c=>c.borAsks bs
 |.tup c=>c.borAsks bs
 |.fn _ c=>c.borAsks bs
 |_=>[]
def Kl (L:List Nat)(A:AVal):Bool:=L.any λT=>A.hasTag T
def GZ (bs:List Bor)(L:List Nat)(S:St):St->St
 |[]=>[]
 |(s,_)::r=>cond (Kl L (S.get s)) ((s,(S.get s).turnH bs L)::GZ bs L S r) (GZ bs L S r)
def Xd (bs:List Bor)(L:List Nat)(S:St):Nat->List Prop
 |0=>[]
 |s+1=>Xd bs L S s++(cond (Kl L (S.get s)) ((S.get s).borAsks bs) [])
def NU (Y:AVal)(i:Nat)(k:AVal):Option (St×List Bor×List (Nat×Nat)):=
 match Y with
 |.ref s τ []=>cond (AVal.fits τ k&&r7 (k.tags τ (GY i))) (some ([(s,.box τ (k.pos τ (GY s)))],[],k.tags τ (GY s))) none
 |Y=>match FF Y k with|some bs=>some ([],bs,bs.map λb=>(b.T,b.U))|none=>none
def xI (ys:List AVal):List (Nat×AVal)->Option (St×List Bor×List (Nat×Nat))
 |[]=>some ([],[],[])
 |(i,k)::r =>
  match ys[i]?,xI ys r with
  |some Y,some (u,bs,K)=>(match NU Y i k with|some (u',bs',K')=>some (u'++u,bs'++bs,K'++K)|none=>none)
  |_,_=>none
def SU (dst:Option Nat):List (Nat×Nat):=
 match dst with
 |some d=>[(0,d),(1,100000+d),(2,200000+d),(3,300000+d)]
 |none=>[]
def Xe (c:Ctx)(dst:Option Nat)(f:Nat)(ys:List AVal)(S:St):Option (List Prop×St×Bool):=
 match P9 c.fns f (L3 (J0 0 ys) (look [] c.wants f) 0 ys (ys.map (CA S))) with
 |none=>none
 |some co=>match xI ys co.outs with
  |none=>none
  |some (u,bs,K) =>
   bif Mk co.outs 0 (L3 (J0 0 ys) (look [] c.wants f) 0 ys (ys.map (CA S)))&&EL co.res&&Kj ys (L3 (J0 0 ys) (look [] c.wants f) 0 ys (ys.map (CA S))) &&
    Jz ((J0 0 ys).map (·.1))&&Jz ((NT (look [] c.wants f) 0 ys (ys.map (CA S))).map (·.1))&&Jz ((NT (look [] c.wants f) 0 ys (ys.map (CA S))).map (·.2)) &&
    Jz ((SU dst++K).map (·.1))&&Jz ((SU dst++K).map (·.2))&&Jz ((match dst with|some d=>[d]|none=>[])++u.map (·.1)) then
    some (co.ok++(bs.map (λb=>0<b.l.length)++Xd bs ((NT (look [] c.wants f) 0 ys (ys.map (CA S))).map (·.1)++(SU dst++K).map (·.2)) S c.n),
     (match dst with|some d=>(d,co.res.tagTo d)::u|none=>u)++GZ bs ((NT (look [] c.wants f) 0 ys (ys.map (CA S))).map (·.1)++(SU dst++K).map (·.2)) S S,true)
   else none
def AVal.lent:AVal->AVal:=AVal.mapOwn (λt l _ _=>cond t.isL (.junk) (.val (.sl t) l)) (λ_ _ _ _ _=>.junk)
def J1:AVal->AVal->AVal
 |.ref _ τ [],.box τ' k=>cond (Ty.beq τ' τ) (match AVal.as τ k.lent with|some x=>.val (.ptr τ) x|none=>.junk) (.junk)
 |.own t l _ _,_=>cond t.isL (.junk) (.val (.sl t) l)
 |.ownh t l T _ U m,_=>cond (Nat.beq T U&&!m) (match l with | [x]=>.val (.sl t) x|_=>.junk) (.junk)
 |.agg f a,_=>(match AVal.as (.st f) (.agg f a.lent) with|some x=>.val (.st f) x|none=>.junk)
 |.val τ x,_=>.val τ x
 |.nil,_=>.nil
 |.fn f cs,_=>cond cs.pureL (.fn f cs) (.junk)
 |_,_=>.junk
def J2 (c:Ctx)(dst:Option Nat)(f:Nat)(ys ks:List AVal)(S:St):Option (List Prop×St×Bool):=
 match P9 c.fns f (zipWith J1 ys ks) with
 |none=>none
 |some co=>match co.outs,dst with
  |[],some d=>cond (EL co.res&&co.res.scal&&C3 d S&&C3 (100000+d) S&&C3 (200000+d) S&&C3 (300000+d) S) (some (co.ok,[(d,co.res.tagTo d)],false)) none
  |_,_=>none
def Xf (exts:List (Nat×(List AVal->Option (List Prop×AVal))))(f:Nat)(ys:List AVal):Option (List Prop×AVal):=
 match exts with
 |[]=>none
 |(g,e)::r=>cond (Nat.beq g f) (e ys) (Xf r f ys)
def PB (c:Ctx)(gd:Gd)(dst:Option Nat)(f:Nat)(ys:List AVal):Option (List Prop×St×Bool):=
 match Xf c.exts f ys,dst with
 |some (p,.val τ x),some d=>some (NR gd p,[(d,EH gd (.val τ x))],false)
 |some (p,.tup a),some d=>match gd with|none=>cond (EL (.tup a)&&AVal.scal (.tup a)&&!(a.hung d)) (some (p,[(d,.tup a)],false)) none|some _=>none
 |_,_=>none
def J3 {α:Type}(x y:Option α):Option α:=match x with|some a=>some a|none=>y
def SV (c:Ctx)(dst:Option Nat)(f:Nat)(ys:List AVal)(S:St):Option (List Prop×St×Bool):=
 match ys,dst with
 |[.ownh t [x] T _ U false],some d=>bif Nat.beq T U&&c.clones.any (λp=>Nat.beq p.1 f&&Nat.beq p.2 t.size)&&C3 d S then
   some ([0<length (α:=t.den) x/\(length (α:=t.den) x:Int)<=4294967296],[(d,.own t x d true)],true) else none
 |_,_=>none
def Xg (c:Ctx)(gd:Gd)(dst:Option Nat)(f:Nat)(ys:List AVal)(S:St):Option (List Prop×St×Bool):=
 match J2 c dst f ys (ys.map (CA S)) S with
 |some (p,[(d,.own t l T m)],_)=>some (NR gd p,[(d,EH gd (.own t l T m))],true)
 |_=>none
def SW (c:Ctx)(gd:Gd)(dst:Option Nat)(f:Nat)(ys:List AVal)(S:St):Option (List Prop×St×Bool):=
 match gd with
 |none=>J3 (J2 c dst f ys (ys.map (CA S)) S) (J3 (SV c dst f ys S) (Xe c dst f ys S))
 |some q=>Xg c (some q) dst f ys S
def r8 (c:Ctx)(gd:Gd)(dst:Option Nat)(f:Nat)(ys:List AVal)(S:St):Option (List Prop×St×Bool):=
 J3 (PB c gd dst f ys) (J3 (Kk c gd dst f ys (ys.map (CA S)) S) (SW c gd dst f ys S))
def r9 (gd:Gd)(dst:Option Nat)(x:Operand)(xs0:List AVal):Option (List Prop×St×Bool):=
 match dst,xs0 with
 |some d,[C,A,B] =>
  match zF gd C,SR gd x true A,SR gd x false B with
  |.val .bool b,.val τ a,.val _ y=>match Ty.cast τ y with
   |some z=>some ([],[(d,EH gd (.val τ (cond b a z)))],false)
   |none=>none
  |_,_,_=>none
 |_,_=>none
def Ij:Op->Bool
 |.box _ _=>true|.alloc _=>true|.buildSlice _ _ _=>true|.makeSlice _ _ _=>true|.makeMap _ _=>true|_=>false
def NV (gd:Gd)(d:Nat)(p:List Prop)(A:AVal)(S:St):Option (List Prop×St×Bool):=
 match gd,A with
 |some q,.own t l T _=>cond (Hq d S&&C3 d S&&Nat.beq T d&&!t.isL) (some (NR (some q) p,[(d,EH (some q) (.val (.sl t) l))],false)) none
 |_,_=>none
def zK (c:Ctx)(gd:Gd)(dst:Option Nat)(op:Op)(xs ks:List AVal)(S:St):Option (List Prop×St×Bool):=
 match dst with
 |none=>none
 |some d=>match Ii c d op xs ks with
  |none=>none
  |some (p,A) =>
   bif Ij op then (cond (gd.isNone&&Hq d S&&C3 d S) (some (p,[(d,A)],false)) (NV gd d p A S))
   else some (NR gd p,[(d,EH gd A)],false)
def J4:Op->Nat
 |.pick _ _ _=>0
 |.store _ _ _=>1
 |.mapUpdate _ _ _ _=>1
 |.call { callee:=.builtin .append,.. }=>2
 |.call { callee:=.value _,.. }=>3
 |.makeInterface _ _=>4
 |.panic _=>4
 |_=>5
def Mn (c:Ctx)(gd:Gd)(o:Oper)(S:St)(xs0 xs:List AVal):Option (List Prop×St×Bool):=
 match J4 o.op with
 |0=>(match o.op with|.pick x _ _=>r9 gd o.dst x xs0|_=>none)
 |1=>(match gd,o.dst,o.op,xs with
  |none,none,.store T _ _,[A,v]=>p8 c T A (CA S A) v S
  |none,none,.mapUpdate T _ _ _,[A,k,v]=>p9 c T A k v S
  |_,_,_,_=>none)
 |2=>(match gd,o.dst,o.op,xs with
  |none,some d,.call { argTypes,.. },[A,B]=>(match argTypes.toList with
   |[T,T']=>cond (Nat.beq T T') (Xc c d T A B S) none
   |_=>none)
  |_,_,_,_=>none)
 |3=>(match xs with
  |.fn f cs::r=>cond (I1 cs) (r8 c gd o.dst f (r++cs.toL) S) none
  |_=>none)
 |4=>(match gd with|none=>some ([False],[],false)|some _=>none)
 |_=>zK c gd o.dst o.op xs ((xs.map (CA S)).map (zF gd)) S
def Km [GlobTab] (c:Ctx)(dsts:List (Option Nat))(o:Oper)(S:St):Option (List Prop×St×Bool):=
 match L1 dsts S o.guard with
 |none=>none
 |some gd=>Mn c gd o S ((DK o.op).map (arg S)) (((DK o.op).map (arg S)).map (zF gd))
def NW (c:Ctx)(S:St):St->Option St
 |(d,.own t l T true)::u=>cond (Nat.beq T d&&!(c.wr.any (Nat.beq d))) (cond (C3 T (u++S)&&!t.isL) (some ((d,.own t l T false)::u)) none) (some ((d,.own t l T true)::u))
 |u=>some u
def SX:Op->Bool
 |.buildSlice _ _ _=>true
 |.makeSlice _ _ _=>true
 |.call { callee:=.builtin .append,.. }=>true
 |_=>false
def yB [GlobTab] (c:Ctx)(dsts:List (Option Nat))(o:Oper)(S:St):Option (List Prop×St×Bool):=
 match Km c dsts o S with
 |none=>none
 |some (p,u,h)=>cond (SX o.op) (match NW c S u with|some u'=>some (p,u',h)|none=>none) (some (p,u,h))
def bare:AVal->AVal
 |.opt _ _ _ A=>A
 |A=>A
def St.has (s:Nat)(S:St):Bool:=S.any λe=>Nat.beq e.1 s
def s7 (dst:Option Nat)(S:St):St->Bool
 |[(d',.val _ _)]=>(match dst with|some d=>Nat.beq d d'&&!(St.has d' S)|none=>false)
 |_=>false
structure Tr where
 heavy:Bool
 rd:List Nat
 dst:Option Nat
 u:St
 pl:Bool
def yD7 (dsts:List (Option Nat)):Option (Nat×Bool)->List Nat
 |some (j,_)=>(match dsts[j]? with|some (some s)=>[s]|_=>[])
 |none=>[]
def FN [GlobTab] (dsts:List (Option Nat))(o:Oper)(S:St)(u:St)(heavy:Bool):Tr:=
 ⟨heavy,NQ (DK o.op)++(yD7 dsts o.guard++FM (Xa o.op ((DK o.op).map (λx=>bare (arg S x))))),o.dst,u,!heavy&&s7 o.dst S u⟩
def SY (u:St)(A:AVal):Bool:=u.any λe=>A.hung e.1
def yZ [GlobTab] (c:Ctx)(dsts:List (Option Nat)):List Oper->St->St->Option (List Prop×St×List Tr)
 |[],_,U=>some ([],U,[])
 |o::r,S,U =>
  match yB c dsts o (U++S) with
  |none=>none
  |some (p,u,h)=>bif (u++U).any (λe=>SY u e.2)||!(u.all λe=>blt e.1 c.n) then none else
   match yZ c dsts r S (u++U) with
   |none=>none
   |some (p',u',t')=>some (p++p',u',FN dsts o (U++S) u h::t')
def apart:List Nat->List Nat->Bool
 |[],_=>true
 |a::r,l=>!(l.any (Nat.beq a))&&apart r l
def SZ (d:Nat)(A:AVal):Bool:=!(A.hasRef d)&&(!(A.hasTag d)&&(!(A.hasTag (100000+d))&&(!(A.hasTag (200000+d))&&!(A.hasTag (300000+d)))))
def s8 (d:Option Nat)(u u':St):Bool:=u'.all λe=>!(SY u e.2)&&(match d with|some d=>SZ d e.2|none=>true)
def J5 (t t':Tr):Bool:=
 bif t.heavy then !(t'.pl&&(apart (t.u.map (·.1)) t'.rd&&(apart (t.u.map (·.1)) (t'.u.map (·.1))&&(match t.dst with|some d=>!(St.has d t'.u)|none=>true))))
 else t'.heavy||!(apart (t.u.map (·.1)) t'.rd&&(apart (t.u.map (·.1)) (t'.u.map (·.1))&&(apart t.rd (t'.u.map (·.1))&&s8 t.dst t.u t'.u)))
def J6 (acc:List Nat):List Edge->Nat
 |[]=>0
 |e::r=>cond (Region.binds .any e) (lor (lor (Nat.pow 2 e.on) (acc.getD e.on 0)) (J6 acc r)) (J6 acc r)
def ahead:List Oper->List Nat->List Nat
 |[],acc=>acc
 |o::r,acc=>ahead r (acc++[J6 acc o.after.toList])
def Mo:Nat->List Oper->Bool
 |_,[]=>true
 |i,o::r=>o.after.toList.all (λe=>!(Region.binds .any e)||blt e.on i)&&Mo (i+1) r
def s9 (k bits:Nat)(t:Tr):Nat->List Tr->Bool
 |_,[]=>true
 |i,t'::r=>(blt i k||(!(J5 t' t)||Nat.testBit bits i))&&s9 k bits t (i+1) r
def Mp (k:Nat)(trs:List Tr):List Nat->List Tr->Bool
 |b::bs,t::r=>s9 k b t 0 trs&&Mp k (trs++[t]) bs r
 |[],[]=>true
 |_,_=>false
def zY [GlobTab] (c:Ctx)(S:St)(o:Oper):Bool:=
 match o.guard,o.dst with
 |none,some _=>(match o.op,(DK o.op).map (arg S) with
  |.move _,_=>true
  |.call { callee:=.builtin .len,argTypes,.. },[.ownh t _ U _ V _]=>(match argTypes.toList with | [T]=>c.is T (.sl (.sl t))&&!(Nat.beq U V)|_=>false)
  |.binOp .sub _ _ _ _,[.val (.int k) _,.val (.int k') _]=>Nat.beq (FK k) (FK k')
  |.indexAddr T _ _,[.val (.sl t) _,.val (.int _) _]=>c.is T (.sl t)
  |_,_=>false)
 |_,_=>false
def PC (ops:Array Oper)(i:Nat)(oi:Oper):Nat->List Oper->Bool
 |_,[]=>true
 |j,oj::r=>(ble j i||(oj.after.toList.any (λe=>Region.binds .any e&&Nat.beq e.on i)||oi.apart ops oj))&&PC ops i oi (j+1) r
def J7 [GlobTab] (c:Ctx)(ops:List Oper)(S:St):Nat->List Oper->List Tr->St->Nat
 |i,o::r,t::ts,U=>cond (zY c (U++S) o&&PC ops.toArray i o 0 ops) (J7 c ops S (i+1) r ts (t.u++U)) i
 |i,_,_,_=>i
def Ta (k:Nat):AVal->Option Nat
 |.own _ _ T _=>some T
 |.box _ a=>match a.fld k with|.own _ _ T _=>some T | _=>none
 |.ownh _ _ T _ U _=>cond (Nat.beq T U) none (some U)
 |_=>none
def I2 (k:Nat):AVal->AVal
 |.ownh t l T _ _ _=>.own (.sl t) l T true
 |.own t l T _=>cond t.isL (.junk) (.own t l T false)
 |.box τ (.agg f a)=>match a.nth k with
  |.own t l T _=>cond t.isL (.junk) (cond (((a.gone T).setNth k (.own t l T false)).fitsT f) (.box τ (.agg f ((a.gone T).setNth k (.own t l T false)))) (.junk))
  |_=>.junk
 |_=>.junk
def L4 (s:Nat)(h:AVal->AVal)(S:St):St->St
 |[]=>[]
 |(k,_)::r=>cond ((S.get k).hasRef s) ((k,h (S.get k))::L4 s h S r) (L4 s h S r)
def NX (s:Nat)(τ:Ty)(x:τ.den):AVal->AVal
 |.ref s' τ' []=>cond (Nat.beq s s'&&Ty.beq τ' τ) (.val (.ptr τ) x) (.junk)
 |_=>.junk
def yT3 (S:St)(s:Nat):Option St:=
 match S.get s with
 |.box τ c=>(match AVal.as τ c with|some x=>some ((s,.val (.ptr τ) x)::L4 s (NX s τ x) S S)|none=>none)
 |_=>none
def xI2 (S:St):Nat×Nat×Nat×Nat->Option St
 |(kind,s,k,U) =>
  bif Nat.beq kind 3 then yT3 S s else
  bif Nat.beq kind 4 then (cond (Nat.beq k U) (some []) (cond (SQ U S) (some (CZ k (AVal.retagH k U) S S)) none)) else
  bif Nat.beq kind 5 then some (CZ k (AVal.lose k) S S) else
  match Ta k (S.get s) with
  |none=>none
  |some T =>
   match kind with
   |0=>cond (Nat.beq T U) (some []) (cond (SQ U S) (some (CZ T (AVal.retagH T U) S S)) none)
   |1=>some ((s,I2 k (S.get s))::CZ T (AVal.gone T) S S)
   |_=>some (CZ T (AVal.lose T) S S)
def Tb:List (Nat×Nat×Nat×Nat)->St->Option St
 |[],_=>some []
 |g::r,S=>match xI2 S g with
  |none=>none
  |some u=>match Tb r (u++S) with
   |none=>none
   |some u'=>some (u'++u)
def yT4 [GlobTab] (c:Ctx)(gh:List (Nat×Nat×Nat×Nat))(ops:List Oper)(draw:Bool)(S:St):Option (List Prop×St):=
 bif S.any (λe=>e.2.hasOpt) then none else
 match yZ c (ops.map (·.dst)) ops S [] with
 |none=>none
 |some (p,u0,t) =>
  let u:=u0.map λe=>(e.1,cond e.2.hasOpt (.junk) e.2)
  bif !draw||(Mo 0 ops&&(Mp 0 [] (ahead ops []) t||Mp (J7 c ops S 0 ops t []) [] (ahead ops []) t)) then
   (match Tb gh (u++S) with
    |some u'=>cond (u'.all (λe=>blt e.1 c.n)) (some (p,u'++u)) none
    |none=>none)
  else none
def Xh (g:Bool)(t:Ty)(l:List t.den)(m:Bool)(τ':Ty)(y:τ'.den):AVal:=
 bif m then .junk else match Ty.cast (.sl t) y with|some z=>.val (.sl t) (cond g l z)|none=>.junk
def Xi (g:Bool)(τ:Ty)(x:τ.den)(t:Ty)(l:List t.den)(m:Bool):AVal:=
 bif m then .junk else match Ty.cast (a:=.sl t) τ l with|some z=>.val τ (cond g x z)|none=>.junk
def AX (g:Bool):AVal->AVal->AVal
 |.val τ x,.val _ y=>match Ty.cast τ y with|some z=>.val τ (cond g x z)|none=>.junk
 |.nil,.nil=>.nil
 |.nil,.val (.sl t) y=>.val (.sl t) (cond g [] y)
 |.val (.sl t) x,.nil=>.val (.sl t) (cond g x [])
 |.nil,.own t l T m=>cond (t.plain&&!t.isL) (.own t (cond g [] l) T m) (.junk)
 |.own t l T m,.nil=>cond (t.plain&&!t.isL) (.own t (cond g l []) T m) (.junk)
 |.own t l _ m,.val τ' y=>Xh g t l m τ' y
 |.val τ x,.own t l _ m=>Xi g τ x t l m
 |.own t l T m,.own t' l' T' m'=>cond (Nat.beq T T'&&(m==m')) (match Ty.cast (a:=.sl t') (.sl t) l' with|some l2=>.own t (cond g l l2) T m|none=>.junk) (.junk)
 |.box τ a,.box τ' b=>cond (Ty.beq τ τ'&&AVal.fits τ (AX g a b)) (.box τ (AX g a b)) (.junk)
 |.ref s τ [],.ref s' τ' []=>cond (Nat.beq s s'&&Ty.beq τ τ') (.ref s τ []) (.junk)
 |.nl,.nl=>.nl
 |.cons a b,.cons a' b'=>.cons (AX g a a') (AX g b b')
 |.agg f a,.agg f' b=>cond (Ty.beq f f'&&AVal.fits f (AX g a b)) (.agg f (AX g a b)) (.junk)
 |.agg f a,.val (.st f') y=>match AVal.as (.st f') (.agg f a) with|some x=>.val (.st f') (cond g x y)|none=>.junk
 |.val (.st f) x,.agg f' b=>match AVal.as (.st f) (.agg f' b) with|some y=>.val (.st f) (cond g x y)|none=>.junk
 |.tup a,.tup b=>.tup (AX g a b)
 |.ownh t l T i U m,.ownh t' l' T' i' U' m'=>cond (Nat.beq T T'&&Nat.beq U U'&&(m==m')) (match Ty.cast (a:=.sl (.sl t')) (.sl (.sl t)) l' with|some l2=>.ownh t (cond g l l2) T (cond g i i') U m|none=>.junk) (.junk)
 |_,_=>.junk
def Tc (g:Bool)(d1 d2 S:St):St->St
 |[]=>[]
 |(s,_)::r=>(s,cond (Nat.beq s BQ) (.junk) (AX g (St.get (d1++S) s) (St.get (d2++S) s)))::Tc g d1 d2 S r
def Kn (d:St):St:=d.filter λe=>!(Nat.beq e.1 BQ)
def Ko (d:St):St:=d.filter λe=>Nat.beq e.1 BQ
def Ik (g:Bool)(d1 d2 S:St):St:=Tc g d1 d2 S (Kn d1++(Kn d2++(Ko d1++Ko d2)))
def B7 (k:Nat):List Comp->Option Comp
 |[]=>none
 |x::r=>cond (Nat.beq x.kind k) (some x) (B7 k r)
def ED (k:Nat)(l:List Comp):List Comp:=l.filter λx=>!(Nat.beq x.kind k)
def gor (a b:Option Bool):Option Bool:=
 match a,b with
 |some x,some y=>some (x||y)
 |_,_=>none
def Ht (t:Bool)(x y:Option Comp):Option Bool:=
 match x,y with
 |some a,some b=>(match a.g,b.g with|none,none=>none|ga,gb=>some (cond t (ga.getD true) (gb.getD true)))
 |some a,none=>FL a.g (some t)
 |none,some b=>FL b.g (some (!t))
 |none,none=>none
def Xj (t:Bool)(S:St)(la lb:List Comp):List Comp->List Comp
 |[]=>[]
 |x::r =>
  {kind:=x.kind,g:=Ht t (B7 x.kind la) (B7 x.kind lb),
   d:=match B7 x.kind la,B7 x.kind lb with
    |some a,some b=>Ik t a.d b.d S
    |some a,none=>a.d
    |none,some b=>b.d
    |none,none=>[] }::Xj t S la lb r
def Kp:List Prop->Prop
 |[]=>True
 |[p]=>p
 |p::r=>p/\Kp r
def Xk (b:Prop):List Prop->List Prop
 |[]=>[]
 |p::r=>[b->Kp (p::r)]
def imp (g:Option Bool)(l:List Prop):List Prop:=
 match g with
 |none=>l
 |some b=>Xk (b=true) l
def Td (t:Bool)(S:St)(a b:Out):Out:=
 {ok:=Xk (t=true) a.ok++Xk (t=false) b.ok,
  comps:=Xj t S a.comps b.comps (a.comps++b.comps.filter λx=>(B7 x.kind a.comps).isNone) }
def Te (n:Comp)(S:St)(la:List Comp):List Comp->List Comp
 |[]=>[]
 |x::r =>
  (match B7 x.kind la with
   |some a=>{ kind:=x.kind,g:=gor a.g (FL n.g x.g),d:=Ik (a.g.getD true) a.d (x.d++n.d) S }
   |none=>{ kind:=x.kind,g:=FL n.g x.g,d:=x.d++n.d })::Te n S la r
def Tf (n:Comp)(S:St)(a b:Out):Out:=
 {ok:=a.ok++imp n.g b.ok,
  comps:=Te n S (ED 0 a.comps) b.comps++(ED 0 a.comps).filter λx=>(B7 x.kind b.comps).isNone }
def yB9 (id:Nat)(S:St)(a:Out):Out:=
 match B7 0 a.comps,B7 (id+2) a.comps with
 |_,none=>a
 |none,some e=>{ a with comps:={ e with kind:=0 }::ED (id+2) a.comps }
 |some n,some e=>{ a with comps:={ kind:=0,g:=gor e.g n.g,d:=Ik (e.g.getD true) e.d n.d S }::ED 0 (ED (id+2) a.comps) }
def I3:Code->Nat
 |.region id _ _=>id
 |.seq a _=>I3 a
 |.block _ a=>I3 a
 |.loop a=>I3 a
 |.scope a=>I3 a
 |_=>0
def eval [GlobTab] (c:Ctx):Code->St->Option Out
 |.skip,_=>some { ok:=[],comps:=[⟨0,none,[]⟩] }
 |.region id ops draw,S=>match Tb (look [] c.gh (2*id)) S with
  |none=>none
  |some v=>bif !(v.all (λe=>blt e.1 c.n)) then none else match yT4 c (look [] c.gh (2*id+1)) ops.toList draw (v++S) with
   |some (p,u)=>some { ok:=p,comps:=[⟨0,none,u++v⟩] }
   |none=>none
 |.seq a b,S=>match eval c a S with
  |none=>none
  |some oa=>match B7 0 oa.comps with
   |none=>some oa
   |some n=>match eval c b (n.d++S) with
    |none=>none
    |some ob=>some (Tf n S oa ob)
 |.cond x a b,S=>match arg S x with
  |.val .bool t=>match eval c a S,eval c b S with
   |some oa,some ob=>some (Td t S oa ob)
   |_,_=>none
  |_=>none
 |.block id a,S=>match eval c a S with
  |some oa=>some (yB9 id S oa)
  |none=>none
 |.loop a,S=>look (λ_=>none) c.loops (I3 a) S
 |.exit id,_=>some { ok:=[],comps:=[⟨id+2,none,[]⟩] }
 |.ret,_=>some { ok:=[],comps:=[⟨1,none,[]⟩] }
 |_,_=>none
open Go Go.RowKit
def BN (s:Nat):Nat:=2*s+4
def AM (T:Nat):Nat:=2*T+5
def L5 (χ:Nat->Nat->Nat)(w:World)(b o:Nat)(vs:List Value):Prop:=
 ∀j v,vs[j]?=some v->w.cell? ⟨b,o+j,none⟩=some v/\χ b (o+j)=0
def CH {α:Type}(R:α->List Value->Prop):List α->List Value->Prop
 |[],us=>us=[]
 |x::l,us=>∃vs ws,us=vs++ws/\R x vs/\CH R l ws
def AP (χ:Nat->Nat->Nat)(w:World):(τ:Ty)->τ.den->List Value->Prop
 |.int k,x,vs=>vs=[.int k x]
 |.bool,x,vs=>vs=[.bool x]
 |.str,x,vs=>vs=[.string ⟨toArray x⟩]
 |.nl,_,vs=>vs=[]
 |.cons h t,x,vs=>∃us ws,vs=us++ws/\AP χ w h x.1 us/\AP χ w t x.2 ws
 |.st f,x,vs=>AP χ w f x vs
 |.arr n t,l,vs=>length (α:=t.den) l=n/\CH (AP χ w t) l vs
 |.sl t,l,vs=>∃a cap,vs=[.slice a (length (α:=t.den) l) cap]/\(l=([]:List t.den)\/∃b o us,a=some ⟨b,o,none⟩/\length (α:=t.den) l<=cap/\CH (AP χ w t) l us/\L5 χ w b o us)
 |.ptr t,x,vs=>∃b o us,vs=[.pointer (some ⟨b,o,none⟩)]/\AP χ w t x us/\L5 χ w b o us
def DR (χ:Nat->Nat->Nat)(w:World)(τ:Ty)(x:τ.den)(v:Value):Prop:=
 ∃vs,AP χ w τ x vs/\(cond τ.isAgg (v=.agg vs.toArray) (vs=[v]))
structure Gh where
 χ:Nat->Nat->Nat
 β:Nat->Nat
 γ:Nat->Nat
def J8 (t:Ty):Prop:=t.plain/\t.isL=false
def yT (G:Gh)(w:World)(t:Ty)(l:List t.den)(T:Nat)(m:Bool)(v:Value):Prop:=
 J8 t/\((v=.slice none 0 0/\l=[]) \/
 ∃cap cur e us,v=.slice (some ⟨G.γ T,0,none⟩) l.length cap/\w.heap[G.γ T]?=some (.cells cur e (0,0))/\l.length<=cap/\cap<=maxLen/\cur.size=cap*t.size /\
  CH (AP G.χ w t) l us/\cur.toList.take (l.length*t.size)=us/\(∀o,G.χ (G.γ T) o=if m=false/\o<l.length*t.size then 0 else AM T))
def I4 (χ:Nat->Nat->Nat)(w:World)(k v:Ty):List (k.den×v.den×Unit)->List MapEntry->Prop
 |[],es=>es=[]
 |x::l,es=>∃e r,es=e::r/\DR χ w k x.1 e.key/\DR χ w v x.2.1 e.val/\I4 χ w k v l r
def xQ6 (G:Gh)(w:World)(k e:Ty)(l:List (k.den×e.den×Unit))(T:Nat)(v:Value):Prop:=
 ∃es clock,v=.map (some (G.γ T))/\w.heap[G.γ T]?=some (.map es clock)/\I4 G.χ w k e l es.toList/\∀o,G.χ (G.γ T) o=AM T
def Tg (G:Gh)(w:World)(t:Ty)(l:List t.den)(T:Nat)(v:Value):Prop:=
 ∃k e,∃l':List (k.den×e.den×Unit),t=xH k e/\HEq l l'/\xQ6 G w k e l' T v
def BV (G:Gh)(w:World)(t:Ty)(l:List t.den)(T:Nat)(m:Bool)(v:Value):Prop:=yT G w t l T m v\/(m/\Tg G w t l T v)
def AF (G:Gh)(w:World)(τ:Ty):AVal->List Value->Prop
 |.val τ' x,vs=>τ'=τ/\τ'.isL=false/\AP G.χ w τ' x vs
 |.nil,vs=>τ.isSl/\vs=[.slice none 0 0]
 |.junk,vs=>τ.isSl/\∃v,vs=[v]/\v.oneCell'=true
 |.own t l T m,vs=>τ=.sl t/\∃v,vs=[v]/\BV G w t l T m v
 |.agg f c,vs=>τ=.st f/\AF G w f c vs
 |.nl,vs=>τ=.nl/\vs=[]
 |.cons a b,vs=>∃h t us ws,τ=.cons h t/\vs=us++ws/\AF G w h a us/\AF G w t b ws
 |_,_=>False
def wC3 (G:Gh)(w:World)(s:Nat)(τ:Ty)(c:AVal):Prop:=
 J8 τ/\∃cur e,w.heap[G.β s]?=some (.cells cur e (0,0))/\AF G w τ c cur.toList/\∀o,G.χ (G.β s) o=BN s
def EI:Ty->FD->Prop
 |_,[]=>True
 |.st f,.inl k::p=>k<f.flen/\EI (f.fty k) p
 |.arr n t,.inr i::p=>0<=i/\i<(n:Int)/\EI t p
 |_,_=>False
def Il (G:Gh)(v:Value):Option (Nat×Ty)->Value
 |some (k,_)=>.pointer (some ⟨G.β k,0,none⟩)
 |none=>v
def wD3 (G:Gh)(w:World)(t:Ty)(l:List (List t.den))(T:Nat)(v:Value):Prop:=
 ∃x a cap,l=[x]/\v=.slice a (length (α:=t.den) x) cap/\(x=([]:List t.den)\/∃o us cur e,a=some ⟨G.γ T,o,none⟩/\length (α:=t.den) x<=cap/\w.heap[G.γ T]?=some (.cells cur e (0,0)) /\
  CH (AP G.χ w t) x us/\(∀j u,us[j]?=some u->cur.toList[o+j]?=some u)/\∀o,G.χ (G.γ T) o=AM T)
def wC4 (G:Gh)(w:World)(t:Ty)(l:List (List t.den))(T i:Nat)(v:Value):Prop:=
 (v=.slice none 0 0/\l=[])\/∃cap cur e,v=.slice (some ⟨G.γ T,0,none⟩) (length (α:=List t.den) l) cap/\w.heap[G.γ T]?=some (.cells cur e (0,0))/\length (α:=List t.den) l<=cap/\cap<=maxLen/\cur.size=cap/\(∀o,G.χ (G.γ T) o=AM T) /\
  ∀(j:Nat) (x:List t.den),l[j]?=some x->j≠i->∃u,cur.toList[j]?=some u/\AP G.χ w (.sl t) x [u]
def J9 (G:Gh)(w:World)(t:Ty)(l:List (List t.den))(T i U:Nat)(m:Bool)(v:Value):Prop:=
 J8 t/\((T=U/\((m=false/\wD3 G w t l T v)\/(m/\wC4 G w t l T i v)))\/T≠U/\((v=.slice none 0 0/\l=[])\/∃cap cur e,v=.slice (some ⟨G.γ T,0,none⟩) (length (α:=List t.den) l) cap/\w.heap[G.γ T]?=some (.cells cur e (0,0))/\length (α:=List t.den) l<=cap/\cap<=maxLen/\cur.size=cap/\(∀o,G.χ (G.γ T) o=AM T) /\
  ∀(j:Nat) (x:List t.den),l[j]?=some x->∃u,cur.toList[j]?=some u/\if j=i then yT G w t x U m u else AP G.χ w (.sl t) x [u]))
def zA (G:Gh)(w:World)(tm:Array Value):Option Nat->AVal->Value->Prop
 |_,.junk,_=>True
 |_,.val τ x,v=>DR G.χ w τ x v
 |_,.opt s' want g A,v=>(tm.getD s' undef=.bool want↔g=true)/\(g->zA G w tm none A v)/\(g=false->v=undef)
 |_,.nil,v=>v=.slice none 0 0
 |_,.nn b,v=>∃a cap,v=.slice a 0 cap/\a.isNone=b
 |_,.own t l T m,v=>BV G w t l T m v
 |some s,.box τ c,v=>v=.pointer (some ⟨G.β s,0,none⟩)/\wC3 G w s τ c
 |none,.box _ _,_=>False
 |_,.ref s' τ p,v=>EI τ p/\v=.pointer (some ⟨G.β s',τ.poff p,none⟩)
 |_,.eref _ T t i p,v=>0<=i/\EI t p/\v=.pointer (some ⟨G.γ T,i.toNat*t.size+t.poff p,none⟩)
 |_,.agg f c,v=>∃vs,v=.agg vs.toArray/\AF G w f c vs
 |_,.nl,v=>v=.tuple #[]
 |_,.cons a b,v=>∃x xs,v=.tuple (x::xs).toArray/\zA G w tm none a x/\zA G w tm none b (.tuple xs.toArray)
 |_,.tup c,v=>zA G w tm none c v
 |_,.fn f c,v=>∃vs,v=.func (.func f) #[] vs/\zA G w tm none c (.tuple vs)
 |some s,.raw,v=>v=.pointer (some ⟨G.β s,0,none⟩)/\∃u e,w.heap[G.β s]?=some (.cells #[u] e (0,0))/\∀o,G.χ (G.β s) o=BN s
 |none,.raw,_=>False
 |_,.rref s',v=>v=.pointer (some ⟨G.β s',0,none⟩)
 |_,.ownh t l T i U m,v=>J9 G w t l T i U m v
 |_,.fptr f caps,v=>∃b,v=.pointer (some ⟨b,0,none⟩)/\G.χ b 0=0/\w.cell? ⟨b,0,none⟩=some (.func (.func f) #[] (caps.map (Il G v)).toArray)
structure Ext (X Y:Nat->Prop) (G:Gh) (w:World) (G':Gh) (w':World):Prop where
 prot:∀b o,b<w.heap.size->G.χ b o=0->G'.χ b o=0/\w'.cell? ⟨b,o,none⟩=w.cell? ⟨b,o,none⟩
 block:∀b,b<w.heap.size->(∀o,¬X (G.χ b o))->w'.heap[b]?=w.heap[b]?/\∀o,G'.χ b o=G.χ b o
 size:w.heap.size<=w'.heap.size
 box:∀s,¬Y (BN s)->G'.β s=G.β s
 tag:∀T,¬Y (AM T)->G'.γ T=G.γ T
 sub:∀n,Y n->X n
def GlobOk [GlobTab] (χ:Nat->Nat->Nat)(w:World):Prop:=
 ∀g τ (x:τ.den),(g,⟨τ,x⟩)∈GlobTab.tab->∃vs,AP χ w τ x vs/\L5 χ w g 0 vs
structure Frame0 (χ0:Nat->Nat->Nat) (w0:World) (χ:Nat->Nat->Nat) (w:World):Prop where
 os:w.os=w0.os
 tape:w.tape=w0.tape
 output:w.output=w0.output
 size:w0.heap.size<=w.heap.size
 block:∀b,b<w0.heap.size->(∀o,χ0 b o<=1)->w.heap[b]?=w0.heap[b]?
 cell:∀b o,b<w0.heap.size->χ0 b o<=1->χ b o=χ0 b o/\w.cell? ⟨b,o,none⟩=w0.cell? ⟨b,o,none⟩
structure Rel [GlobTab] (n:Nat) (χ0:Nat->Nat->Nat) (w0:World) (S:St) (a:Act) (w:World) (G:Gh):Prop where
 len:a.tmps.size=n
 defers:a.defers=[]
 reps:∀s,zA G w a.tmps (some s) (S.get s) (a.tmps.getD s undef)
 frame:Frame0 χ0 w0 G.χ w
 glob:GlobOk G.χ w
variable {α:Type}
theorem Ft{R R':α->List Value->Prop}(h:∀x vs,R x vs->R' x vs):∀{l us},CH R l us->CH R' l us:=by intro l;induction l with|nil=>intro us hu;exact hu|cons x l j=>rintro us ⟨vs,ws,rfl,C,I⟩;exact⟨vs,ws,rfl,h _ _ C,j I⟩
theorem Im{R:α->List Value->Prop}{k:Nat}(h:∀x vs,R x vs->vs.length=k):∀{l us},CH R l us->us.length=l.length*k:=by intro l;induction l with|nil=>grind [CH]|cons x l j=>rintro us ⟨vs,ws,rfl,C,I⟩;grind
variable {χ:Nat->Nat->Nat}
theorem DQ{w:World}:∀{τ:Ty}{x:τ.den}{vs:List Value},AP χ w τ x vs->vs.length=τ.size:=by intro τ;induction τ with|int k=>grind [AP,Ty.size]|bool=>grind [AP,Ty.size]|str=>grind [AP,Ty.size]|nl=>grind [AP,Ty.size]|cons a b I hb=>grind [AP,Ty.size]|st f J=>grind [AP,Ty.size]|arr n t ht=>intro x vs h;obtain⟨j,C⟩:=h;have:=Im (k:=t.size) (λ_ _ h=>ht h) C;rw[this,j];rfl|sl t ht=>intro x vs h;obtain⟨a,cap,rfl,_⟩:=h;simp[Ty.size]|ptr t ht=>intro x vs h;obtain⟨b,o,us,rfl,_⟩:=h;simp[Ty.size]
variable {χ':Nat->Nat->Nat}{w':World}{o b:Nat}{vs:List Value}
theorem zY1{w:World}(h:∀b o,b<w.heap.size->χ b o=0->χ' b o=0/\w'.cell? ⟨b,o,none⟩=w.cell? ⟨b,o,none⟩)(C:L5 χ w b o vs):L5 χ' w' b o vs:=by intro j v I;obtain⟨J,R⟩:=C j v I;grind [cell?]
theorem DE{w:World}(h:∀b o,b<w.heap.size->χ b o=0->χ' b o=0/\w'.cell? ⟨b,o,none⟩=w.cell? ⟨b,o,none⟩):∀{τ:Ty}{x:τ.den}{vs:List Value},AP χ w τ x vs->AP χ' w' τ x vs:=by intro τ;induction τ with|int k=>intro x vs j;exact j|bool=>intro x vs j;exact j|str=>intro x vs j;exact j|nl=>intro x vs j;exact j|cons a b J hb=>intro x vs j;obtain⟨us,ws,rfl,C,I⟩:=j;exact⟨us,ws,rfl,J C,hb I⟩|st f hf=>grind [AP]|arr n t ht=>grind [AP,Ft]|sl t ht=>intro x vs j;simp only[AP] at j ⊢;obtain⟨a,cap,rfl,j⟩:=j;refine⟨a,cap,rfl,?_⟩;rcases j with j|⟨b,o,us,C,I,R,h4⟩;grind;exact .inr ⟨b,o,us,C,I,Ft (λ_ _ h=>ht h) R,zY1 h h4⟩|ptr t ht=>intro x vs j;simp only[AP] at j ⊢;obtain⟨b,o,us,rfl,C,I⟩:=j;exact⟨b,o,us,rfl,ht C,zY1 h I⟩
theorem NY[GlobTab]{w:World}(h:∀b o,b<w.heap.size->χ b o=0->χ' b o=0/\w'.cell? ⟨b,o,none⟩=w.cell? ⟨b,o,none⟩)(j:GlobOk χ w):GlobOk χ' w':=by intro g τ x hm;obtain⟨vs,C,I⟩:=j g τ x hm;exact⟨vs,DE h C,zY1 h I⟩
variable {τ:Ty}{v:Value}
theorem Gz{w:World}(h:∀b o,b<w.heap.size->χ b o=0->χ' b o=0/\w'.cell? ⟨b,o,none⟩=w.cell? ⟨b,o,none⟩){x:τ.den}(j:DR χ w τ x v):DR χ' w' τ x v:=by obtain⟨vs,C,I⟩:=j;exact⟨vs,DE h C,I⟩
theorem Ext.refl (X:Nat->Prop)(G:Gh)(w:World):Ext X X G w G w:=⟨λ_ _ _ h=>⟨h,rfl⟩,λ_ _ _=>⟨rfl,λ_=>rfl⟩,jI _,λ_ _=>rfl,λ_ _=>rfl,λ_ h=>h⟩
def AVal.names (X Y:Nat->Prop):Option Nat->AVal->Prop
 |_,.own _ _ T _=>X (AM T)
 |_,.opt _ _ _ A=>A.names X Y none
 |some s,.box _ c=>X (BN s)\/c.names X Y none
 |none,.box _ c=>c.names X Y none
 |_,.ref s' _ _=>Y (BN s')
 |_,.eref _ T _ _ _=>Y (AM T)
 |_,.ownh _ _ T _ U _=>X (AM T)\/X (AM U)
 |_,.cons a b=>a.names X Y none\/b.names X Y none
 |_,.agg _ c=>c.names X Y none
 |_,.tup c=>c.names X Y none
 |_,.fn _ c=>c.names X Y none
 |some s,.raw=>X (BN s)
 |_,.rref s'=>Y (BN s')
 |_,.fptr _ caps=>∃k τ,some (k,τ)∈caps/\Y (BN k)
 |_,_=>False
theorem Fv{w:World}{o:Obj}(h:w.heap[b]?=some o):b<w.heap.size:=(Array.getElem?_eq_some_iff.1 h).1
theorem yE{w:World}(h:∀b o,b<w.heap.size->χ b o=0->χ' b o=0/\w'.cell? ⟨b,o,none⟩=w.cell? ⟨b,o,none⟩){k v:Ty}:∀{l:List (k.den×v.den×Unit)}{es:List MapEntry},I4 χ w k v l es->I4 χ' w' k v l es:=by intro l;induction l with|nil=>intro es h;exact h|cons x l j=>rintro es ⟨e,r,rfl,C,I,J⟩;exact⟨e,r,rfl,Gz h C,Gz h I,j J⟩
variable {Y X:Nat->Prop}{G':Gh}{t:Ty}{T:Nat}{m:Bool}
theorem zW{G:Gh}{w:World}(j:Ext X Y G w G' w')(h0:¬X 0){l:List t.den}(C:¬X (AM T))(h:yT G w t l T m v):yT G' w' t l T m v:=by refine⟨h.1,?_⟩;rcases h.2 with h|⟨cap,cur,e,us,h1,I,J,R,h5,h6,h7,h8⟩;grind;have hb:=j.block (G.γ T) (Fv I) (λo=>by grind);have hg:=j.tag T (λh=>C (j.sub _ h));refine .inr ⟨cap,cur,e,us,by grind,by grind,J,R,h5,Ft (λ_ _ h=>DE j.prot h) h6,h7,λo=>?_⟩;grind
theorem xQ7{G:Gh}{w:World}(C:Ext X Y G w G' w'){l:List (List t.den)}{i:Nat}(I:¬X (AM T))(h:wC4 G w t l T i v):wC4 G' w' t l T i v:=by rcases h with h|⟨cap,cur,e,h1,J,R,h4,h5,h6,h7⟩;exact .inl h;have hb:=C.block (G.γ T) (Fv J) (λo=>by grind);have hg:=C.tag T (λh=>I (C.sub _ h));refine .inr ⟨cap,cur,e,by grind,by grind,R,h4,h5,λo=>by grind,λj x hj kh=>?_⟩;obtain⟨u,hu,hr⟩:=h7 j x hj kh;exact⟨u,hu,DE C.prot hr⟩
variable {U:Nat}
theorem xQ8{G:Gh}{w:World}(C:Ext X Y G w G' w')(h0:¬X 0){l:List (List t.den)}{i:Nat}(R:¬X (AM T))(hU:¬X (AM U))(h:J9 G w t l T i U m v):J9 G' w' t l T i U m v:=by obtain⟨I,⟨he,⟨hm,x,a,cap,h1,h2,J⟩ | ⟨hm,hK⟩⟩ | ⟨kh,h|⟨cap,cur,e,h1,h2,J,h4,h5,h6,h7⟩⟩⟩:=h;rotate_left;exact⟨I,.inl ⟨he,.inr ⟨hm,xQ7 C R hK⟩⟩⟩;rotate_right;refine⟨I,.inl ⟨he,.inl ⟨hm,x,a,cap,h1,h2,?_⟩⟩⟩;rcases J with J|⟨o,us,cur,e,g1,g2,g3,g4,g5,g6⟩;grind;have hb:=C.block (G.γ T) (Fv g3) (λo=>by grind);have hg:=C.tag T (λh=>R (C.sub _ h));exact .inr ⟨o,us,cur,e,by grind,g2,by grind,Ft (λ_ _ h=>DE C.prot h) g4,g5,λo=>by grind⟩;exact⟨I,.inr ⟨kh,.inl h⟩⟩;have hb:=C.block (G.γ T) (Fv h2) (λo=>by grind);have hg:=C.tag T (λh=>R (C.sub _ h));refine⟨I,.inr ⟨kh,.inr ⟨cap,cur,e,by grind,by grind,J,h4,h5,λo=>by grind,λj x hj=>?_⟩⟩⟩;obtain⟨u,hu,hr⟩:=h7 j x hj;refine⟨u,hu,?_⟩;split;grind [zW];rename_i e;rw[if_neg e] at hr;exact DE C.prot hr
theorem xQ9{G:Gh}{w:World}(j:Ext X Y G w G' w'){l:List t.den}(C:¬X (AM T))(h:Tg G w t l T v):Tg G' w' t l T v:=by obtain⟨k,e,l',ht,I,es,clock,h1,J,R,h4⟩:=h;have hb:=j.block (G.γ T) (Fv J) (λo=>by grind);have hg:=j.tag T (λh=>C (j.sub _ h));exact⟨k,e,l',ht,I,es,clock,by grind,by grind,yE j.prot R,λo=>by grind⟩
theorem Ha{G:Gh}{w:World}(j:Ext X Y G w G' w')(I:¬X 0){l:List t.den}(C:¬X (AM T))(h:BV G w t l T m v):BV G' w' t l T m v:=h.imp (zW j I C) λh=>⟨h.1,xQ9 j C h.2⟩
theorem xI5{G:Gh}{w:World}{l:List t.den}(hγ:G'.γ U=G.γ T)(J:w'.heap[G.γ T]?=w.heap[G.γ T]?)(j:∀b o,b<w.heap.size->G.χ b o=0->G'.χ b o=0/\w'.cell? ⟨b,o,none⟩=w.cell? ⟨b,o,none⟩)(R:(∀o,G.χ (G.γ T) o=AM T)->∀o,G'.χ (G.γ T) o=AM U)(h:Tg G w t l T v):Tg G' w' t l U v:=by obtain⟨k,e,l',ht,C,es,clock,h1,h2,I,h4⟩:=h;exact⟨k,e,l',ht,C,es,clock,by grind,by grind,yE j I,λo=>by grind⟩
theorem zW0{G:Gh}{w:World}{l:List t.den}(j:yT G w t l T m v->yT G' w' t l U m v)(hγ:G'.γ U=G.γ T)(C:w'.heap[G.γ T]?=w.heap[G.γ T]?)(I:∀b o,b<w.heap.size->G.χ b o=0->G'.χ b o=0/\w'.cell? ⟨b,o,none⟩=w.cell? ⟨b,o,none⟩)(J:Tg G w t l T v->(∀o,G.χ (G.γ T) o=AM T)->∀o,G'.χ (G.γ T) o=AM U)(h:BV G w t l T m v):BV G' w' t l U m v:=h.imp j λh=>⟨h.1,xI5 hγ C I (J h.2) h.2⟩
theorem xB8{G:Gh}{w:World}{l:List t.den}(h:BV G w t l T false v):yT G w t l T false v:=h.elim id λh=>(by grind)
theorem Ff{G:Gh}{w:World}{l:List t.den}(h:BV G w t l T m v)(ht:t.isL=false):yT G w t l T m v:=by rcases h with h|⟨_,k,e,_,rfl,_⟩;all_goals grind [Ty.isL]
theorem yC{G:Gh}{w:World}(j:Ext X Y G w G' w')(C:¬X 0):∀{c:AVal}{τ:Ty}{vs:List Value},¬c.names X Y none->AF G w τ c vs->AF G' w' τ c vs:=by intro c;induction c with|val τ' x=>intro τ vs _ h;exact⟨h.1,h.2.1,DE j.prot h.2.2⟩|junk=>grind [AF]|nil=>grind [AF]|own t l T m=>grind [AVal.names,AF,Ha]|agg f a I=>grind [AVal.names,AF]|nl=>grind [AF]|cons a b gK gG=>grind [AF,AVal.names]|_=>grind [AF]
theorem yC0{G:Gh}{w:World}(C:Ext X Y G w G' w')(h0:¬X 0)(tm:Array Value):∀{A:AVal}{s:Option Nat}{v:Value},¬A.names X Y s->zA G w tm s A v->zA G' w' tm s A v:=by intro A;induction A with|val τ x=>intro s v _ h;simp only[zA] at h ⊢;exact Gz C.prot h|junk=>intro s v _ _;simp only[zA]|nil=>intro s v _ h;simp only[zA] at h ⊢;exact h|nn b=>intro s v _ h;simp only[zA] at h ⊢;exact h|own t l T m=>intro s v j h;simp only[zA] at h ⊢;simp only[AVal.names] at j;exact Ha C h0 j h|opt s' want g A ih=>intro s v j h;simp only[zA] at h ⊢;simp only[AVal.names] at j;exact⟨h.1,λR=>ih j (h.2.1 R),h.2.2⟩|box τ c ih=>intro s v j h;(cases s with|none=>simp only[zA] at h|some s=>simp only[AVal.names,not_or] at j;simp only[zA] at h ⊢;obtain⟨J,km,cur,e,I,h3,h4⟩:=h;have hb:=C.block (G.β s) (Fv I) (λo=>by rw[h4 o];exact j.1);have R:=C.box s (λh=>j.1 (C.sub _ h));exact⟨by rw[R];exact J,km,cur,e,by rw[R,hb.1];exact I,yC C h0 j.2 h3,λo=>by rw[R,hb.2 o];exact h4 o⟩)|ref s' τ p=>intro s v j h;simp only[AVal.names] at j;simp only[zA] at h ⊢;rw[C.box s' j];exact h|eref _ T t i p=>intro s v j h;simp only[AVal.names] at j;simp only[zA] at h ⊢;rw[C.tag T j];exact h|ownh t l T i U m=>intro s v j h;simp only[AVal.names,not_or] at j;simp only[zA] at h ⊢;exact xQ8 C h0 j.1 j.2 h|agg f c _=>intro s v j h;simp only[AVal.names] at j;simp only[zA] at h ⊢;obtain⟨vs,J,I⟩:=h;exact⟨vs,J,yC C h0 j I⟩|nl=>intro s v _ h;simp only[zA] at h ⊢;exact h|cons a b gK gG=>intro s v j h;simp only[AVal.names,not_or] at j;simp only[zA] at h ⊢;obtain⟨x,xs,J,I,h3⟩:=h;exact⟨x,xs,J,gK j.1 I,gG j.2 h3⟩|tup c ih=>intro s v j h;simp only[AVal.names] at j;simp only[zA] at h ⊢;exact ih j h|fn f c ih=>intro s v j h;simp only[AVal.names] at j;simp only[zA] at h ⊢;obtain⟨vs,J,I⟩:=h;exact⟨vs,J,ih j I⟩|raw=>intro s v j h;(cases s with|none=>simp only[zA] at h|some s=>simp only[AVal.names] at j;simp only[zA] at h ⊢;obtain⟨J,u,e,I,h3⟩:=h;have hb:=C.block (G.β s) (Fv I) (λo=>by rw[h3 o];exact j);have R:=C.box s (λh=>j (C.sub _ h));exact⟨by rw[R];exact J,u,e,by rw[R,hb.1];exact I,λo=>by rw[R,hb.2 o];exact h3 o⟩)|rref s'=>intro s v j h;simp only[AVal.names] at j;simp only[zA] at h ⊢;rw[C.box s' j];exact h|fptr f caps=>intro s v j h;simp only[AVal.names] at j;simp only[zA] at h ⊢;obtain⟨b,J,I,h3⟩:=h;(have hb:b<w.heap.size:=by by_cases hb:b<w.heap.size;exact hb;have:w.heap[b]?=none:=Array.getElem?_eq_none (by omega);simp[cell?,this] at h3);obtain⟨h4,h5⟩:=C.prot b 0 hb I;refine⟨b,J,h4,?_⟩;rw[h5,h3];congr 3;refine List.map_congr_left λq hq=>?_;cases q with|none=>rfl|some q=>obtain⟨k,τ⟩:=q;simp only[Il];rw[C.box k (λhY=>j ⟨k,τ,hq,hY⟩)]
variable {cur:Array Value}{A:AVal}
theorem zO{G:Gh}{w:World}{tm:Array Value}:∀{s:Option Nat}{v:Value},(∀d,A.hung d->cur.getD d undef=tm.getD d undef)->zA G w tm s A v->zA G w cur s A v:=by induction A with|opt C want g A j=>simp_all [zA,AVal.hung]|cons a b gK gG=>grind [zA,AVal.hung]|tup c j=>grind [zA,AVal.hung]|fn f c j=>grind [zA,AVal.hung]|box τ c _=>intro s v _ h;cases s<;>simp only[zA] at h ⊢;grind|raw=>intro s v _ h;cases s<;>simp only[zA] at h ⊢;grind|_=>grind [zA]
variable {s:Option Nat}
theorem Th{G:Gh}{w:World}{tm:Array Value}(h:zA G w tm s A v)(hb:∀τ c,A≠.box τ c)(j:A≠.raw):zA G w tm none A v:=by cases A<;>first | (exfalso;exact hb _ _ rfl) | (exfalso;exact j rfl)|grind [zA]
theorem PD{G:Gh}{w:World}{tm:Array Value}(h:zA G w tm none A v):zA G w tm s A v:=by cases A<;>(grind [zA])
variable {P:Program}
def DH:Ty->List Value
 |.int k=>[.int k 0]|.bool=>[.bool false]|.str=>[.string ⟨#[]⟩]|.nl=>[]|.cons h t=>DH h++DH t
 |.st f=>DH f|.arr n t=>(replicate n (DH t)).flatten|.sl _=>[.slice none 0 0]|.ptr _=>[.pointer none]
def xI6:Value->Value->Bool
 |.int k n,.int k' m=>Nat.beq (FK k) (FK k')&&(n==m)
 |.bool a,.bool b=>a==b
 |.string a,.string b=>a.data.toList.isEmpty&&b.data.toList.isEmpty
 |.slice none 0 0,.slice none 0 0=>true
 |.pointer none,.pointer none=>true
 |_,_=>false
theorem xI7{a b:Value}(h:xI6 a b):a=b:=by unfold xI6 at h;split at h;simp at h;grind [NM];grind;rename_i a b;obtain⟨⟨a⟩⟩:=a;obtain⟨⟨b⟩⟩:=b;grind;all_goals grind
def Xl:List Value->List Value->Bool
 |[],[]=>true
 |a::r,b::s=>xI6 a b&&Xl r s
 |_,_=>false
theorem xB9:∀{a b:List Value},Xl a b->a=b:=by intro a;induction a with|nil=>grind [Xl]|cons x r j=>intro b h;cases b<;>simp[Xl] at h;grind [xI7]
def Xm:Value->Bool
 |.agg _=>true|_=>false
def zM9 (P:Program)(T:Nat)(τ:Ty):Bool:=
 match P.info? T with
 |some i=>Nat.beq i.size τ.size&&ble i.bytes 32768&&!(P.eqGuardType P.depth T)&&ble τ.ht 9000&&(match i.zero with|some v=>Xl v.cells.toList (DH τ)&&(Xm v==τ.isAgg)|none=>false)
 |none=>false
def B3 (P:Program):Ty->Nat ⊕ (List Field×Nat)->Bool
 |.int k,.inl T=>(match P.underlying T with|some (.int k')=>Nat.beq (FK k') (FK k)|_=>false)&&zM9 P T (.int k)
 |.bool,.inl T=>(match P.underlying T with|some .bool=>true|_=>false)&&zM9 P T .bool
 |.str,.inl T=>(match P.underlying T with|some .string=>true|_=>false)&&zM9 P T .str
 |.nl,.inr ([],_)=>true
 |.cons h t,.inr (fd::r,o)=>Nat.beq fd.offset o&&!(fd.name=="_")&&B3 P h (.inl fd.type)&&B3 P t (.inr (r,o+h.size))
 |.st f,.inl T=>(match P.underlying T with|some (.struct fs)=>B3 P f (.inr (fs.toList,0))&&!(P.stoodInHeld T)|_=>false)&&zM9 P T (.st f)
 |.arr n t,.inl T=>(match P.underlying T with|some (.array m e)=>Nat.beq m n&&B3 P t (.inl e)|_=>false)&&zM9 P T (.arr n t)
 |.sl t,.inl T=>(match P.underlying T with|some (.slice e)=>B3 P t (.inl e)|_=>false)&&zM9 P T (.sl t)
 |.ptr t,.inl T=>(match P.underlying T with|some (.pointer e)=>B3 P t (.inl e)|_=>false)&&zM9 P T (.ptr t)
 |_,_=>false
def EM (P:Program)(l:List (Nat×Ty)):Bool:=l.all λe=>B3 P e.2 (.inl e.1)
theorem xR{l:List (Nat×Ty)}:look Ty.nl l T=.nl\/(T,look Ty.nl l T)∈l:=by induction l with|nil=>exact .inl rfl|cons e r j=>grind [look,Nat.beq,jC]
theorem I5{c:Ctx}(h:EM P c.tys)(T:Nat)(C:c.ty T≠.nl):B3 P (c.ty T) (.inl T):=by rcases xR (l:=c.tys) (T:=T) with j | j;exact absurd j C;exact (all_eq_true.1 h) _ j
structure TyIs (P:Program) (T:Nat) (τ:Ty):Prop where
 info:∃i z,P.info? T=some i/\i.size=τ.size/\i.bytes<=32768/\i.zero=some z/\z.cells.toList=DH τ/\Xm z=τ.isAgg
 und:∃d,P.underlying T=some d/\d.isRow=τ.isAgg
theorem zK8(h:zM9 P T τ):∃i z,P.info? T=some i/\i.size=τ.size/\i.bytes<=32768/\i.zero=some z/\z.cells.toList=DH τ/\Xm z=τ.isAgg:=by unfold zM9 at h;split at h;rename_i i hi;split at h;rename_i v j;simp only[jB,beq_iff_eq] at h;exact⟨i,v,hi,jC h.1.1.1.1,jR h.1.1.1.2,j,xB9 h.2.1,h.2.2⟩;grind;grind
theorem yO7(h:zM9 P T τ):P.eqGuardType P.depth T=false:=by grind [zM9]
theorem xI8(h:zM9 P T τ):τ.ht<=9000:=by unfold zM9 at h;split at h;all_goals simp_all
theorem xW2(h:B3 P τ (.inl T)):τ.ht<=9000:=by cases τ<;>simp[B3] at h<;>first|grind [xI8]|grind
theorem xC(h:B3 P τ (.inl T)):P.eqGuardType P.depth T=false:=by cases τ<;>simp[B3] at h<;>first|grind [yO7]|grind
theorem Hb(h:B3 P τ (.inl T)):TyIs P T τ:=by cases τ with|nl=>grind [B3]|cons a b=>grind [B3]|int k=>simp[B3] at h;refine⟨zK8 h.2,?_⟩;grind [Ty.isAgg]|bool=>simp[B3] at h;refine⟨zK8 h.2,?_⟩;grind [Ty.isAgg]|str=>simp[B3] at h;refine⟨zK8 h.2,?_⟩;grind [Ty.isAgg]|st f=>simp[B3] at h;refine⟨zK8 h.2,?_⟩;grind [Ty.isAgg]|arr n t=>simp[B3] at h;refine⟨zK8 h.2,?_⟩;grind [Ty.isAgg]|sl t=>simp[B3] at h;refine⟨zK8 h.2,?_⟩;grind [Ty.isAgg]|ptr t=>simp[B3] at h;refine⟨zK8 h.2,?_⟩;grind [Ty.isAgg]
variable {f:Ty}
theorem zY2:∀{fs:List Field}{o k:Nat},B3 P f (.inr (fs,o))->k<f.flen->∃fd,fs[k]?=some fd/\fd.offset=o+f.foff k/\B3 P (f.fty k) (.inl fd.type)/\fd.name≠"_":=by induction f with|cons h t _ qh=>intro fs o k hk hl;(cases fs with|nil=>grind [B3]|cons fd r=>simp[B3] at hk;cases k with|zero=>grind [Ty.foff,Ty.fty]|succ k=>simp only[Ty.flen] at hl;grind [Ty.foff,Ty.fty])|_=>grind [Ty.flen]
theorem PE(h:B3 P (.st f) (.inl T)):∃fs,P.underlying T=some (.struct fs)/\B3 P f (.inr (fs.toList,0)):=by grind [B3]
theorem xC0(h:B3 P (.st f) (.inl T)):P.stoodInHeld T=false:=by grind [B3]
variable {n:Nat}
theorem zS(h:B3 P (.arr n t) (.inl T)):∃e,P.underlying T=some (.array n e)/\B3 P t (.inl e):=by simp[B3] at h;cases hu:P.underlying T with|none=>grind|some d=>cases d<;>simp_all
theorem zG(h:B3 P (.sl t) (.inl T)):∃e,P.underlying T=some (.slice e)/\B3 P t (.inl e):=by grind [B3]
variable {k:IntKind}
theorem yC1(h:B3 P (.int k) (.inl T)):P.underlying T=some (.int k):=by simp[B3] at h;cases hu:P.underlying T with|none=>grind|some d=>cases d<;>simp_all;grind [NM]
theorem yO8(h:B3 P .bool (.inl T)):P.underlying T=some .bool:=by grind [B3]
theorem NZ(h:B3 P .str (.inl T)):P.underlying T=some .string:=by grind [B3]
theorem xI9(h:B3 P τ (.inl T)):τ.isL=false:=by cases τ<;>first|rfl|grind [B3]
theorem yZ1{q:FD}(j:EI t q)(h:B3 P (t.pty q) (.inl T)):t.isL=false:=by cases q with|nil=>exact xI9 h|cons e r=>cases t<;>first|rfl|grind [EI]
theorem u7(h:B3 P (.sl t) (.inl T)):t.isL=false:=by grind [zG,xI9]
variable {P:Program}
def seg (vs:List Value)(o n:Nat):List Value:=(vs.drop o).take n
def spl (vs:List Value)(o:Nat)(ys:List Value):List Value:=vs.take o++(ys++vs.drop (o+ys.length))
theorem xC1(h:o+n<=vs.length):(seg vs o n).length=n:=by grind [seg]
theorem seg_getElem? (vs:List Value)(o n j:Nat):(seg vs o n)[j]?=if j<n then vs[o+j]? else none:=by simp[seg,List.getElem?_take]
theorem Xn (vs:List Value)(o n o' C:Nat)(h:o'+C<=n):seg (seg vs o n) o' C=seg vs (o+o') C:=by apply ext_getElem?;intro j;simp only[seg_getElem?];by_cases I:j<C;grind;grind
theorem u9 (vs:List Value):seg vs 0 vs.length=vs:=by simp[seg]
theorem yC3 (us ws:List Value):seg (us++ws) 0 us.length=us:=by simp[seg]
theorem zW1 (us ws:List Value)(o n:Nat):seg (us++ws) (us.length+o) n=seg ws o n:=by unfold seg;rw[drop_append,List.drop_of_length_le (by omega),List.nil_append];congr 2;omega
variable {ys:List Value}
theorem zN(h:o+ys.length<=vs.length):(spl vs o ys).length=vs.length:=by grind [spl]
theorem yL8 (us ws ys:List Value)(h:ys.length=us.length):spl (us++ws) 0 ys=ys++ws:=by grind [spl]
theorem yE2 (us ws ys:List Value)(o:Nat):spl (us++ws) (us.length+o) ys=us++spl ws o ys:=by unfold spl;rw[List.take_append,List.take_of_length_le (by omega),drop_append,List.drop_of_length_le (by omega),List.nil_append,List.append_assoc];grind
theorem xJ (vs:List Value)(o:Nat):spl vs o []=vs:=by simp[spl]
theorem xW3 (vs ys:List Value)(h:ys.length=vs.length):spl vs 0 ys=ys:=by grind [spl]
theorem spl_getElem? (vs ys:List Value)(o j:Nat)(h:o+ys.length<=vs.length):(spl vs o ys)[j]?=if o<=j/\j<o+ys.length then ys[j-o]? else vs[j]?:=by unfold spl;by_cases J:j<o;grind;rw[List.getElem?_append_right (by grind)];(have C:(vs.take o).length=o:=by grind);rw[C];by_cases I:j<o+ys.length;rw[List.getElem?_append_left (by omega),if_pos ⟨by omega,I⟩];grind
theorem Xo (vs ys:List Value)(o n o':Nat)(h:o+n<=vs.length)(R:o'+ys.length<=n):spl vs o (spl (seg vs o n) o' ys)=spl vs (o+o') ys:=by have hl:(seg vs o n).length=n:=xC1 h;(have C:(spl (seg vs o n) o' ys).length=n:=by grind [zN]);apply ext_getElem?;intro j;rw[spl_getElem? vs _ o j (by omega),spl_getElem? vs ys (o+o') j (by omega),C];by_cases I:o<=j/\j<o+n;rw[if_pos I,spl_getElem? _ _ _ _ (by omega)];by_cases J:o'<=j-o/\j-o<o'+ys.length;grind;rw[if_neg J,if_neg (by omega),seg_getElem?,if_pos (by omega)];grind;rw[if_neg I,if_neg (by omega)]
theorem vE{R:α->List Value->Prop}{k:Nat}(j:∀x vs,R x vs->vs.length=k)(d:α):∀{l:List α}{us:List Value}{i:Nat},CH R l us->i<l.length->R (l.getD i d) (seg us (i*k) k):=by intro l;induction l with|nil=>grind|cons x l C=>rintro us i ⟨vs,ws,rfl,I,J⟩ hi;cases i with|zero=>grind [yC3]|succ i=>rw[show (i+1)*k=vs.length+i*k from by grind,zW1];grind
theorem yL9{R:α->List Value->Prop}{k:Nat}(j:∀x vs,R x vs->vs.length=k){y:α}(C:R y ys):∀{l:List α}{us:List Value}{i:Nat},CH R l us->i<l.length->CH R (l.set i y) (spl us (i*k) ys):=by intro l;induction l with|nil=>grind|cons x l ih=>rintro us i ⟨vs,ws,rfl,I,J⟩ hi;have hv:=j _ _ I;have hyl:=j _ _ C;cases i with|zero=>simp;rw[yL8 _ _ _ (by omega)];exact⟨ys,ws,rfl,C,J⟩|succ i=>rw[show (i+1)*k=vs.length+i*k from by grind,yE2];exact⟨vs,_,rfl,I,ih J (by grind)⟩
theorem yE4{R:α->List Value->Prop}:∀{l m:List α}{us ws:List Value},CH R l us->CH R m ws->CH R (l++m) (us++ws):=by intro l;induction l with|nil=>grind [CH]|cons x l j=>rintro m us ws ⟨vs,ws',rfl,C,I⟩ hm;exact⟨vs,ws'++ws,by simp,C,j I hm⟩
theorem yO9{R:α->List Value->Prop}{k:Nat}(I:∀x vs,R x vs->vs.length=k):∀{l:List α}{us:List Value}(n:Nat),CH R l us->CH R (l.take n) (us.take (n*k)):=by intro l;induction l with|nil=>grind [CH]|cons x l J=>rintro us n ⟨vs,ws,rfl,j,hl⟩;have C:=I _ _ j;cases n with|zero=>simp[CH]|succ n=>refine⟨vs,ws.take (n*k),?_,j,J n hl⟩;rw[List.take_append,List.take_of_length_le (by rw[C,add_mul];omega),show (n+1)*k-vs.length=n*k from by rw[C,add_mul];omega]
theorem yP{R:α->List Value->Prop}{k:Nat}(C:∀x vs,R x vs->vs.length=k):∀{l:List α}{us:List Value}(n:Nat),CH R l us->CH R (l.drop n) (us.drop (n*k)):=by intro l;induction l with|nil=>grind [CH]|cons x l J=>rintro us n ⟨vs,ws,rfl,j,I⟩;have hv:=C _ _ j;cases n with|zero=>simp;exact⟨vs,ws,rfl,j,I⟩|succ n=>simp_all [drop_append,List.drop_of_length_le,add_mul]
theorem zI9{R:α->List Value->Prop}{x:α}(h:R x vs):∀n,CH R (replicate n x) (replicate n vs).flatten:=by intro n;induction n with|zero=>simp[CH]|succ n j=>exact⟨vs,_,by simp[List.replicate_succ],h,j⟩
theorem Xp:∀{k:Nat},k<f.flen->f.foff k+(f.fty k).size<=f.size:=by induction f with|cons h t _ qh=>intro k j;cases k<;>grind [Ty.foff,Ty.fty,Ty.size,Ty.flen]|_=>grind [Ty.flen]
theorem vG{w:World}:∀{k:Nat}{x:f.den}{vs:List Value},k<f.flen->AP χ w f x vs->AP χ w (f.fty k) (f.fget k x) (seg vs (f.foff k) (f.fty k).size):=by induction f with|cons h t _ qh=>intro k x vs j C;obtain⟨us,ws,rfl,I,R⟩:=C;have J:=DQ I;(cases k with|zero=>grind [Ty.fty,Ty.fget,Ty.foff,yC3]|succ k=>simp only[Ty.flen] at j;simp[Ty.fty,Ty.fget,Ty.foff];rw[<-J,zW1];grind)|_=>grind [Ty.flen]
theorem xJ0{w:World}:∀{k:Nat}{x:f.den}{y:(f.fty k).den}{vs ys:List Value},k<f.flen->AP χ w f x vs->AP χ w (f.fty k) y ys->AP χ w f (f.fset k y x) (spl vs (f.foff k) ys):=by induction f with|cons h t _ qh=>intro k x y vs ys J R j;obtain⟨us,ws,rfl,C,I⟩:=R;have hl:=DQ C;(cases k with|zero=>simp only[Ty.fty] at y j;have hyl:=DQ j;simp[Ty.foff];rw[yL8 _ _ _ (by omega)];exact⟨ys,ws,rfl,j,I⟩|succ k=>simp only[Ty.flen] at J;simp[Ty.foff];rw[<-hl,yE2];exact⟨us,_,rfl,C,qh (by omega) I j⟩)|_=>grind [Ty.flen]
theorem zB{G:Gh}{w:World}:∀{c:AVal}{τ:Ty}{vs:List Value},AF G w τ c vs->vs.length=τ.size:=by intro c;induction c with|val τ' x=>grind [AF,DQ]|nil=>intro τ vs h;obtain⟨j,rfl⟩:=h;cases τ<;>simp[Ty.isSl] at j;rfl|own t l T m=>intro τ vs h;obtain⟨rfl,v,rfl,_⟩:=h;rfl|agg f a C=>grind [AF,Ty.size]|nl=>intro τ vs h;obtain⟨rfl,rfl⟩:=h;rfl|junk=>intro τ vs h;obtain⟨j,v,rfl,_⟩:=h;cases τ<;>simp[Ty.isSl] at j;rfl|cons a b gK gG=>grind [AF,Ty.size]|_=>grind [AF]
theorem zO0{G:Gh}{w:World}{c:AVal}(j:AF G w (.cons τ t) c vs):∃a b us ws,c=.cons a b/\vs=us++ws/\AF G w τ a us/\AF G w t b ws:=by cases c with|cons a b=>obtain⟨R,t',us,ws,e,rfl,C,I⟩:=j;injection e with e1 J;subst e1;subst J;exact⟨a,b,us,ws,rfl,rfl,C,I⟩|val τ' x=>simp only[AF] at j;grind [Ty.isL]|nil=>grind [AF,Ty.isSl]|junk=>grind [AF,Ty.isSl]|_=>grind [AF]
theorem yM{G:Gh}{w:World}:∀{c:AVal}{k:Nat}{vs:List Value},k<f.flen->AF G w f c vs->AF G w (f.fty k) (c.nth k) (seg vs (f.foff k) (f.fty k).size):=by induction f with|cons h t _ qh=>intro c k vs j C;obtain⟨a,b,us,ws,rfl,rfl,I,R⟩:=zO0 C;have J:=zB I;(cases k with|zero=>grind [Ty.fty,AVal.nth,Ty.foff,yC3]|succ k=>simp only[Ty.flen] at j;simp[Ty.fty,AVal.nth,Ty.foff];rw[<-J,zW1];grind)|_=>grind [Ty.flen]
theorem zU4{G:Gh}{w:World}:∀{c B:AVal}{k:Nat}{vs ys:List Value},k<f.flen->AF G w f c vs->AF G w (f.fty k) B ys->AF G w f (c.setNth k B) (spl vs (f.foff k) ys):=by induction f with|cons h t _ qh=>intro c B k vs ys J R j;obtain⟨a,b,us,ws,rfl,rfl,C,I⟩:=zO0 R;have hl:=zB C;(cases k with|zero=>simp only[Ty.fty] at j;have hyl:=zB j;simp[Ty.foff];rw[yL8 _ _ _ (by omega)];exact⟨h,t,ys,ws,rfl,rfl,j,I⟩|succ k=>simp only[Ty.flen] at J;simp[Ty.foff];rw[<-hl,yE2];exact⟨h,t,us,_,rfl,rfl,C,qh (by omega) I j⟩)|_=>grind [Ty.flen]
theorem Gi(h:B3 P τ (.inl T)):τ.isL=false:=by cases τ<;>first|rfl|grind [B3]
theorem yZ2{x:List Field×Nat}(h:B3 P τ (.inr x)):τ.isL:=by cases τ<;>first|rfl|grind [B3]
theorem Oa:∀{τ:Ty}{x:Nat ⊕ (List Field×Nat)},B3 P τ x->τ.plain:=by intro τ;induction τ with|cons h t C qh=>intro x I;rcases x with x|⟨fs,o⟩;grind [B3];cases fs<;>grind [B3,Ty.plain,Gi,yZ2]|st f j=>grind [Ty.plain,yZ2,B3]|arr n t j=>grind [Ty.plain,Gi,B3]|sl t j=>grind [Ty.plain,Gi,B3]|ptr t j=>grind [Ty.plain,Gi,B3]|_=>intro x _;rfl
theorem yE6:∀{k:Nat},f.plain->k<f.flen->(f.fty k).isL=false/\(f.fty k).plain:=by induction f with|cons h t _ qh=>intro k j C;simp[Ty.plain] at j;(cases k with|zero=>exact⟨j.1.1.1,j.1.1.2⟩|succ k=>simp only[Ty.flen] at C;exact qh j.2 (by omega))|_=>grind [Ty.flen]
theorem yP0{G:Gh}{w:World}:∀{x:f.den}{vs:List Value},f.isL->f.plain->AP G.χ w f x vs->AF G w f (l8 f x) vs:=by induction f with|cons h t _ qh=>intro x vs R j C;simp[Ty.plain] at j;obtain⟨us,ws,rfl,I,J⟩:=C;exact⟨h,t,us,ws,rfl,rfl,⟨rfl,j.1.1.1,I⟩,qh j.1.2 j.2 J⟩|nl=>grind [AP,l8,AF]|_=>grind [Ty.isL]
theorem EJ{a b:Ty}{x:a.den}{y:b.den}(h:Ty.cast b x=some y):∃e:a=b,e ▸ x=y:=by grind [Ty.cast,Ty.eq_of_beq]
theorem G3{G:Gh}{w:World}{l:List t.den}(h:BV G w t l T false v):AP G.χ w (.sl t) l [v]:=by simp only[AP];rcases (xB8 h).2 with ⟨rfl,rfl⟩ | ⟨cap,cur,e,us,rfl,J,C,R,h5,I,h7,h8⟩;grind;refine⟨_,cap,rfl,?_⟩;refine .inr ⟨G.γ T,0,us,rfl,C,I,λj u hu=>?_⟩;grind [cell?]
theorem Kq{G:Gh}{w:World}:∀{A:AVal}{τ:Ty}{x:τ.den}{vs:List Value},AVal.as τ A=some x->AF G w τ A vs->AP G.χ w τ x vs:=by intro A;induction A with|val τ' y=>intro τ x vs h ht;simp[AVal.as,AVal.asT] at h;simp only[AF] at ht;rw[ht.2.1,jD] at h;obtain⟨e,rfl⟩:=EJ h;grind|nil=>intro τ x vs h ht;simp only[AF] at ht;(cases τ with|sl t=>have h:(some []:Option (List t.den))=some x:=h;grind [AP]|_=>grind [Ty.isSl])|own t l T m=>intro τ x vs h ht;simp[AVal.as,AVal.asT] at h;obtain⟨rfl,v,rfl,j⟩:=ht;(cases m with|true=>grind|false=>obtain⟨e,rfl⟩:=EJ h;exact G3 j)|agg f c C=>intro τ x vs h ht;obtain⟨rfl,ht⟩:=ht;simp[AVal.as,AVal.asT] at h;(cases hb:Ty.beq (.st f) (.st f) with|false=>grind|true=>rw[hb,jE] at h;simp only[AP];exact C h ht)|nl=>intro τ x vs h ht;obtain⟨rfl,rfl⟩:=ht;grind [AP]|cons a b gK gG=>intro τ x vs h ht;obtain⟨h1,t1,us,ws,rfl,rfl,I,J⟩:=ht;simp[AVal.as,AVal.asT,l9] at h;split at h;rename_i y z R hz;injection h with h;subst h;exact⟨us,ws,rfl,gK R I,gG hz J⟩;grind|junk=>grind [AVal.as,AVal.asT]|_=>grind [AF]
theorem Ob{G:Gh}{w:World}:∀{p:FD}{τ:Ty}{c:AVal}{vs:List Value},τ.plain->τ.isL=false->EI τ p->AF G w τ c vs->(AF G w (τ.pty p) (c.at p) (seg vs (τ.poff p) (τ.pty p).size)/\τ.poff p+(τ.pty p).size<=τ.size/\(τ.pty p).plain/\(τ.pty p).isL=false):=by intro p;induction p with|nil=>intro τ c vs j R _ h;have:=zB h;grind [Ty.pty,AVal.at,Ty.poff,u9]|cons x p ih=>intro τ c vs j R C h;rcases x with k|i;cases τ<;>simp only[EI] at C;rename_i f;simp only[Ty.plain,jB] at j;have iK:=yE6 j.2 C.1;have hle:=Xp C.1;(have I:AF G w (f.fty k) (c.fld k) (seg vs (f.foff k) (f.fty k).size):=by cases c with|val τ' x=>simp only[AF] at h;obtain⟨rfl,_,h⟩:=h;simp only[AVal.fld,AF];simp only[AP] at h;exact⟨trivial,iK.1,vG C.1 h⟩|agg f' a=>grind [AF,AVal.fld,yM]|nil=>grind [AF,Ty.isSl]|junk=>simp[AF,Ty.isSl] at h|_=>simp[AF] at h);grind [Ty.pty,AVal.at,Ty.poff,Ty.size,Xn];cases τ<;>simp only[EI] at C;rename_i n t;simp only[Ty.plain,jB,jK] at j;cases c with|val τ' x=>simp only[AF] at h;obtain⟨rfl,_,h⟩:=h;simp only[AP] at h;obtain⟨h1,h2⟩:=h;(have hi:i.toNat<length (α:=t.den) x:=by omega);have hg:=vE (k:=t.size) (λ_ _ h=>DQ h) t.dflt h2 hi;have I:AF G w t (.val t (getD (α:=t.den) x i.toNat t.dflt)) (seg vs (i.toNat*t.size) t.size):=(by simp only[AF];exact⟨trivial,j.1,hg⟩);obtain⟨J,h4,h5,h6⟩:=ih j.2 j.1 C.2.2 I;simp only[Ty.pty,AVal.at,Ty.poff,Ty.size,AVal.ix];rw[Xn _ _ _ _ _ h4] at J;refine⟨J,?_,h5,h6⟩;(have:i.toNat*t.size+t.size<=n*t.size:=by rw[<-succ_mul];exact jS _ (by omega));omega|nil=>simp[AF,Ty.isSl] at h|junk=>simp[AF,Ty.isSl] at h|_=>simp[AF] at h
theorem Oc:∀{A:AVal}{τ:Ty}{x:τ.den},AVal.as τ A=some x->A.fitsT τ:=by intro A;induction A with|val τ' y=>intro τ x h;simp[AVal.as,AVal.asT] at h;(cases J:τ'.isL with|true=>simp_all|false=>simp[AVal.fitsT];grind [Ty.cast])|nil=>intro τ x h;(cases τ<;>first|rfl|grind [AVal.as,AVal.asT,xZ])|own t l T m=>intro τ x h;simp[AVal.as,AVal.asT] at h;(cases m with|true=>simp_all|false=>grind [AVal.fitsT,Ty.cast])|agg f c j=>intro τ x h;simp only[AVal.as,AVal.asT] at h;(cases hb:Ty.beq (.st f) τ with|false=>simp_all|true=>rw[hb,jE] at h;have:=Ty.eq_of_beq hb;subst this;simp[AVal.fitsT,hb];exact j h)|nl=>intro τ x h;(cases τ<;>first|rfl|grind [AVal.as,AVal.asT,wC7])|cons a b gK gG=>intro τ x h;(cases τ with|cons R t1=>simp only[AVal.as,AVal.asT,l9] at h;split at h;rename_i y z C I;simp[AVal.fitsT,GV,jB];exact⟨gK C,gG I⟩;grind|_=>grind [AVal.as,AVal.asT,l9])|_=>grind [AVal.as,AVal.asT]
theorem PF:∀{A:AVal}{τ:Ty},A.fitsT τ->A.laxT τ:=by intro A;induction A with|agg f c j=>grind [AVal.fitsT,AVal.laxT]|cons a b gK gG=>intro τ h;cases τ<;>simp_all [AVal.fitsT,AVal.laxT,GV]|val τ' y=>intro τ h;exact h|nil=>intro τ h;exact h|own t l T m=>intro τ h;exact h|nl=>intro τ h;exact h|_=>grind [AVal.fitsT]
theorem yI9{G:Gh}{w:World}:∀{c B:AVal}{k:Nat}{vs:List Value},k<f.flen->AF G w f c vs->(c.setNth k B).laxT f->B.laxT (f.fty k):=by induction f with|cons h t _ qh=>intro c B k vs C I j;obtain⟨a,b,us,ws,rfl,rfl,R,J⟩:=zO0 I;(cases k with|zero=>simp[AVal.setNth,AVal.laxT,GV] at j;exact j.1|succ k=>simp only[Ty.flen] at C;simp[AVal.setNth,AVal.laxT,GV] at j;exact qh (by omega) J j.2)|_=>grind [Ty.flen]
theorem yZ3{G:Gh}{w:World}:∀{p:FD}{τ:Ty}{c B:AVal}{vs ys:List Value},τ.plain->τ.isL=false->EI τ p->AF G w τ c vs->AF G w (τ.pty p) B ys->(AVal.put p c B).laxT τ->AF G w τ (AVal.put p c B) (spl vs (τ.poff p) ys):=by intro p;induction p with|nil=>intro τ c B vs ys C hl _ h J _;simp only[Ty.pty] at J;have:=zB h;have:=zB J;simp only[AVal.put,Ty.poff];rw[xW3 _ _ (by omega)];exact J|cons x p ih=>intro τ c B vs ys C hl j h J I;have hat:=Ob C hl j h;rcases x with k|i;cases τ<;>simp only[EI] at j;rename_i f;simp only[Ty.plain,jB] at C;have iK:=yE6 C.2 j.1;have hle:=Xp j.1;have hyl:=zB J;simp only[Ty.pty] at hyl J hat;simp only[Ty.poff,Ty.size] at hat ⊢;have gA:=zB h;simp only[Ty.size] at gA;(cases c with|val τ' x=>simp only[AF] at h;obtain⟨rfl,_,h⟩:=h;simp only[AP] at h;have hg:AF G w (f.fty k) (.val (f.fty k) (f.fget k x)) (seg vs (f.foff k) (f.fty k).size):=(by simp only[AF];exact⟨trivial,iK.1,vG j.1 h⟩);have hat2:=Ob iK.2 iK.1 j.2 hg;simp only[AVal.put] at I ⊢;have hC:=λhn=>ih (B:=B) iK.2 iK.1 j.2 hg J hn;(cases hy:AVal.as (f.fty k) (AVal.put p (.val (f.fty k) (f.fget k x)) B) with|some y=>simp only[hy] at I ⊢;have:=xJ0 j.1 h (Kq hy (hC (PF (Oc hy))));rw[Xo _ _ _ _ _ (by omega) (by omega)] at this;simp only[AF];exact⟨trivial,rfl,by simpa only[AP] using this⟩|none=>simp only[hy] at I ⊢;have hex:=yP0 C.1 C.2 h;simp only[AVal.laxT,jB] at I;have:=zU4 j.1 hex (hC (yI9 j.1 hex I.2));rw[Xo _ _ _ _ _ (by omega) (by omega)] at this;simp only[AF];exact⟨trivial,this⟩)|agg f' a=>simp only[AF] at h;obtain⟨e,h⟩:=h;injection e with e;subst e;have hg:=yM j.1 h;have hat2:=Ob iK.2 iK.1 j.2 hg;simp only[AVal.put] at I ⊢;simp only[AVal.laxT,jB] at I;have:=zU4 j.1 h (ih iK.2 iK.1 j.2 hg J (yI9 j.1 h I.2));rw[Xo _ _ _ _ _ (by omega) (by omega)] at this;simp only[AF];exact⟨trivial,this⟩|nil=>simp[AF,Ty.isSl] at h|junk=>simp[AF,Ty.isSl] at h|_=>simp[AF] at h);cases τ<;>simp only[EI] at j;rename_i n t;simp only[Ty.plain,jB,jK] at C;have hyl:=zB J;have gA:=zB h;simp only[Ty.pty,Ty.size] at hyl J gA;cases c with|val τ' x=>simp only[AF] at h;obtain⟨rfl,_,h⟩:=h;simp only[AP] at h;obtain⟨h1,h2⟩:=h;(have hi:i.toNat<length (α:=t.den) x:=by omega);have hg:=vE (k:=t.size) (λ_ _ h=>DQ h) t.dflt h2 hi;have hc:AF G w t (.val t (getD (α:=t.den) x i.toNat t.dflt)) (seg vs (i.toNat*t.size) t.size):=(by simp only[AF];exact⟨trivial,C.1,hg⟩);have hat2:=Ob C.2 C.1 j.2.2 hc;(have gj:i.toNat*t.size+t.size<=n*t.size:=by rw[<-succ_mul];exact jS _ (by omega));simp only[AVal.put] at I ⊢;(cases hy:AVal.as t (AVal.put p (.val t (getD (α:=t.den) x i.toNat t.dflt)) B) with|none=>simp only[hy,AVal.laxT] at I;cases I|some y=>simp only[hy] at I ⊢;have hn:=PF (Oc hy);have:=yL9 (R:=AP G.χ w t) (k:=t.size) (λ_ _ h=>DQ h) (Kq hy (ih C.2 C.1 j.2.2 hc J hn)) h2 hi;rw[Xo _ _ _ _ _ (by omega) (by omega)] at this;simp only[AF,Ty.poff];exact⟨trivial,rfl,by simp only[AP];exact⟨(List.length_set (α:=t.den)).trans h1,this⟩⟩)|nil=>simp[AF,Ty.isSl] at h|junk=>simp[AF,Ty.isSl] at h|_=>simp[AF] at h
variable {P:Program}{c:Ctx}{G:Gh}{w:World}{tm:Array Value}
theorem Eh(ki:EM P c.tys)(h:c.is T τ):B3 P τ (.inl T):=by grind [Ctx.is,Ty.eq_of_beq,I5,xZ0]
theorem VRep_int{n:Int}:DR χ w (.int k) n v↔v=.int k n:=by constructor;rintro⟨vs,j,C⟩;grind [AP,Ty.isAgg];rintro rfl;exact⟨[.int k n],by grind [AP],by simp[Ty.isAgg]⟩
theorem VRep_bool{b:Bool}:DR χ w .bool b v↔v=.bool b:=by constructor;rintro⟨vs,j,C⟩;grind [AP,Ty.isAgg];rintro rfl;exact⟨[.bool b],by grind [AP],by simp[Ty.isAgg]⟩
theorem VRep_str{s:List UInt8}:DR χ w .str s v↔v=.string ⟨s.toArray⟩:=by constructor;rintro⟨vs,j,C⟩;grind [AP,Ty.isAgg];rintro rfl;exact⟨[.string ⟨s.toArray⟩],by grind [AP],by simp[Ty.isAgg]⟩
theorem zC{x:τ.den}(h:τ.isAgg=false):DR χ w τ x v↔AP χ w τ x [v]:=by constructor;rintro⟨vs,j,C⟩;grind;intro j;exact⟨[v],j,by grind⟩
theorem JA{x:τ.den}(h:τ.isAgg):DR χ w τ x v↔∃vs,v=.agg vs.toArray/\AP χ w τ x vs:=by constructor;rintro⟨vs,C,j⟩;grind;rintro⟨vs,C,j⟩;exact⟨vs,j,by grind⟩
def I6 (τ:Ty)(us:List Value)(u:Value):Prop:=cond τ.isAgg (u=.agg us.toArray) (us=[u])
variable {us:List Value}{u:Value}
theorem yE7(h:AF G w τ A us)(I:τ.isL=false)(hu:I6 τ us u):zA G w tm none A u:=by unfold I6 at hu;cases A with|val τ' x=>obtain⟨rfl,j,C⟩:=h;exact⟨us,C,hu⟩|nil=>obtain⟨j,rfl⟩:=h;cases τ<;>simp[Ty.isSl] at j;grind [Ty.isAgg,zA]|own t l T m=>grind [AF,Ty.isAgg,zA]|agg f a=>grind [AF,Ty.isAgg,zA]|nl=>grind [AF,Ty.isL]|cons a b=>grind [AF,Ty.isL]|junk=>grind [zA]|_=>grind [AF]
theorem Xq(h:zA G w tm none A u)(j:A.fitsT τ)(J:τ.isL=false):∃us,AF G w τ A us/\I6 τ us u:=by unfold I6;cases A with|val τ' x=>simp[AVal.fitsT] at j;have e:=Ty.eq_of_beq j.1;subst e;obtain⟨us,I,C⟩:=h;exact⟨us,by grind [AF],C⟩|nil=>subst h;simp only[AVal.fitsT] at j;cases τ<;>simp[Ty.isSl] at j;simp_all [AF,Ty.isSl,Ty.isAgg]|own t l T m=>have e:=Ty.eq_of_beq j;subst e;simp_all [zA,AF,Ty.isAgg]|agg f a=>simp[AVal.fitsT] at j;have e:=Ty.eq_of_beq j.1;subst e;obtain⟨us,I,C⟩:=h;grind [AF,Ty.isAgg]|nl=>grind [AVal.fitsT,Ty.eq_of_beq,Ty.isL]|cons a b=>simp only[AVal.fitsT] at j;cases τ<;>simp[GV] at j;grind [Ty.isL]|_=>grind [AVal.fitsT]
theorem I7{x:τ.den}(h:AVal.as τ A=some x)(j:τ.isL=false)(C:zA G w tm none A u):DR G.χ w τ x u:=by obtain⟨us,I,J⟩:=Xq C (Oc h) j;exact⟨us,Kq h I,J⟩
theorem yZ4(h:B3 P τ (.inl T))(j:τ.isAgg=false):τ.size=1:=by cases τ<;>simp[Ty.isAgg,B3] at h j<;>rfl
theorem yE8{d:TypeDesc}(hu:P.underlying T=some d)(w:World):(isAgg T).run P w=.ok d.isRow w:=by unfold isAgg;rw[run_bind,run_underlying hu w];cases d<;>simp
theorem zJ(j:B3 P τ (.inl T))(C:w.rangeAt b o us)(J:us.length=τ.size):∃u,(loadAt T (.pointer (some ⟨b,o,none⟩))).run P w=.ok u w/\I6 τ us u:=by obtain⟨⟨i,z,hi,R,_⟩,d,hu,hd⟩:=Hb j;unfold I6;cases I:τ.isAgg with|true=>grind [run_loadAt_mid]|false=>have h1:=yZ4 j I;(obtain⟨u,rfl⟩:∃u,us=[u]:=by cases us<;>simp_all);have hc:=C 0 u rfl;have hg:=yE8 hu w;simp_all [loadAt,sureAddr,loadVar]
theorem yT5(h:L5 χ w b o us):w.rangeAt b o us:=λj v C=>(h j v C).1
variable {e:TypeId}
theorem yT6{fr:Nat×Nat}(h:w.heap[b]?=some (.cells cur e fr))(o n:Nat):w.rangeAt b o (seg cur.toList o n):=by intro j v C;grind [seg_getElem?,cell?]
def zD:AVal->Option Nat
 |.ref s _ _=>some s
 |.eref s _ _ _ _=>some s
 |.rref s=>some s
 |_=>none
theorem Od{s:Nat}{k:AVal}(h:zA G w tm (some s) (.box τ k) u):J8 τ/\∃cur e,w.heap[G.β s]?=some (.cells cur e (0,0))/\AF G w τ k cur.toList/\(∀o,G.χ (G.β s) o=BN s):=by exact h.2
def wC8 (P:Program)(T:Nat):Bool:=
 match P.info? T,P.underlying T with
 |some i,some d=>Nat.beq i.size 1&&!d.isRow&&(match i.zero with|some z=>Nat.beq z.cells.size 1|none=>false)
 |_,_=>false
def Kr (P:Program)(l:List Nat):Bool:=l.all (wC8 P)
theorem yT8{l:List Nat}(h:Kr P l)(j:l.any (Nat.beq T)):∃i d z u,P.info? T=some i/\P.underlying T=some d/\i.size=1/\d.isRow=false/\i.zero=some z/\z.cells=#[u]:=by obtain⟨T',hm,hb⟩:=List.any_eq_true.1 j;have:=all_eq_true.1 h _ hm;unfold wC8 at this;split at this;grind [jC,Array.size_eq_one_iff];grind
theorem xR0{f:Nat}{caps:List (Option (Nat×Ty))}(j:zA G w tm none (.fptr f caps) v):∀r,zA G w tm none (xY f caps r) (.tuple (r.map (Il G v)).toArray):=by intro r;induction r with|nil=>simp[xY,zA]|cons q r C=>cases q<;>grind [xY,zA,Il,EI,Ty.poff]
variable {x:AVal}{p:List Prop}
theorem yE9(ki:EM P c.tys)(tg:Kr P c.fts){k:AVal}(R:zA G w tm none x v)(hk:∀s,zD x=some s->∃u,zA G w tm (some s) k u)(h:yL c T x k=some (p,A))(hp:∀q∈p,q):∃u,(loadAt T v).run P w=.ok u w/\zA G w tm none A u:=by cases x with|fptr f caps=>simp only[yL] at h;(cases hb:c.fts.any (Nat.beq T) with|false=>grind|true=>simp[hb] at h;obtain⟨rfl,rfl⟩:=h;obtain⟨i,d,z,u,hi,hu,_,hrow,_,_⟩:=yT8 tg hb;have I:=R;obtain⟨b,rfl,_,C⟩:=R;refine⟨.func (.func f) #[] (caps.map (Il G (.pointer (some ⟨b,0,none⟩)))).toArray,?_,?_⟩;have hg:=yE8 hu w;simp_all [loadAt,sureAddr,loadVar];exact⟨_,rfl,xR0 I caps⟩)|val τ x=>(cases τ with|ptr t=>simp only[yL] at h;(cases hi:c.is T t with|false=>grind|true=>simp[hi] at h;obtain⟨rfl,rfl⟩:=h;have hT:=Eh ki hi;simp only[zA] at R;rw[zC rfl] at R;obtain⟨b,o,us,I,h1,h2⟩:=R;injection I with I _;subst I;obtain⟨u,h3,h4⟩:=zJ hT (yT5 h2) (DQ h1);exact⟨u,h3,by exact⟨us,h1,h4⟩⟩)|_=>grind [yL])|ref s τ q=>simp only[yL] at h;(cases k with|box τ' k=>(cases C:(Ty.beq τ' τ&&c.is T (τ.pty q)&&AVal.fits (τ.pty q) (k.at q)) with|false=>grind|true=>simp at C;have e:=Ty.eq_of_beq C.1.1;subst e;have hT:=Eh ki C.1.2;obtain⟨u,hu⟩:=hk s rfl;obtain⟨⟨iF,gN⟩,cur,e,h1,h2,h3⟩:=Od hu;obtain⟨J,rfl⟩:=R;obtain⟨h4,h5,h6,h7⟩:=Ob iF gN J h2;obtain⟨u,h8,h9⟩:=zJ hT (yT6 h1 _ _) (zB h4);grind [yE7])|_=>grind)|eref s U t i q=>simp only[yL] at h;(cases k with|ownh t' l U' j V m=>(cases C:(Ty.beq (.sl t') t&&Nat.beq U' U&&c.is T (.sl t')&&q.isEmpty&&!(Nat.beq U' V)) with|false=>simp_all|true=>simp[C,jE,jA,jG] at h;obtain⟨rfl,rfl⟩:=h;simp only[jB] at C;obtain⟨C,hUV⟩:=C;have e:=Ty.eq_of_beq C.1.1.1;subst e;have e:=jC C.1.1.2;subst e;have hq:q=[]:=List.isEmpty_iff.1 C.2;subst hq;have hT:=Eh ki C.1.2;obtain⟨u,hu⟩:=hk s rfl;obtain⟨hx0,J,rfl⟩:=R;obtain⟨mj,hi⟩:=hp _ (jH.2 rfl);(have il:i.toNat<length (α:=List t'.den) l:=by omega);obtain⟨I,⟨he,_⟩ | ⟨kh,⟨_,h0⟩ | ⟨cap,cur,e,h1,h2,h3,h4,h5,h6,h7⟩⟩⟩:=hu;grind;grind;obtain⟨u1,hu1,hr⟩:=h7 i.toNat _ (jL il);(have ng:w.rangeAt (G.γ U') (i.toNat*(Ty.sl t').size+(Ty.sl t').poff []) [u1]:=by intro k v I;grind [Ty.size,Ty.poff,cell?]);obtain⟨u2,h13,h14⟩:=zJ hT ng rfl;refine⟨u2,h13,?_⟩;simp[I6,Ty.isAgg] at h14;refine .inl ?_;grind)|own t' l U' m=>(cases C:(Ty.beq t' t&&Nat.beq U' U&&c.is T (t.pty q)&&AVal.fits (t.pty q) ((AVal.val t' (getD (α:=t'.den) l i.toNat t'.dflt)).at q)) with|false=>grind|true=>simp only[C,jE,jA,jG] at h;obtain⟨rfl,rfl⟩:=h;simp only[jB] at C;have e:=Ty.eq_of_beq C.1.1.1;subst e;have e:=jC C.1.1.2;subst e;have hT:=Eh ki C.1.2;obtain⟨u,hu⟩:=hk s rfl;obtain⟨hx0,J,rfl⟩:=R;have hi:=hp _ (jH.2 rfl);(have il:i.toNat<l.length:=by omega);obtain⟨⟨iF,gN⟩,hu⟩:=Ff hu (yZ1 J hT);rcases hu with ⟨_,rfl⟩ | ⟨cap,cur,e,us,_,h2,h3,h4,h5,h6,h7,h8⟩;grind;have hg:=vE (k:=t'.size) (λ_ _ h=>DQ h) t'.dflt h6 il;(have gT:AF G w t' (.val t' (getD (α:=t'.den) l i.toNat t'.dflt)) (seg us (i.toNat*t'.size) t'.size):=by simp_all [AF]);obtain⟨h9,h10,h11,h12⟩:=Ob iF gN J gT;rw[Xn _ _ _ _ _ h10] at h9;(have hr:w.rangeAt (G.γ U') (i.toNat*t'.size+t'.poff q) (seg us (i.toNat*t'.size+t'.poff q) (t'.pty q).size):=by intro j v I;rw[seg_getElem?] at I;split at I;rw[<-h7,List.getElem?_take] at I;split at I;simp[cell?,h2];simpa using I;cases I;cases I);grind [zJ,zB,yE7])|_=>grind)|_=>grind [yL]
variable {P:Program}{c:Ctx}{G:Gh}{w:World}{tm:Array Value}
theorem Ti{x:t.den}(j:AP G.χ w t x us)(C:L5 G.χ w b o us):zA G w tm s (.val (.ptr t) x) (.pointer (some ⟨b,o,none⟩)):=by refine (zC rfl).2 ?_;exact⟨b,o,us,rfl,j,C⟩
theorem Oe{l:List t.den}{i:Nat}(h:CH (AP χ w t) l us)(hi:i<l.length):AP χ w t (l.getD i t.dflt) (seg us (i*t.size) t.size):=vE (R:=AP χ w t) (k:=t.size) (λ_ _ h=>DQ h) t.dflt h hi
theorem xJ1 (s:List UInt8)(n:Nat)(h:n<s.length):((⟨s.toArray⟩:ByteArray))[n]?=some (s.getD n 0):=by rw[jM,jL h];rw[getElem?_pos (c:=(⟨s.toArray⟩:ByteArray)) (i:=n) (by grind [ByteArray.size])];rfl
theorem Mq(h:B3 P τ (.inl T))(w:World):(sizeOf T).run P w=.ok τ.size w:=by obtain⟨⟨i,z,hi,j,_⟩,_⟩:=Hb h;simp_all [sizeOf,typeInfo]
theorem vH(h:L5 χ w b o us)(q n:Nat):L5 χ w b (o+q) (seg us q n):=by intro j v C;rw[seg_getElem?] at C;split at C;have:=h _ _ C;grind;grind
theorem zO3{p:FD}:∀{τ:Ty}{x:Nat ⊕ Int},EI τ p->τ.poff (p++[x])=τ.poff p+(τ.pty p).poff [x]:=by induction p with|nil=>grind [Ty.poff,Ty.pty]|cons y p j=>intro τ x h;rcases y with k|i;cases τ<;>simp only[EI] at h;simp[Ty.pty,Ty.poff];rw[j h.2];omega;cases τ<;>simp only[EI] at h;simp[Ty.pty,Ty.poff];rw[j h.2.2];omega
theorem vR{p:FD}:∀{τ:Ty}{x:Nat ⊕ Int},EI τ p->EI (τ.pty p) [x]->EI τ (p++[x]):=by induction p with|nil=>intro τ x _ h;exact h|cons y p j=>intro τ x h C;rcases y with k|i;cases τ<;>simp only[EI] at h;exact⟨h.1,j h.2 C⟩;cases τ<;>simp only[EI] at h;exact⟨h.1,h.2.1,j h.2.2 C⟩
theorem zU5{k:Nat}(C:B3 P (.st f) (.inl T))(I:k<f.flen)(hs:0<(f.fty k).size)(w:World):(fieldAt T (.pointer (some ⟨b,o,none⟩)) k).run P w=.ok (.pointer (some ⟨b,o+f.foff k,none⟩)) w:=by obtain⟨fs,J,R⟩:=PE C;obtain⟨fd,j,h4,h5,_⟩:=zY2 R I;rw[Array.getElem?_toList] at j;have h6:=Mq h5 w;simp[fieldAt,run_underlying J w,j,sureAddr,fieldPlace,h6];rw[if_neg (by omega)];simp[Addr.add_mid,h4]
theorem yB2(ki:EM P c.tys){k:Nat}(C:zA G w tm none x v)(h:NO c T x k=some (p,A)):∃u,(fieldAt T v k).run P w=.ok u w/\zA G w tm none A u:=by cases x with|val τ x=>(cases τ with|ptr t=>(cases t with|st f=>simp only[NO] at h;(cases hi:(c.is T (.st f)&&blt k f.flen&&blt 0 (f.fty k).size) with|false=>grind|true=>simp[hi] at h;obtain⟨rfl,rfl⟩:=h;simp only[jB] at hi;have I:=Eh ki hi.1.1;have j:k<f.flen:=jR hi.1.2;have J:0<(f.fty k).size:=jR hi.2;simp only[zA] at C;rw[zC rfl] at C;obtain⟨b,o,us,R,h1,h2⟩:=C;injection R with R _;subst R;refine⟨_,zU5 I j J w,?_⟩;exact Ti (vG j h1) (vH h2 _ _))|_=>grind [NO])|_=>grind [NO])|ref s τ q=>simp only[NO] at h;split at h;rename_i f hf;(cases hi:(c.is T (.st f)&&blt k f.flen&&blt 0 (f.fty k).size) with|false=>grind|true=>simp[hi] at h;obtain⟨rfl,rfl⟩:=h;simp only[jB] at hi;have I:=Eh ki hi.1.1;have j:k<f.flen:=jR hi.1.2;have J:0<(f.fty k).size:=jR hi.2;obtain⟨hq,rfl⟩:=C;refine⟨_,zU5 I j J w,?_⟩;refine⟨vR hq (by grind [EI]),?_⟩;grind [zO3,Ty.poff]);grind|eref s U t i q=>simp only[NO] at h;split at h;rename_i f hf;(cases hi:(c.is T (.st f)&&blt k f.flen&&blt 0 (f.fty k).size) with|false=>grind|true=>simp[hi] at h;obtain⟨rfl,rfl⟩:=h;simp only[jB] at hi;have I:=Eh ki hi.1.1;have j:k<f.flen:=jR hi.1.2;have J:0<(f.fty k).size:=jR hi.2;obtain⟨h0,hq,rfl⟩:=C;refine⟨_,zU5 I j J w,?_⟩;refine⟨h0,vR hq (by grind [EI]),?_⟩;grind [zO3,Ty.poff,add_assoc]);grind|_=>grind [NO]
variable {y:Operand}{i:Int}
theorem L6{n:Int}(h:∀q∈Jy y i n,q):0<=i/\i<n:=by unfold Jy at h;split at h<;>exact h _ (jH.2 rfl)
variable {cap:Nat}
theorem Tj{a:Option Addr}(j:B3 P (.sl t) (.inl T))(J:a=some ⟨b,o,none⟩)(hi:0<=i/\i<(n:Int))(w:World):(indexAt T (.slice a n cap) (.int k i)).run P w=.ok (.pointer (some ⟨b,o+i.toNat*t.size,none⟩)) w:=by obtain⟨e,C,I⟩:=zG j;have R:=Mq I w;simp[indexAt,asIntOf,run_underlying C w];simp_all [Addr.add_mid]
theorem zL(j:B3 P (.arr n t) (.inl T))(hi:0<=i/\i<(n:Int))(w:World):(indexAt T (.pointer (some ⟨b,o,none⟩)) (.int k i)).run P w=.ok (.pointer (some ⟨b,o+i.toNat*t.size,none⟩)) w:=by obtain⟨e,C,I⟩:=zS j;have J:=Mq I w;simp[indexAt,asIntOf,run_underlying C w,sureAddr];simp_all [Addr.add_mid]
variable {oy:Operand}
theorem yB3(ki:EM P c.tys){s:Nat}{y:AVal}(I:zA G w tm none x v)(hy:zA G w tm none y u)(h:o6 c T x s y oy=some (p,A))(hp:∀q∈p,q):∃r,(indexAt T v u).run P w=.ok r w/\zA G w tm none A r:=by (have J:∀k (i:Int),y=.val (.int k) i->u=.int k i:=by grind [zA,VRep_int]);unfold o6 at h;split at h;rename_i t l k i;have:=J _ _ rfl;subst this;(cases hi:c.is T (.sl t) with|false=>grind|true=>simp[hi] at h;obtain⟨rfl,rfl⟩:=h;have hb:=L6 hp;have C:=Eh ki hi;simp only[zA] at I;rw[zC rfl] at I;obtain⟨a,cap,R,I⟩:=I;injection R with R _;subst R;rcases I with rfl|⟨b,o,us,ha,h1,h2,h3⟩;grind;refine⟨_,Tj C ha hb w,?_⟩;exact Ti (Oe h2 (by omega)) (vH h3 _ _));rename_i t l U m k i;have:=J _ _ rfl;subst this;(cases hi:c.is T (.sl t) with|false=>grind|true=>simp[hi] at h;have C:=Eh ki hi;cases m with|true=>obtain⟨rfl,rfl⟩:=h;have hb:=L6 hp;rcases (Ff I (u7 C)).2 with ⟨_,rfl⟩ | ⟨cap,cur,e,us,rfl,h2,h3,h4,h5,h6,h7,h8⟩;grind;refine⟨_,Tj C rfl hb w,?_⟩;exact⟨hb.1,trivial,by simp[Ty.poff]⟩|false=>obtain⟨rfl,rfl⟩:=h;have hb:=L6 hp;have gB:=G3 I;obtain⟨a,cap,R,hx3⟩:=gB;injection R with R _;subst R;rcases hx3 with he|⟨b,o,us,ha,h1,h2,h3⟩;grind;refine⟨_,Tj C ha hb w,?_⟩;exact Ti (Oe h2 (by omega)) (vH h3 _ _));rename_i t l U j V m k i;have:=J _ _ rfl;subst this;(cases hi:(c.is T (.sl (.sl t))&&(m||!(Nat.beq U V))) with|false=>grind|true=>simp[hi] at h;obtain⟨rfl,rfl⟩:=h;simp at hi;obtain⟨hi,hUV⟩:=hi;have C:=Eh ki hi;have hb:=L6 hp;obtain⟨_,⟨he,⟨rfl,_⟩ | ⟨_,⟨_,rfl⟩ | ⟨cap,cur,e,rfl,_⟩⟩⟩ | ⟨_,⟨_,rfl⟩ | ⟨cap,cur,e,rfl,_⟩⟩⟩:=I;simp_all;grind;refine⟨_,Tj C rfl hb w,?_⟩;exact⟨hb.1,trivial,by simp[Ty.poff]⟩;grind;refine⟨_,Tj C rfl hb w,?_⟩;exact⟨hb.1,trivial,by simp[Ty.poff]⟩);rename_i n t l k i;have:=J _ _ rfl;subst this;(cases hi:c.is T (.arr n t) with|false=>grind|true=>simp[hi] at h;obtain⟨rfl,rfl⟩:=h;have hb:=L6 hp;have C:=Eh ki hi;simp only[zA] at I;rw[zC rfl] at I;obtain⟨b,o,us,R,⟨h1,h2⟩,h3⟩:=I;injection R with R _;subst R;refine⟨_,zL C hb w,?_⟩;exact Ti (Oe h2 (by omega)) (vH h3 _ _));have:=J _ _ rfl;subst this;split at h;rename_i n t hf;(cases hi:c.is T (.arr n t) with|false=>grind|true=>simp[hi] at h;obtain⟨rfl,rfl⟩:=h;have hb:=L6 hp;have C:=Eh ki hi;obtain⟨hq,rfl⟩:=I;refine⟨_,zL C hb w,?_⟩;refine⟨vR hq (by grind [EI]),?_⟩;grind [zO3,Ty.poff]);grind;have:=J _ _ rfl;subst this;split at h;rename_i n t hf;(cases hi:c.is T (.arr n t) with|false=>grind|true=>simp[hi] at h;obtain⟨rfl,rfl⟩:=h;have hb:=L6 hp;have C:=Eh ki hi;obtain⟨h0,hq,rfl⟩:=I;refine⟨_,zL C hb w,?_⟩;refine⟨h0,vR hq (by grind [EI]),?_⟩;grind [zO3,Ty.poff,add_assoc]);grind;grind
theorem PG(j:B3 P τ (.inl T))(R:o+τ.size<=us.length)(w:World):∃u,(part T us.toArray o).run P w=.ok u w/\I6 τ (seg us o τ.size) u:=by obtain⟨⟨i,z,hi,hs,_⟩,d,hu,C⟩:=Hb j;unfold part I6;rw[run_bind,yE8 hu w,C];cases I:τ.isAgg with|true=>simp[Mq j w,seg]|false=>have h1:=yZ4 j I;(have J:o<us.length:=by omega);refine⟨us[o],?_,?_⟩;simp_all;apply ext_getElem?;grind [seg_getElem?,jL]
theorem yP1(ki:EM P c.tys){y:AVal}(I:zA G w tm none x v)(hy:zA G w tm none y u)(h:xH3 c T x y oy=some (p,A))(J:∀q∈p,q):∃r,(Instr.index T v u).run P w=.ok r w/\zA G w tm none A r:=by (have C:∀k (i:Int),y=.val (.int k) i->u=.int k i:=by grind [zA,VRep_int]);unfold xH3 at h;split at h;rename_i s k i;(cases hi:c.is T .str with|false=>grind|true=>simp[hi] at h;obtain⟨rfl,rfl⟩:=h;have hb:=L6 J;have R:=NZ (Eh ki hi);have hv:=VRep_str.1 I;(have j:i.toNat<length (α:=UInt8) s:=by omega);have hg:=xJ1 s i.toNat j;refine⟨.int .u8 ((getD (α:=UInt8) s i.toNat 0).toNat:Int),?_,?_⟩;simp_all [Instr.index,asIntOf,run_underlying];exact VRep_int.2 rfl);rename_i n t l k i;have:=C _ _ rfl;subst this;(cases hi:c.is T (.arr n t) with|false=>grind|true=>simp[hi,jE,jA,jG] at h;obtain⟨rfl,rfl⟩:=h;have hb:=L6 J;have R:=Eh ki hi;obtain⟨e,h1,h2⟩:=zS R;obtain⟨vs,rfl,gB⟩:=(JA rfl).1 I;simp only[AP] at gB;have hlen:=Im (k:=t.size) (λ_ _ h=>DQ h) gB.2;(have j:i.toNat<length (α:=t.den) l:=by omega);(have hle:i.toNat*t.size+t.size<=vs.length:=by rw[hlen,<-succ_mul];exact jS _ (by omega));obtain⟨r,h3,h4⟩:=PG h2 hle w;refine⟨r,?_,?_⟩;simp[Instr.index,asIntOf,run_underlying h1 w];grind [run_bind,andThen_ok,Mq];exact⟨_,Oe gB.2 j,h4⟩);grind
theorem yP2(ki:EM P c.tys){k:Nat}(C:zA G w tm none x v)(h:xH4 c T x k=some (p,A)):∃u,(field T v k).run P w=.ok u w/\zA G w tm none A u:=by unfold xH4 at h;split at h;rename_i f x;(cases hi:(c.is T (.st f)&&blt k f.flen) with|false=>grind|true=>simp[hi] at h;obtain⟨rfl,rfl⟩:=h;simp only[jB] at hi;have J:=Eh ki hi.1;have j:k<f.flen:=jR hi.2;obtain⟨fs,h1,R⟩:=PE J;obtain⟨fd,h3,h4,I,_⟩:=zY2 R j;obtain⟨vs,rfl,gB⟩:=(JA rfl).1 C;simp only[AP] at gB;have hle:=Xp j;have gA:=DQ gB;obtain⟨u,h6,h7⟩:=PG I (o:=f.foff k) (us:=vs) (by omega) w;refine⟨u,?_,?_⟩;simp_all [field,run_underlying,asAgg];exact⟨_,vG j gB,h7⟩);rename_i f a;(cases hi:(c.is T (.st f)&&blt k f.flen) with|false=>grind|true=>simp[hi] at h;obtain⟨rfl,rfl⟩:=h;simp only[jB] at hi;have J:=Eh ki hi.1;have j:k<f.flen:=jR hi.2;obtain⟨fs,h1,R⟩:=PE J;obtain⟨fd,h3,h4,I,_⟩:=zY2 R j;obtain⟨vs,rfl,C⟩:=C;have hle:=Xp j;have gA:=zB C;obtain⟨u,h6,h7⟩:=PG I (o:=f.foff k) (us:=vs) (by omega) w;refine⟨u,?_,yE7 (yM j C) (Gi I) h7⟩;simp_all [field,run_underlying,asAgg]);grind
variable {P:Program}{c:Ctx}{G:Gh}{w:World}{tm:Array Value}
theorem zU{xs:List Value}(h:seg xs o n=us++vs)(j:us.length+vs.length=n):seg xs o us.length=us/\seg xs (o+us.length) vs.length=vs:=by constructor;grind [Xn,yC3];have:=Xn xs o n us.length vs.length (by omega);have C:=zW1 us vs 0 vs.length;grind [u9]
theorem yH7:∀{τ:Ty},(∀{T d:Nat}{x y:Value}{a b:τ.den},B3 P τ (.inl T)->τ.cmp->τ.ht<=d->DR G.χ w τ a x->DR G.χ w τ b y->(equalIn (d+1) T x y).run P w=.ok (τ.eqb a b) w)/\(∀{fs:List Field}{o d:Nat}{xs ys:List Value}{a b:τ.den},B3 P τ (.inr (fs,o))->τ.cmp->τ.ht<=d->o+τ.size<=xs.length->o+τ.size<=ys.length->AP G.χ w τ a (seg xs o τ.size)->AP G.χ w τ b (seg ys o τ.size)->(Op.eqFields (d+1) xs.toArray ys.toArray fs).run P w=.ok (τ.eqb a b) w):=by intro τ;induction τ with|int k=>refine⟨?_,λh=>by grind [B3]⟩;intro T d x y a b hT _ _ hx hy;rw[VRep_int.1 hx,VRep_int.1 hy];exact run_equalIn_int w d T k k a b (yC1 hT)|bool=>refine⟨?_,λh=>by grind [B3]⟩;intro T d x y a b hT _ _ hx hy;rw[VRep_bool.1 hx,VRep_bool.1 hy];exact run_equalIn_bool w d T a b (yO8 hT)|str=>grind [B3,VRep_str,run_equalIn_string,NZ,ByteArray.toList_eq,Ty.eqb]|nl=>refine⟨λh=>by grind [B3],?_⟩;intro fs o d xs ys a b hT _ _ _ _ _ _;cases fs<;>simp_all [Op.eqFields,Ty.eqb,B3]|cons h t ihh qh=>refine⟨λh=>by grind [B3],?_⟩;intro fs o d xs ys a b hT hc hd hlx hly hx hy;(cases fs with|nil=>grind [B3]|cons fd r=>simp only[B3,jB] at hT;obtain⟨⟨⟨h1,h2⟩,h3⟩,h4⟩:=hT;have h1:=jC h1;simp only[Ty.cmp,jB] at hc;simp only[Ty.ht] at hd;simp only[Ty.size] at hlx hly hx hy;simp only[AP] at hx hy;obtain⟨us,ws,e1,hu,hw⟩:=hx;obtain⟨us',ws',e2,gR,th⟩:=hy;have l1:=DQ hu;have l2:=DQ hw;have l3:=DQ gR;have l4:=DQ th;obtain⟨s1,s2⟩:=zU e1 (by omega);obtain⟨s3,s4⟩:=zU e2 (by omega);obtain⟨p1,q1,q2⟩:=PG h3 (o:=o) (us:=xs) (by omega) w;obtain⟨p2,q3,q4⟩:=PG h3 (o:=o) (us:=ys) (by omega) w;(have hn:fd.name≠"_":=by grind);obtain⟨ihh1,_⟩:=ihh;obtain⟨_,iht2⟩:=qh;have he:=ihh1 (d:=d) (x:=p1) (y:=p2) (a:=a.1) (b:=b.1) h3 hc.1 (by omega) ⟨us,hu,by rw[<-s1,l1];exact q2⟩ ⟨us',gR,by rw[<-s3,l3];exact q4⟩;have hr:=iht2 (fs:=r) (o:=o+h.size) (d:=d) (xs:=xs) (ys:=ys) (a:=a.2) (b:=b.2) h4 hc.2 (by omega) (by omega) (by omega) (by grind) (by grind);simp only[Op.eqFields,hn,ne_eq,not_false_eq_true,if_true,h1,run_bind,q1,q3,andThen_ok,he,Ty.eqb];cases hb:h.eqb a.1 b.1 with|true=>grind|false=>simp)|st f ih=>refine⟨?_,λh=>by grind [B3]⟩;intro T d x y a b hT hc hd hx hy;obtain⟨fs,h1,h2⟩:=PE hT;obtain⟨xs,rfl,gp⟩:=(JA rfl).1 hx;obtain⟨ys,rfl,hy'⟩:=(JA rfl).1 hy;have hx:=gp;have hy:=hy';clear gp hy';simp only[AP] at hx hy;have l1:=DQ hx;have l2:=DQ hy;simp only[Ty.ht] at hd;(have hfo:P.fieldsOf T=fs:=by grind [Program.fieldsOf]);(have hu:P.underlying T=some (.struct (P.fieldsOf T)):=by grind);rw[run_equalIn_struct w d T _ _ hu (xC0 hT),hfo];obtain⟨d',rfl⟩:∃d',d=d'+1:=⟨d-1,by omega⟩;obtain⟨_,ih2⟩:=ih;exact ih2 (d:=d') h2 hc (by omega) (by omega) (by omega) (by grind [u9]) (by grind [u9])|arr n t ih=>refine⟨?_,λh=>by grind [B3]⟩;intro T d x y a b hT hc hd hx hy;obtain⟨e,h1,h2⟩:=zS hT;obtain⟨xs,rfl,gp⟩:=(JA rfl).1 hx;obtain⟨ys,rfl,hy'⟩:=(JA rfl).1 hy;have hx:=gp;have hy:=hy';simp only[AP] at hx hy;simp only[Ty.ht] at hd;obtain⟨⟨i,z,hi,hs,_⟩,_⟩:=Hb h2;rw[run_equalIn_array w d _ _ h1 hi];obtain⟨d',rfl⟩:∃d',d=d'+1:=⟨d-1,by omega⟩;(have hce:P.cellsOf e=t.size:=by grind [Program.cellsOf]);rw[hce];have l1:=Im (k:=t.size) (λ_ _ h=>DQ h) hx.2;have l2:=Im (k:=t.size) (λ_ _ h=>DQ h) hy.2;obtain⟨ih1,_⟩:=ih;(have key:∀is:List Nat,(∀j∈is,j<n)->(eqItems (d'+1) e t.size xs.toArray ys.toArray is).run P w=.ok (is.all λi=>t.eqb (getD (α:=t.den) a i t.dflt) (getD (α:=t.den) b i t.dflt)) w:=by intro is;induction is with|nil=>simp_all [eqItems]|cons j is ihl=>intro hj;have hjn:j<n:=hj j (by simp);(have hle:j*t.size+t.size<=n*t.size:=by rw[<-succ_mul];exact jS _ (by omega));obtain⟨p1,q1,q2⟩:=PG h2 (o:=j*t.size) (us:=xs) (by grind) w;obtain⟨p2,q3,q4⟩:=PG h2 (o:=j*t.size) (us:=ys) (by grind) w;have he:=ih1 (d:=d') (x:=p1) (y:=p2) (a:=getD (α:=t.den) a j t.dflt) (b:=getD (α:=t.den) b j t.dflt) h2 hc (by omega) ⟨_,Oe hx.2 (by grind),q2⟩ ⟨_,Oe hy.2 (by grind),q4⟩;have hr:=ihl (λk hk=>hj k (by simp[hk]));simp only[eqItems,run_bind,q1,q3,andThen_ok,he];rw[all_cons];cases hb:t.eqb (getD (α:=t.den) a j t.dflt) (getD (α:=t.den) b j t.dflt) with|true=>simpa using hr|false=>simp);exact key (range n) (λj hj=>by simpa using hj)|sl t _=>grind [Ty.cmp,B3]|ptr t _=>exact⟨λ_ h=>by simp[Ty.cmp] at h,λh=>by simp[B3] at h⟩
variable {P:Program}{c:Ctx}{G:Gh}{w:World}{tm:Array Value}
variable {wr:Bool}
theorem Tk{r:Int}(h:∀q∈(Ki wr k r).1,q):zA G w tm none (Ki wr k r).2 (.int k (k.wrap r)):=by unfold Ki at h ⊢;cases j:(!wr&&xV8 k) with|true=>simp only[j] at h ⊢;(have C:k=.i64:=by grind [xV8]);have I:=h _ (jH.2 rfl);subst C;rw[IntWalk.i64_in r I];exact VRep_int.2 rfl|false=>exact VRep_int.2 rfl
variable {a:Act}
theorem yF{n:Int}{b:Int}(h:WW y=some n)(j:a.eval y=.int k b):n=b:=by unfold WW at h;grind [Act.eval,Value.int.injEq]
theorem zW4{b:Int}(j:a.eval y=.int k b)(h:∀q∈n5 y b,q):b≠0:=by unfold n5 at h;split at h;rename_i n C;have:=yF C j;subst this;intro he;simp_all;exact h _ (jH.2 rfl)
theorem zZ6{b:Int}(j:a.eval y=.int k b)(h:∀q∈n9 y b,q):0<=b:=by unfold n9 at h;split at h;(·rename_i n C;have:=yF C j;subst this;by_cases he:0<=n;all_goals simp_all);(·exact h _ (jH.2 rfl))
variable {op:BinOp}{k':IntKind}
theorem zL0{x:Operand}{a b:Int}(w:World):(eqGuard op T x y (.int k a) (.int k' b)).run P w=.ok () w:=by simp_all [eqGuard]
theorem yF0{x:Operand}{a b:ByteArray}(w:World):(eqGuard op T x y (.string a) (.string b)).run P w=.ok () w:=by simp_all [eqGuard]
theorem yB4{x:Operand}{a b:Bool}(w:World):(eqGuard op T x y (.bool a) (.bool b)).run P w=.ok () w:=by simp_all [eqGuard]
theorem FG{n:Int}:zA G w tm s (.val (.int k) n) (.int k n):=by exact VRep_int.2 rfl
theorem Gj{b:Bool}:zA G w tm s (.val .bool b) (.bool b):=by exact VRep_bool.2 rfl
theorem yM0{b:List UInt8}:zA G w tm s (.val .str b) (.string ⟨b.toArray⟩):=by exact VRep_str.2 rfl
variable {β:Type}
theorem yT9{x:α×β}{p:α}{A:β}(h:x=(p,A)):x.1=p/\x.2=A:=by grind
variable {ac:Act}
theorem yP3{a b:Int}(C:ac.eval oy=.int k b)(J:yT0 op=false)(h:xH1 wr op k a b oy=some (p,A))(j:∀q∈p,q):∃r,(binOp op T (.int k a) (.int k b)).run P w=.ok r w/\zA G w tm none A r:=by cases op<;>simp[xH1,jA] at h;(case add=>obtain⟨rfl,rfl⟩:=yT9 h;exact⟨_,by simp[binOp,Op.intArith],Tk j⟩);(case sub=>obtain⟨rfl,rfl⟩:=yT9 h;exact⟨_,by simp[binOp,Op.intArith],Tk j⟩);(case mul=>obtain⟨rfl,rfl⟩:=yT9 h;exact⟨_,by simp[binOp,Op.intArith],Tk j⟩);(case quo=>obtain⟨rfl,rfl⟩:=h;have hb:=zW4 C (λq I=>j q (List.mem_append_left _ I));exact⟨_,by simp[binOp,Op.intDiv,hb],Tk (λq I=>j q (List.mem_append_right _ I))⟩);(case rem=>obtain⟨rfl,rfl⟩:=h;have hb:=zW4 C j;exact⟨_,by simp[binOp,Op.intDiv,hb],FG⟩);(case and=>obtain⟨rfl,rfl⟩:=h;exact⟨_,by simp only[binOp];rw[if_neg (by simp)];rfl,FG⟩);(case or=>obtain⟨rfl,rfl⟩:=h;exact⟨_,by simp only[binOp];rw[if_neg (by simp)];rfl,FG⟩);(case xor=>obtain⟨rfl,rfl⟩:=h;exact⟨_,by simp only[binOp];rw[if_neg (by simp)];rfl,FG⟩);(case andNot=>obtain⟨rfl,rfl⟩:=h;exact⟨_,by simp only[binOp];rw[if_neg (by simp)];rfl,FG⟩);(case eql=>obtain⟨rfl,rfl⟩:=h;exact⟨_,by simp[binOp,intCmp],Gj⟩);(case neq=>obtain⟨rfl,rfl⟩:=h;exact⟨_,by simp[binOp,intCmp],Gj⟩);(case lss=>obtain⟨rfl,rfl⟩:=h;exact⟨_,by simp[binOp,intCmp],Gj⟩);(case leq=>obtain⟨rfl,rfl⟩:=h;exact⟨_,by simp[binOp,intCmp],Gj⟩);(case gtr=>obtain⟨rfl,rfl⟩:=h;exact⟨_,by simp[binOp,intCmp],Gj⟩);(case geq=>obtain⟨rfl,rfl⟩:=h;exact⟨_,by simp[binOp,intCmp],Gj⟩);all_goals grind
theorem yH8{a b:Int}(j:ac.eval oy=.int k' b)(h:yK9 wr op k a b oy=some (p,A))(C:∀q∈p,q):∃r,(binOp op T (.int k a) (.int k' b)).run P w=.ok r w/\zA G w tm none A r:=by cases op<;>simp[yK9] at h;(case shl=>obtain⟨rfl,rfl⟩:=h;have hb:=zZ6 j (λq I=>C q (List.mem_append_left _ I));exact⟨_,by simp[binOp,Op.shift,Int.not_lt.2 hb],Tk (λq I=>C q (List.mem_append_right _ I))⟩);(case shr=>obtain⟨rfl,rfl⟩:=h;have hb:=zZ6 j C;exact⟨_,by simp[binOp,Op.shift,Int.not_lt.2 hb],FG⟩);all_goals grind
theorem yP4{a b:List UInt8}(h:xH2 op a b=some (p,A))(j:∀q∈p,q):∃r,(binOp op T (.string ⟨a.toArray⟩) (.string ⟨b.toArray⟩)).run P w=.ok r w/\zA G w tm none A r:=by cases op<;>simp[xH2,jA,jG] at h;(case add=>obtain⟨rfl,rfl⟩:=h;have hb:=j _ (jH.2 rfl);refine⟨.string ⟨(a++b).toArray⟩,?_,yM0⟩;(have e:(⟨a.toArray⟩++⟨b.toArray⟩:ByteArray)=⟨(a++b).toArray⟩:=by apply ByteArray.ext;simp_all);simp_all [ByteArray.size,binOp,stringOp]);(case eql=>obtain⟨rfl,rfl⟩:=h;exact⟨_,by simp_all [binOp,stringOp],Gj⟩);(case neq=>obtain⟨rfl,rfl⟩:=h;exact⟨_,by simp_all [binOp,stringOp],Gj⟩);(case lss=>obtain⟨rfl,rfl⟩:=h;exact⟨_,by simp_all [binOp,stringOp],Gj⟩);(case leq=>obtain⟨rfl,rfl⟩:=h;exact⟨_,by simp_all [binOp,stringOp],Gj⟩);(case gtr=>obtain⟨rfl,rfl⟩:=h;exact⟨_,by simp_all [binOp,stringOp],Gj⟩);(case geq=>obtain⟨rfl,rfl⟩:=h;exact⟨_,by simp_all [binOp,stringOp],Gj⟩);all_goals grind
theorem xJ2{a b:τ.den}{x y:Value}(h:τ.eqs)(j:DR χ w τ a x)(C:DR χ w τ b y):(∃p q,x=.bool p/\y=.bool q)\/(∃p q,x=.agg p/\y=.agg q):=by cases τ with|bool=>grind [VRep_bool]|st f=>obtain⟨xs,rfl,_⟩:=(JA rfl).1 j;obtain⟨ys,rfl,_⟩:=(JA rfl).1 C;simp_all|arr n t=>obtain⟨xs,rfl,_⟩:=(JA rfl).1 j;obtain⟨ys,rfl,_⟩:=(JA rfl).1 C;simp_all|_=>grind [Ty.eqs]
variable {ox:Operand}
theorem yU(ki:EM P c.tys){y:AVal}(hx:zA G w tm none x v)(hy:zA G w tm none y u)
  (h:xV9 op (c.ty T) x y=some (p,A)):∃r,(do eqGuard op T ox oy v u;binOp op T v u:Sem Value).run P w=.ok r w/\zA G w tm none A r:=by
 unfold xV9 at h;split at h
 ·rename_i a b I ha hb;simp  at I;have J:=I5 ki T (by grind [Ty.eqs]);have R:=Gi J;have j:=I7 ha R hx;have C:=I7 hb R hy;have he:(Op.equal T v u).run P w=.ok ((c.ty T).eqb a b) w:=(yH7 (G:=G) (P:=P) (w:=w)).1 (d:=9999) J I.1 (by grind [xW2]) j C;have mm:=xJ2 I.2 j C;have hg:(eqGuard op T ox oy v u).run P w=.ok () w:=by
   grind [yB4,run_eqGuard_agg,xC]
  have gZ:∀o:BinOp,o=.eql\/o=.neq->(binOp o T v u).run P w=.ok (.bool (if o=.eql then (c.ty T).eqb a b else !((c.ty T).eqb a b))) w:=by
   intro o ho;rcases mm with ⟨p,q,rfl,rfl⟩ | ⟨p,q,rfl,rfl⟩<;>rcases ho with rfl|rfl<;>simp[binOp,he]
  split at h
  ·obtain⟨rfl,rfl⟩:=h;exact⟨_,by rw[run_bind,hg,andThen_ok,gZ .eql (.inl rfl)];rfl,Gj⟩
  ·obtain⟨rfl,rfl⟩:=h;exact⟨_,by rw[run_bind,hg,andThen_ok,gZ .neq (.inr rfl)];rfl,Gj⟩
  grind
 grind
theorem yU0(ki:EM P c.tys)(C:zA G w tm none x v)(hu:u=.slice none 0 0)
  (h:xW c op T x=some (p,A)) (J:∀q∈p,q):∃r,(do eqGuard op T ox oy v u;binOp op T v u:Sem Value).run P w=.ok r w/\zA G w tm none A r:=by
 subst hu;unfold xW at h;split at h
 ·rename_i t0 R;have I:=I5 ki T (by grind);rw[R] at I;obtain⟨e,hu,_⟩:=zG I;have key:∀(a:Option Addr) n cap (b:Bool) q,b=a.isNone->NN op q b=some (p,A)->v=.slice a n cap->∃r,(do eqGuard op T ox oy v (.slice none 0 0);binOp op T v (.slice none 0 0):Sem Value).run P w=.ok r w/\zA G w tm none A r:=by
   intro a n cap b q hb j hv;have hg:(eqGuard op T ox oy (.slice a n cap) (.slice none 0 0)).run P w=.ok () w:=by simp_all [eqGuard]
   have he:(Op.equal T (.slice a n cap) (.slice none 0 0)).run P w=.ok b w:=by
    subst hb;have hd:∀d:Nat,(equalIn (d+1) T (.slice a n cap) (.slice none 0 0)).run P w=.ok a.isNone w:=by
     cases a<;>simp[equalIn,run_underlying hu w]
    exact hd 9999
   unfold NN at j;split at j
   ·obtain⟨rfl,rfl⟩:=j;exact⟨_,by simp_all [binOp],Gj⟩
   ·obtain⟨rfl,rfl⟩:=j;exact⟨_,by simp_all [binOp],Gj⟩
   grind
  have hq:∀q b,NN op [q] b=some (p,A)->q:=by
   intro q b j;unfold NN at j;split at j
   ·obtain⟨rfl,_⟩:=j;exact J _ (jH.2 rfl)
   ·obtain⟨rfl,_⟩:=j;exact J _ (jH.2 rfl)
   grind
  split at h
  ·exact key none 0 0 true _ rfl h C
  ·obtain⟨a,cap,rfl,hb⟩:=C;exact key a 0 cap _ _ hb.symm h rfl
  ·simp only[zA] at C;rw[zC rfl] at C
   grind [AP]
  ·rename_i t l T' m;cases gH:t.isL with
   |true=>grind
   |false =>
   simp[gH] at h;rcases (Ff C gH).2 with ⟨_,hl⟩ | ⟨cap,cur,e,us,h1,_⟩
   ·grind
   ·exact key _ _ cap false _ rfl h h1
  grind
 grind
theorem xC2(ki:EM P c.tys){y:AVal}(j:zA G w tm none x v)(C:zA G w tm none y (ac.eval oy))
  (h:wC c op T x y oy=some (p,A)) (I:∀q∈p,q):∃r,(do eqGuard op T ox oy v (ac.eval oy);binOp op T v (ac.eval oy):Sem Value).run P w=.ok r w/\zA G w tm none A r:=by
 unfold wC at h;split at h
 ·rename_i k a k' b;have hv:=VRep_int.1 j;have hu:=VRep_int.1 C;cases J:yT0 op with
  |true =>
   simp[J] at h;obtain⟨r,R,h2⟩:=yH8 (P:=P) (w:=w) (G:=G) (tm:=tm) (T:=T) hu h I
   grind [run_bind,zL0,andThen_ok]
  |false =>
   simp[J] at h;cases hk:Nat.beq (FK k) (FK k') with
   |false=>grind
   |true =>
    simp[hk] at h;have:=NM (jC hk);subst this;obtain⟨r,R,h2⟩:=yP3 (P:=P) (w:=w) (G:=G) (tm:=tm) (T:=T) hu J h I
    grind [run_bind,zL0,andThen_ok]
 ·have hv:=VRep_str.1 j;have hu:=VRep_str.1 C;obtain⟨r,R,h2⟩:=yP4 (P:=P) (w:=w) (G:=G) (tm:=tm) (T:=T) h I
  grind [run_bind,yF0,andThen_ok]
 ·exact yU0 ki j C h I
 ·exact yU ki j C h
theorem xJ3{op:UnOp}(j:zA G w tm none x v)(h:unA c op x=some (p,A))(C:∀q∈p,q):∃r,(Op.unary op v).run P w=.ok r w/\zA G w tm none A r:=by unfold unA at h;split at h;obtain⟨rfl,rfl⟩:=h;rw[VRep_bool.1 j];exact⟨_,by simp[Op.unary],Gj⟩;simp at h;rw[VRep_int.1 j];have I:=congrArg Prod.fst h;have J:=congrArg Prod.snd h;subst I;subst J;exact⟨_,rfl,Tk C⟩;obtain⟨rfl,rfl⟩:=h;rw[VRep_int.1 j];exact⟨_,rfl,FG⟩;grind
theorem yU1(ki:EM P c.tys){dst:Nat}(I:zA G w tm none x v)(h:xW0 c T dst x=some (p,A)):∃r,(convert T dst v).run P w=.ok r w/\zA G w tm none A r:=by unfold xW0 at h;split at h;rename_i R k k1 n e1 J;obtain⟨rfl,rfl⟩:=h;have j:=I5 ki T (by grind);have C:=I5 ki dst (by grind);rw[e1] at j;rw[J] at C;rw[VRep_int.1 I];exact⟨_,by simp[convert,run_underlying (yC1 j),run_underlying (yC1 C),Conv.intToInt],FG⟩;obtain⟨rfl,rfl⟩:=h;have j:=I5 ki T (by grind);have C:=I5 ki dst (by grind);rw[VRep_str.1 I];exact⟨_,by simp_all [convert,run_underlying,NZ],yM0⟩;grind
theorem xC3(ki:EM P c.tys){ats:Array TypeId}{ty:TypeId}(I:zA G w tm none x v)(h:wC0 c ats.toList x=some (p,A)):∃r,(len_ ats ty #[v]).run P w=.ok r w/\zA G w tm none A r:=by unfold wC0 at h;split at h;rename_i T r e;(have R:ats[0]?=some T:=by rw[<-Array.getElem?_toList,e];rfl);split at h;rename_i s;(cases hi:c.is T .str with|false=>simp[hi] at h|true=>simp only[hi,jE,jA,jG] at h;obtain⟨rfl,rfl⟩:=h;simp only[zA] at I;rw[VRep_str.1 I];exact⟨.int .i64 (length (α:=UInt8) s:Int),by simp[len_,R,run_underlying (NZ (Eh ki hi)),goInt];rfl,FG⟩);rename_i t l;(cases hi:c.is T (.sl t) with|false=>simp[hi] at h|true=>simp only[hi,jE,jA,jG] at h;obtain⟨rfl,rfl⟩:=h;obtain⟨e',J,h2⟩:=zG (Eh ki hi);simp only[zA] at I;have gB:=(zC rfl).1 I;simp only[AP] at gB;obtain⟨a,cap,C,_⟩:=gB;injection C with C _;rw[C];exact⟨_,by simp[len_,R,run_underlying J,goInt],FG⟩);rename_i t l U m;(cases hi:c.is T (.sl t) with|false=>simp[hi] at h|true=>simp only[hi,jE,jA,jG] at h;obtain⟨rfl,rfl⟩:=h;obtain⟨e',J,h2⟩:=zG (Eh ki hi);simp only[zA] at I;rcases (Ff I (u7 (Eh ki hi))).2 with ⟨C,hl⟩ | ⟨cap,cur,e,us,C,_⟩;rw[C,hl];exact⟨_,by simp[len_,R,run_underlying J,goInt],FG⟩;rw[C];exact⟨_,by simp[len_,R,run_underlying J,goInt],FG⟩);rename_i t l U j V m;(cases hi:(c.is T (.sl (.sl t))&&!(Nat.beq U V)) with|false=>simp[hi] at h|true=>simp only[hi,jE,jA,jG] at h;obtain⟨rfl,rfl⟩:=h;simp only[jB] at hi;obtain⟨hi,hUV⟩:=hi;obtain⟨e',J,h2⟩:=zG (Eh ki hi);simp only[zA] at I;obtain⟨_,⟨he,_⟩ | ⟨_,⟨C,hl⟩ | ⟨cap,cur,e,C,_⟩⟩⟩:=I;subst he;simp at hUV;rw[C,hl];exact⟨_,by simp[len_,R,run_underlying J,goInt],FG⟩;rw[C];exact⟨_,by simp[len_,R,run_underlying J,goInt],FG⟩);(cases hi:(c.is T (c.ty T)&&(c.ty T).isSl) with|false=>simp[hi] at h|true=>simp only[hi,jE,jA,jG] at h;obtain⟨rfl,rfl⟩:=h;simp only[jB] at hi;have hT:=Eh ki hi.1;(obtain⟨t,ht⟩:∃t,c.ty T=.sl t:=by revert hi;cases c.ty T<;>simp[Ty.isSl]);rw[ht] at hT;obtain⟨e',J,h2⟩:=zG hT;simp only[zA] at I;rw[I];exact⟨_,by simp[len_,R,run_underlying J,goInt],FG⟩);cases h;cases h
variable {P:Program}{c:Ctx}{G:Gh}{w:World}{tm:Array Value}
theorem zJ0{y:Nat}{code:BoundsCode}(h:0<=i/\i<=(y:Int))(w:World):(Instr.sliceBound (.int k i) y code).run P w=.ok i.toNat w:=by simp[Instr.sliceBound,asIntOf,h]
variable {hi lo:Option AVal}{vhi vlo:Option Value}
theorem zH5{b:Bool}{m:Nat}{a h:Option Int}(hn:n<=m)(C:I0 lo=some a)(R:I0 hi=some h)(iv:∀A,lo=some A->∃v,vlo=some v/\zA G w tm none A v)(gL:lo=none->vlo=none)(iY:∀A,hi=some A->∃v,vhi=some v/\zA G w tm none A v)(gO:hi=none->vhi=none){l:List α}(hl:l.length=n)(I:∀q∈(yO l a h).1,q):∃x y,x<=y/\y<=n/\(sliceBounds b n m vlo vhi none).run P w=.ok (x,y,m) w/\(yO l a h).2=(l.take y).drop x:=by (have opt:∀(lo:Option AVal) (a:Option Int) (vlo:Option Value),I0 lo=some a->(∀A,lo=some A->∃v,vlo=some v/\zA G w tm none A v)->(lo=none->vlo=none)->(a=none/\vlo=none)\/∃k i,a=some i/\vlo=some (.int k i):=by intro lo a vlo C iv gL;cases lo with|none=>simp_all [I0]|some A=>obtain⟨v,J,hA⟩:=iv A rfl;cases A with|val τ x=>(cases τ with|int k=>simp[I0] at C;rw[VRep_int.1 hA] at J;exact .inr ⟨k,x,C.symm,J⟩|_=>simp[I0] at C)|_=>simp[I0] at C);subst hl;rcases opt lo a vlo C iv gL with ⟨rfl,rfl⟩ | ⟨k,i,rfl,rfl⟩<;>rcases opt hi h vhi R iY gO with ⟨rfl,rfl⟩ | ⟨k',j,rfl,rfl⟩;exact⟨0,l.length,by omega,by omega,by simp[sliceBounds],by simp[yO]⟩;have hb:=I _ (jH.2 rfl);refine⟨0,j.toNat,by omega,by omega,?_,by simp[yO]⟩;have:=zJ0 (P:=P) (k:=k') (i:=j) (y:=m) (code:=if b then .sliceAcap else .sliceAlen) ⟨hb.1,by omega⟩ w;simp[sliceBounds,this];have hb:=I _ (jH.2 rfl);refine⟨i.toNat,l.length,by omega,by omega,?_,by simp[yO]⟩;have:=zJ0 (P:=P) (k:=k) (i:=i) (y:=l.length) (code:=.sliceB) hb w;simp[sliceBounds,this];have hb:=I _ (jH.2 rfl);refine⟨i.toNat,j.toNat,by omega,by omega,?_,by simp[yO]⟩;have h3:=zJ0 (P:=P) (k:=k') (i:=j) (y:=m) (code:=if b then .sliceAcap else .sliceAlen) ⟨by omega,by omega⟩ w;have h4:=zJ0 (P:=P) (k:=k) (i:=i) (y:=j.toNat) (code:=.sliceB) ⟨hb.1,by omega⟩ w;simp[sliceBounds,h3,h4]
theorem yM1 (s:List UInt8)(x y:Nat):(⟨s.toArray⟩:ByteArray).extract x y=⟨((s.take y).drop x).toArray⟩:=by apply ByteArray.ext;simp[List.drop_take]
theorem yP5{x y:Nat}{a:Option Addr}{l:List t.den}(J:B3 P (.sl t) (.inl T))(R:x<=y)(hy:y<=l.length)(I:AP G.χ w (.sl t) l [.slice a l.length cap])(gU:l.length<=cap)(hb:(sliceBounds true l.length cap vhi vlo none).run P w=.ok (x,y,cap) w):∃r,(sliceAt T (.slice a l.length cap) vhi vlo none).run P w=.ok r w/\AP G.χ w (.sl t) ((l.take y).drop x) [r]:=by obtain⟨e,h1,h2⟩:=zG J;refine⟨.slice (if cap=x then a else a.map (·.add (x*t.size))) (y-x) (cap-x),?_,?_⟩;simp[sliceAt,run_underlying h1 w,slice,hb,Mq h2 w];obtain⟨a',cap',C,I⟩:=I;obtain⟨rfl,rfl⟩:=C;(have hlen:length (α:=t.den) ((l.take y).drop x)=y-x:=by grind);refine⟨_,cap-x,by rw[hlen],?_⟩;rcases I with rfl|⟨b,o,us,ha,h3,h4,h5⟩;grind;by_cases hz:y=x;grind;right;rw[if_neg (by omega)];subst ha;refine⟨b,o+x*t.size,((us.take (y*t.size)).drop (x*t.size)),by simp[Addr.add_mid],by omega,?_,?_⟩;grind [yP,DQ,yO9];intro j v C;rw[List.getElem?_drop,List.getElem?_take] at C;split at C;have:=h5 _ _ C;grind;grind
theorem yU2{l:List t.den}(h:AP χ w (.sl t) l [v]):∃a cap,v=.slice a l.length cap/\l.length<=cap:=by grind [AP]
theorem L7{l:List t.den}(h:AP G.χ w (.sl t) l [v]):zA G w tm s (.val (.sl t) l) v:=by exact (zC rfl).2 h
theorem yP6{l:List t.den}{a b:Option Int}(I:B3 P (.sl t) (.inl T))(j:AP G.χ w (.sl t) l [v])(ea:I0 lo=some a)(eb:I0 hi=some b)(iv:∀A,lo=some A->∃v,vlo=some v/\zA G w tm none A v)(gL:lo=none->vlo=none)(iY:∀A,hi=some A->∃v,vhi=some v/\zA G w tm none A v)(gO:hi=none->vhi=none)(C:∀q∈(yO l a b).1,q):∃r,(sliceAt T v vlo vhi none).run P w=.ok r w/\zA G w tm none (.val (.sl t) (yO l a b).2) r:=by obtain⟨ad,cap,rfl,gU⟩:=yU2 j;obtain⟨x,y,J,R,h3,h4⟩:=zH5 (P:=P) (G:=G) (w:=w) (tm:=tm) (b:=true) (n:=l.length) (m:=cap) gU ea eb iv gL iY gO (l:=l) rfl C;grind [yP5,L7]
theorem xC4{l:List t.den}{a b:Option Int}(hT:B3 P (.sl t) (.inl T))(hx:BV G w t l U true v)(ea:I0 lo=some a)(eb:I0 hi=some b)(iv:∀A,lo=some A->∃v,vlo=some v/\zA G w tm none A v)(gL:lo=none->vlo=none)(iY:∀A,hi=some A->∃v,vhi=some v/\zA G w tm none A v)(gO:hi=none->vhi=none)(hp:∀q∈(yO l a b).1,q):∃r,(sliceAt T v vlo vhi none).run P w=.ok r w/\zA G w tm none (.ownh t [(yO l a b).2] U 0 U false) r:=by obtain⟨km,hs⟩:=Ff hx (u7 hT);obtain⟨e,h1,h2⟩:=zG hT;simp only[zA];rcases hs with ⟨rfl,rfl⟩ | ⟨cap,cur,e',us,rfl,g2,g3,g4,g5,g6,g7,g8⟩;obtain⟨x,y,q1,q2,C,I⟩:=zH5 (P:=P) (G:=G) (w:=w) (tm:=tm) (b:=true) (n:=0) (m:=0) (jI _) ea eb iv gL iY gO (l:=([]:List t.den)) rfl hp;(have J:x=0/\y=0:=by omega);obtain⟨rfl,rfl⟩:=J;(have R:(yO ([]:List t.den) a b).2=([]:List t.den):=by rw[I];simp);rw[R];have q3':(sliceBounds true (length (α:=t.den) []) 0 vlo vhi none).run P w=.ok (0,0,0) w:=C;refine⟨.slice none 0 0,?_,km,.inl ⟨rfl,.inl ⟨rfl,[],none,0,rfl,rfl,.inl rfl⟩⟩⟩;simp only[sliceAt,run_bind,run_underlying h1 w,andThen_ok,slice,C,Mq h2 w,run_pure];simp;obtain⟨x,y,q1,q2,C,I⟩:=zH5 (P:=P) (G:=G) (w:=w) (tm:=tm) (b:=true) (n:=l.length) (m:=cap) g3 ea eb iv gL iY gO (l:=l) rfl hp;(have hlen:length (α:=t.den) ((l.take y).drop x)=y-x:=by simp;omega);refine⟨.slice (if cap=x then some ⟨G.γ U,0,none⟩ else (some (⟨G.γ U,0,none⟩:Addr)).map (·.add (x*t.size))) (y-x) (cap-x),by simp only[sliceAt,run_bind,run_underlying h1 w,andThen_ok,slice,C,Mq h2 w,run_pure],km,.inl ⟨rfl,.inl ⟨rfl,(l.take y).drop x,_,_,by rw[I],by rw[hlen],?_⟩⟩⟩;by_cases hz:y=x;left;subst hz;apply List.eq_nil_of_length_eq_zero;omega;right;rw[if_neg (by omega)];refine⟨0+x*t.size,(us.take (y*t.size)).drop (x*t.size),cur,e',by simp[Addr.add_mid],by omega,g2,?_,?_,λo=>by rw[g8,if_neg (by simp)]⟩;exact yP (k:=t.size) (λ_ _ h=>DQ h) x (yO9 (k:=t.size) (λ_ _ h=>DQ h) y g6);intro j u hu;rw[List.getElem?_drop,List.getElem?_take] at hu;split at hu;rw[<-g7,List.getElem?_take] at hu;split at hu;rw[Nat.zero_add];exact hu;cases hu;cases hu
theorem v7(ki:EM P c.tys)(C:zA G w tm none x v)(iv:∀A,lo=some A->∃v,vlo=some v/\zA G w tm none A v)(gL:lo=none->vlo=none)(iY:∀A,hi=some A->∃v,vhi=some v/\zA G w tm none A v)(gO:hi=none->vhi=none)(h:xH7 c T x lo hi=some (p,A))(I:∀q∈p,q):∃r,(sliceAt T v vlo vhi none).run P w=.ok r w/\zA G w tm none A r:=by unfold xH7 at h;split at h;rename_i a b ea eb;split at h;rename_i s;(cases il:c.is T .str with|false=>grind|true=>simp[il] at h;obtain⟨rfl,rfl⟩:=h;have j:=NZ (Eh ki il);rw[VRep_str.1 C];obtain⟨x,y,R,h2,J,h4⟩:=zH5 (P:=P) (G:=G) (w:=w) (tm:=tm) (b:=false) (m:=length (α:=UInt8) s) (jI _) ea eb iv gL iY gO (l:=s) rfl I;refine⟨.string ⟨(((take y s).drop x)).toArray⟩,?_,?_⟩;(have gj:(⟨toArray s⟩:ByteArray).size=length (α:=UInt8) s:=by simp[ByteArray.size]);simp[sliceAt,run_underlying j w,slice,gj,J,yM1];grind [yM0]);rename_i t l;(cases il:c.is T (.sl t) with|false=>grind|true=>simp[il] at h;obtain⟨rfl,rfl⟩:=h;have j:=Eh ki il;exact yP6 j ((zC rfl).1 C) ea eb iv gL iY gO I);rename_i t l U m;(cases il:c.is T (.sl t) with|false=>grind|true=>simp[il] at h;obtain⟨rfl,rfl⟩:=h;have j:=Eh ki il;cases m with|true=>exact xC4 j C ea eb iv gL iY gO I|false=>exact yP6 j (G3 C) ea eb iv gL iY gO I);grind;grind
theorem xJ4:∀{a:AVal}{vs:List Value}{k:Nat},zA G w tm none a (.tuple vs.toArray)->k<a.clen->∃u,vs[k]?=some u/\zA G w tm none (a.nth k) u:=by intro a;induction a with|cons h t _ qh=>intro vs k j C;obtain⟨x,xs,e,I,J⟩:=j;simp only[Value.tuple.injEq] at e;(have e:vs=x::xs:=by grind);subst e;(cases k with|zero=>exact⟨x,rfl,I⟩|succ k=>simp only[AVal.clen] at C;obtain⟨u,h3,R⟩:=qh (k:=k) J (by omega);exact⟨u,by grind,R⟩)|_=>grind [AVal.clen]
theorem xC5{a:AVal}(h:zA G w tm none a v)(j:0<a.clen):∃vs:List Value,v=.tuple vs.toArray:=by cases a<;>grind [zA,AVal.clen]
theorem yH9{k:Nat}(j:zA G w tm none x v)(h:yL0 x k=some (p,A)):∃r,(extract v k).run P w=.ok r w/\zA G w tm none A r:=by unfold yL0 at h;split at h;rename_i a;(cases C:blt k a.clen with|false=>grind|true=>have C:k<a.clen:=jR C;simp only[zA] at j;obtain⟨vs,rfl⟩:=xC5 j (by omega);obtain⟨u,I,J⟩:=xJ4 j C;simp_all [extract]);grind
def C9 {α β:Type}(R:α->β->Prop):List α->List β->Prop
 |[],[]=>True
 |a::r,b::s=>R a b/\C9 R r s
 |_,_=>False
variable {g:Value->Value->Sem Value}
theorem yU3{f:Int->Int->Int}(hg:∀k a b (w:World),(g (.int k a) (.int k b)).run P w=.ok (.int k (f a b)) w):∀{r:List AVal}{vs:List Value}{A B:AVal}{v:Value},WY A->zA G w tm none A v->C9 (zA G w tm none) r vs->NP f A r=some B->∃u,(vs.foldlM g v).run P w=.ok u w/\zA G w tm none B u:=by intro r;induction r with|nil=>intro vs A B v hi C j h;cases vs<;>simp_all [C9,NP]|cons x r J=>intro vs A B v hi C j h;cases vs with|nil=>grind [C9]|cons u us=>obtain⟨R,j⟩:=j;cases A with|val τ a=>(cases τ with|int k=>(cases x with|val τ' b=>(cases τ' with|int k'=>simp only[NP] at h;(cases I:Nat.beq (FK k) (FK k') with|false=>grind|true=>simp[I] at h;have:=NM (jC I);subst this;have e1:=VRep_int.1 C;have e2:=VRep_int.1 R;subst e2;obtain⟨z,h1,h2⟩:=J (v:=.int k (f a b)) rfl FG j h;simp_all)|_=>grind [NP])|_=>simp[NP] at h)|_=>grind [WY])|_=>simp[WY] at hi
variable {xs:List AVal}
theorem yJ{f:Int->Int->Int}(I:∀k a b (w:World),(g (.int k a) (.int k b)).run P w=.ok (.int k (f a b)) w)(j:C9 (zA G w tm none) xs vs)(h:WZ f xs=some (p,A)):∃v r,vs=v::r/\∃u,(r.foldlM g v).run P w=.ok u w/\zA G w tm none A u:=by cases xs with|nil=>grind [WZ]|cons x r=>cases vs with|nil=>grind [C9]|cons v us=>obtain⟨j,J⟩:=j;simp only[WZ] at h;cases hi:WY x with|false=>grind|true=>simp[hi] at h;cases C:NP f x r with|none=>grind|some B=>simp[C] at h;obtain⟨rfl,rfl⟩:=h;obtain⟨u,R,h2⟩:=yU3 I hi j J C;exact⟨v,us,rfl,u,R,h2⟩
theorem xR1 (k:IntKind)(a b:Int)(w:World):(max2 (.int k a) (.int k b)).run P w=.ok (.int k (GW a b)) w:=by simp[max2,GW]
theorem xR2 (k:IntKind)(a b:Int)(w:World):(min2 (.int k a) (.int k b)).run P w=.ok (.int k (GX a b)) w:=by simp[min2,GX]
variable {P:Program}{c:Ctx}{G:Gh}{w:World}{tm:Array Value}
theorem v8{R:α->List Value->Prop}(h:∀x vs,R x vs->∀u∈vs,u.oneCell'):∀{l us},CH R l us->∀u∈us,u.oneCell':=by intro l;induction l with|nil=>grind [CH]|cons x l j=>rintro us ⟨vs,ws,rfl,C,I⟩ u hu;grind
theorem Xr:∀{τ:Ty}{x:τ.den}{vs:List Value},AP χ w τ x vs->∀u∈vs,u.oneCell':=by intro τ;induction τ with|int k=>intro x vs h u hu;subst h;simp at hu;subst hu;rfl|bool=>intro x vs h u hu;subst h;simp at hu;subst hu;rfl|str=>intro x vs h u hu;subst h;simp at hu;subst hu;rfl|nl=>grind [AP]|cons a b j hb=>grind [AP]|st f C=>grind [AP]|arr n t ht=>grind [AP,v8]|sl t ht=>intro x vs h u hu;obtain⟨a,cap,rfl,_⟩:=h;simp at hu;subst hu;rfl|ptr t ht=>intro x vs h u hu;obtain⟨b,o,us,rfl,_⟩:=h;simp at hu;subst hu;rfl
theorem Xs{l:List t.den}(h:BV G w t l T m v):v.oneCell':=by rcases h with h|⟨_,k,e,l',_,_,es,clock,rfl,_⟩;rcases h.2 with ⟨rfl,_⟩ | ⟨cap,cur,e,us,rfl,_⟩<;>rfl;rfl
theorem Tl:∀{A:AVal}{τ:Ty}{vs:List Value},AF G w τ A vs->∀u∈vs,u.oneCell':=by intro A;induction A with|val τ' x=>grind [AF,Xr]|nil=>intro τ vs h u hu;rw[h.2] at hu;simp at hu;subst hu;rfl|own t l T m=>grind [AF,Xs]|agg f a j=>grind [AF]|nl=>grind [AF]|junk=>grind [AF]|cons a b gK gG=>grind [AF]|_=>grind [AF]
theorem PH(j:I6 τ us u)(C:∀u∈us,u.oneCell'):u.cells.toList=us:=by unfold I6 at j;cases I:τ.isAgg with|true=>grind [Value.cells]|false=>cases u<;>simp_all [Value.cells,Value.oneCell']
theorem Tm:∀{τ:Ty},τ.noPtr->AP χ w τ τ.dflt (DH τ):=by intro τ;induction τ with|int k=>grind [AP,DH,Ty.dflt]|bool=>grind [AP,DH,Ty.dflt]|str=>grind [AP,DH,Ty.dflt]|nl=>grind [AP,DH]|cons a b j hb=>intro h;simp[Ty.noPtr] at h;exact⟨_,_,rfl,j h.1,hb h.2⟩|st f C=>grind [Ty.noPtr,AP,DH,Ty.dflt]|arr n t ht=>grind [Ty.noPtr,AP,DH,Ty.dflt,zI9]|sl t _=>grind [AP,DH,Ty.dflt]|ptr t _=>grind [Ty.noPtr]
theorem yZ5:∀{τ:Ty},τ.noPtr->τ.plain->AF G w τ (zT6 τ) (DH τ):=by intro τ;induction τ with|int k=>grind [AF,zT6,AP,DH,Ty.isL]|bool=>grind [AF,zT6,AP,DH,Ty.isL]|str=>grind [AF,zT6,AP,DH,Ty.isL]|nl=>grind [AF,zT6,DH]|cons a b C hb=>intro h j;simp[Ty.noPtr] at h;simp[Ty.plain] at j;exact⟨a,b,_,_,rfl,rfl,C h.1 j.1.1.2,hb h.2 j.2⟩|st f I=>intro h j;simp only[Ty.noPtr] at h;simp[Ty.plain] at j;simp only[zT6];(cases J:f.hasSl with|true=>grind [AF,DH]|false=>simp only[jD,AF];exact⟨trivial,rfl,Tm (τ:=.st f) h⟩)|arr n t ht=>intro h j;simp only[zT6,AF];exact⟨trivial,rfl,Tm h⟩|sl t _=>grind [zT6,AF,DH,Ty.isSl]|ptr t _=>grind [Ty.noPtr]
theorem zK2:∀{τ:Ty},(DH τ).length=τ.size:=by intro τ;induction τ<;>simp_all [DH,Ty.size]
theorem yP7 (cells:Array Value)(off:Nat)(ps:List Value)(h:off+ps.length<=cells.size):((ps.toArray.zipIdx.foldl (λcs (x:Value×Nat)=>cs.setIfInBounds (off+x.2) x.1) cells)).toList=spl cells.toList off ps:=by (have key:∀(ps:List Value) (k:Nat) (cells:Array Value),off+k+ps.length<=cells.size->((ps.zipIdx k).foldl (λcs (x:Value×Nat)=>cs.setIfInBounds (off+x.2) x.1) cells).toList=spl cells.toList (off+k) ps:=by intro ps;induction ps with|nil=>simp_all [xJ]|cons p ps I=>intro k cells R;simp;rw[I (k+1) _ (by grind)];apply ext_getElem?;intro j;rw[spl_getElem? _ _ _ _ (by grind),spl_getElem? _ _ _ _ (by grind)];simp[List.getElem?_set];by_cases C:off+k=j;subst C;rw[if_neg (by omega),if_pos rfl,if_pos (by grind),if_pos ⟨by omega,by omega⟩];simp;by_cases J:off+(k+1)<=j/\j<off+(k+1)+ps.length;grind;rw[if_neg J,if_neg C,if_neg (by omega)]);grind
theorem yU4{places:Nat->Option (Nat×Nat)}(iF:∀k,k<f.flen->places k=some (f.foff k,(f.fty k).size)):∀{parts:List (Nat×AVal)}{vs:List Value}{ks:List Nat}{z:AVal}{cells:Array Value},f.plain->WX f parts->C9 (zA G w tm none) (parts.map (·.2)) vs->ks=parts.map (·.1)->AF G w f z cells.toList->∃cells',Instr.fill places cells (zip ks vs)=some cells'/\AF G w f (o7 parts z) cells'.toList:=by intro parts;induction parts with|nil=>simp_all [Instr.fill,o7]|cons q r ih=>intro vs ks z cells C I J hk R;obtain⟨k,A⟩:=q;cases vs with|nil=>grind [C9]|cons v vs=>simp only[WX,all_cons,jB] at I;obtain⟨⟨nh,hA⟩,hr⟩:=I;have nh:k<f.flen:=jR nh;have iK:=yE6 C nh;obtain⟨us,j,h2⟩:=Xq J.1 hA iK.1;have hc:=PH h2 (Tl j);have hle:=Xp nh;have ko:=zB R;have iq:=zB j;(have hvs:v.cells=us.toArray:=by grind);subst hk;simp only[map_cons,List.zip_cons_cons,Instr.fill,iF k nh];rw[if_neg (by grind)];(have kx:(Array.foldl (λcs (x:Value×Nat)=>cs.setIfInBounds (f.foff k+x.2) x.1) cells v.cells.zipIdx).toList=spl cells.toList (f.foff k) us:=by grind [yP7,jN]);have iw:=zU4 nh R j;rw[<-kx] at iw;obtain⟨cells',h3,h4⟩:=ih C (by grind [WX]) J.2 rfl iw;exact⟨cells',h3,h4⟩
theorem yP8:∀{parts:List (Nat×AVal)}{vs:List Value}{ks:List Nat}{l l':List t.den}{cells:Array Value},t.isL=false->(∀q∈parts,q.1<l.length)->C9 (zA G w tm none) (parts.map (·.2)) vs->ks=parts.map (·.1)->CH (AP G.χ w t) l cells.toList->SN t parts l=some l'->∃cells',Instr.fill (λi=>some (i*t.size,t.size)) cells (zip ks vs)=some cells'/\CH (AP G.χ w t) l' cells'.toList/\l'.length=l.length:=by intro parts;induction parts with|nil=>intro vs ks l l' cells _ _ C hk I h;simp_all [SN,Instr.fill]|cons q r ih=>intro vs ks l l' cells hp j C hk I h;obtain⟨k,A⟩:=q;cases vs with|nil=>grind [C9]|cons v vs=>simp[map_cons,C9] at C;simp only[SN] at h;split at h;rename_i x hx;have nh:k<l.length:=j (k,A) (by simp);obtain⟨us,J,h2⟩:=I7 hx hp C.1;have hc:=PH h2 (Xr J);have iq:=DQ J;have ko:=Im (k:=t.size) (λ_ _ h=>DQ h) I;(have hvs:v.cells=us.toArray:=by grind);(have hle:k*t.size+t.size<=l.length*t.size:=by rw[<-succ_mul];exact jS _ (by omega));subst hk;simp only[map_cons,List.zip_cons_cons,Instr.fill];(have gj:v.cells.size=t.size:=by rw[hvs];simpa using iq);rw[if_neg (by simp only[gj];simp;rw[<-jN,ko];exact hle)];(have kx:(Array.foldl (λcs (x:Value×Nat)=>cs.setIfInBounds (k*t.size+x.2) x.1) cells v.cells.zipIdx).toList=spl cells.toList (k*t.size) us:=by grind [yP7,jN]);have iw:=yL9 (R:=AP G.χ w t) (k:=t.size) (λ_ _ h=>DQ h) J I nh;rw[<-kx] at iw;obtain⟨cells',h3,h4,h5⟩:=ih hp (λq hq=>by simp;exact j q (by simp[hq])) C.2 rfl iw h;grind;grind
variable {P:Program}{c:Ctx}{G:Gh}{w:World}{tm:Array Value}
theorem xJ5:∀{fs:List Field}{o:Nat},B3 P f (.inr (fs,o))->∃pl:List (Nat×Nat),fs.mapM (λf=>(P.info? f.type).map λi=>(f.offset,i.size))=some pl/\∀k,k<f.flen->pl[k]?=some (o+f.foff k,(f.fty k).size):=by induction f with|nl=>intro fs o h;cases fs<;>simp[B3] at h;simp_all [Ty.flen]|cons a b _ gG=>intro fs o h;(cases fs with|nil=>grind [B3]|cons fd r=>simp only[B3,jB] at h;obtain⟨⟨⟨j,_⟩,C⟩,I⟩:=h;have j:=jC j;obtain⟨pl,J,R⟩:=gG I;obtain⟨⟨i,z,hi,hs,_⟩,_⟩:=Hb C;refine⟨(fd.offset,i.size)::pl,by grind,λk hk=>?_⟩;cases k<;>grind [Ty.foff,Ty.fty,Ty.flen,add_assoc])|_=>grind [B3]
variable {ρ:Operand->Value}
theorem yP9{ps:List (Nat×Operand)}:ps.map (λx=>(x.1,ρ x.2))=zip (ps.map (·.1)) ((ps.map (·.2)).map ρ):=by grind
theorem zQ5:∀{ps:List (Nat×Operand)}{xs:List AVal},xs.length=ps.length->(Gy ps xs).map (·.2)=xs/\(Gy ps xs).map (·.1)=ps.map (·.1):=by intro ps;induction ps with|nil=>intro xs h;cases xs<;>simp at h;exact⟨rfl,rfl⟩|cons q r j=>intro xs h;cases xs<;>simp_all [Gy]
theorem Of{R:α->β->Prop}:∀{xs:List α}{ys:List β},C9 R xs ys->xs.length=ys.length:=by intro xs;induction xs with|nil=>grind [C9]|cons x xs j=>intro ys h;cases ys<;>simp[C9] at h ⊢;grind
theorem yQ(ki:EM P c.tys){ps:Array (Nat×Operand)}(J:C9 (zA G w tm none) xs ((ps.toList.map (·.2)).map ρ))(h:xH6 c T (Gy ps.toList xs)=some (p,A)):∃r,(Instr.build T (ps.map λ(i,x)=>(i,ρ x))).run P w=.ok r w/\zA G w tm none A r:=by (have hl:xs.length=ps.toList.length:=by rw[Of J];simp);obtain⟨e1,e2⟩:=zQ5 hl;(have gw:(ps.map λ(i,x)=>(i,ρ x)).toList=zip ((Gy ps.toList xs).map (·.1)) ((ps.toList.map (·.2)).map ρ):=by rw[e2,<-yP9];simp);(have gp:C9 (zA G w tm none) ((Gy ps.toList xs).map (·.2)) ((ps.toList.map (·.2)).map ρ):=by rw[e1];exact J);unfold xH6 at h;split at h;rename_i f I;have j:=I5 ki T (by rw[I];simp);rw[I] at j;(cases hb:(WX f (Gy ps.toList xs)&&f.noPtr) with|false=>simp[hb] at h|true=>simp only[hb,jE] at h;simp only[jB] at hb;obtain⟨fs,h1,R⟩:=PE j;obtain⟨pl,h3,h4⟩:=xJ5 R;have iF:=Oa j;simp only[Ty.plain,jB] at iF;obtain⟨⟨i,z,hi,hs,_,hz,ni,_⟩,_⟩:=Hb j;(have C:AF G w f (zT6 f) z.cells.toList:=by rw[ni];exact yZ5 hb.2 iF.2);obtain⟨cells',h5,h6⟩:=yU4 (G:=G) (w:=w) (tm:=tm) (places:=(pl.toArray[·]?)) (λk hk=>by simpa using h4 k hk) iF.2 hb.1 gp rfl C;(have iy:P.built T (ps.map λ(i,x)=>(i,ρ x)).toList=some cells':=by rw[gw];simp only[Program.built,hi,h1,hz,h3];exact h5);refine⟨.agg cells',run_build w T _ cells' iy,?_⟩;cases hs:f.hasSl with|true=>simp only[hs,jE,jA,jG] at h;obtain⟨rfl,rfl⟩:=h;simp only[zA];exact⟨cells'.toList,by simp,h6⟩|false=>simp only[hs,jD] at h;split at h;rename_i x J;simp only[jA,jG] at h;obtain⟨rfl,rfl⟩:=h;simp only[zA];exact (JA rfl).2 ⟨cells'.toList,by simp,by simp only[AP];exact Kq J h6⟩;cases h);rename_i n t I;have j:=I5 ki T (by rw[I];simp);rw[I] at j;(cases hb:((Gy ps.toList xs).all (λq=>blt q.1 n)&&t.noPtr) with|false=>simp[hb] at h|true=>simp only[hb,jE] at h;simp only[jB] at hb;obtain⟨e,h1,R⟩:=zS j;obtain⟨⟨i,z,hi,hs,_,hz,ni,_⟩,_⟩:=Hb j;obtain⟨⟨ie,ze,nj,iG,_⟩,_⟩:=Hb R;split at h;rename_i l hl;simp only[jA,jG] at h;obtain⟨rfl,rfl⟩:=h;(have C:CH (AP G.χ w t) (replicate n t.dflt) z.cells.toList:=by rw[ni];exact zI9 (Tm hb.2) n);obtain⟨cells',h5,h6,h7⟩:=yP8 (G:=G) (w:=w) (tm:=tm) (Gi R) (λq hq=>by simp;exact jR (all_eq_true.1 hb.1 q hq)) gp rfl C hl;(have iy:P.built T (ps.map λ(i,x)=>(i,ρ x)).toList=some cells':=by rw[gw];simp only[Program.built,hi,h1,hz,nj,iG];exact h5);refine⟨.agg cells',run_build w T _ cells' iy,?_⟩;simp only[zA];exact (JA rfl).2 ⟨cells'.toList,by simp,by simp only[AP];exact⟨by rw[h7];simp,h6⟩⟩;cases h);cases h
theorem CP (s T:Nat):BN s≠AM T:=by grind [BN,AM]
theorem Ks{s t:Nat}(h:BN s=BN t):s=t:=by grind [BN]
theorem CT{s t:Nat}(h:AM s=AM t):s=t:=by grind [AM]
theorem Hu (s:Nat):¬(0=BN s):=by grind [BN]
theorem DI (s:Nat):¬(0=AM s):=by grind [AM]
def Gh.newBox (G:Gh)(b d:Nat):Gh:={ χ:=λb' o=>if b'=b then BN d else G.χ b' o,β:=λs=>if s=d then b else G.β s,γ:=G.γ }
def Gh.newArr (G:Gh)(b d:Nat):Gh:={ χ:=λb' o=>if b'=b then AM d else G.χ b' o,β:=G.β,γ:=λs=>if s=d then b else G.γ s }
theorem L8 (w:World)(o:Obj):(w.alloc o).heap[w.heap.size]?=some o:=by show (w.heap.push o)[w.heap.size]?=_;simp
theorem zS3(h:b<w.heap.size)(x:Obj):(w.alloc x).cell? ⟨b,o,none⟩=w.cell? ⟨b,o,none⟩:=by grind [Below.heap_alloc,cell?]
theorem wR (x:Obj)(d:Nat):Ext (· =BN d) (· =BN d) G w (G.newBox w.heap.size d) (w.alloc x):=by refine⟨λb o hb h=>?_,λb hb _=>?_,by simp,λs j=>?_,λT _=>rfl,λ_ h=>h⟩;exact⟨by simp only[Gh.newBox];grind,zS3 hb x⟩;exact⟨Below.heap_alloc w x b hb,λo=>by simp only[Gh.newBox];rw[if_neg (by omega)]⟩;simp only[Gh.newBox];rw[if_neg (λe=>j (by rw[e]))]
theorem Xt (x:Obj)(d:Nat):Ext (· =AM d) (· =AM d) G w (G.newArr w.heap.size d) (w.alloc x):=by refine⟨λb o hb h=>?_,λb hb _=>?_,by simp,λs _=>rfl,λT j=>?_,λ_ h=>h⟩;exact⟨by simp only[Gh.newArr];grind,zS3 hb x⟩;exact⟨Below.heap_alloc w x b hb,λo=>by simp only[Gh.newArr];rw[if_neg (by omega)]⟩;simp only[Gh.newArr];rw[if_neg (λe=>j (by rw[e]))]
variable {χ0:Nat->Nat->Nat}{w0:World}
theorem PI(h:Frame0 χ0 w0 G.χ w)(x:Obj)(χ':Nat->Nat->Nat)(hχ:∀b o,b<w.heap.size->χ' b o=G.χ b o):Frame0 χ0 w0 χ' (w.alloc x):=by refine⟨h.os,h.tape,h.output,Nat.le_trans h.size (by simp),λb hb C=>?_,λb o hb C=>?_⟩;rw[Below.heap_alloc w x b (Nat.lt_of_lt_of_le hb h.size)];exact h.block b hb C;have j:=Nat.lt_of_lt_of_le hb h.size;rw[zS3 j,hχ b o j];exact h.cell b o hb C
theorem yJ0(j:∀T,¬X (AM T)):∀{A:AVal}{τ:Ty}{us:List Value},AF G w τ A us->¬A.names X Y none:=by intro A;induction A with|val _ _=>grind [AVal.names]|nil=>grind [AVal.names]|own t l T m=>grind [AVal.names]|agg f a C=>grind [AF,AVal.names]|nl=>grind [AVal.names]|junk=>grind [AVal.names]|cons a b gK gG=>intro τ us h;simp only[AF] at h;simp[AVal.names];grind|_=>grind [AF]
variable {d:Nat}
theorem yQ0:∀{A:AVal}{s:Option Nat},A.hasRef d=false->s≠some d->¬A.names (· =BN d) (· =BN d) s:=by intro A;induction A with|own t l T m=>grind [AVal.names,CP]|ownh t l T i U m=>grind [AVal.names,CP]|eref _ T _ _ _=>grind [AVal.names,CP]|ref I τ p=>intro s h _;intro e;have:=Ks e;simp_all [AVal.hasRef]|opt _ _ _ A j=>intro s h _;exact j h (by simp)|box τ a j=>intro s h C;(cases s with|none=>exact j h (by simp)|some s=>simp[AVal.names];exact⟨λe=>C (by rw[Ks e]),j h (by simp)⟩)|cons a b gK gG=>grind [AVal.hasRef,AVal.names]|agg f a j=>intro s h _;exact j h (by simp)|tup a j=>intro s h _;exact j h (by simp)|fn f a j=>intro s h _;exact j h (by simp)|raw=>intro s _ C;cases s<;>grind [AVal.names,Ks]|rref I=>intro s h _;intro e;have:=Ks e;simp_all [AVal.hasRef]|fptr f caps=>intro s h _;rintro⟨k,τ,hm,e⟩;have:=Ks e;simp only[AVal.hasRef] at h;have:=List.any_eq_true.2 ⟨_,hm,show xV7 k (some (k,τ))=true by simp[xV7]⟩;grind|_=>grind [AVal.names]
theorem yQ1:∀{A:AVal}{s:Option Nat},A.hasTag T=false->¬A.names (· =AM T) (· =AM T) s:=by intro A;induction A with|own t l T' m=>intro s h;intro e;have:=CT e;simp_all [AVal.hasTag]|ownh t l T' i U m=>intro s h;simp[AVal.names];exact⟨λe=>by have:=CT e;simp_all [AVal.hasTag],λe=>by have:=CT e;simp_all [AVal.hasTag]⟩|eref _ T' _ _ _=>intro s h;intro e;have:=CT e;simp_all [AVal.hasTag]|ref C τ p=>grind [AVal.names,CP]|opt _ _ _ A j=>intro s h;exact j h|box τ a j=>intro s h;(cases s with|none=>exact j h|some s=>simp[AVal.names];exact⟨CP _ _,j h⟩)|cons a b gK gG=>grind [AVal.hasTag,AVal.names]|agg f a j=>intro s h;exact j h|tup a j=>intro s h;exact j h|fn f a j=>intro s h;exact j h|raw=>intro s h;cases s<;>grind [AVal.names,CP]|rref C=>grind [AVal.names,CP]|fptr f caps=>grind [AVal.names,CP]|_=>grind [AVal.names]
theorem xJ6{e:Nat}(h:AF G w τ A us)(j:J8 τ):zA (G.newBox w.heap.size d) (w.alloc (.cells us.toArray e)) tm (some d) (.box τ A) (.pointer (some ⟨w.heap.size,0,none⟩)):=by refine⟨by simp[Gh.newBox],j,us.toArray,e,?_,?_,λo=>by simp[Gh.newBox]⟩;simp only[Gh.newBox];exact L8 w _;exact yC (wR _ d) (Hu d) (yJ0 (λT=>λe=>CP _ _ e.symm) h) h
theorem yU5{l:List t.den}{rest:List Value}{e:Nat}(h:CH (AP G.χ w t) l us)(C:J8 t)(gU:(us++rest).length=cap*t.size)(j:l.length<=cap)(hm:cap<=maxLen):zA (G.newArr w.heap.size d) (w.alloc (.cells (us++rest).toArray e)) tm (some d) (.own t l d true) (.slice (some ⟨w.heap.size,0,none⟩) l.length cap):=by have iq:=Im (k:=t.size) (λ_ _ h=>DQ h) h;refine .inl ⟨C,.inr ⟨cap,(us++rest).toArray,e,us,by simp[Gh.newArr],?_,j,hm,by grind,?_,?_,λo=>by simp[Gh.newArr]⟩⟩;simp only[Gh.newArr];exact L8 w _;exact Ft (λ_ _ h=>DE (Xt _ d).prot h) h;grind
variable {P:Program}{c:Ctx}{G:Gh}{w:World}{tm:Array Value}
theorem Xu (b:Nat)(e:TypeId)(fr:Nat×Nat):∀(vs:List Value) (o:Nat) (w:World) (cur:Array Value),w.heap[b]?=some (.cells cur e fr)->o+vs.length<=cur.size->∃cur',(w.setCells b o vs).heap[b]?=some (.cells cur' e fr)/\cur'.toList=spl cur.toList o vs:=by intro vs;induction vs with|nil=>intro o w cur h _;exact⟨cur,h,by simp[xJ]⟩|cons v r J=>intro o w cur h hl;(have C:(w.setCell ⟨b,o,none⟩ v).heap[b]?=some (.cells (cur.setIfInBounds o v) e fr):=by simp only[World.setCell,Array.getElem?_modify,h];simp);obtain⟨cur',I,R⟩:=J (o+1) _ _ C (by grind);refine⟨cur',I,?_⟩;rw[R];apply ext_getElem?;intro j;rw[spl_getElem? _ _ _ _ (by grind),spl_getElem? _ _ _ _ (by grind)];simp[List.getElem?_set];by_cases C:o=j;subst C;rw[if_neg (by omega),if_pos rfl,if_pos (by grind),if_pos ⟨by omega,by omega⟩];simp;by_cases I:o+1<=j/\j<o+1+r.length;rw[if_pos I,if_pos ⟨by omega,by omega⟩,show j-o=(j-(o+1))+1 from by omega];simp;rw[if_neg I,if_neg C,if_neg (by omega)]
theorem Tn (b:Nat):∀(vs:List Value) (o:Nat) (w:World) (k:Nat),k≠b->(w.setCells b o vs).heap[k]?=w.heap[k]?:=by intro vs;induction vs<;>grind [setCells,Below.heap_setCell]
theorem zO5 (b:Nat):∀(vs:List Value) (o:Nat) (w:World),(w.setCells b o vs).heap.size=w.heap.size:=by intro vs;induction vs<;>grind [setCells,World.setCell]
theorem yB5 (b:Nat):∀(vs:List Value) (o:Nat) (w:World),(w.setCells b o vs).os=w.os/\(w.setCells b o vs).tape=w.tape/\(w.setCells b o vs).output=w.output:=by intro vs;induction vs with|nil=>intro o w;exact⟨rfl,rfl,rfl⟩|cons v r j=>intro o w;exact j _ _
theorem zH8(C:B3 P τ (.inl T))(R:u.cells.toList=us)(hl:us.length=τ.size)(I:∀x∈us,x.oneCell')(hb:w.heap[b]?=some (.cells cur e (0,0)))(ho:o+us.length<=cur.size):(storeAt T (.pointer (some ⟨b,o,none⟩)) u).run P w=.ok () (w.setCells b o us):=by obtain⟨⟨i,z,hi,hs,_⟩,_⟩:=Hb C;have:=run_storeCells_cells (P:=P) b o us 0 w (λj J=>by grind [cell?]) (λj J=>by grind [World.frozen?]) I;grind [storeAt,sureAddr,run_bind,run_pure,andThen_ok,storeVar,Mq]
theorem Xv(C:∀o,X (G.χ b o))(I:¬X 0):Ext X (λ_=>False) G w G (w.setCells b o us):=by refine⟨λj o' hb h=>⟨h,?_⟩,λj hb h=>⟨?_,λ_=>rfl⟩,by grind [zO5],λ_ _=>rfl,λ_ _=>rfl,λ_ h=>h.elim⟩;grind [cell?,Tn];(have kh:j≠b:=by intro e;simp_all);grind [Tn]
theorem Xw(h:Frame0 χ0 w0 G.χ w)(hb:∀o,1<G.χ b o):Frame0 χ0 w0 G.χ (w.setCells b o us):=by obtain⟨s1,s2,I⟩:=yB5 b us o w;refine⟨s1.trans h.os,s2.trans h.tape,I.trans h.output,by rw[zO5];exact h.size,λj gY C=>?_,λj o' gY C=>?_⟩;(have kh:j≠b:=by intro e;subst e;have J:=(h.cell j 0 gY (C 0)).1;grind);rw[Tn b us o w j kh];exact h.block j gY C;have J:=h.cell j o' gY C;grind [cell?,Tn]
theorem yQ2(ki:EM P c.tys){s:Nat}{k v C:AVal}{kv vv:Value}(hx:zA G w tm none x u)(hk:∀j,zD x=some j->zA G w tm (some j) k kv)(hv:zA G w tm none v vv)(h:xH5 c T x k v=some (s,C)):∃us o,(storeAt T u vv).run P w=.ok () (w.setCells (G.β s) o us)/\(∀o,G.χ (G.β s) o=BN s)/\zD x=some s/\zA G (w.setCells (G.β s) o us) tm (some s) C kv:=by unfold xH5 at h;split at h;rename_i j τ q;split at h;rename_i τ' k;(cases hc:(Ty.beq τ' τ&&c.is T (τ.pty q)&&AVal.fits (τ.pty q) v&&AVal.laxT (k.at q) (τ.pty q)&&AVal.laxT (AVal.put q k v) τ) with|false=>grind|true=>simp[hc,jE,jA,jG] at h;obtain⟨rfl,rfl⟩:=h;simp at hc;obtain⟨⟨⟨⟨h1,h2⟩,h3⟩,h4⟩,h5⟩:=hc;have e:=Ty.eq_of_beq h1;subst e;have hT:=Eh ki h2;have J:=hk j rfl;obtain⟨⟨iF,gN⟩,cur,e,g1,g2,g3⟩:=Od J;obtain⟨hq,rfl⟩:=hx;obtain⟨t1,t2,t3,t4⟩:=Ob iF gN hq g2;obtain⟨us,u1,u2⟩:=Xq hv h3 t4;have gk:=Tl u1;have nr:=PH u2 gk;have iq:=zB u1;have ko:=zB g2;(have kr:τ'.poff q+us.length<=cur.size:=by grind);refine⟨us,τ'.poff q,zH8 hT nr iq gk g1 kr,g3,rfl,?_⟩;obtain⟨cur',c1,c2⟩:=Xu (G.β j) e (0,0) us (τ'.poff q) w cur g1 kr;have I:=yZ3 iF gN hq g2 u1 h5;have R:Ext (· =BN j) (λ_=>False) G w G (w.setCells (G.β j) (τ'.poff q) us):=Xv (λo=>g3 o) (Hu j);have hput':=yC R (Hu j) (yJ0 (λT=>λe=>CP _ _ e.symm) I) I;exact⟨J.1,⟨iF,gN⟩,cur',e,c1,by grind,g3⟩);grind;grind
end Go.Am
