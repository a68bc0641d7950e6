/- The abstract machine, part 1: a typed interpreter for the program's code, and that it is sound. No condition. -/
import Derived.Calls
import Derived.KernelRfl
import Derived.Laws.AppendOwn
import Derived.Below
import Derived.Deep.MidRow
import Derived.IntWalk
import Derived.Laws.StructEq
import Derived.ChangeKeysEq
import Derived.Great.BuildSlice
namespace Go.Am
open Go
theorem jA {α:Type _}(a b:α):(some a=some b)=(a=b):=Option.some.injEq a b
theorem jB (a b:Bool):((a&&b)=true)=(a=true∧b=true):=Bool.and_eq_true a b
theorem jC {n m:Nat}(h:Nat.beq n m=true):n=m:=Nat.eq_of_beq_eq_true h
theorem jD {α:Sort _}(a b:α):(cond false a b)=b:=rfl
theorem jE {α:Sort _}(a b:α):(cond true a b)=a:=rfl
theorem jF {p:Prop}[i:Decidable p](h:decide p=true):p:=of_decide_eq_true h
theorem jG {α:Type _}{β:Type _}(a:α)(b:β)(c:α)(d:β):((a,b)=(c,d))=(a=c∧b=d):=Prod.mk.injEq a b c d
theorem jH {α:Type _}{a b:α}:a∈[b]↔a=b:=List.mem_singleton
theorem jI (n:Nat):n≤n:=Nat.le_refl n
theorem jJ {x y:Bool}:(x||y)=false↔x=false∧y=false:=Bool.or_eq_false_iff
theorem jK (b:Bool):((!b)=true)=(b=false):=Bool.not_eq_true' b
theorem jL {α:Type _}{l:List α}{i:Nat}(h:i<l.length):l[i]?=some (l[i]'h):=List.getElem?_eq_getElem h
theorem jM {α:Type _}{l:List α}{i:Nat}{a:α}:l.getD i a=l[i]?.getD a:=List.getD_eq_getElem?_getD
theorem jN {α:Type _}{xs:Array α}:xs.toList.length=xs.size:=Array.length_toList
theorem jO {α:Type _}{as bs:List α}:(as++bs).length=as.length+bs.length:=List.length_append
theorem jP {α:Type _}(y:α){a:α}{l:List α}(h:a∈l):a∈y::l:=List.mem_cons_of_mem y h
theorem jQ {α:Type _}{a:α}{l:List α}:a∈a::l:=List.mem_cons_self
theorem jR {n m:Nat}(h:n.ble m=true):n≤m:=Nat.le_of_ble_eq_true h
theorem jS {n m:Nat}(k:Nat)(h:n≤m):n*k≤m*k:=Nat.mul_le_mul_right k h
theorem jT {α:Type _}{i:Nat}{l:List α}:(List.take i l).length=min i l.length:=List.length_take
inductive Ty where
 |int (k:IntKind)|bool|str|nl|cons (h t:Ty)|st (f:Ty)|arr (n:Nat) (t:Ty)|sl (t:Ty)|ptr (t:Ty)
@[reducible] def Ty.den:Ty→Type
 |.int _=>Int|.bool=>Bool|.str=>List UInt8|.nl=>Unit|.cons h t=>h.den×t.den
 |.st f=>f.den|.arr _ t=>List t.den|.sl t=>List t.den|.ptr t=>t.den
def zI7:IntKind→Nat
 |.i8=>0|.i16=>1|.i32=>2|.i64=>3|.u8=>4|.u16=>5|.u32=>6|.u64=>7
theorem zH7 {a b:IntKind}(h:zI7 a=zI7 b):a=b:=by cases a<;>cases b<;>first|rfl | (simp[zI7] at h)
def Ty.beq:Ty→Ty→Bool
 |.int k,.int k'=>Nat.beq (zI7 k) (zI7 k')
 |.bool,.bool=>true
 |.str,.str=>true
 |.nl,.nl=>true
 |.cons a b,.cons c d=>Ty.beq a c&&Ty.beq b d
 |.st a,.st b=>Ty.beq a b
 |.arr n a,.arr m b=>Nat.beq n m&&Ty.beq a b
 |.sl a,.sl b=>Ty.beq a b
 |.ptr a,.ptr b=>Ty.beq a b
 |_,_=>false
theorem Ty.eq_of_beq:∀ {a b:Ty},Ty.beq a b=true→a=b:=by
 intro a
 induction a with
 |int k=>intro b h;cases b<;>simp[Ty.beq] at h;rename_i k';have:=zH7 h;rw[this]
 |bool=>intro b h;cases b<;>simp[Ty.beq] at h;rfl
 |str=>intro b h;cases b<;>simp[Ty.beq] at h;rfl
 |nl=>intro b h;cases b<;>simp[Ty.beq] at h;rfl
 |cons x y hx hy=>intro b h;cases b<;>simp[Ty.beq] at h;rw[hx h.1,hy h.2]
 |st x hx=>intro b h;cases b<;>simp[Ty.beq] at h;rw[hx h]
 |arr n x hx=>intro b h;cases b<;>simp[Ty.beq] at h;rw[h.1,hx h.2]
 |sl x hx=>intro b h;cases b<;>simp[Ty.beq] at h;rw[hx h]
 |ptr x hx=>intro b h;cases b<;>simp[Ty.beq] at h;rw[hx h]
def Ty.cast {a:Ty}(b:Ty)(x:a.den):Option b.den:=
 match h:Ty.beq a b with
 |true=>some (Ty.eq_of_beq h ▸ x)
 |false=>none
def Ty.dflt:(τ:Ty)→τ.den
 |.int _=>(0:Int)|.bool=>false|.str=>([]:List UInt8)|.nl=>()|.cons h t=>(h.dflt,t.dflt)
 |.st f=>f.dflt|.arr n t=>List.replicate n t.dflt|.sl t=>([]:List t.den)|.ptr t=>t.dflt
def Ty.size:Ty→Nat
 |.int _=>1|.bool=>1|.str=>1|.nl=>0|.cons h t=>h.size+t.size
 |.st f=>f.size|.arr n t=>n*t.size|.sl _=>1|.ptr _=>1
def Ty.isAgg:Ty→Bool
 |.st _=>true|.arr _ _=>true|_=>false
def Ty.isL:Ty→Bool
 |.nl=>true|.cons _ _=>true|_=>false
def Ty.plain:Ty→Bool
 |.cons h t=>!h.isL&&h.plain&&t.isL&&t.plain
 |.st f=>f.isL&&f.plain
 |.arr _ t=>!t.isL&&t.plain
 |.sl t=>!t.isL&&t.plain
 |.ptr t=>!t.isL&&t.plain
 |_=>true
def Ty.hasSl:Ty→Bool
 |.sl _=>true|.cons h t=>h.hasSl||t.hasSl|.st f=>f.hasSl|_=>false
def Ty.fty:Ty→Nat→Ty
 |.cons h _,0=>h
 |.cons _ t,k+1=>t.fty k
 |_,_=>.nl
def Ty.fget:(f:Ty)→(k:Nat)→f.den→(f.fty k).den
 |.cons _ _,0,x=>x.1
 |.cons _ t,k+1,x=>t.fget k x.2
 |.int _,_,_=>()|.bool,_,_=>()|.str,_,_=>()|.nl,_,_=>()|.st _,_,_=>()|.arr _ _,_,_=>()|.sl _,_,_=>()|.ptr _,_,_=>()
def Ty.fset:(f:Ty)→(k:Nat)→(f.fty k).den→f.den→f.den
 |.cons _ _,0,y,x=>(y,x.2)
 |.cons _ t,k+1,y,x=>(x.1,t.fset k y x.2)
 |.int _,_,_,x=>x|.bool,_,_,x=>x|.str,_,_,x=>x|.nl,_,_,x=>x|.st _,_,_,x=>x|.arr _ _,_,_,x=>x|.sl _,_,_,x=>x|.ptr _,_,_,x=>x
def Ty.foff:Ty→Nat→Nat
 |.cons _ _,0=>0
 |.cons h t,k+1=>h.size+t.foff k
 |_,_=>0
def Ty.flen:Ty→Nat
 |.cons _ t=>t.flen+1
 |_=>0
def Ty.eqb:(τ:Ty)→τ.den→τ.den→Bool
 |.int _,x,y=>@BEq.beq Int _ x y
 |.bool,x,y=>@BEq.beq Bool _ x y
 |.str,x,y=>@BEq.beq (List UInt8) _ x y
 |.nl,_,_=>true
 |.cons h t,x,y=>h.eqb x.1 y.1&&t.eqb x.2 y.2
 |.st f,x,y=>f.eqb x y
 |.arr n t,x,y=>(List.range n).all fun i=>t.eqb (List.getD (α:=t.den) x i t.dflt) (List.getD (α:=t.den) y i t.dflt)
 |.sl _,_,_=>false
 |.ptr _,_,_=>false
def Ty.cmp:Ty→Bool
 |.int _=>true|.bool=>true|.str=>true|.nl=>true|.cons h t=>h.cmp&&t.cmp|.st f=>f.cmp|.arr _ t=>t.cmp|.sl _=>false|.ptr _=>false
def Ty.noPtr:Ty→Bool
 |.ptr _=>false|.cons h t=>h.noPtr&&t.noPtr|.st f=>f.noPtr|.arr _ t=>t.noPtr|_=>true
def Ty.eqs:Ty→Bool
 |.bool=>true|.st _=>true|.arr _ _=>true|_=>false
def Ty.ht:Ty→Nat
 |.cons h t=>max h.ht t.ht|.st f=>f.ht+1|.arr _ t=>t.ht+1|_=>0
abbrev yI4:=List (Nat ⊕ Int)
def Ty.pty:Ty→yI4→Ty
 |τ,[]=>τ
 |.st f,.inl k::p=>(f.fty k).pty p
 |.arr _ t,.inr _::p=>t.pty p
 |_,_=>.nl
def Ty.poff:Ty→yI4→Nat
 |_,[]=>0
 |.st f,.inl k::p=>f.foff k+(f.fty k).poff p
 |.arr _ t,.inr i::p=>i.toNat*t.size+t.poff p
 |_,_=>0
inductive AVal where
 |junk
 |val (τ:Ty) (x:τ.den)
 |opt (s:Nat) (want g:Bool) (A:AVal)
 |nil
 |nn (b:Bool)
 |own (t:Ty) (l:List t.den) (T:Nat) (m:Bool)
 |box (τ:Ty) (c:AVal)
 |ref (s:Nat) (τ:Ty) (p:yI4)
 |eref (s:Nat) (T:Nat) (t:Ty) (i:Int) (p:yI4)
 |nl
 |cons (h t:AVal)
 |agg (f:Ty) (c:AVal)
 |tup (c:AVal)
 |fn (f:Nat) (c:AVal)
 |raw
 |rref (s:Nat)
 |fptr (f:Nat) (caps:List (Option (Nat×Ty)))
 |ownh (t:Ty) (l:List (List t.den)) (T i U:Nat) (m:Bool)
abbrev St:=List (Nat×AVal)
def zA9:Nat:=1000000
def St.get:St→Nat→AVal
 |[],_=>.junk
 |(s,A)::r,n=>bif Nat.beq s n then A else bif Nat.beq s zA9 then .junk else St.get r n
def AVal.nth:AVal→Nat→AVal
 |.cons h _,0=>h
 |.cons _ t,k+1=>t.nth k
 |_,_=>.junk
def AVal.setNth:AVal→Nat→AVal→AVal
 |.cons _ t,0,B=>.cons B t
 |.cons h t,k+1,B=>.cons h (t.setNth k B)
 |A,_,_=>A
def zP2:Ty→AVal
 |.sl _=>.nil
 |.nl=>.nl
 |.cons h t=>.cons (zP2 h) (zP2 t)
 |.st f=>bif f.hasSl then .agg f (zP2 f) else .val (.st f) f.dflt
 |.int k=>.val (.int k) (0:Int)
 |.bool=>.val .bool false
 |.str=>.val .str ([]:List UInt8)
 |.arr n t=>.val (.arr n t) (Ty.dflt (.arr n t))
 |.ptr _=>.junk
def xQ2:Value→AVal
 |.bool b=>.val .bool b
 |.int k n=>.val (.int k) n
 |.string s=>.val .str s.data.toList
 |.slice none 0 0=>.nil
 |_=>.junk
def yB5:(f:Ty)→f.den→AVal
 |.cons h t,x=>.cons (.val h x.1) (yB5 t x.2)
 |_,_=>.nl
def xT9:(τ:Ty)→Option τ.den
 |.sl _=>some []
 |_=>none
def xX2:(τ:Ty)→Option τ.den
 |.nl=>some ()
 |_=>none
def xX6 (g:(f:Ty)→Option f.den):(τ:Ty)→Option τ.den
 |.st f=>g f
 |_=>none
def yV1 (g g':(f:Ty)→Option f.den):(τ:Ty)→Option τ.den
 |.cons h t=>match g h,g' t with|some x,some y=>some (x,y)|_,_=>none
 |_=>none
def AVal.asT:AVal→(τ:Ty)→Option τ.den
 |.val τ' x,τ=>bif τ'.isL then none else Ty.cast τ x
 |.nil,τ=>xT9 τ
 |.own t l _ m,τ=>bif m then none else Ty.cast (a:=.sl t) τ l
 |.agg f c,τ=>bif Ty.beq (.st f) τ then xX6 (AVal.asT c) τ else none
 |.nl,τ=>xX2 τ
 |.cons a b,τ=>yV1 (AVal.asT a) (AVal.asT b) τ
 |_,_=>none
def AVal.as (τ:Ty)(A:AVal):Option τ.den:=A.asT τ
def Ty.isSl:Ty→Bool
 |.sl _=>true|_=>false
def zD7 (g g':Ty→Bool):Ty→Bool
 |.cons h t=>g h&&g' t
 |_=>false
def AVal.fitsT:AVal→Ty→Bool
 |.val τ' _,τ=>Ty.beq τ' τ&&!τ'.isL
 |.nil,τ=>τ.isSl
 |.own t _ _ _,τ=>Ty.beq (.sl t) τ
 |.agg f c,τ=>Ty.beq (.st f) τ&&AVal.fitsT c f
 |.nl,τ=>Ty.beq .nl τ
 |.cons a b,τ=>zD7 (AVal.fitsT a) (AVal.fitsT b) τ
 |_,_=>false
def AVal.fits (τ:Ty)(A:AVal):Bool:=A.fitsT τ
def AVal.laxT:AVal→Ty→Bool
 |.val τ' _,τ=>Ty.beq τ' τ&&!τ'.isL
 |.nil,τ=>τ.isSl
 |.own t _ _ _,τ=>Ty.beq (.sl t) τ
 |.agg f c,τ=>Ty.beq (.st f) τ&&AVal.laxT c f
 |.nl,τ=>Ty.beq .nl τ
 |.cons a b,τ=>zD7 (AVal.laxT a) (AVal.laxT b) τ
 |.junk,τ=>τ.isSl
 |_,_=>false
def AVal.fld (k:Nat):AVal→AVal
 |.val (.st f) x=>.val (f.fty k) (f.fget k x)
 |.agg _ c=>c.nth k
 |_=>.junk
def AVal.ix (i:Int):AVal→AVal
 |.val (.arr _ t) l=>.val t (List.getD (α:=t.den) l i.toNat t.dflt)
 |_=>.junk
def AVal.at (c:AVal):yI4→AVal
 |[]=>c
 |.inl k::p=>(c.fld k).at p
 |.inr i::p=>(c.ix i).at p
def AVal.put:yI4→AVal→AVal→AVal
 |[],_,B=>B
 |.inl k::p,.agg f c,B=>.agg f (c.setNth k (AVal.put p (c.nth k) B))
 |.inl k::p,.val (.st f) x,B =>
  let C:=AVal.put p (.val (f.fty k) (f.fget k x)) B
  match AVal.as (f.fty k) C with
  |some y=>.val (.st f) (f.fset k y x)
  |none=>.agg f ((yB5 f x).setNth k C)
 |.inr i::p,.val (.arr n t) l,B =>
  match AVal.as t (AVal.put p (.val t (List.getD (α:=t.den) l i.toNat t.dflt)) B) with
  |some y=>.val (.arr n t) (List.set (α:=t.den) l i.toNat y)
  |none=>.junk
 |_,_,_=>.junk
def AVal.hasTag (T:Nat):AVal→Bool
 |.own _ _ T' _=>Nat.beq T T'
 |.eref _ T' _ _ _=>Nat.beq T T'
 |.ownh _ _ T' _ U _=>Nat.beq T T'||Nat.beq T U
 |.opt _ _ _ A=>A.hasTag T
 |.box _ c=>c.hasTag T
 |.cons h t=>h.hasTag T||t.hasTag T
 |.agg _ c=>c.hasTag T
 |.tup c=>c.hasTag T
 |.fn _ c=>c.hasTag T
 |_=>false
def xQ9 (s:Nat):Option (Nat×Ty)→Bool
 |some (k,_)=>Nat.beq s k
 |none=>false
def AVal.hasRef (s:Nat):AVal→Bool
 |.ref s' _ _=>Nat.beq s s'
 |.rref s'=>Nat.beq s s'
 |.fptr _ caps=>caps.any (xQ9 s)
 |.opt _ _ _ A=>A.hasRef s
 |.box _ c=>c.hasRef s
 |.cons h t=>h.hasRef s||t.hasRef s
 |.agg _ c=>c.hasRef s
 |.tup c=>c.hasRef s
 |.fn _ c=>c.hasRef s
 |_=>false
def AVal.mapOwn (g:(t:Ty)→List t.den→Nat→Bool→AVal)(h:Nat→Nat→Ty→Int→yI4→AVal):AVal→AVal
 |.own t l T m=>g t l T m
 |.eref s T t i p=>h s T t i p
 |.opt s w b A=>.opt s w b (A.mapOwn g h)
 |.box τ c=>bif (c.mapOwn g h).laxT τ then .box τ (c.mapOwn g h) else .junk
 |.cons x y=>.cons (x.mapOwn g h) (y.mapOwn g h)
 |.agg f c=>bif (c.mapOwn g h).laxT f then .agg f (c.mapOwn g h) else .junk
 |.tup c=>.tup (c.mapOwn g h)
 |.fn f c=>.fn f (c.mapOwn g h)
 |.ownh _ _ _ _ _ _=>.junk
 |A=>A
def AVal.retag (T U:Nat):AVal→AVal:=
 AVal.mapOwn (fun t l T' m=>.own t l (bif Nat.beq T T' then U else T') m) (fun s T' t i p=>.eref s (bif Nat.beq T T' then U else T') t i p)
def AVal.lose (T:Nat):AVal→AVal:=
 AVal.mapOwn (fun t l T' m=>bif Nat.beq T T' then (bif m then .junk else .val (.sl t) l) else .own t l T' m) (fun s T' t i p=>bif Nat.beq T T' then .junk else .eref s T' t i p)
def AVal.gone (T:Nat):AVal→AVal:=
 AVal.mapOwn (fun t l T' m=>bif Nat.beq T T' then .junk else .own t l T' m) (fun s T' t i p=>bif Nat.beq T T' then .junk else .eref s T' t i p)
def AVal.hung (d:Nat):AVal→Bool
 |.opt s _ _ A=>Nat.beq s d||A.hung d
 |.cons a b=>a.hung d||b.hung d
 |.tup c=>c.hung d
 |.fn _ c=>c.hung d
 |_=>false
def AVal.hasOpt:AVal→Bool
 |.opt _ _ _ _=>true
 |.cons a b=>a.hasOpt||b.hasOpt
 |.tup c=>c.hasOpt
 |.fn _ c=>c.hasOpt
 |_=>false
structure GTab where
 tab:List (Nat×(τ:Ty)×τ.den)
abbrev GlobTab:Type:=Inhabited GTab
def GlobTab.tab [i:GlobTab]:List (Nat×(τ:Ty)×τ.den):=(@default GTab i).tab
def Ty.nsl:Ty→Nat
 |.sl _=>1|.cons h t=>h.nsl+t.nsl|.st f=>f.nsl|_=>0
def AVal.pos:AVal→Ty→Nat→AVal
 |.own t l _ m,_,b=>.own t l b m
 |.agg f c,_,b=>.agg f (c.pos f b)
 |.cons x y,.cons h t,b=>.cons (x.pos h b) (y.pos t (b+h.nsl))
 |.cons _ _,_,_=>.junk
 |A,_,_=>A
def AVal.tags:AVal→Ty→Nat→List (Nat×Nat)
 |.own _ _ T _,_,b=>[(T,b)]
 |.agg f c,_,b=>c.tags f b
 |.cons x y,.cons h t,b=>x.tags h b++y.tags t (b+h.nsl)
 |_,_,_=>[]
def Ty.noMem:Ty→Bool
 |.sl _=>false|.ptr _=>false|.cons h t=>h.noMem&&t.noMem|.st f=>f.noMem|.arr _ t=>t.noMem|_=>true
def AVal.scal:AVal→Bool
 |.val τ _=>τ.noMem
 |.nil=>true
 |.own t _ _ _=>t.noMem
 |.tup c=>c.scal
 |.nl=>true
 |.cons a b=>a.scal&&b.scal
 |_=>false
def AVal.pureL:AVal→Bool
 |.nl=>true
 |.cons (.val _ _) t=>t.pureL
 |.cons .nil t=>t.pureL
 |.cons (.fn _ .nl) t=>t.pureL
 |_=>false
end Go.Am
namespace Go.Am
open Go
structure CallOut where
 ok:List Prop
 res:AVal
 outs:List (Nat×AVal)
 eats:List Nat
abbrev Spec:=List AVal→Option CallOut
structure Comp where
 kind:Nat
 g:Option Bool
 d:St
structure Out where
 ok:List Prop
 comps:List Comp
structure Ctx where
 tys:List (Nat×Ty)
 fns:List (Nat×Spec)
 loops:List (Nat×(St→Option Out))
 gh:List (Nat×List (Nat×Nat×Nat×Nat))
 wrap:Bool
 n:Nat
 keep:List Nat
 wr:List Nat
 wants:List (Nat×List Nat):=[]
 exts:List (Nat×(List AVal→Option (List Prop×AVal))):=[]
 maps:List (Nat×(Ty×Ty)):=[]
 fts:List Nat:=[]
 clones:List (Nat×Nat):=[]
def look {α:Type}(dflt:α):List (Nat×α)→Nat→α
 |[],_=>dflt
 |(k,a)::r,n=>bif Nat.beq k n then a else look dflt r n
def Ctx.ty (c:Ctx)(T:Nat):Ty:=look .nl c.tys T
def xU:Ty→Bool
 |.nl=>false|_=>true
def Ctx.is (c:Ctx)(T:Nat)(τ:Ty):Bool:=Ty.beq τ (c.ty T)&&xU τ
def Ctx.mapTy (c:Ctx)(T:Nat):Option (Ty×Ty):=look none (c.maps.map fun e=>(e.1,some e.2)) T
@[reducible] def xD0 (k v:Ty):Ty:=.cons k (.cons v .nl)
def yI5 (k v:Ty)(x:k.den):List (k.den×v.den×Unit)→Option v.den
 |[]=>none
 |e::r=>bif k.eqb x e.1 then some e.2.1 else yI5 k v x r
def xL8 (k v:Ty)(x:k.den)(y:v.den):List (k.den×v.den×Unit)→List (k.den×v.den×Unit)
 |[]=>[(x,y,())]
 |e::r=>bif k.eqb x e.1 then (x,y,())::r else e::xL8 k v x y r
def InR (r:Int):Prop:=-9223372036854775808≤r∧r≤9223372036854775807
def xD1:List (Nat×(τ:Ty)×τ.den)→Nat→AVal
 |[],_=>.junk
 |(k,⟨τ,x⟩)::r,g=>bif Nat.beq k g then .val (.ptr τ) x else xD1 r g
def arg [GlobTab] (S:St):Operand→AVal
 |.tmp t=>match S.get t with|.box τ _=>.ref t τ []|.raw=>.rref t | A=>A
 |.const v=>xQ2 v
 |.func f=>.fn f .nl
 |.global g=>xD1 GlobTab.tab g
def zA4 (S:St):AVal→AVal
 |.ref s _ _=>S.get s
 |.eref s _ _ _ _=>S.get s
 |.rref s=>S.get s
 |_=>.junk
def yI6:Option Bool→Option Bool→Option Bool
 |none,g=>g
 |some a,none=>some a
 |some a,some b=>some (a&&b)
abbrev Gd:=Option (Nat×Bool×Bool)
def zL3 (dsts:List (Option Nat))(S:St):Option (Nat×Bool)→Option Gd
 |none=>some none
 |some (j,want) =>
  match dsts[j]? with
  |some (some s)=>match S.get s with
   |.val .bool b=>some (some (s,want,bif want then b else !b))
   |.opt _ _ g (.val .bool b)=>some (some (s,want,g&&(bif want then b else !b)))
   |_=>none
  |_=>none
def zE9 (gd:Gd):AVal→AVal
 |.opt s w _ A=>match gd with
  |some (s',w',_)=>bif Nat.beq s s'&&(w==w') then A else .junk
  |none=>.junk
 |A=>A
def yM0:Operand→Option Int
 |.const (.int _ n)=>some n
 |_=>none
def xR:IntKind→Bool
 |.i64=>true|_=>false
def yB6 (wrap:Bool)(k:IntKind)(r:Int):List Prop×AVal:=
 bif !wrap&&xR k then ([InR r],.val (.int k) r) else ([],.val (.int k) (k.wrap r))
def yI7 (y:Operand)(b:Int):List Prop:=
 match yM0 y with
 |some n=>bif n==0 then [False] else []
 |none=>[b≠0]
def yV2 (y:Operand)(b:Int):List Prop:=
 match yM0 y with
 |some n=>bif decide (0≤n) then [] else [False]
 |none=>[0≤b]
def yB7 (k:IntKind)(f:BitVec k.bits→BitVec k.bits→BitVec k.bits)(a b:Int):Int:=
 k.wrap ((f (BitVec.ofInt k.bits a) (BitVec.ofInt k.bits b)).toNat)
def xD2 (wrap:Bool)(op:BinOp)(k:IntKind)(a b:Int)(y:Operand):Option (List Prop×AVal):=
 match op with
 |.add=>some (yB6 wrap k (a+b))
 |.sub=>some (yB6 wrap k (a-b))
 |.mul=>some (yB6 wrap k (a*b))
 |.quo=>some (yI7 y b++(yB6 wrap k (a.tdiv b)).1,(yB6 wrap k (a.tdiv b)).2)
 |.rem=>some (yI7 y b,.val (.int k) (a.tmod b))
 |.and=>some ([],.val (.int k) (yB7 k (fun x y=>x &&& y) a b))
 |.or=>some ([],.val (.int k) (yB7 k (fun x y=>x ||| y) a b))
 |.xor=>some ([],.val (.int k) (yB7 k (fun x y=>x ^^^ y) a b))
 |.andNot=>some ([],.val (.int k) (yB7 k (fun x y=>x &&& ~~~y) a b))
 |.eql=>some ([],.val .bool (a==b))
 |.neq=>some ([],.val .bool (a !=b))
 |.lss=>some ([],.val .bool (decide (a<b)))
 |.leq=>some ([],.val .bool (decide (a≤b)))
 |.gtr=>some ([],.val .bool (decide (a>b)))
 |.geq=>some ([],.val .bool (decide (a≥b)))
 |_=>none
def yI8 (wrap:Bool)(op:BinOp)(k:IntKind)(a b:Int)(y:Operand):Option (List Prop×AVal):=
 match op with
 |.shl=>some (yV2 y b++(yB6 wrap k (a*2 ^ (min b.toNat k.bits))).1,(yB6 wrap k (a*2 ^ (min b.toNat k.bits))).2)
 |.shr=>some (yV2 y b,.val (.int k) (a.fdiv (2 ^ (min b.toNat k.bits))))
 |_=>none
def yQ8:BinOp→Bool
 |.shl=>true|.shr=>true|_=>false
def xD3 (op:BinOp)(a b:List UInt8):Option (List Prop×AVal):=
 match op with
 |.add=>some ([((a.length+b.length:Nat):Int)≤9223372036854775807],.val .str (a++b))
 |.eql=>some ([],.val .bool (a==b))
 |.neq=>some ([],.val .bool (!(a==b)))
 |.lss=>some ([],.val .bool (Op.bytesLess a b))
 |.leq=>some ([],.val .bool (Op.bytesLess a b||a==b))
 |.gtr=>some ([],.val .bool (!(Op.bytesLess a b||a==b)))
 |.geq=>some ([],.val .bool (!(Op.bytesLess a b)))
 |_=>none
def xR0 (op:BinOp)(τ:Ty)(x y:AVal):Option (List Prop×AVal):=
 match τ.cmp&&τ.eqs,AVal.as τ x,AVal.as τ y with
 |true,some a,some b =>
  match op with
  |.eql=>some ([],.val .bool (τ.eqb a b))
  |.neq=>some ([],.val .bool (!(τ.eqb a b)))
  |_=>none
 |_,_,_=>none
def zX4 (op:BinOp)(p:List Prop)(b:Bool):Option (List Prop×AVal):=
 match op with
 |.eql=>some (p,.val .bool b)
 |.neq=>some (p,.val .bool (!b))
 |_=>none
def xR1 (c:Ctx)(op:BinOp)(T:Nat)(x:AVal):Option (List Prop×AVal):=
 match c.ty T with
 |.sl _=>(match x with
  |.nil=>zX4 op [] true
  |.nn b=>zX4 op [] b
  |.val (.sl t) l=>zX4 op [0<List.length (α:=t.den) l] false
  |.own t l _ _=>bif t.isL then none else zX4 op [0<l.length] false
  |_=>none)
 |_=>none
def xW6 (c:Ctx)(op:BinOp)(T:Nat)(x y:AVal)(oy:Operand):Option (List Prop×AVal):=
 match x,y with
 |.val (.int k) a,.val (.int k') b =>
  bif yQ8 op then yI8 c.wrap op k a b oy
  else bif Nat.beq (zI7 k) (zI7 k') then xD2 c.wrap op k a b oy else none
 |.val .str a,.val .str b=>xD3 op a b
 |x,.nil=>xR1 c op T x
 |x,y=>xR0 op (c.ty T) x y
def unA (c:Ctx)(op:UnOp)(x:AVal):Option (List Prop×AVal):=
 match op,x with
 |.not,.val .bool b=>some ([],.val .bool (!b))
 |.neg,.val (.int k) n=>some (yB6 c.wrap k (Int.sub 0 n))
 |.xor,.val (.int k) n=>some ([],.val (.int k) (yB7 k (fun x y=>x ^^^ y) (if k.signed then -1 else k.max) n))
 |_,_=>none
def xR2 (c:Ctx)(src dst:Nat)(x:AVal):Option (List Prop×AVal):=
 match c.ty src,c.ty dst,x with
 |.int _,.int k,.val (.int _) n=>some ([],.val (.int k) (k.wrap n))
 |.str,.str,.val .str s=>some ([],.val .str s)
 |_,_,_=>none
def zP3 (ix:Operand)(i:Int)(n:Int):List Prop:=
 match yM0 ix with
 |some _=>[0≤i∧i<n]
 |none=>[0≤i∧i<n]
def zV8 (c:Ctx)(T:Nat)(x:AVal)(s:Nat)(i:AVal)(ix:Operand):Option (List Prop×AVal):=
 match x,i with
 |.val (.sl t) l,.val (.int _) i=>bif c.is T (.sl t) then some (zP3 ix i (List.length (α:=t.den) l:Int),.val (.ptr t) (List.getD (α:=t.den) l i.toNat t.dflt)) else none
 |.own t l U m,.val (.int _) i =>
  bif c.is T (.sl t) then
   (bif m then some (zP3 ix i (l.length:Int),.eref s U t i [])
    else some (zP3 ix i (l.length:Int),.val (.ptr t) (List.getD (α:=t.den) l i.toNat t.dflt))) else none
 |.ownh t l U _ V _,.val (.int _) i=>bif c.is T (.sl (.sl t))&&!(Nat.beq U V) then some (zP3 ix i (List.length (α:=List t.den) l:Int),.eref s U (.sl t) i []) else none
 |.val (.ptr (.arr n t)) l,.val (.int _) i=>bif c.is T (.arr n t) then some (zP3 ix i (n:Int),.val (.ptr t) (List.getD (α:=t.den) l i.toNat t.dflt)) else none
 |.ref s τ p,.val (.int _) i =>
  match τ.pty p with
  |.arr n t=>bif c.is T (.arr n t) then some (zP3 ix i (n:Int),.ref s τ (p++[.inr i])) else none
  |_=>none
 |.eref s U t j p,.val (.int _) i =>
  match t.pty p with
  |.arr n t'=>bif c.is T (.arr n t') then some (zP3 ix i (n:Int),.eref s U t j (p++[.inr i])) else none
  |_=>none
 |_,_=>none
def xD4 (c:Ctx)(T:Nat)(x i:AVal)(ix:Operand):Option (List Prop×AVal):=
 match x,i with
 |.val .str s,.val (.int _) i=>bif c.is T .str then some (zP3 ix i (List.length (α:=UInt8) s:Int),.val (.int .u8) ((List.getD (α:=UInt8) s i.toNat 0).toNat:Int)) else none
 |.val (.arr n t) l,.val (.int _) i=>bif c.is T (.arr n t) then some (zP3 ix i (n:Int),.val t (List.getD (α:=t.den) l i.toNat t.dflt)) else none
 |_,_=>none
def zG4 (c:Ctx)(T:Nat)(x:AVal)(k:Nat):Option (List Prop×AVal):=
 match x with
 |.val (.ptr (.st f)) v=>bif c.is T (.st f)&&Nat.blt k f.flen&&Nat.blt 0 (f.fty k).size then some ([],.val (.ptr (f.fty k)) (f.fget k v)) else none
 |.ref s τ p =>
  match τ.pty p with
  |.st f=>bif c.is T (.st f)&&Nat.blt k f.flen&&Nat.blt 0 (f.fty k).size then some ([],.ref s τ (p++[.inl k])) else none
  |_=>none
 |.eref s U t i p =>
  match t.pty p with
  |.st f=>bif c.is T (.st f)&&Nat.blt k f.flen&&Nat.blt 0 (f.fty k).size then some ([],.eref s U t i (p++[.inl k])) else none
  |_=>none
 |_=>none
def xD5 (c:Ctx)(T:Nat)(x:AVal)(k:Nat):Option (List Prop×AVal):=
 match x with
 |.val (.st f) v=>bif c.is T (.st f)&&Nat.blt k f.flen then some ([],.val (f.fty k) (f.fget k v)) else none
 |.agg f a=>bif c.is T (.st f)&&Nat.blt k f.flen then some ([],a.nth k) else none
 |_=>none
def xR3 (f:Nat)(caps:List (Option (Nat×Ty))):List (Option (Nat×Ty))→AVal
 |[]=>.nl
 |some (k,τ)::r=>.cons (.ref k τ []) (xR3 f caps r)
 |none::r=>.cons (.fptr f caps) (xR3 f caps r)
def zS5 (s:Nat):AVal→Option (List (Option (Nat×Ty)))
 |.nl=>some []
 |.cons (.ref k τ []) t=>(match zS5 s t with|some r=>some (some (k,τ)::r)|none=>none)
 |.cons (.rref s') t=>bif Nat.beq s s' then (match zS5 s t with|some r=>some (none::r)|none=>none) else none
 |_=>none
def yI9 (c:Ctx)(T:Nat)(x cont:AVal):Option (List Prop×AVal):=
 match x with
 |.fptr f caps=>bif c.fts.any (Nat.beq T) then some ([],.fn f (xR3 f caps caps)) else none
 |.val (.ptr t) v=>bif c.is T t then some ([],.val t v) else none
 |.ref _ τ p =>
  match cont with
  |.box τ' k=>bif Ty.beq τ' τ&&c.is T (τ.pty p)&&AVal.fits (τ.pty p) (k.at p) then some ([],k.at p) else none
  |_=>none
 |.eref _ U t i p =>
  match cont with
  |.ownh t' l U' j V m=>bif Ty.beq (.sl t') t&&Nat.beq U' U&&c.is T (.sl t')&&p.isEmpty&&!(Nat.beq U' V) then some ([i.toNat=j∧i<(List.length (α:=List t'.den) l:Int)],.own t' (List.getD (α:=List t'.den) l j []) V m) else none
  |.own t' l U' _=>bif Ty.beq t' t&&Nat.beq U' U&&c.is T (t.pty p)&&AVal.fits (t.pty p) ((AVal.val t' (List.getD (α:=t'.den) l i.toNat t'.dflt)).at p) then some ([i<(l.length:Int)],(AVal.val t' (List.getD (α:=t'.den) l i.toNat t'.dflt)).at p) else none
  |_=>none
 |_=>none
def xD6 (c:Ctx)(T:Nat)(x cont v:AVal):Option (Nat×AVal):=
 match x with
 |.ref s τ p =>
  match cont with
  |.box τ' k =>
   bif Ty.beq τ' τ&&c.is T (τ.pty p)&&AVal.fits (τ.pty p) v&&AVal.laxT (k.at p) (τ.pty p)&&AVal.laxT (AVal.put p k v) τ then some (s,.box τ (AVal.put p k v)) else none
  |_=>none
 |_=>none
def xW (parts:List (Nat×AVal))(z:AVal):AVal:=parts.foldl (fun a q=>a.setNth q.1 q.2) z
def xS9 (t:Ty):List (Nat×AVal)→List t.den→Option (List t.den)
 |[],l=>some l
 |(k,A)::r,l=>match AVal.as t A with|some x=>xS9 t r (l.set k x)|none=>none
def zT7 (f:Ty)(parts:List (Nat×AVal)):Bool:=parts.all fun q=>Nat.blt q.1 f.flen&&AVal.fits (f.fty q.1) q.2
def xD7 (c:Ctx)(T:Nat)(parts:List (Nat×AVal)):Option (List Prop×AVal):=
 match c.ty T with
 |.st f =>
  bif zT7 f parts&&f.noPtr then
   (bif f.hasSl then some ([],.agg f (xW parts (zP2 f)))
    else match AVal.as f (xW parts (zP2 f)) with|some x=>some ([],.val (.st f) x)|none=>none)
  else none
 |.arr n t=>bif parts.all (fun q=>Nat.blt q.1 n)&&t.noPtr then (match xS9 t parts (List.replicate n t.dflt) with|some l=>some ([],.val (.arr n t) l)|none=>none) else none
 |_=>none
def yB8 (c:Ctx)(T len dst:Nat)(parts:List (Nat×AVal)):Option (List Prop×AVal):=
 match c.ty T with
 |.sl t=>bif parts.all (fun q=>Nat.blt q.1 len)&&Nat.ble (len*t.size) 16777216&&Nat.blt 0 t.size&&t.noPtr then (match xS9 t parts (List.replicate len t.dflt) with|some l=>some ([],.own t l dst true)|none=>none) else none
 |_=>none
def xW7 (c:Ctx)(Ts:List Nat)(x:AVal):Option (List Prop×AVal):=
 match Ts with
 |T::_ =>
  (match x with
   |.val .str s=>bif c.is T .str then some ([],.val (.int .i64) (List.length (α:=UInt8) s:Int)) else none
   |.val (.sl t) l=>bif c.is T (.sl t) then some ([],.val (.int .i64) (List.length (α:=t.den) l:Int)) else none
   |.own t l _ _=>bif c.is T (.sl t) then some ([],.val (.int .i64) (l.length:Int)) else none
   |.ownh t l U _ V _=>bif c.is T (.sl (.sl t))&&!(Nat.beq U V) then some ([],.val (.int .i64) (List.length (α:=List t.den) l:Int)) else none
   |.nil=>bif c.is T (c.ty T)&&(c.ty T).isSl then some ([],.val (.int .i64) (0:Int)) else none
   |_=>none)
 |[]=>none
def zL7:Option AVal→Option (Option Int)
 |none=>some none
 |some (.val (.int _) n)=>some (some n)
 |some _=>none
def yL8 {α:Type}(l:List α)(lo hi:Option Int):List Prop×List α:=
 match lo,hi with
 |none,none=>([],l)
 |none,some h=>([0≤h∧h≤(l.length:Int)],l.take h.toNat)
 |some a,none=>([0≤a∧a≤(l.length:Int)],l.drop a.toNat)
 |some a,some h=>([0≤a∧a≤h∧h≤(l.length:Int)],(l.take h.toNat).drop a.toNat)
def xD8 (c:Ctx)(T:Nat)(x:AVal)(lo hi:Option AVal):Option (List Prop×AVal):=
 match zL7 lo,zL7 hi with
 |some a,some b =>
  match x with
  |.val .str s=>bif c.is T .str then some ((yL8 (α:=UInt8) s a b).1,.val .str (yL8 (α:=UInt8) s a b).2) else none
  |.val (.sl t) l=>bif c.is T (.sl t) then some ((yL8 (α:=t.den) l a b).1,.val (.sl t) (yL8 (α:=t.den) l a b).2) else none
  |.own t l U m=>bif c.is T (.sl t) then some ((yL8 l a b).1,bif m then .ownh t [(yL8 l a b).2] U 0 U false else .val (.sl t) (yL8 l a b).2) else none
  |_=>none
 |_,_=>none
def xU0 (n m:Int):List Prop:=[0≤n∧n≤m∧m≤4294967296]
def yV3 (c:Ctx)(T dst:Nat)(n m:AVal):Option (List Prop×AVal):=
 match c.ty T,n,m with
 |.sl t,.val (.int _) n,.val (.int _) m=>bif Nat.blt 0 t.size&&t.noPtr then some (xU0 n m,.own t (List.replicate (Int.toNat n) t.dflt) dst true) else none
 |_,_,_=>none
def yQ9 (c:Ctx)(T:Nat)(x y:AVal)(ok:Bool):Option (List Prop×AVal):=
 match c.mapTy T with
 |some (k,v) =>
  match x with
  |.own t l _ _ =>
   match Ty.cast (a:=.sl t) (.sl (xD0 k v)) l,AVal.as k y with
   |some m,some q=>bif ok then some ([],.tup (.cons (.val v ((yI5 k v q m).getD v.dflt)) (.cons (.val .bool (yI5 k v q m).isSome) .nl))) else some ([],.val v ((yI5 k v q m).getD v.dflt))
   |_,_=>none
  |_=>none
 |none=>none
def xQ3 (c:Ctx)(T dst:Nat):Option (List Prop×AVal):=
 match c.mapTy T with
 |some (k,v)=>some ([],.own (xD0 k v) [] dst true)
 |none=>none
def xW8 (x y:Int):Int:=if y>x then y else x
def xW9 (x y:Int):Int:=if y<x then y else x
def yM1 (f:Int→Int→Int):AVal→List AVal→Option AVal
 |A,[]=>some A
 |.val (.int k) x,.val (.int k') y::r=>bif Nat.beq (zI7 k) (zI7 k') then yM1 f (.val (.int k) (f x y)) r else none
 |_,_=>none
def yM2:AVal→Bool
 |.val (.int _) _=>true|_=>false
def xU1 (f:Int→Int→Int):List AVal→Option (List Prop×AVal)
 |A::r=>bif yM2 A then (match yM1 f A r with|some B=>some ([],B)|none=>none) else none
 |[]=>none
def AVal.clen:AVal→Nat
 |.cons _ t=>t.clen+1
 |_=>0
def yJ (x:AVal)(k:Nat):Option (List Prop×AVal):=
 match x with
 |.tup a=>bif Nat.blt k a.clen then some ([],a.nth k) else none
 |_=>none
end Go.Am
namespace Go.Am
open Go
def zC9:Op→List Operand
 |.move x=>[x]|.assign x=>[x]|.box _ x=>[x]|.load _ a=>[a]|.store _ a v=>[a,v]|.nilCheck x=>[x]
 |.pick x a b=>[x,a,b]
 |.binOp _ _ x y _=>[x,y]|.unOp _ _ x=>[x]|.convert _ _ x=>[x]
 |.build _ ps=>ps.toList.map (·.2)|.buildSlice _ _ ps=>ps.toList.map (·.2)
 |.makeSlice _ a b=>[a,b]
 |.slice _ x lo hi mx=>x::(lo.toList++(hi.toList++mx.toList))
 |.fieldAddr _ x _=>[x]|.field _ x _=>[x]|.indexAddr _ x i=>[x,i]|.index _ x i=>[x,i]|.extract t _=>[t]
 |.makeFunc _ _ cs=>cs.toList
 |.lookup _ x i _=>[x,i]
 |.mapUpdate _ m k v=>[m,k,v]
 |.call { callee:=.value f,args,.. }=>f::args.toList
 |.call { callee:=.builtin _,args,.. }=>args.toList
 |_=>[]
def AVal.toL:AVal→List AVal
 |.cons h t=>h::t.toL
 |_=>[]
def AVal.ofL:List AVal→AVal
 |[]=>.nl
 |A::r=>.cons A (AVal.ofL r)
def xU2:Op→List AVal→List AVal
 |.call { callee:=.value _,.. },.fn _ cs::r=>r++cs.toL
 |_,xs=>xs
def zX5:List Operand→List Nat
 |[]=>[]
 |.tmp t::r=>t::zX5 r
 |_::r=>zX5 r
def xU3:Operand→Nat
 |.tmp t=>t|_=>0
def zF (ps:List (Nat×Operand))(xs:List AVal):List (Nat×AVal):=List.zipWith (fun p A=>(p.1,A)) ps xs
def refs:List AVal→List Nat
 |[]=>[]
 |.ref s _ _::r=>s::refs r
 |.eref s _ _ _ _::r=>s::refs r
 |.rref s::r=>s::refs r
 |_::r=>refs r
def zD:AVal→AVal→AVal
 |.ref _ τ [],.box τ' k=>bif Ty.beq τ' τ then (match AVal.as τ k with|some x=>.box τ (.val τ x)|none=>.junk) else .junk
 |.val τ x,_=>.val τ x
 |.nil,_=>.nil
 |.own t l _ m,_=>bif m then .junk else .val (.sl t) l
 |.agg f a,_=>match AVal.as (.st f) (.agg f a) with|some x=>.val (.st f) x|none=>.junk
 |.fn f cs,_=>bif cs.pureL then .fn f cs else .junk
 |_,_=>.junk
def zF7:AVal→Bool
 |.box _ _=>true|_=>false
def zT8 (outs:List (Nat×AVal)):Nat→List AVal→Bool
 |_,[]=>true
 |i,A::r=>(!(zF7 A)||outs.any (fun e=>Nat.beq e.1 i))&&zT8 outs (i+1) r
def zF8:AVal→Bool
 |.junk=>true|.val _ _=>true|.nil=>true|.own _ _ T _=>Nat.blt T 4|.agg _ c=>zF8 c|.nl=>true|.cons a b=>zF8 a&&zF8 b|.tup c=>zF8 c
 |_=>false
def zH:AVal→Bool
 |.nl=>true|.cons _ t=>zH t|_=>false
def zJ2:List AVal→Bool
 |[]=>true
 |.ref s _ _::r=>!((refs r).any (Nat.beq s))&&zJ2 r
 |_::r=>zJ2 r
def zL (fns:List (Nat×Spec))(f:Nat)(args:List AVal):Option CallOut:=
 match fns with
 |[]=>none
 |(g,sp)::r=>bif Nat.beq g f then (match sp args with|some o=>some o|none=>zL r f args) else zL r f args
def AVal.tagTo (d:Nat):AVal→AVal
 |.own t l T m=>.own t l (T*100000+d) m
 |.cons h t=>.cons (h.tagTo d) (t.tagTo d)
 |.agg f c=>.agg f (c.tagTo d)
 |.tup c=>.tup (c.tagTo d)
 |A=>A
def yG1:AVal→Bool
 |.val _ _=>true|_=>false
def yG2 (ys args:List AVal):List (Nat×AVal)→Option St
 |[]=>some []
 |(i,k)::r =>
  match ys[i]?,args[i]?,yG2 ys args r with
  |some (.ref s τ []),some (.box τ' _),some u=>bif Ty.beq τ' τ&&AVal.fits τ k&&yG1 k then some ((s,.box τ k)::u) else none
  |_,_,_=>none
def zF1:List AVal→List AVal→Bool
 |.ref _ _ []::r,A::l=>zF7 A&&zF1 r l
 |_::r,_::l=>zF1 r l
 |_,_=>true
def zJ9:Option Operand→List AVal→Option AVal×List AVal
 |none,xs=>(none,xs)
 |some _,A::r=>(some A,r)
 |some _,[]=>(some .junk,[])
def yF7 (c:Ctx)(d:Nat)(op:Op)(xs ks:List AVal):Option (List Prop×AVal):=
 match op,xs,ks with
 |.move _,[A],_=>some ([],A)
 |.assign _,[A],_=>some ([],A)
 |.box T _,[A],_=>bif c.is T (c.ty T)&&AVal.fits (c.ty T) A then some ([],.box (c.ty T) A) else none
 |.alloc T,[],_=>bif c.fts.any (Nat.beq T) then some ([],.raw) else bif c.is T (c.ty T)&&(c.ty T).noPtr then some ([],.box (c.ty T) (zP2 (c.ty T))) else none
 |.load T _,[A],[k]=>yI9 c T A k
 |.nilCheck _,[A],_=>match A with|.val (.ptr _) _=>some ([],A)|.ref _ _ _=>some ([],A)|.eref _ _ _ _ _=>some ([],A)|.fn _ _=>some ([],A)|_=>none
 |.binOp o T _ y _,[A,B],_=>xW6 c o T A B y
 |.unOp o _ _,[A],_=>unA c o A
 |.convert s t _,[A],_=>xR2 c s t A
 |.build T ps,xs,_=>xD7 c T (zF ps.toList xs)
 |.buildSlice T n ps,xs,_=>yB8 c T n d (zF ps.toList xs)
 |.makeSlice T _ _,[A,B],_=>yV3 c T d A B
 |.slice T _ lo hi none,A::r,_=>xD8 c T A (zJ9 lo r).1 (zJ9 hi (zJ9 lo r).2).1
 |.fieldAddr T _ k,[A],_=>zG4 c T A k
 |.field T _ k,[A],_=>xD5 c T A k
 |.indexAddr T x i,[A,B],_=>zV8 c T A (xU3 x) B i
 |.index T _ i,[A,B],_=>xD4 c T A B i
 |.extract _ k,[A],_=>yJ A k
 |.lookup T _ _ ok,[A,B],_=>yQ9 c T A B ok
 |.makeMap T none,[],_=>xQ3 c T d
 |.makeFunc (.func f) fs _,cs,_=>match fs.toList with | []=>some ([],.fn f (AVal.ofL cs))|_=>none
 |.call { callee:=.builtin .len,argTypes,.. },[A],_=>xW7 c argTypes.toList A
 |.call { callee:=.builtin .max,.. },xs,_=>xU1 xW8 xs
 |.call { callee:=.builtin .min,.. },xs,_=>xU1 xW9 xs
 |_,_,_=>none
def xX:AVal→Bool
 |.box _ _=>true
 |.own _ _ _ _=>true
 |.raw=>true
 |_=>false
def zB5 (T:Nat)(h:AVal→AVal)(S:St):St→St
 |[]=>[]
 |(s,_)::r=>bif (S.get s).hasTag T then (s,h (S.get s))::zB5 T h S r else zB5 T h S r
def zB6 (T:Nat)(S:St):Bool:=S.all fun e=>!(e.2.hasTag T)
def zP4 (s:Nat)(S:St):Bool:=S.all fun e=>!(e.2.hasRef s)
def yG3 (T:Nat)(S:St):Bool:=S.all fun e=>!((S.get e.1).hasTag T)
def AVal.setEl0 (T:Nat)(t:Ty)(i:Nat)(y:t.den):AVal→AVal:=
 AVal.mapOwn (fun t' l T' m=>bif Nat.beq T T' then (match Ty.cast t' y with|some y'=>bif m then .own t' (l.set i y') T' m else .junk|none=>.junk) else .own t' l T' m) (fun s T' t i p=>.eref s T' t i p)
def AVal.setEl (T:Nat)(t:Ty)(i:Nat)(y:t.den):AVal→AVal
 |.ownh t' l T' j U m=>bif Nat.beq T U&&m then (match Ty.cast t' y with|some y'=>.ownh t' (List.set (α:=List t'.den) l j ((List.getD (α:=List t'.den) l j []).set i y')) T' j U m|none=>.junk) else .junk
 |A=>A.setEl0 T t i y
def AVal.setHole (T:Nat)(s:Ty)(i:Nat)(x:List s.den)(V:Nat)(m:Bool):AVal→AVal:=
 AVal.mapOwn (fun t0 l0 T0 m0=>bif Nat.beq T T0 then (match Ty.cast (a:=.sl t0) (.sl (.sl s)) l0 with|some l1=>bif m0 then .ownh s (List.set (α:=List s.den) l1 i x) T i V m else .junk|none=>.junk) else .own t0 l0 T0 m0) (fun s T' t i p=>.eref s T' t i p)
def xT (t:Ty):AVal→Option (List t.den)
 |.own t' l _ _=>Ty.cast (a:=.sl t') (.sl t) l
 |.nn _=>some []
 |B=>AVal.as (.sl t) B
def xD9 (c:Ctx)(T d:Nat)(A B:AVal):Option (List Prop×AVal×Option Nat):=
 match c.ty T with
 |.sl t =>
  bif !(Nat.blt 0 t.size) then none else
  match xT t B with
  |some l2 =>
   match A with
   |.nil=>some ([(l2.length:Int)≤4294967296],.own t l2 d true,none)
   |.own t' l U m=>match Ty.cast (a:=.sl t') (.sl t) l with
    |some l1=>some ([((List.length (α:=t.den) l1+l2.length:Nat):Int)≤4294967296],.own t (List.append (α:=t.den) l1 l2) d m,some U)
    |none=>none
   |_=>none
  |none=>none
 |_=>none
def zV9 (gd:Gd)(sc:Operand)(want:Bool):AVal→AVal
 |.opt s w g A=>match sc with
  |.tmp c=>bif Nat.beq s c&&(w==want) then A else zE9 gd (.opt s w g A)
  |_=>zE9 gd (.opt s w g A)
 |A=>A
def zG7 (gd:Gd)(A:AVal):AVal:=
 match gd with
 |none=>A
 |some (s,w,g)=>.opt s w g A
def yB9 (gd:Gd)(l:List Prop):List Prop:=
 match gd with
 |none=>l
 |some (_,_,g)=>l.map fun p=>g=true→p
def xR4:AVal→Bool
 |.own _ _ _ m=>m|_=>false
def yC (c:Ctx)(T U:Nat)(t:Ty)(i:Int)(p:yI4)(t':Ty)(n:Nat)(U':Nat)(v:AVal)(S:St):Option (List Prop×St×Bool):=
 match v with
 |.own s x V m=>bif Ty.beq t' t&&Ty.beq (.sl s) t'&&Nat.beq U' U&&c.is T (.sl s)&&p.isEmpty&&!(Nat.beq V U)&&!s.isL then
   some ([i<(n:Int)],zB5 U (AVal.setHole U s i.toNat x V m) S S,true) else none
 |_=>none
def zT9 (c:Ctx)(T:Nat)(A k v:AVal)(S:St):Option (List Prop×St×Bool):=
 match A with
 |.eref _ U t i p=>match k with
  |.own t' l U' true=>bif xR4 v then yC c T U t i p t' l.length U' v S else bif Ty.beq t' t&&Nat.beq U' U&&c.is T (t'.pty p)&&AVal.fits (t'.pty p) v then
    (match AVal.as t' (AVal.put p (.val t' (List.getD (α:=t'.den) l i.toNat t'.dflt)) v) with
     |some y=>some ([i<(l.length:Int)],zB5 U (AVal.setEl U t' i.toNat y) S S,true)
     |none=>none) else none
  |_=>none
 |.rref s=>(match k,v with
  |.raw,.fn f cs=>bif c.fts.any (Nat.beq T) then (match zS5 s cs with|some caps=>some ([],[(s,.fptr f caps)],false)|none=>none) else none
  |_,_=>none)
 |A=>match xD6 c T A k v with|some u=>some ([],[u],false)|none=>none
def AVal.setMap (T:Nat)(k v:Ty)(x:k.den)(y:v.den):AVal→AVal:=
 AVal.mapOwn (fun t' l T' m=>bif Nat.beq T T' then (match Ty.cast (a:=.sl t') (.sl (xD0 k v)) l with|some l'=>.own (xD0 k v) (xL8 k v x y l') T' m|none=>.junk) else .own t' l T' m) (fun s T' t i p=>.eref s T' t i p)
def yJ0 (c:Ctx)(T:Nat)(A B C:AVal)(S:St):Option (List Prop×St×Bool):=
 match c.mapTy T with
 |some (k,v) =>
  match A with
  |.own t l U _ =>
   match Ty.cast (a:=.sl t) (.sl (xD0 k v)) l,AVal.as k B,AVal.as v C with
   |some _,some x,some y=>some ([],zB5 U (AVal.setMap U k v x y) S S,true)
   |_,_,_=>none
  |_=>none
 |none=>none
def zL8 (c:Ctx)(d T:Nat)(A B:AVal)(S:St):Option (List Prop×St×Bool):=
 bif zB6 d S then
  (match xD9 c T d A B with
   |some (p,R,some U)=>some (p,(d,R)::zB5 U (AVal.lose U) S S,true)
   |some (p,R,none)=>some (p,[(d,R)],true)
   |none=>none) else none
def zH0 (c:Ctx)(gd:Gd)(dst:Option Nat)(f:Nat)(ys ks:List AVal)(S:St):Option (List Prop×St×Bool):=
 match zL c.fns f (List.zipWith zD ys ks) with
 |none=>none
 |some co=>bif !(zT8 co.outs 0 (List.zipWith zD ys ks)&&zF8 co.res&&zJ2 ys&&zF1 ys (List.zipWith zD ys ks)) then none else match yG2 ys (List.zipWith zD ys ks) co.outs,co.eats with
  |some u,[] =>
   (match gd with
    |none=>(match dst with
     |none=>some (co.ok,u,false)
     |some d=>bif zB6 d S&&zB6 (100000+d) S&&zB6 (200000+d) S&&zB6 (300000+d) S then some (co.ok,(d,co.res.tagTo d)::u,false) else none)
    |some _=>(match dst,u,co.res with
     |some d,[],.val τ x=>some (yB9 gd co.ok,[(d,zG7 gd (.val τ x))],false)
     |_,_,_=>none))
  |_,_=>none
def zO8:List Nat→Bool
 |[]=>true
 |a::r=>!(r.any (Nat.beq a))&&zO8 r
def zS4 (i:Nat):Nat:=400000+100*i
def yL9 (i:Nat):AVal→List (Nat×Nat)
 |.ref s _ []=>[(s,i)]
 |_=>[]
def zO9:Nat→List AVal→List (Nat×Nat)
 |i,Y::r=>yL9 i Y++zO9 (i+1) r
 |_,[]=>[]
def lkB:List (Nat×Nat)→Nat→Option Nat
 |[],_=>none
 |(s,i)::r,k=>bif Nat.beq s k then some i else lkB r k
def zX6 (HB:List (Nat×Nat)):List (Option (Nat×Ty))→Option (List (Option (Nat×Ty)))
 |[]=>some []
 |none::r=>(match zX6 HB r with|some l=>some (none::l)|none=>none)
 |some (k,τ)::r=>(match lkB HB k,zX6 HB r with|some i,some l=>some (some (i,τ)::l)|_,_=>none)
def zI9 (HB:List (Nat×Nat))(wants:List Nat)(i:Nat):AVal→AVal→AVal
 |.ref _ τ [],.box τ' k=>bif Ty.beq τ' τ then .box τ (k.pos τ (zS4 i)) else .junk
 |.own t l _ m,_=>bif wants.any (Nat.beq i) then .own t l (zS4 i) m else bif m then .junk else .val (.sl t) l
 |.agg f a,_=>bif wants.any (Nat.beq i) then .agg f (a.pos f (zS4 i)) else match AVal.as (.st f) (.agg f a) with|some x=>.val (.st f) x|none=>.junk
 |.val τ x,_=>.val τ x
 |.nil,_=>.nil
 |.fn f cs,_=>bif cs.pureL then .fn f cs else .junk
 |.fptr f caps,_=>(match zX6 HB caps with|some l=>.fptr f l|none=>.junk)
 |_,_=>.junk
def yF8 (HB:List (Nat×Nat))(wants:List Nat):Nat→List AVal→List AVal→List AVal
 |i,Y::r,k::s=>zI9 HB wants i Y k::yF8 HB wants (i+1) r s
 |_,_,_=>[]
def yM3 (wants:List Nat)(i:Nat):AVal→AVal→List (Nat×Nat)
 |.ref _ τ [],.box _ c=>c.tags τ (zS4 i)
 |.own _ _ T _,_=>bif wants.any (Nat.beq i) then [(T,zS4 i)] else []
 |.agg f c,_=>bif wants.any (Nat.beq i) then c.tags f (zS4 i) else []
 |_,_=>[]
def zX7 (wants:List Nat):Nat→List AVal→List AVal→List (Nat×Nat)
 |i,Y::r,k::s=>yM3 wants i Y k++zX7 wants (i+1) r s
 |_,_,_=>[]
def xM (l:List (Nat×Nat)):Bool:=l.all fun p=>Nat.beq p.1 p.2
structure Bor where
 U:Nat
 T:Nat
 t:Ty
 l:List t.den
 l':List t.den
 m:Bool
def zG5:AVal→AVal→Option (List Bor)
 |.own t l U _,k=>(match k with
  |.own t' l' T m'=>(match Ty.cast (a:=.sl t') (.sl t) l' with|some l2=>bif Nat.blt 0 t.size then some [⟨U,T,t,l,l2,m'⟩] else none|none=>none)
  |_=>none)
 |.agg f c,k=>(match k with|.agg f' c'=>bif Ty.beq f f' then zG5 c c' else none|_=>none)
 |.cons a b,k=>(match k with|.cons a' b'=>(match zG5 a a',zG5 b b' with|some x,some y=>some (x++y)|_,_=>none)|_=>none)
 |.val _ _,_=>some []
 |.nil,_=>some []
 |.nl,_=>some []
 |_,_=>none
def zW:List Bor→Nat→Option Bor
 |[],_=>none
 |b::r,T=>bif Nat.beq b.U T then some b else zW r T
def AVal.turn (bs:List Bor)(L:List Nat):AVal→AVal:=
 AVal.mapOwn (fun t l T m=>match zW bs T with
  |some b=>(match Ty.cast (a:=.sl b.t) (.sl t) b.l' with|some l2=>.own t l2 T b.m|none=>.junk)
  |none=>bif L.any (Nat.beq T) then (bif m then .junk else .val (.sl t) l) else .own t l T m)
  (fun s T t i p=>bif L.any (Nat.beq T) then .junk else .eref s T t i p)
def AVal.borAsks (bs:List Bor):AVal→List Prop
 |.own _ l T _=>match zW bs T with|some b=>[l.length=b.l.length]|none=>[]
 |.opt _ _ _ A=>A.borAsks bs
 |.box _ c=>c.borAsks bs
 |.cons a b=>a.borAsks bs++b.borAsks bs
 |.agg _ c=>c.borAsks bs
 |.tup c=>c.borAsks bs
 |.fn _ c=>c.borAsks bs
 |_=>[]
def zP5 (L:List Nat)(A:AVal):Bool:=L.any fun T=>A.hasTag T
def zI8 (bs:List Bor)(L:List Nat)(S:St):St→St
 |[]=>[]
 |(s,_)::r=>bif zP5 L (S.get s) then (s,(S.get s).turn bs L)::zI8 bs L S r else zI8 bs L S r
def zU (bs:List Bor)(L:List Nat)(S:St):Nat→List Prop
 |0=>[]
 |s+1=>zU bs L S s++(bif zP5 L (S.get s) then (S.get s).borAsks bs else [])
def xQ4 (Y:AVal)(i:Nat)(k:AVal):Option (St×List Bor×List (Nat×Nat)):=
 match Y with
 |.ref s τ []=>bif AVal.fits τ k&&xM (k.tags τ (zS4 i)) then some ([(s,.box τ (k.pos τ (zS4 s)))],[],k.tags τ (zS4 s)) else none
 |Y=>match zG5 Y k with|some bs=>some ([],bs,bs.map fun b=>(b.T,b.U))|none=>none
def xE (ys:List AVal):List (Nat×AVal)→Option (St×List Bor×List (Nat×Nat))
 |[]=>some ([],[],[])
 |(i,k)::r =>
  match ys[i]?,xE ys r with
  |some Y,some (u,bs,K)=>(match xQ4 Y i k with|some (u',bs',K')=>some (u'++u,bs'++bs,K'++K)|none=>none)
  |_,_=>none
def xT0 (dst:Option Nat):List (Nat×Nat):=
 match dst with
 |some d=>[(0,d),(1,100000+d),(2,200000+d),(3,300000+d)]
 |none=>[]
def xE0 (c:Ctx)(dst:Option Nat)(f:Nat)(ys:List AVal)(S:St):Option (List Prop×St×Bool):=
 match zL c.fns f (yF8 (zO9 0 ys) (look [] c.wants f) 0 ys (ys.map (zA4 S))) with
 |none=>none
 |some co=>match xE ys co.outs with
  |none=>none
  |some (u,bs,K) =>
   bif zT8 co.outs 0 (yF8 (zO9 0 ys) (look [] c.wants f) 0 ys (ys.map (zA4 S)))&&zF8 co.res&&zF1 ys (yF8 (zO9 0 ys) (look [] c.wants f) 0 ys (ys.map (zA4 S))) &&
    zO8 ((zO9 0 ys).map (·.1))&&zO8 ((zX7 (look [] c.wants f) 0 ys (ys.map (zA4 S))).map (·.1))&&zO8 ((zX7 (look [] c.wants f) 0 ys (ys.map (zA4 S))).map (·.2)) &&
    zO8 ((xT0 dst++K).map (·.1))&&zO8 ((xT0 dst++K).map (·.2))&&zO8 ((match dst with|some d=>[d]|none=>[])++u.map (·.1)) then
    some (co.ok++(bs.map (fun b=>0<b.l.length)++zU bs ((zX7 (look [] c.wants f) 0 ys (ys.map (zA4 S))).map (·.1)++(xT0 dst++K).map (·.2)) S c.n),
     (match dst with|some d=>(d,co.res.tagTo d)::u|none=>u)++zI8 bs ((zX7 (look [] c.wants f) 0 ys (ys.map (zA4 S))).map (·.1)++(xT0 dst++K).map (·.2)) S S,true)
   else none
def AVal.lent:AVal→AVal:=AVal.mapOwn (fun t l _ _=>bif t.isL then .junk else .val (.sl t) l) (fun _ _ _ _ _=>.junk)
def zZ1:AVal→AVal→AVal
 |.ref _ τ [],.box τ' k=>bif Ty.beq τ' τ then (match AVal.as τ k.lent with|some x=>.val (.ptr τ) x|none=>.junk) else .junk
 |.own t l _ _,_=>bif t.isL then .junk else .val (.sl t) l
 |.ownh t l T _ U _,_=>bif Nat.beq T U then (match l with | [x]=>.val (.sl t) x|_=>.junk) else .junk
 |.agg f a,_=>(match AVal.as (.st f) (.agg f a.lent) with|some x=>.val (.st f) x|none=>.junk)
 |.val τ x,_=>.val τ x
 |.nil,_=>.nil
 |.fn f cs,_=>bif cs.pureL then .fn f cs else .junk
 |_,_=>.junk
def zZ2 (c:Ctx)(dst:Option Nat)(f:Nat)(ys ks:List AVal)(S:St):Option (List Prop×St×Bool):=
 match zL c.fns f (List.zipWith zZ1 ys ks) with
 |none=>none
 |some co=>match co.outs,dst with
  |[],some d=>bif zF8 co.res&&co.res.scal&&zB6 d S&&zB6 (100000+d) S&&zB6 (200000+d) S&&zB6 (300000+d) S then some (co.ok,[(d,co.res.tagTo d)],false) else none
  |_,_=>none
def yC0 (exts:List (Nat×(List AVal→Option (List Prop×AVal))))(f:Nat)(ys:List AVal):Option (List Prop×AVal):=
 match exts with
 |[]=>none
 |(g,e)::r=>bif Nat.beq g f then e ys else yC0 r f ys
def zS9 (c:Ctx)(gd:Gd)(dst:Option Nat)(f:Nat)(ys:List AVal):Option (List Prop×St×Bool):=
 match yC0 c.exts f ys,dst with
 |some (p,.val τ x),some d=>some (yB9 gd p,[(d,zG7 gd (.val τ x))],false)
 |some (p,.tup a),some d=>match gd with|none=>bif zF8 (.tup a)&&AVal.scal (.tup a)&&!(a.hung d) then some (p,[(d,.tup a)],false) else none|some _=>none
 |_,_=>none
def zJ {α:Type}(x y:Option α):Option α:=match x with|some a=>some a|none=>y
def yX6 (c:Ctx)(dst:Option Nat)(f:Nat)(ys:List AVal)(S:St):Option (List Prop×St×Bool):=
 match ys,dst with
 |[.ownh t [x] T _ U _],some d=>bif Nat.beq T U&&c.clones.any (fun p=>Nat.beq p.1 f&&Nat.beq p.2 t.size)&&zB6 d S then
   some ([0<List.length (α:=t.den) x∧(List.length (α:=t.den) x:Int)≤4294967296],[(d,.own t x d true)],true) else none
 |_,_=>none
def xE1 (c:Ctx)(gd:Gd)(dst:Option Nat)(f:Nat)(ys:List AVal)(S:St):Option (List Prop×St×Bool):=
 match zZ2 c dst f ys (ys.map (zA4 S)) S with
 |some (p,[(d,.own t l T m)],_)=>some (yB9 gd p,[(d,zG7 gd (.own t l T m))],true)
 |_=>none
def yG4 (c:Ctx)(gd:Gd)(dst:Option Nat)(f:Nat)(ys:List AVal)(S:St):Option (List Prop×St×Bool):=
 match gd with
 |none=>zJ (zZ2 c dst f ys (ys.map (zA4 S)) S) (zJ (yX6 c dst f ys S) (xE0 c dst f ys S))
 |some q=>xE1 c (some q) dst f ys S
def yJ1 (c:Ctx)(gd:Gd)(dst:Option Nat)(f:Nat)(ys:List AVal)(S:St):Option (List Prop×St×Bool):=
 zJ (zS9 c gd dst f ys) (zJ (zH0 c gd dst f ys (ys.map (zA4 S)) S) (yG4 c gd dst f ys S))
def yA0 (gd:Gd)(dst:Option Nat)(x:Operand)(xs0:List AVal):Option (List Prop×St×Bool):=
 match dst,xs0 with
 |some d,[C,A,B] =>
  match zE9 gd C,zV9 gd x true A,zV9 gd x false B with
  |.val .bool b,.val τ a,.val _ y=>match Ty.cast τ y with
   |some z=>some ([],[(d,zG7 gd (.val τ (cond b a z)))],false)
   |none=>none
  |_,_,_=>none
 |_,_=>none
def zU0:Op→Bool
 |.box _ _=>true|.alloc _=>true|.buildSlice _ _ _=>true|.makeSlice _ _ _=>true|.makeMap _ _=>true|_=>false
def gMk (gd:Gd)(d:Nat)(p:List Prop)(A:AVal)(S:St):Option (List Prop×St×Bool):=
 match gd,A with
 |some q,.own t l T _=>bif zP4 d S&&zB6 d S&&Nat.beq T d&&!t.isL then some (yB9 (some q) p,[(d,zG7 (some q) (.val (.sl t) l))],false) else none
 |_,_=>none
def zM8 (c:Ctx)(gd:Gd)(dst:Option Nat)(op:Op)(xs ks:List AVal)(S:St):Option (List Prop×St×Bool):=
 match dst with
 |none=>none
 |some d=>match yF7 c d op xs ks with
  |none=>none
  |some (p,A) =>
   bif zU0 op then (bif gd.isNone&&zP4 d S&&zB6 d S then some (p,[(d,A)],false) else gMk gd d p A S)
   else some (yB9 gd p,[(d,zG7 gd A)],false)
def zS6:Op→Nat
 |.pick _ _ _=>0
 |.store _ _ _=>1
 |.mapUpdate _ _ _ _=>1
 |.call { callee:=.builtin .append,.. }=>2
 |.call { callee:=.value _,.. }=>3
 |.makeInterface _ _=>4
 |.panic _=>4
 |_=>5
def yR (c:Ctx)(gd:Gd)(o:Oper)(S:St)(xs0 xs:List AVal):Option (List Prop×St×Bool):=
 match zS6 o.op with
 |0=>(match o.op with|.pick x _ _=>yA0 gd o.dst x xs0|_=>none)
 |1=>(match gd,o.dst,o.op,xs with
  |none,none,.store T _ _,[A,v]=>zT9 c T A (zA4 S A) v S
  |none,none,.mapUpdate T _ _ _,[A,k,v]=>yJ0 c T A k v S
  |_,_,_,_=>none)
 |2=>(match gd,o.dst,o.op,xs with
  |none,some d,.call { argTypes,.. },[A,B]=>(match argTypes.toList with
   |[T,T']=>bif Nat.beq T T' then zL8 c d T A B S else none
   |_=>none)
  |_,_,_,_=>none)
 |3=>(match xs with
  |.fn f cs::r=>bif zH cs then yJ1 c gd o.dst f (r++cs.toL) S else none
  |_=>none)
 |4=>(match gd with|none=>some ([False],[],false)|some _=>none)
 |_=>zM8 c gd o.dst o.op xs ((xs.map (zA4 S)).map (zE9 gd)) S
def zX8 [GlobTab] (c:Ctx)(dsts:List (Option Nat))(o:Oper)(S:St):Option (List Prop×St×Bool):=
 match zL3 dsts S o.guard with
 |none=>none
 |some gd=>yR c gd o S ((zC9 o.op).map (arg S)) (((zC9 o.op).map (arg S)).map (zE9 gd))
def xQ5 (c:Ctx)(S:St):St→Option St
 |(d,.own t l T true)::u=>bif Nat.beq T d&&!(c.wr.any (Nat.beq d)) then (bif zB6 T (u++S)&&!t.isL then some ((d,.own t l T false)::u) else none) else some ((d,.own t l T true)::u)
 |u=>some u
def xU4:Op→Bool
 |.buildSlice _ _ _=>true
 |.makeSlice _ _ _=>true
 |.call { callee:=.builtin .append,.. }=>true
 |_=>false
def yR0 [GlobTab] (c:Ctx)(dsts:List (Option Nat))(o:Oper)(S:St):Option (List Prop×St×Bool):=
 match zX8 c dsts o S with
 |none=>none
 |some (p,u,h)=>bif xU4 o.op then (match xQ5 c S u with|some u'=>some (p,u',h)|none=>none) else some (p,u,h)
def bare:AVal→AVal
 |.opt _ _ _ A=>A
 |A=>A
structure Tr where
 heavy:Bool
 rd:List Nat
 dst:Option Nat
 u:St
def yC1 (dsts:List (Option Nat)):Option (Nat×Bool)→List Nat
 |some (j,_)=>(match dsts[j]? with|some (some s)=>[s]|_=>[])
 |none=>[]
def yG5 [GlobTab] (dsts:List (Option Nat))(o:Oper)(S:St)(u:St)(heavy:Bool):Tr:=
 ⟨heavy,zX5 (zC9 o.op)++(yC1 dsts o.guard++refs (xU2 o.op ((zC9 o.op).map (fun x=>bare (arg S x))))),o.dst,u⟩
def yX7 (u:St)(A:AVal):Bool:=u.any fun e=>A.hung e.1
def yM4 [GlobTab] (c:Ctx)(dsts:List (Option Nat)):List Oper→St→St→Option (List Prop×St×List Tr)
 |[],_,U=>some ([],U,[])
 |o::r,S,U =>
  match yR0 c dsts o (U++S) with
  |none=>none
  |some (p,u,h)=>bif (u++U).any (fun e=>yX7 u e.2)||!(u.all fun e=>Nat.blt e.1 c.n) then none else
   match yM4 c dsts r S (u++U) with
   |none=>none
   |some (p',u',t')=>some (p++p',u',yG5 dsts o (U++S) u h::t')
def yX8:List Nat→List Nat→Bool
 |[],_=>true
 |a::r,l=>!(l.any (Nat.beq a))&&yX8 r l
def yG6 (d:Nat)(A:AVal):Bool:=!(A.hasRef d)&&(!(A.hasTag d)&&(!(A.hasTag (100000+d))&&(!(A.hasTag (200000+d))&&!(A.hasTag (300000+d)))))
def xM0 (d:Option Nat)(u u':St):Bool:=u'.all fun e=>!(yX7 u e.2)&&(match d with|some d=>yG6 d e.2|none=>true)
def yC2 (t t':Tr):Bool:=
 t.heavy||(t'.heavy||!(yX8 (t.u.map (·.1)) t'.rd&&(yX8 (t.u.map (·.1)) (t'.u.map (·.1))&&(yX8 t.rd (t'.u.map (·.1))&&xM0 t.dst t.u t'.u))))
def zE1 (acc:List Nat):List Edge→Nat
 |[]=>0
 |e::r=>bif Region.binds .any e then Nat.lor (Nat.lor (Nat.pow 2 e.on) (acc.getD e.on 0)) (zE1 acc r) else zE1 acc r
def ahead:List Oper→List Nat→List Nat
 |[],acc=>acc
 |o::r,acc=>ahead r (acc++[zE1 acc o.after.toList])
def zK:Nat→List Oper→Bool
 |_,[]=>true
 |i,o::r=>o.after.toList.all (fun e=>!(Region.binds .any e)||Nat.blt e.on i)&&zK (i+1) r
def yA1 (bits:Nat)(t:Tr):Nat→List Tr→Bool
 |_,[]=>true
 |i,t'::r=>(!(yC2 t' t)||Nat.testBit bits i)&&yA1 bits t (i+1) r
def zP6 (trs:List Tr):List Nat→List Tr→Bool
 |b::bs,t::r=>yA1 b t 0 trs&&zP6 (trs++[t]) bs r
 |[],[]=>true
 |_,_=>false
def yX9 (k:Nat):AVal→Option Nat
 |.own _ _ T _=>some T
 |.box _ a=>match a.fld k with|.own _ _ T _=>some T | _=>none
 |.ownh _ _ T _ U _=>bif Nat.beq T U then none else some U
 |_=>none
def zF2 (k:Nat):AVal→AVal
 |.ownh t l T _ _ _=>.own (.sl t) l T true
 |.own t l T _=>bif t.isL then .junk else .own t l T false
 |.box τ (.agg f a)=>match a.nth k with
  |.own t l T _=>bif t.isL then .junk else bif ((a.gone T).setNth k (.own t l T false)).fitsT f then .box τ (.agg f ((a.gone T).setNth k (.own t l T false))) else .junk
  |_=>.junk
 |_=>.junk
def yY (s:Nat)(h:AVal→AVal)(S:St):St→St
 |[]=>[]
 |(k,_)::r=>bif (S.get k).hasRef s then (k,h (S.get k))::yY s h S r else yY s h S r
def yJ2 (s:Nat)(τ:Ty)(x:τ.den):AVal→AVal
 |.ref s' τ' []=>bif Nat.beq s s'&&Ty.beq τ' τ then .val (.ptr τ) x else .junk
 |_=>.junk
def yR1 (S:St)(s:Nat):Option St:=
 match S.get s with
 |.box τ c=>(match AVal.as τ c with|some x=>some ((s,.val (.ptr τ) x)::yY s (yJ2 s τ x) S S)|none=>none)
 |_=>none
def xE2 (S:St):Nat×Nat×Nat×Nat→Option St
 |(kind,s,k,U) =>
  bif Nat.beq kind 3 then yR1 S s else
  bif Nat.beq kind 4 then (bif Nat.beq k U then some [] else bif yG3 U S then some (zB5 k (AVal.retag k U) S S) else none) else
  bif Nat.beq kind 5 then some (zB5 k (AVal.lose k) S S) else
  match yX9 k (S.get s) with
  |none=>none
  |some T =>
   match kind with
   |0=>bif Nat.beq T U then some [] else bif yG3 U S then some (zB5 T (AVal.retag T U) S S) else none
   |1=>some ((s,zF2 k (S.get s))::zB5 T (AVal.gone T) S S)
   |_=>some (zB5 T (AVal.lose T) S S)
def yG7:List (Nat×Nat×Nat×Nat)→St→Option St
 |[],_=>some []
 |g::r,S=>match xE2 S g with
  |none=>none
  |some u=>match yG7 r (u++S) with
   |none=>none
   |some u'=>some (u'++u)
def yR2 [GlobTab] (c:Ctx)(gh:List (Nat×Nat×Nat×Nat))(ops:List Oper)(draw:Bool)(S:St):Option (List Prop×St):=
 bif S.any (fun e=>e.2.hasOpt) then none else
 match yM4 c (ops.map (·.dst)) ops S [] with
 |none=>none
 |some (p,u0,t) =>
  let u:=u0.map fun e=>(e.1,bif e.2.hasOpt then .junk else e.2)
  bif !draw||(zK 0 ops&&zP6 [] (ahead ops []) t) then
   (match yG7 gh (u++S) with
    |some u'=>bif u'.all (fun e=>Nat.blt e.1 c.n) then some (p,u'++u) else none
    |none=>none)
  else none
def ovA (g:Bool)(t:Ty)(l:List t.den)(m:Bool)(τ':Ty)(y:τ'.den):AVal:=
 bif m then .junk else match Ty.cast (.sl t) y with|some z=>.val (.sl t) (cond g l z)|none=>.junk
def voA (g:Bool)(τ:Ty)(x:τ.den)(t:Ty)(l:List t.den)(m:Bool):AVal:=
 bif m then .junk else match Ty.cast (a:=.sl t) τ l with|some z=>.val τ (cond g x z)|none=>.junk
def zA0 (g:Bool):AVal→AVal→AVal
 |.val τ x,.val _ y=>match Ty.cast τ y with|some z=>.val τ (cond g x z)|none=>.junk
 |.nil,.nil=>.nil
 |.nil,.val (.sl t) y=>.val (.sl t) (cond g [] y)
 |.val (.sl t) x,.nil=>.val (.sl t) (cond g x [])
 |.nil,.own t l T m=>bif t.plain&&!t.isL then .own t (cond g [] l) T m else .junk
 |.own t l T m,.nil=>bif t.plain&&!t.isL then .own t (cond g l []) T m else .junk
 |.own t l _ m,.val τ' y=>ovA g t l m τ' y
 |.val τ x,.own t l _ m=>voA g τ x t l m
 |.own t l T m,.own t' l' T' m'=>bif Nat.beq T T'&&(m==m') then (match Ty.cast (a:=.sl t') (.sl t) l' with|some l2=>.own t (cond g l l2) T m|none=>.junk) else .junk
 |.box τ a,.box τ' b=>bif Ty.beq τ τ'&&AVal.fits τ (zA0 g a b) then .box τ (zA0 g a b) else .junk
 |.ref s τ [],.ref s' τ' []=>bif Nat.beq s s'&&Ty.beq τ τ' then .ref s τ [] else .junk
 |.nl,.nl=>.nl
 |.cons a b,.cons a' b'=>.cons (zA0 g a a') (zA0 g b b')
 |.agg f a,.agg f' b=>bif Ty.beq f f'&&AVal.fits f (zA0 g a b) then .agg f (zA0 g a b) else .junk
 |.agg f a,.val (.st f') y=>match AVal.as (.st f') (.agg f a) with|some x=>.val (.st f') (cond g x y)|none=>.junk
 |.val (.st f) x,.agg f' b=>match AVal.as (.st f) (.agg f' b) with|some y=>.val (.st f) (cond g x y)|none=>.junk
 |.tup a,.tup b=>.tup (zA0 g a b)
 |_,_=>.junk
def St.has (s:Nat)(S:St):Bool:=S.any fun e=>Nat.beq e.1 s
def yG8 (g:Bool)(d1 d2 S:St):St→St
 |[]=>[]
 |(s,_)::r=>(s,bif Nat.beq s zA9 then .junk else zA0 g (St.get (d1++S) s) (St.get (d2++S) s))::yG8 g d1 d2 S r
def yC3 (d:St):St:=d.filter fun e=>!(Nat.beq e.1 zA9)
def zK0 (d:St):St:=d.filter fun e=>Nat.beq e.1 zA9
def zL0 (g:Bool)(d1 d2 S:St):St:=yG8 g d1 d2 S (yC3 d1++(yC3 d2++(zK0 d1++zK0 d2)))
def zA3 (k:Nat):List Comp→Option Comp
 |[]=>none
 |x::r=>bif Nat.beq x.kind k then some x else zA3 k r
def zH6 (k:Nat)(l:List Comp):List Comp:=l.filter fun x=>!(Nat.beq x.kind k)
def gor (a b:Option Bool):Option Bool:=
 match a,b with
 |some x,some y=>some (x||y)
 |_,_=>none
def zT (t:Bool)(x y:Option Comp):Option Bool:=
 match x,y with
 |some a,some b=>(match a.g,b.g with|none,none=>none|ga,gb=>some (cond t (ga.getD true) (gb.getD true)))
 |some a,none=>yI6 a.g (some t)
 |none,some b=>yI6 b.g (some (!t))
 |none,none=>none
def xE3 (t:Bool)(S:St)(la lb:List Comp):List Comp→List Comp
 |[]=>[]
 |x::r =>
  {kind:=x.kind,g:=zT t (zA3 x.kind la) (zA3 x.kind lb),
   d:=match zA3 x.kind la,zA3 x.kind lb with
    |some a,some b=>zL0 t a.d b.d S
    |some a,none=>a.d
    |none,some b=>b.d
    |none,none=>[] }::xE3 t S la lb r
def xE4:List Prop→Prop
 |[]=>True
 |[p]=>p
 |p::r=>p∧xE4 r
def xU5 (b:Prop):List Prop→List Prop
 |[]=>[]
 |p::r=>[b→xE4 (p::r)]
def imp (g:Option Bool)(l:List Prop):List Prop:=
 match g with
 |none=>l
 |some b=>xU5 (b=true) l
def zW0 (t:Bool)(S:St)(a b:Out):Out:=
 {ok:=xU5 (t=true) a.ok++xU5 (t=false) b.ok,
  comps:=xE3 t S a.comps b.comps (a.comps++b.comps.filter fun x=>(zA3 x.kind a.comps).isNone) }
def xT1 (n:Comp)(S:St)(la:List Comp):List Comp→List Comp
 |[]=>[]
 |x::r =>
  (match zA3 x.kind la with
   |some a=>{ kind:=x.kind,g:=gor a.g (yI6 n.g x.g),d:=zL0 (a.g.getD true) a.d (x.d++n.d) S }
   |none=>{ kind:=x.kind,g:=yI6 n.g x.g,d:=x.d++n.d })::xT1 n S la r
def yG9 (n:Comp)(S:St)(a b:Out):Out:=
 {ok:=a.ok++imp n.g b.ok,
  comps:=xT1 n S (zH6 0 a.comps) b.comps++(zH6 0 a.comps).filter fun x=>(zA3 x.kind b.comps).isNone }
def yA2 (id:Nat)(S:St)(a:Out):Out:=
 match zA3 0 a.comps,zA3 (id+2) a.comps with
 |_,none=>a
 |none,some e=>{ a with comps:={ e with kind:=0 }::zH6 (id+2) a.comps }
 |some n,some e=>{ a with comps:={ kind:=0,g:=gor e.g n.g,d:=zL0 (e.g.getD true) e.d n.d S }::zH6 0 (zH6 (id+2) a.comps) }
def zE4:Code→Nat
 |.region id _ _=>id
 |.seq a _=>zE4 a
 |.block _ a=>zE4 a
 |.loop a=>zE4 a
 |.scope a=>zE4 a
 |_=>0
def eval [GlobTab] (c:Ctx):Code→St→Option Out
 |.skip,_=>some { ok:=[],comps:=[⟨0,none,[]⟩] }
 |.region id ops draw,S=>match yG7 (look [] c.gh (2*id)) S with
  |none=>none
  |some v=>bif !(v.all (fun e=>Nat.blt e.1 c.n)) then none else match yR2 c (look [] c.gh (2*id+1)) ops.toList draw (v++S) with
   |some (p,u)=>some { ok:=p,comps:=[⟨0,none,u++v⟩] }
   |none=>none
 |.seq a b,S=>match eval c a S with
  |none=>none
  |some oa=>match zA3 0 oa.comps with
   |none=>some oa
   |some n=>match eval c b (n.d++S) with
    |none=>none
    |some ob=>some (yG9 n S oa ob)
 |.cond x a b,S=>match arg S x with
  |.val .bool t=>match eval c a S,eval c b S with
   |some oa,some ob=>some (zW0 t S oa ob)
   |_,_=>none
  |_=>none
 |.block id a,S=>match eval c a S with
  |some oa=>some (yA2 id S oa)
  |none=>none
 |.loop a,S=>look (fun _=>none) c.loops (zE4 a) S
 |.exit id,_=>some { ok:=[],comps:=[⟨id+2,none,[]⟩] }
 |.ret,_=>some { ok:=[],comps:=[⟨1,none,[]⟩] }
 |_,_=>none
end Go.Am
namespace Go.Am
open Go Go.RowKit
def zG8 (s:Nat):Nat:=2*s+4
def zB2 (T:Nat):Nat:=2*T+5
def yJ3 (χ:Nat→Nat→Nat)(w:World)(b o:Nat)(vs:List Value):Prop:=
 ∀ j v,vs[j]?=some v→w.cell? ⟨b,o+j,none⟩=some v∧χ b (o+j)=0
def zJ1 {α:Type}(R:α→List Value→Prop):List α→List Value→Prop
 |[],us=>us=[]
 |x::l,us=>∃ vs ws,us=vs++ws∧R x vs∧zJ1 R l ws
def zB0 (χ:Nat→Nat→Nat)(w:World):(τ:Ty)→τ.den→List Value→Prop
 |.int k,x,vs=>vs=[.int k x]
 |.bool,x,vs=>vs=[.bool x]
 |.str,x,vs=>vs=[.string ⟨List.toArray x⟩]
 |.nl,_,vs=>vs=[]
 |.cons h t,x,vs=>∃ us ws,vs=us++ws∧zB0 χ w h x.1 us∧zB0 χ w t x.2 ws
 |.st f,x,vs=>zB0 χ w f x vs
 |.arr n t,l,vs=>List.length (α:=t.den) l=n∧zJ1 (zB0 χ w t) l vs
 |.sl t,l,vs=>∃ a cap,vs=[.slice a (List.length (α:=t.den) l) cap]∧(l=([]:List t.den)∨∃ b o us,a=some ⟨b,o,none⟩∧List.length (α:=t.den) l≤cap∧zJ1 (zB0 χ w t) l us∧yJ3 χ w b o us)
 |.ptr t,x,vs=>∃ b o us,vs=[.pointer (some ⟨b,o,none⟩)]∧zB0 χ w t x us∧yJ3 χ w b o us
def zP0 (χ:Nat→Nat→Nat)(w:World)(τ:Ty)(x:τ.den)(v:Value):Prop:=
 ∃ vs,zB0 χ w τ x vs∧(bif τ.isAgg then v=.agg vs.toArray else vs=[v])
structure Gh where
 χ:Nat→Nat→Nat
 β:Nat→Nat
 γ:Nat→Nat
def zZ3 (t:Ty):Prop:=t.plain=true∧t.isL=false
def yY0 (G:Gh)(w:World)(t:Ty)(l:List t.den)(T:Nat)(m:Bool)(v:Value):Prop:=
 zZ3 t∧((v=.slice none 0 0∧l=[]) ∨
 ∃ cap cur e us,v=.slice (some ⟨G.γ T,0,none⟩) l.length cap∧w.heap[G.γ T]?=some (.cells cur e (0,0))∧l.length≤cap∧cap≤maxLen∧cur.size=cap*t.size ∧
  zJ1 (zB0 G.χ w t) l us∧cur.toList.take (l.length*t.size)=us∧(∀ o,G.χ (G.γ T) o=if m=false∧o<l.length*t.size then 0 else zB2 T))
def yM5 (χ:Nat→Nat→Nat)(w:World)(k v:Ty):List (k.den×v.den×Unit)→List MapEntry→Prop
 |[],es=>es=[]
 |x::l,es=>∃ e r,es=e::r∧zP0 χ w k x.1 e.key∧zP0 χ w v x.2.1 e.val∧yM5 χ w k v l r
def xM1 (G:Gh)(w:World)(k e:Ty)(l:List (k.den×e.den×Unit))(T:Nat)(v:Value):Prop:=
 ∃ es clock,v=.map (some (G.γ T))∧w.heap[G.γ T]?=some (.map es clock)∧yM5 G.χ w k e l es.toList∧∀ o,G.χ (G.γ T) o=zB2 T
def xT2 (G:Gh)(w:World)(t:Ty)(l:List t.den)(T:Nat)(v:Value):Prop:=
 ∃ k e,∃ l':List (k.den×e.den×Unit),t=xD0 k e∧HEq l l'∧xM1 G w k e l' T v
def zF4 (G:Gh)(w:World)(t:Ty)(l:List t.den)(T:Nat)(m:Bool)(v:Value):Prop:=yY0 G w t l T m v∨(m=true∧xT2 G w t l T v)
def zA2 (G:Gh)(w:World)(τ:Ty):AVal→List Value→Prop
 |.val τ' x,vs=>τ'=τ∧τ'.isL=false∧zB0 G.χ w τ' x vs
 |.nil,vs=>τ.isSl=true∧vs=[.slice none 0 0]
 |.junk,vs=>τ.isSl=true∧∃ v,vs=[v]∧v.oneCell'=true
 |.own t l T m,vs=>τ=.sl t∧∃ v,vs=[v]∧zF4 G w t l T m v
 |.agg f c,vs=>τ=.st f∧zA2 G w f c vs
 |.nl,vs=>τ=.nl∧vs=[]
 |.cons a b,vs=>∃ h t us ws,τ=.cons h t∧vs=us++ws∧zA2 G w h a us∧zA2 G w t b ws
 |_,_=>False
def xX0 (G:Gh)(w:World)(s:Nat)(τ:Ty)(c:AVal):Prop:=
 zZ3 τ∧∃ cur e,w.heap[G.β s]?=some (.cells cur e (0,0))∧zA2 G w τ c cur.toList∧∀ o,G.χ (G.β s) o=zG8 s
def zD8:Ty→yI4→Prop
 |_,[]=>True
 |.st f,.inl k::p=>k<f.flen∧zD8 (f.fty k) p
 |.arr n t,.inr i::p=>0≤i∧i<(n:Int)∧zD8 t p
 |_,_=>False
def yM (G:Gh)(v:Value):Option (Nat×Ty)→Value
 |some (k,_)=>.pointer (some ⟨G.β k,0,none⟩)
 |none=>v
def xX7 (G:Gh)(w:World)(t:Ty)(l:List (List t.den))(T:Nat)(v:Value):Prop:=
 ∃ x a cap,l=[x]∧v=.slice a (List.length (α:=t.den) x) cap∧(x=([]:List t.den)∨∃ o us cur e,a=some ⟨G.γ T,o,none⟩∧List.length (α:=t.den) x≤cap∧w.heap[G.γ T]?=some (.cells cur e (0,0)) ∧
  zJ1 (zB0 G.χ w t) x us∧(∀ j u,us[j]?=some u→cur.toList[o+j]?=some u)∧∀ o,G.χ (G.γ T) o=zB2 T)
def xT3 (G:Gh)(w:World)(t:Ty)(l:List (List t.den))(T i U:Nat)(m:Bool)(v:Value):Prop:=
 zZ3 t∧((T=U∧m=false∧xX7 G w t l T v)∨T≠U∧((v=.slice none 0 0∧l=[])∨∃ cap cur e,v=.slice (some ⟨G.γ T,0,none⟩) (List.length (α:=List t.den) l) cap∧w.heap[G.γ T]?=some (.cells cur e (0,0))∧List.length (α:=List t.den) l≤cap∧cap≤maxLen∧cur.size=cap∧(∀ o,G.χ (G.γ T) o=zB2 T) ∧
  ∀ (j:Nat) (x:List t.den),l[j]?=some x→∃ u,cur.toList[j]?=some u∧if j=i then yY0 G w t x U m u else zB0 G.χ w (.sl t) x [u]))
def zA (G:Gh)(w:World)(tm:Array Value):Option Nat→AVal→Value→Prop
 |_,.junk,_=>True
 |_,.val τ x,v=>zP0 G.χ w τ x v
 |_,.opt s' want g A,v=>(tm.getD s' undef=.bool want↔g=true)∧(g=true→zA G w tm none A v)∧(g=false→v=undef)
 |_,.nil,v=>v=.slice none 0 0
 |_,.nn b,v=>∃ a cap,v=.slice a 0 cap∧a.isNone=b
 |_,.own t l T m,v=>zF4 G w t l T m v
 |some s,.box τ c,v=>v=.pointer (some ⟨G.β s,0,none⟩)∧xX0 G w s τ c
 |none,.box _ _,_=>False
 |_,.ref s' τ p,v=>zD8 τ p∧v=.pointer (some ⟨G.β s',τ.poff p,none⟩)
 |_,.eref _ T t i p,v=>0≤i∧zD8 t p∧v=.pointer (some ⟨G.γ T,i.toNat*t.size+t.poff p,none⟩)
 |_,.agg f c,v=>∃ vs,v=.agg vs.toArray∧zA2 G w f c vs
 |_,.nl,v=>v=.tuple #[]
 |_,.cons a b,v=>∃ x xs,v=.tuple (x::xs).toArray∧zA G w tm none a x∧zA G w tm none b (.tuple xs.toArray)
 |_,.tup c,v=>zA G w tm none c v
 |_,.fn f c,v=>∃ vs,v=.func (.func f) #[] vs∧zA G w tm none c (.tuple vs)
 |some s,.raw,v=>v=.pointer (some ⟨G.β s,0,none⟩)∧∃ u e,w.heap[G.β s]?=some (.cells #[u] e (0,0))∧∀ o,G.χ (G.β s) o=zG8 s
 |none,.raw,_=>False
 |_,.rref s',v=>v=.pointer (some ⟨G.β s',0,none⟩)
 |_,.ownh t l T i U m,v=>xT3 G w t l T i U m v
 |_,.fptr f caps,v=>∃ b,v=.pointer (some ⟨b,0,none⟩)∧G.χ b 0=0∧w.cell? ⟨b,0,none⟩=some (.func (.func f) #[] (caps.map (yM G v)).toArray)
structure Ext (X Y:Nat→Prop) (G:Gh) (w:World) (G':Gh) (w':World):Prop where
 prot:∀ b o,b<w.heap.size→G.χ b o=0→G'.χ b o=0∧w'.cell? ⟨b,o,none⟩=w.cell? ⟨b,o,none⟩
 block:∀ b,b<w.heap.size→(∀ o,¬ X (G.χ b o))→w'.heap[b]?=w.heap[b]?∧∀ o,G'.χ b o=G.χ b o
 size:w.heap.size≤w'.heap.size
 box:∀ s,¬ Y (zG8 s)→G'.β s=G.β s
 tag:∀ T,¬ Y (zB2 T)→G'.γ T=G.γ T
 sub:∀ n,Y n→X n
def GlobOk [GlobTab] (χ:Nat→Nat→Nat)(w:World):Prop:=
 ∀ g τ (x:τ.den),(g,⟨τ,x⟩)∈GlobTab.tab→∃ vs,zB0 χ w τ x vs∧yJ3 χ w g 0 vs
structure Frame0 (χ0:Nat→Nat→Nat) (w0:World) (χ:Nat→Nat→Nat) (w:World):Prop where
 os:w.os=w0.os
 tape:w.tape=w0.tape
 output:w.output=w0.output
 size:w0.heap.size≤w.heap.size
 block:∀ b,b<w0.heap.size→(∀ o,χ0 b o≤1)→w.heap[b]?=w0.heap[b]?
 cell:∀ b o,b<w0.heap.size→χ0 b o≤1→χ b o=χ0 b o∧w.cell? ⟨b,o,none⟩=w0.cell? ⟨b,o,none⟩
structure Rel [GlobTab] (n:Nat) (χ0:Nat→Nat→Nat) (w0:World) (S:St) (a:Act) (w:World) (G:Gh):Prop where
 len:a.tmps.size=n
 defers:a.defers=[]
 reps:∀ s,zA G w a.tmps (some s) (S.get s) (a.tmps.getD s undef)
 frame:Frame0 χ0 w0 G.χ w
 glob:GlobOk G.χ w
theorem zB8 {α:Type}{R R':α→List Value→Prop}(h:∀ x vs,R x vs→R' x vs):∀ {l us},zJ1 R l us→zJ1 R' l us:=by
 intro l
 induction l with
 |nil=>intro us hu;exact hu
 |cons x l ih=>rintro us ⟨vs,ws,rfl,hx,hl⟩;exact⟨vs,ws,rfl,h _ _ hx,ih hl⟩
theorem zB3 {α:Type}{R:α→List Value→Prop}{k:Nat}(h:∀ x vs,R x vs→vs.length=k):∀ {l us},zJ1 R l us→us.length=l.length*k:=by
 intro l
 induction l with
 |nil=>intro us hu;simp[zJ1] at hu;simp[hu]
 |cons x l ih=>rintro us ⟨vs,ws,rfl,hx,hl⟩;simp[h _ _ hx,ih hl,Nat.add_mul,Nat.add_comm]
theorem zA1 {χ:Nat→Nat→Nat}{w:World}:∀ {τ:Ty}{x:τ.den}{vs:List Value},zB0 χ w τ x vs→vs.length=τ.size:=by
 intro τ
 induction τ with
 |int k=>intro x vs h;simp only[zB0] at h;simp[h,Ty.size]
 |bool=>intro x vs h;simp only[zB0] at h;simp[h,Ty.size]
 |str=>intro x vs h;simp only[zB0] at h;simp[h,Ty.size]
 |nl=>intro x vs h;simp only[zB0] at h;simp[h,Ty.size]
 |cons a b ha hb=>intro x vs h;simp only[zB0] at h;obtain⟨us,ws,rfl,h1,h2⟩:=h;simp[ha h1,hb h2,Ty.size]
 |st f hf=>intro x vs h;simp only[zB0] at h;simp[hf h,Ty.size]
 |arr n t ht=>intro x vs h;simp only[zB0] at h;obtain⟨h1,h2⟩:=h;have:=zB3 (k:=t.size) (fun _ _ h=>ht h) h2;rw[this,h1];rfl
 |sl t ht=>intro x vs h;simp only[zB0] at h;obtain⟨a,cap,rfl,_⟩:=h;simp[Ty.size]
 |ptr t ht=>intro x vs h;simp only[zB0] at h;obtain⟨b,o,us,rfl,_⟩:=h;simp[Ty.size]
theorem zW1 {χ χ':Nat→Nat→Nat}{w w':World}(h:∀ b o,b<w.heap.size→χ b o=0→χ' b o=0∧w'.cell? ⟨b,o,none⟩=w.cell? ⟨b,o,none⟩)
  {b o:Nat}{vs:List Value}(hc:yJ3 χ w b o vs):yJ3 χ' w' b o vs:=by
 intro j v hv
 obtain⟨h1,h2⟩:=hc j v hv
 have hb:b<w.heap.size:=by
  by_cases hb:b<w.heap.size
  ·exact hb
  ·have:w.heap[b]?=none:=Array.getElem?_eq_none (by omega)
   simp[World.cell?,this] at h1
 have:=h _ _ hb h2
 exact⟨by rw[this.2];exact h1,this.1⟩
theorem zA5 {χ χ':Nat→Nat→Nat}{w w':World}(h:∀ b o,b<w.heap.size→χ b o=0→χ' b o=0∧w'.cell? ⟨b,o,none⟩=w.cell? ⟨b,o,none⟩) :
  ∀ {τ:Ty}{x:τ.den}{vs:List Value},zB0 χ w τ x vs→zB0 χ' w' τ x vs:=by
 intro τ
 induction τ with
 |int k=>intro x vs hc;exact hc
 |bool=>intro x vs hc;exact hc
 |str=>intro x vs hc;exact hc
 |nl=>intro x vs hc;exact hc
 |cons a b ha hb=>intro x vs hc;simp only[zB0] at hc ⊢;obtain⟨us,ws,rfl,h1,h2⟩:=hc;exact⟨us,ws,rfl,ha h1,hb h2⟩
 |st f hf=>intro x vs hc;simp only[zB0] at hc ⊢;exact hf hc
 |arr n t ht=>intro x vs hc;simp only[zB0] at hc ⊢;exact⟨hc.1,zB8 (fun _ _ h=>ht h) hc.2⟩
 |sl t ht =>
  intro x vs hc;simp only[zB0] at hc ⊢
  obtain⟨a,cap,rfl,hc⟩:=hc
  refine⟨a,cap,rfl,?_⟩
  rcases hc with hc|⟨b,o,us,h1,h2,h3,h4⟩
  ·exact .inl hc
  ·exact .inr ⟨b,o,us,h1,h2,zB8 (fun _ _ h=>ht h) h3,zW1 h h4⟩
 |ptr t ht =>
  intro x vs hc;simp only[zB0] at hc ⊢
  obtain⟨b,o,us,rfl,h1,h2⟩:=hc
  exact⟨b,o,us,rfl,ht h1,zW1 h h2⟩
theorem zG0 [GlobTab]{χ χ':Nat→Nat→Nat}{w w':World}(h:∀ b o,b<w.heap.size→χ b o=0→χ' b o=0∧w'.cell? ⟨b,o,none⟩=w.cell? ⟨b,o,none⟩)
  (hc:GlobOk χ w):GlobOk χ' w':=by
 intro g τ x hm
 obtain⟨vs,h1,h2⟩:=hc g τ x hm
 exact⟨vs,zA5 h h1,zW1 h h2⟩
theorem zD0 {χ χ':Nat→Nat→Nat}{w w':World}(h:∀ b o,b<w.heap.size→χ b o=0→χ' b o=0∧w'.cell? ⟨b,o,none⟩=w.cell? ⟨b,o,none⟩)
  {τ:Ty}{x:τ.den}{v:Value}(hc:zP0 χ w τ x v):zP0 χ' w' τ x v:=by
 obtain⟨vs,h1,h2⟩:=hc
 exact⟨vs,zA5 h h1,h2⟩
theorem Ext.refl (X:Nat→Prop)(G:Gh)(w:World):Ext X X G w G w:=⟨fun _ _ _ h=>⟨h,rfl⟩,fun _ _ _=>⟨rfl,fun _=>rfl⟩,jI _,fun _ _=>rfl,fun _ _=>rfl,fun _ h=>h⟩
def AVal.names (X Y:Nat→Prop):Option Nat→AVal→Prop
 |_,.own _ _ T _=>X (zB2 T)
 |_,.opt _ _ _ A=>A.names X Y none
 |some s,.box _ c=>X (zG8 s)∨c.names X Y none
 |none,.box _ c=>c.names X Y none
 |_,.ref s' _ _=>Y (zG8 s')
 |_,.eref _ T _ _ _=>Y (zB2 T)
 |_,.ownh _ _ T _ U _=>X (zB2 T)∨X (zB2 U)
 |_,.cons a b=>a.names X Y none∨b.names X Y none
 |_,.agg _ c=>c.names X Y none
 |_,.tup c=>c.names X Y none
 |_,.fn _ c=>c.names X Y none
 |some s,.raw=>X (zG8 s)
 |_,.rref s'=>Y (zG8 s')
 |_,.fptr _ caps=>∃ k τ,some (k,τ)∈caps∧Y (zG8 k)
 |_,_=>False
theorem zE8 {w:World}{b:Nat}{o:Obj}(h:w.heap[b]?=some o):b<w.heap.size:=(Array.getElem?_eq_some_iff.1 h).1
theorem yC4 {χ χ':Nat→Nat→Nat}{w w':World}(h:∀ b o,b<w.heap.size→χ b o=0→χ' b o=0∧w'.cell? ⟨b,o,none⟩=w.cell? ⟨b,o,none⟩){k v:Ty} :
  ∀ {l:List (k.den×v.den×Unit)}{es:List MapEntry},yM5 χ w k v l es→yM5 χ' w' k v l es:=by
 intro l
 induction l with
 |nil=>intro es h;exact h
 |cons x l ih=>rintro es ⟨e,r,rfl,h1,h2,h3⟩;exact⟨e,r,rfl,zD0 h h1,zD0 h h2,ih h3⟩
theorem yJ4 {X Y:Nat→Prop}{G G':Gh}{w w':World}(hx:Ext X Y G w G' w')(h0:¬ X 0){t:Ty}{l:List t.den}{T:Nat}{m:Bool}{v:Value}(hn:¬ X (zB2 T))
  (h:yY0 G w t l T m v):yY0 G' w' t l T m v:=by
 refine⟨h.1,?_⟩
 rcases h.2 with h|⟨cap,cur,e,us,h1,h2,h3,h4,h5,h6,h7,h8⟩
 ·exact .inl h
 ·have hb:=hx.block (G.γ T) (zE8 h2) (fun o=>by rw[h8 o];split<;>assumption)
  have hg:=hx.tag T (fun h=>hn (hx.sub _ h))
  refine .inr ⟨cap,cur,e,us,by rw[hg];exact h1,by rw[hg,hb.1];exact h2,h3,h4,h5,zB8 (fun _ _ h=>zA5 hx.prot h) h6,h7,fun o=>?_⟩
  rw[hg,hb.2 o];exact h8 o
theorem xM2 {X Y:Nat→Prop}{G G':Gh}{w w':World}(hx:Ext X Y G w G' w')(h0:¬ X 0){t:Ty}{l:List (List t.den)}{T i U:Nat}{m:Bool}{v:Value}(hT:¬ X (zB2 T))(hU:¬ X (zB2 U))
  (h:xT3 G w t l T i U m v):xT3 G' w' t l T i U m v:=by
 obtain⟨hv,⟨he,hm,x,a,cap,h1,h2,h3⟩ | ⟨hne,h|⟨cap,cur,e,h1,h2,h3,h4,h5,h6,h7⟩⟩⟩:=h
 ·refine⟨hv,.inl ⟨he,hm,x,a,cap,h1,h2,?_⟩⟩
  rcases h3 with h3|⟨o,us,cur,e,g1,g2,g3,g4,g5,g6⟩
  ·exact .inl h3
  ·have hb:=hx.block (G.γ T) (zE8 g3) (fun o=>by rw[g6 o];exact hT)
   have hg:=hx.tag T (fun h=>hT (hx.sub _ h))
   exact .inr ⟨o,us,cur,e,by rw[hg];exact g1,g2,by rw[hg,hb.1];exact g3,zB8 (fun _ _ h=>zA5 hx.prot h) g4,g5,fun o=>by rw[hg,hb.2 o];exact g6 o⟩
 ·exact⟨hv,.inr ⟨hne,.inl h⟩⟩
 have hb:=hx.block (G.γ T) (zE8 h2) (fun o=>by rw[h6 o];exact hT)
 have hg:=hx.tag T (fun h=>hT (hx.sub _ h))
 refine⟨hv,.inr ⟨hne,.inr ⟨cap,cur,e,by rw[hg];exact h1,by rw[hg,hb.1];exact h2,h3,h4,h5,fun o=>by rw[hg,hb.2 o];exact h6 o,fun j x hj=>?_⟩⟩⟩
 obtain⟨u,hu,hr⟩:=h7 j x hj
 refine⟨u,hu,?_⟩
 split
 ·rename_i e;rw[if_pos e] at hr;exact yJ4 hx h0 hU hr
 ·rename_i e;rw[if_neg e] at hr;exact zA5 hx.prot hr
theorem xM3 {X Y:Nat→Prop}{G G':Gh}{w w':World}(hx:Ext X Y G w G' w'){t:Ty}{l:List t.den}{T:Nat}{v:Value}(hn:¬ X (zB2 T))
  (h:xT2 G w t l T v):xT2 G' w' t l T v:=by
 obtain⟨k,e,l',ht,hl,es,clock,h1,h2,h3,h4⟩:=h
 have hb:=hx.block (G.γ T) (zE8 h2) (fun o=>by rw[h4 o];exact hn)
 have hg:=hx.tag T (fun h=>hn (hx.sub _ h))
 exact⟨k,e,l',ht,hl,es,clock,by rw[hg];exact h1,by rw[hg,hb.1];exact h2,yC4 hx.prot h3,fun o=>by rw[hg,hb.2 o];exact h4 o⟩
theorem zF0 {X Y:Nat→Prop}{G G':Gh}{w w':World}(hx:Ext X Y G w G' w')(h0:¬ X 0){t:Ty}{l:List t.den}{T:Nat}{m:Bool}{v:Value}(hn:¬ X (zB2 T))
  (h:zF4 G w t l T m v):zF4 G' w' t l T m v:=h.imp (yJ4 hx h0 hn) fun h=>⟨h.1,xM3 hx hn h.2⟩
theorem xE5 {G G':Gh}{w w':World}{t:Ty}{l:List t.den}{T U:Nat}{v:Value}(hγ:G'.γ U=G.γ T)(hh:w'.heap[G.γ T]?=w.heap[G.γ T]?)
  (hp:∀ b o,b<w.heap.size→G.χ b o=0→G'.χ b o=0∧w'.cell? ⟨b,o,none⟩=w.cell? ⟨b,o,none⟩) (hc:(∀ o,G.χ (G.γ T) o=zB2 T)→∀ o,G'.χ (G.γ T) o=zB2 U) (h:xT2 G w t l T v):xT2 G' w' t l U v:=by
 obtain⟨k,e,l',ht,hl,es,clock,h1,h2,h3,h4⟩:=h
 exact⟨k,e,l',ht,hl,es,clock,by rw[hγ];exact h1,by rw[hγ,hh];exact h2,yC4 hp h3,fun o=>by rw[hγ];exact hc h4 o⟩
theorem zU1 {G G':Gh}{w w':World}{t:Ty}{l:List t.den}{T U:Nat}{m:Bool}{v:Value}(hs:yY0 G w t l T m v→yY0 G' w' t l U m v)(hγ:G'.γ U=G.γ T)(hh:w'.heap[G.γ T]?=w.heap[G.γ T]?)
  (hp:∀ b o,b<w.heap.size→G.χ b o=0→G'.χ b o=0∧w'.cell? ⟨b,o,none⟩=w.cell? ⟨b,o,none⟩) (hc:xT2 G w t l T v→(∀ o,G.χ (G.γ T) o=zB2 T)→∀ o,G'.χ (G.γ T) o=zB2 U) (h:zF4 G w t l T m v):zF4 G' w' t l U m v:=
 h.imp hs fun h=>⟨h.1,xE5 hγ hh hp (hc h.2) h.2⟩
theorem yY1 {G:Gh}{w:World}{t:Ty}{l:List t.den}{T:Nat}{v:Value}(h:zF4 G w t l T false v):yY0 G w t l T false v:=h.elim id fun h=>(by cases h.1)
theorem zB4 {G:Gh}{w:World}{t:Ty}{l:List t.den}{T:Nat}{m:Bool}{v:Value}(h:zF4 G w t l T m v)(ht:t.isL=false):yY0 G w t l T m v:=by
 rcases h with h|⟨_,k,e,_,rfl,_⟩
 ·exact h
 ·simp[Ty.isL] at ht
theorem yA3 {X Y:Nat→Prop}{G G':Gh}{w w':World}(hx:Ext X Y G w G' w')(h0:¬ X 0):∀ {c:AVal}{τ:Ty}{vs:List Value},¬ c.names X Y none→zA2 G w τ c vs→zA2 G' w' τ c vs:=by
 intro c
 induction c with
 |val τ' x=>intro τ vs _ h;simp only[zA2] at h ⊢;exact⟨h.1,h.2.1,zA5 hx.prot h.2.2⟩
 |junk=>intro τ vs _ h;simp only[zA2] at h ⊢;exact h
 |nil=>intro τ vs _ h;simp only[zA2] at h ⊢;exact h
 |own t l T m=>intro τ vs hn h;simp only[AVal.names] at hn;simp only[zA2] at h ⊢;obtain⟨h1,v,h2,h3⟩:=h;exact⟨h1,v,h2,zF0 hx h0 hn h3⟩
 |agg f a ih=>intro τ vs hn h;simp only[AVal.names] at hn;simp only[zA2] at h ⊢;exact⟨h.1,ih hn h.2⟩
 |nl=>intro τ vs _ h;simp only[zA2] at h ⊢;exact h
 |cons a b iha ihb =>
  intro τ vs hn h;simp only[zA2] at h ⊢
  simp only[AVal.names,not_or] at hn
  obtain⟨h1,t1,us,ws,e,h2,h3,h4⟩:=h
  exact⟨h1,t1,us,ws,e,h2,iha hn.1 h3,ihb hn.2 h4⟩
 |_=>intro τ vs _ h;simp only[zA2] at h
theorem yA4 {X Y:Nat→Prop}{G G':Gh}{w w':World}(hx:Ext X Y G w G' w')(h0:¬ X 0)(tm:Array Value) :
  ∀ {A:AVal}{s:Option Nat}{v:Value},¬ A.names X Y s→zA G w tm s A v→zA G' w' tm s A v:=by
 intro A
 induction A with
 |val τ x=>intro s v _ h;simp only[zA] at h ⊢;exact zD0 hx.prot h
 |junk=>intro s v _ _;simp only[zA]
 |nil=>intro s v _ h;simp only[zA] at h ⊢;exact h
 |nn b=>intro s v _ h;simp only[zA] at h ⊢;exact h
 |own t l T m=>intro s v hn h;simp only[zA] at h ⊢;simp only[AVal.names] at hn;exact zF0 hx h0 hn h
 |opt s' want g A ih=>intro s v hn h;simp only[zA] at h ⊢;simp only[AVal.names] at hn;exact⟨h.1,fun hg=>ih hn (h.2.1 hg),h.2.2⟩
 |box τ c ih =>
  intro s v hn h
  cases s with
  |none=>simp only[zA] at h
  |some s =>
   simp only[AVal.names,not_or] at hn
   simp only[zA] at h ⊢
   obtain⟨h1,hvt,cur,e,h2,h3,h4⟩:=h
   have hb:=hx.block (G.β s) (zE8 h2) (fun o=>by rw[h4 o];exact hn.1)
   have hg:=hx.box s (fun h=>hn.1 (hx.sub _ h))
   exact⟨by rw[hg];exact h1,hvt,cur,e,by rw[hg,hb.1];exact h2,yA3 hx h0 hn.2 h3,fun o=>by rw[hg,hb.2 o];exact h4 o⟩
 |ref s' τ p=>intro s v hn h;simp only[AVal.names] at hn;simp only[zA] at h ⊢;rw[hx.box s' hn];exact h
 |eref _ T t i p=>intro s v hn h;simp only[AVal.names] at hn;simp only[zA] at h ⊢;rw[hx.tag T hn];exact h
 |ownh t l T i U m=>intro s v hn h;simp only[AVal.names,not_or] at hn;simp only[zA] at h ⊢;exact xM2 hx h0 hn.1 hn.2 h
 |agg f c _=>intro s v hn h;simp only[AVal.names] at hn;simp only[zA] at h ⊢;obtain⟨vs,h1,h2⟩:=h;exact⟨vs,h1,yA3 hx h0 hn h2⟩
 |nl=>intro s v _ h;simp only[zA] at h ⊢;exact h
 |cons a b iha ihb =>
  intro s v hn h
  simp only[AVal.names,not_or] at hn
  simp only[zA] at h ⊢
  obtain⟨x,xs,h1,h2,h3⟩:=h
  exact⟨x,xs,h1,iha hn.1 h2,ihb hn.2 h3⟩
 |tup c ih=>intro s v hn h;simp only[AVal.names] at hn;simp only[zA] at h ⊢;exact ih hn h
 |fn f c ih=>intro s v hn h;simp only[AVal.names] at hn;simp only[zA] at h ⊢;obtain⟨vs,h1,h2⟩:=h;exact⟨vs,h1,ih hn h2⟩
 |raw =>
  intro s v hn h
  cases s with
  |none=>simp only[zA] at h
  |some s =>
   simp only[AVal.names] at hn
   simp only[zA] at h ⊢
   obtain⟨h1,u,e,h2,h3⟩:=h
   have hb:=hx.block (G.β s) (zE8 h2) (fun o=>by rw[h3 o];exact hn)
   have hg:=hx.box s (fun h=>hn (hx.sub _ h))
   exact⟨by rw[hg];exact h1,u,e,by rw[hg,hb.1];exact h2,fun o=>by rw[hg,hb.2 o];exact h3 o⟩
 |rref s'=>intro s v hn h;simp only[AVal.names] at hn;simp only[zA] at h ⊢;rw[hx.box s' hn];exact h
 |fptr f caps =>
  intro s v hn h
  simp only[AVal.names] at hn
  simp only[zA] at h ⊢
  obtain⟨b,h1,h2,h3⟩:=h
  have hb:b<w.heap.size:=by
   by_cases hb:b<w.heap.size
   ·exact hb
   ·have:w.heap[b]?=none:=Array.getElem?_eq_none (by omega)
    simp[World.cell?,this] at h3
  obtain⟨h4,h5⟩:=hx.prot b 0 hb h2
  refine⟨b,h1,h4,?_⟩
  rw[h5,h3]
  congr 3
  refine List.map_congr_left fun q hq=>?_
  cases q with
  |none=>rfl
  |some q=>obtain⟨k,τ⟩:=q;simp only[yM];rw[hx.box k (fun hY=>hn ⟨k,τ,hq,hY⟩)]
theorem zM9 {G:Gh}{w:World}{tm tm':Array Value}{A:AVal}:∀ {s:Option Nat}{v:Value},(∀ d,A.hung d=true→tm'.getD d undef=tm.getD d undef)→zA G w tm s A v→zA G w tm' s A v:=by
 induction A with
 |opt s' want g A ih =>
  intro s v ht h;simp only[zA] at h ⊢
  refine⟨by rw[ht s' (by simp[AVal.hung])];exact h.1,fun hg=>ih (fun d hd=>ht d (by simp[AVal.hung,hd])) (h.2.1 hg),h.2.2⟩
 |cons a b iha ihb =>
  intro s v ht h;simp only[zA] at h ⊢
  obtain⟨x,xs,h1,h2,h3⟩:=h
  exact⟨x,xs,h1,iha (fun d hd=>ht d (by simp[AVal.hung,hd])) h2,ihb (fun d hd=>ht d (by simp[AVal.hung,hd])) h3⟩
 |tup c ih=>intro s v ht h;simp only[zA] at h ⊢;exact ih (fun d hd=>ht d (by simp[AVal.hung,hd])) h
 |fn f c ih=>intro s v ht h;simp only[zA] at h ⊢;obtain⟨vs,h1,h2⟩:=h;exact⟨vs,h1,ih (fun d hd=>ht d (by simp[AVal.hung,hd])) h2⟩
 |box τ c _=>intro s v _ h;cases s<;>simp only[zA] at h ⊢;exact h
 |raw=>intro s v _ h;cases s<;>simp only[zA] at h ⊢;exact h
 |_=>intro s v _ h;simp only[zA] at h ⊢;try exact h
theorem zL9 {G:Gh}{w:World}{tm:Array Value}{A:AVal}{s:Option Nat}{v:Value}(h:zA G w tm s A v)(hb:∀ τ c,A≠.box τ c)(hr:A≠.raw):zA G w tm none A v:=by
 cases A<;>first | (exfalso;exact hb _ _ rfl) | (exfalso;exact hr rfl) | (simp only[zA] at h ⊢;try exact h)
theorem zK1 {G:Gh}{w:World}{tm:Array Value}{A:AVal}{s:Option Nat}{v:Value}(h:zA G w tm none A v):zA G w tm s A v:=by
 cases A<;>(simp only[zA] at h ⊢;try exact h)
end Go.Am
namespace Go.Am
open Go Go.RowKit
variable {P:Program}
def zB1:Ty→List Value
 |.int k=>[.int k 0]|.bool=>[.bool false]|.str=>[.string ⟨#[]⟩]|.nl=>[]|.cons h t=>zB1 h++zB1 t
 |.st f=>zB1 f|.arr n t=>(List.replicate n (zB1 t)).flatten|.sl _=>[.slice none 0 0]|.ptr _=>[.pointer none]
def xE6:Value→Value→Bool
 |.int k n,.int k' m=>Nat.beq (zI7 k) (zI7 k')&&(n==m)
 |.bool a,.bool b=>a==b
 |.string a,.string b=>a.data.toList.isEmpty&&b.data.toList.isEmpty
 |.slice none 0 0,.slice none 0 0=>true
 |.pointer none,.pointer none=>true
 |_,_=>false
theorem xE7 {a b:Value}(h:xE6 a b=true):a=b:=by
 unfold xE6 at h
 split at h
 ·simp at h;rw[zH7 h.1,h.2]
 ·simp at h;rw[h]
 ·rename_i a b
  simp at h
  obtain⟨⟨a⟩⟩:=a;obtain⟨⟨b⟩⟩:=b
  simp_all
 ·rfl
 ·rfl
 ·cases h
def yC5:List Value→List Value→Bool
 |[],[]=>true
 |a::r,b::s=>xE6 a b&&yC5 r s
 |_,_=>false
theorem yY2:∀ {a b:List Value},yC5 a b=true→a=b:=by
 intro a
 induction a with
 |nil=>intro b h;cases b<;>simp[yC5] at h ⊢
 |cons x r ih=>intro b h;cases b<;>simp[yC5] at h;rw[xE7 h.1,ih h.2]
def yM6:Value→Bool
 |.agg _=>true|_=>false
def zM (P:Program)(T:Nat)(τ:Ty):Bool:=
 match P.info? T with
 |some i=>Nat.beq i.size τ.size&&Nat.ble i.bytes 32768&&!(P.eqGuardType P.depth T)&&Nat.ble τ.ht 9000&&(match i.zero with|some v=>yC5 v.cells.toList (zB1 τ)&&(yM6 v==τ.isAgg)|none=>false)
 |none=>false
def zC0 (P:Program):Ty→Nat ⊕ (List Field×Nat)→Bool
 |.int k,.inl T=>(match P.underlying T with|some (.int k')=>Nat.beq (zI7 k') (zI7 k)|_=>false)&&zM P T (.int k)
 |.bool,.inl T=>(match P.underlying T with|some .bool=>true|_=>false)&&zM P T .bool
 |.str,.inl T=>(match P.underlying T with|some .string=>true|_=>false)&&zM P T .str
 |.nl,.inr ([],_)=>true
 |.cons h t,.inr (fd::r,o)=>Nat.beq fd.offset o&&!(fd.name=="_")&&zC0 P h (.inl fd.type)&&zC0 P t (.inr (r,o+h.size))
 |.st f,.inl T=>(match P.underlying T with|some (.struct fs)=>zC0 P f (.inr (fs.toList,0))&&!(P.stoodInHeld T)|_=>false)&&zM P T (.st f)
 |.arr n t,.inl T=>(match P.underlying T with|some (.array m e)=>Nat.beq m n&&zC0 P t (.inl e)|_=>false)&&zM P T (.arr n t)
 |.sl t,.inl T=>(match P.underlying T with|some (.slice e)=>zC0 P t (.inl e)|_=>false)&&zM P T (.sl t)
 |.ptr t,.inl T=>(match P.underlying T with|some (.pointer e)=>zC0 P t (.inl e)|_=>false)&&zM P T (.ptr t)
 |_,_=>false
def zL4 (P:Program)(l:List (Nat×Ty)):Bool:=l.all fun e=>zC0 P e.2 (.inl e.1)
theorem xM4 {l:List (Nat×Ty)}{T:Nat}:look Ty.nl l T=.nl∨(T,look Ty.nl l T)∈l:=by
 induction l with
 |nil=>exact .inl rfl
 |cons e r ih =>
  obtain⟨k,τ⟩:=e
  simp only[look]
  cases hk:Nat.beq k T with
  |true=>have:=jC hk;subst this;simp
  |false =>
   simp only[jD]
   rcases ih with h|h
   ·exact .inl h
   ·exact .inr (jP _ h)
theorem zJ0 {c:Ctx}(h:zL4 P c.tys=true)(T:Nat)(hn:c.ty T≠.nl):zC0 P (c.ty T) (.inl T)=true:=by
 rcases xM4 (l:=c.tys) (T:=T) with h' | h'
 ·exact absurd h' hn
 ·exact (List.all_eq_true.1 h) _ h'
structure TyIs (P:Program) (T:Nat) (τ:Ty):Prop where
 info:∃ i z,P.info? T=some i∧i.size=τ.size∧i.bytes≤32768∧i.zero=some z∧z.cells.toList=zB1 τ∧yM6 z=τ.isAgg
 und:∃ d,P.underlying T=some d∧d.isRow=τ.isAgg
theorem zK2 {T:Nat}{τ:Ty}(h:zM P T τ=true):∃ i z,P.info? T=some i∧i.size=τ.size∧i.bytes≤32768∧i.zero=some z∧z.cells.toList=zB1 τ∧yM6 z=τ.isAgg:=by
 unfold zM at h
 split at h
 ·rename_i i hi
  split at h
  ·rename_i v hv
   simp only[jB,beq_iff_eq] at h
   exact⟨i,v,hi,jC h.1.1.1.1,jR h.1.1.1.2,hv,yY2 h.2.1,h.2.2⟩
  ·simp at h
 ·cases h
theorem yM7 {T:Nat}{τ:Ty}(h:zM P T τ=true):P.eqGuardType P.depth T=false:=by
 unfold zM at h
 split at h
 ·split at h
  ·simp only[jB,jK] at h
   exact h.1.1.2
  ·simp at h
 ·cases h
theorem xE8 {T:Nat}{τ:Ty}(h:zM P T τ=true):τ.ht≤9000:=by
 unfold zM at h
 split at h
 ·split at h
  ·simp only[jB,jK] at h
   exact jR h.1.2
  ·simp at h
 ·cases h
theorem xR5 {τ:Ty}{T:Nat}(h:zC0 P τ (.inl T)=true):τ.ht≤9000:=by
 cases τ<;>simp only[zC0,jB] at h<;>first|exact xE8 h.2|cases h
theorem yY3 {τ:Ty}{T:Nat}(h:zC0 P τ (.inl T)=true):P.eqGuardType P.depth T=false:=by
 cases τ<;>simp only[zC0,jB] at h<;>first|exact yM7 h.2|cases h
theorem zF5 {τ:Ty}{T:Nat}(h:zC0 P τ (.inl T)=true):TyIs P T τ:=by
 cases τ with
 |nl=>simp[zC0] at h
 |cons a b=>simp[zC0] at h
 |int k=>simp only[zC0,jB] at h;refine⟨zK2 h.2,?_⟩;cases hu:P.underlying T with
  |none=>simp[hu] at h
  |some d=>refine⟨d,rfl,?_⟩;rw[hu] at h;cases d<;>simp_all [TypeDesc.isRow,Ty.isAgg]
 |bool=>simp only[zC0,jB] at h;refine⟨zK2 h.2,?_⟩;cases hu:P.underlying T with
  |none=>simp[hu] at h
  |some d=>refine⟨d,rfl,?_⟩;rw[hu] at h;cases d<;>simp_all [TypeDesc.isRow,Ty.isAgg]
 |str=>simp only[zC0,jB] at h;refine⟨zK2 h.2,?_⟩;cases hu:P.underlying T with
  |none=>simp[hu] at h
  |some d=>refine⟨d,rfl,?_⟩;rw[hu] at h;cases d<;>simp_all [TypeDesc.isRow,Ty.isAgg]
 |st f=>simp only[zC0,jB] at h;refine⟨zK2 h.2,?_⟩;cases hu:P.underlying T with
  |none=>simp[hu] at h
  |some d=>refine⟨d,rfl,?_⟩;rw[hu] at h;cases d<;>simp_all [TypeDesc.isRow,Ty.isAgg]
 |arr n t=>simp only[zC0,jB] at h;refine⟨zK2 h.2,?_⟩;cases hu:P.underlying T with
  |none=>simp[hu] at h
  |some d=>refine⟨d,rfl,?_⟩;rw[hu] at h;cases d<;>simp_all [TypeDesc.isRow,Ty.isAgg]
 |sl t=>simp only[zC0,jB] at h;refine⟨zK2 h.2,?_⟩;cases hu:P.underlying T with
  |none=>simp[hu] at h
  |some d=>refine⟨d,rfl,?_⟩;rw[hu] at h;cases d<;>simp_all [TypeDesc.isRow,Ty.isAgg]
 |ptr t=>simp only[zC0,jB] at h;refine⟨zK2 h.2,?_⟩;cases hu:P.underlying T with
  |none=>simp[hu] at h
  |some d=>refine⟨d,rfl,?_⟩;rw[hu] at h;cases d<;>simp_all [TypeDesc.isRow,Ty.isAgg]
theorem zW2 {f:Ty}:∀ {fs:List Field}{o k:Nat},zC0 P f (.inr (fs,o))=true→k<f.flen →
  ∃ fd,fs[k]?=some fd∧fd.offset=o+f.foff k∧zC0 P (f.fty k) (.inl fd.type)=true∧fd.name≠"_":=by
 induction f with
 |cons h t _ iht =>
  intro fs o k hk hl
  cases fs with
  |nil=>simp[zC0] at hk
  |cons fd r =>
   simp only[zC0,jB] at hk
   obtain⟨⟨⟨h1,h2⟩,h3⟩,h4⟩:=hk
   have h1:=jC h1
   cases k with
   |zero=>exact⟨fd,rfl,by simp[Ty.foff,h1],by simpa[Ty.fty] using h3,by simpa using h2⟩
   |succ k =>
    simp only[Ty.flen] at hl
    obtain⟨fd',h5,h6,h7,h8⟩:=iht h4 (k:=k) (by omega)
    exact⟨fd',by simpa using h5,by simp[Ty.foff];omega,by simpa[Ty.fty] using h7,h8⟩
 |_=>intro fs o k hk hl;simp[Ty.flen] at hl
theorem zP7 {f:Ty}{T:Nat}(h:zC0 P (.st f) (.inl T)=true):∃ fs,P.underlying T=some (.struct fs)∧zC0 P f (.inr (fs.toList,0))=true:=by
 simp only[zC0,jB] at h
 cases hu:P.underlying T with
 |none=>simp[hu] at h
 |some d=>rw[hu] at h;cases d<;>simp_all
theorem yY4 {f:Ty}{T:Nat}(h:zC0 P (.st f) (.inl T)=true):P.stoodInHeld T=false:=by
 simp only[zC0,jB] at h
 cases hu:P.underlying T with
 |none=>simp[hu] at h
 |some d=>rw[hu] at h;cases d<;>simp_all
theorem zN {n:Nat}{t:Ty}{T:Nat}(h:zC0 P (.arr n t) (.inl T)=true):∃ e,P.underlying T=some (.array n e)∧zC0 P t (.inl e)=true:=by
 simp only[zC0,jB] at h
 cases hu:P.underlying T with
 |none=>simp[hu] at h
 |some d =>
  rw[hu] at h
  cases d<;>simp_all
theorem zG1 {t:Ty}{T:Nat}(h:zC0 P (.sl t) (.inl T)=true):∃ e,P.underlying T=some (.slice e)∧zC0 P t (.inl e)=true:=by
 simp only[zC0,jB] at h
 cases hu:P.underlying T with
 |none=>simp[hu] at h
 |some d=>rw[hu] at h;cases d<;>simp_all
theorem xM5 {t:Ty}{T:Nat}(h:zC0 P (.ptr t) (.inl T)=true):∃ e,P.underlying T=some (.pointer e)∧zC0 P t (.inl e)=true:=by
 simp only[zC0,jB] at h
 cases hu:P.underlying T with
 |none=>simp[hu] at h
 |some d=>rw[hu] at h;cases d<;>simp_all
theorem yA5 {k:IntKind}{T:Nat}(h:zC0 P (.int k) (.inl T)=true):P.underlying T=some (.int k):=by
 simp only[zC0,jB] at h
 cases hu:P.underlying T with
 |none=>simp[hu] at h
 |some d=>rw[hu] at h;cases d<;>simp_all;exact (zH7 h.1)
theorem yM8 {T:Nat}(h:zC0 P .bool (.inl T)=true):P.underlying T=some .bool:=by
 simp only[zC0,jB] at h
 cases hu:P.underlying T with
 |none=>simp[hu] at h
 |some d=>rw[hu] at h;cases d<;>simp_all
theorem zJ3 {T:Nat}(h:zC0 P .str (.inl T)=true):P.underlying T=some .string:=by
 simp only[zC0,jB] at h
 cases hu:P.underlying T with
 |none=>simp[hu] at h
 |some d=>rw[hu] at h;cases d<;>simp_all
theorem xE9 {τ:Ty}{T:Nat}(h:zC0 P τ (.inl T)=true):τ.isL=false:=by
 cases τ<;>first|rfl|simp[zC0] at h
theorem yV4 {t:Ty}{q:yI4}{T:Nat}(hq:zD8 t q)(h:zC0 P (t.pty q) (.inl T)=true):t.isL=false:=by
 cases q with
 |nil=>exact xE9 h
 |cons e r =>
  cases t<;>first|rfl | (exfalso;cases e<;>simp[zD8] at hq)
theorem yA6 {t:Ty}{T:Nat}(h:zC0 P (.sl t) (.inl T)=true):t.isL=false:=by
 obtain⟨e,_,h⟩:=zG1 h
 exact xE9 h
end Go.Am
namespace Go.Am
open Go Go.RowKit
variable {P:Program}
def seg (vs:List Value)(o n:Nat):List Value:=(vs.drop o).take n
def spl (vs:List Value)(o:Nat)(ys:List Value):List Value:=vs.take o++(ys++vs.drop (o+ys.length))
theorem yY5 {vs:List Value}{o n:Nat}(h:o+n≤vs.length):(seg vs o n).length=n:=by simp[seg];omega
theorem seg_getElem? (vs:List Value)(o n j:Nat):(seg vs o n)[j]?=if j<n then vs[o+j]? else none:=by
 simp only[seg,List.getElem?_take,List.getElem?_drop]
theorem yC6 (vs:List Value)(o n o' n':Nat)(h:o'+n'≤n):seg (seg vs o n) o' n'=seg vs (o+o') n':=by
 apply List.ext_getElem?
 intro j
 simp only[seg_getElem?]
 by_cases hj:j<n'
 ·simp only[hj,if_true];rw[if_pos (by omega)];congr 1;omega
 ·simp[hj]
theorem yJ5 (vs:List Value):seg vs 0 vs.length=vs:=by simp[seg]
theorem yA7 (us ws:List Value):seg (us++ws) 0 us.length=us:=by simp[seg]
theorem zU2 (us ws:List Value)(o n:Nat):seg (us++ws) (us.length+o) n=seg ws o n:=by
 unfold seg;rw[List.drop_append,List.drop_of_length_le (by omega),List.nil_append];congr 2;omega
theorem zR {vs ys:List Value}{o:Nat}(h:o+ys.length≤vs.length):(spl vs o ys).length=vs.length:=by simp[spl];omega
theorem yJ6 (us ws ys:List Value)(h:ys.length=us.length):spl (us++ws) 0 ys=ys++ws:=by
 simp[spl,h]
theorem yC7 (us ws ys:List Value)(o:Nat):spl (us++ws) (us.length+o) ys=us++spl ws o ys:=by
 unfold spl
 rw[List.take_append,List.take_of_length_le (by omega),List.drop_append,List.drop_of_length_le (by omega),List.nil_append,List.append_assoc]
 congr 3
 ·omega
 ·congr 1;omega
theorem xF (vs:List Value)(o:Nat):spl vs o []=vs:=by simp[spl]
theorem xR6 (vs ys:List Value)(h:ys.length=vs.length):spl vs 0 ys=ys:=by simp[spl,h]
theorem spl_getElem? (vs ys:List Value)(o j:Nat)(h:o+ys.length≤vs.length) :
  (spl vs o ys)[j]?=if o≤j∧j<o+ys.length then ys[j-o]? else vs[j]?:=by
 unfold spl
 by_cases h1:j<o
 ·rw[List.getElem?_append_left (by simp;omega)]
  simp[h1];omega
 ·rw[List.getElem?_append_right (by simp;omega)]
  have hl:(vs.take o).length=o:=by simp;omega
  rw[hl]
  by_cases h2:j<o+ys.length
  ·rw[List.getElem?_append_left (by omega),if_pos ⟨by omega,h2⟩]
  ·rw[List.getElem?_append_right (by omega),if_neg (by omega),List.getElem?_drop]
   congr 1;omega
theorem yC8 (vs ys:List Value)(o n o':Nat)(h:o+n≤vs.length)(h':o'+ys.length≤n):spl vs o (spl (seg vs o n) o' ys)=spl vs (o+o') ys:=by
 have hl:(seg vs o n).length=n:=yY5 h
 have hl':(spl (seg vs o n) o' ys).length=n:=by rw[zR (by omega),hl]
 apply List.ext_getElem?
 intro j
 rw[spl_getElem? vs _ o j (by omega),spl_getElem? vs ys (o+o') j (by omega),hl']
 by_cases h1:o≤j∧j<o+n
 ·rw[if_pos h1,spl_getElem? _ _ _ _ (by omega)]
  by_cases h2:o'≤j-o∧j-o<o'+ys.length
  ·rw[if_pos h2,if_pos (by omega)];congr 1;omega
  ·rw[if_neg h2,if_neg (by omega),seg_getElem?,if_pos (by omega)];congr 1;omega
 ·rw[if_neg h1,if_neg (by omega)]
theorem yA8 {α:Type}{R:α→List Value→Prop}{k:Nat}(hk:∀ x vs,R x vs→vs.length=k)(d:α) :
  ∀ {l:List α}{us:List Value}{i:Nat},zJ1 R l us→i<l.length→R (l.getD i d) (seg us (i*k) k):=by
 intro l
 induction l with
 |nil=>intro us i _ hi;simp at hi
 |cons x l ih =>
  rintro us i ⟨vs,ws,rfl,hx,hl⟩ hi
  have hv:=hk _ _ hx
  cases i with
  |zero=>simp only[Nat.zero_mul,List.getD_cons_zero];rw[← hv,yA7];exact hx
  |succ i =>
   simp only[List.getD_cons_succ]
   rw[show (i+1)*k=vs.length+i*k from by rw[hv,Nat.add_mul];omega,zU2]
   exact ih hl (by simpa using hi)
theorem yJ7 {α:Type}{R:α→List Value→Prop}{k:Nat}(hk:∀ x vs,R x vs→vs.length=k){y:α}{ys:List Value}(hy:R y ys) :
  ∀ {l:List α}{us:List Value}{i:Nat},zJ1 R l us→i<l.length→zJ1 R (l.set i y) (spl us (i*k) ys):=by
 intro l
 induction l with
 |nil=>intro us i _ hi;simp at hi
 |cons x l ih =>
  rintro us i ⟨vs,ws,rfl,hx,hl⟩ hi
  have hv:=hk _ _ hx
  have hyl:=hk _ _ hy
  cases i with
  |zero=>simp only[Nat.zero_mul,List.set_cons_zero];rw[yJ6 _ _ _ (by omega)];exact⟨ys,ws,rfl,hy,hl⟩
  |succ i =>
   simp only[List.set_cons_succ]
   rw[show (i+1)*k=vs.length+i*k from by rw[hv,Nat.add_mul];omega,yC7]
   exact⟨vs,_,rfl,hx,ih hl (by simpa using hi)⟩
theorem yC9 {α:Type}{R:α→List Value→Prop}:∀ {l m:List α}{us ws:List Value},zJ1 R l us→zJ1 R m ws→zJ1 R (l++m) (us++ws):=by
 intro l
 induction l with
 |nil=>intro m us ws h hm;simp only[zJ1] at h;subst h;simpa using hm
 |cons x l ih=>rintro m us ws ⟨vs,ws',rfl,hx,hl⟩ hm;exact⟨vs,ws'++ws,by simp,hx,ih hl hm⟩
theorem yM9 {α:Type}{R:α→List Value→Prop}{k:Nat}(hk:∀ x vs,R x vs→vs.length=k) :
  ∀ {l:List α}{us:List Value}(n:Nat),zJ1 R l us→zJ1 R (l.take n) (us.take (n*k)):=by
 intro l
 induction l with
 |nil=>intro us n h;simp only[zJ1] at h;subst h;simp[zJ1]
 |cons x l ih =>
  rintro us n ⟨vs,ws,rfl,hx,hl⟩
  have hv:=hk _ _ hx
  cases n with
  |zero=>simp[zJ1]
  |succ n =>
   simp only[List.take_succ_cons]
   refine⟨vs,ws.take (n*k),?_,hx,ih n hl⟩
   rw[List.take_append,List.take_of_length_le (by rw[hv,Nat.add_mul];omega),show (n+1)*k-vs.length=n*k from by rw[hv,Nat.add_mul];omega]
theorem yN {α:Type}{R:α→List Value→Prop}{k:Nat}(hk:∀ x vs,R x vs→vs.length=k) :
  ∀ {l:List α}{us:List Value}(n:Nat),zJ1 R l us→zJ1 R (l.drop n) (us.drop (n*k)):=by
 intro l
 induction l with
 |nil=>intro us n h;simp only[zJ1] at h;subst h;simp[zJ1]
 |cons x l ih =>
  rintro us n ⟨vs,ws,rfl,hx,hl⟩
  have hv:=hk _ _ hx
  cases n with
  |zero=>simp only[Nat.zero_mul,List.drop_zero];exact⟨vs,ws,rfl,hx,hl⟩
  |succ n =>
   simp only[List.drop_succ_cons]
   have e:(vs++ws).drop ((n+1)*k)=ws.drop (n*k):=by
    rw[List.drop_append,List.drop_of_length_le (l:=vs) (by rw[hv,Nat.add_mul];omega),show (n+1)*k-vs.length=n*k from by rw[hv,Nat.add_mul];omega,List.nil_append]
   rw[e]
   exact ih n hl
theorem zI2 {α:Type}{R:α→List Value→Prop}{x:α}{vs:List Value}(h:R x vs):∀ n,zJ1 R (List.replicate n x) (List.replicate n vs).flatten:=by
 intro n
 induction n with
 |zero=>simp[zJ1]
 |succ n ih=>exact⟨vs,_,by simp[List.replicate_succ],h,ih⟩
theorem yD {f:Ty}:∀ {k:Nat},k<f.flen→f.foff k+(f.fty k).size≤f.size:=by
 induction f with
 |cons h t _ iht =>
  intro k hk
  cases k with
  |zero=>simp[Ty.foff,Ty.fty,Ty.size]
  |succ k=>simp only[Ty.flen] at hk;have:=iht (k:=k) (by omega);simp[Ty.foff,Ty.fty,Ty.size];omega
 |_=>intro k hk;simp[Ty.flen] at hk
theorem zU3 {χ:Nat→Nat→Nat}{w:World}{f:Ty}:∀ {k:Nat}{x:f.den}{vs:List Value},k<f.flen→zB0 χ w f x vs→zB0 χ w (f.fty k) (f.fget k x) (seg vs (f.foff k) (f.fty k).size):=by
 induction f with
 |cons h t _ iht =>
  intro k x vs hk hc
  simp only[zB0] at hc
  obtain⟨us,ws,rfl,h1,h2⟩:=hc
  have hl:=zA1 h1
  cases k with
  |zero=>simp only[Ty.fty,Ty.fget,Ty.foff];rw[← hl,yA7];exact h1
  |succ k =>
   simp only[Ty.flen] at hk
   simp only[Ty.fty,Ty.fget,Ty.foff]
   rw[← hl,zU2]
   exact iht (by omega) h2
 |_=>intro k x vs hk;simp[Ty.flen] at hk
theorem xF0 {χ:Nat→Nat→Nat}{w:World}{f:Ty}:∀ {k:Nat}{x:f.den}{y:(f.fty k).den}{vs ys:List Value},k<f.flen→zB0 χ w f x vs→zB0 χ w (f.fty k) y ys→zB0 χ w f (f.fset k y x) (spl vs (f.foff k) ys):=by
 induction f with
 |cons h t _ iht =>
  intro k x y vs ys hk hc hy
  simp only[zB0] at hc
  obtain⟨us,ws,rfl,h1,h2⟩:=hc
  have hl:=zA1 h1
  cases k with
  |zero =>
   simp only[Ty.fty] at y hy
   have hyl:=zA1 hy
   simp only[Ty.fset,Ty.foff];rw[yJ6 _ _ _ (by omega)];exact⟨ys,ws,rfl,hy,h2⟩
  |succ k =>
   simp only[Ty.flen] at hk
   simp only[Ty.fset,Ty.foff]
   rw[← hl,yC7]
   exact⟨us,_,rfl,h1,iht (by omega) h2 hy⟩
 |_=>intro k x y vs ys hk;simp[Ty.flen] at hk
theorem zB {G:Gh}{w:World}:∀ {c:AVal}{τ:Ty}{vs:List Value},zA2 G w τ c vs→vs.length=τ.size:=by
 intro c
 induction c with
 |val τ' x=>intro τ vs h;simp only[zA2] at h;rw[← h.1];exact zA1 h.2.2
 |nil=>intro τ vs h;simp only[zA2] at h;obtain⟨h1,rfl⟩:=h;cases τ<;>simp[Ty.isSl] at h1;rfl
 |own t l T m=>intro τ vs h;simp only[zA2] at h;obtain⟨rfl,v,rfl,_⟩:=h;rfl
 |agg f a ih=>intro τ vs h;simp only[zA2] at h;obtain⟨rfl,h⟩:=h;have:=ih (τ:=f) h;simpa only[Ty.size] using this
 |nl=>intro τ vs h;simp only[zA2] at h;obtain⟨rfl,rfl⟩:=h;rfl
 |junk=>intro τ vs h;simp only[zA2] at h;obtain⟨h1,v,rfl,_⟩:=h;cases τ<;>simp[Ty.isSl] at h1;rfl
 |cons a b iha ihb=>intro τ vs h;simp only[zA2] at h;obtain⟨h,t,us,ws,rfl,rfl,h1,h2⟩:=h;simp[iha h1,ihb h2,Ty.size]
 |_=>intro τ vs h;simp only[zA2] at h
theorem zN0 {G:Gh}{w:World}{h t:Ty}{c:AVal}{vs:List Value}(hc:zA2 G w (.cons h t) c vs):∃ a b us ws,c=.cons a b∧vs=us++ws∧zA2 G w h a us∧zA2 G w t b ws:=by
 cases c with
 |cons a b=>simp only[zA2] at hc;obtain⟨h',t',us,ws,e,rfl,h1,h2⟩:=hc;injection e with e1 e2;subst e1;subst e2;exact⟨a,b,us,ws,rfl,rfl,h1,h2⟩
 |val τ' x=>simp only[zA2] at hc;obtain⟨rfl,h,_⟩:=hc;simp[Ty.isL] at h
 |nil=>simp[zA2,Ty.isSl] at hc
 |junk=>simp[zA2,Ty.isSl] at hc
 |_=>simp[zA2] at hc
theorem yJ8 {G:Gh}{w:World}{f:Ty}:∀ {c:AVal}{k:Nat}{vs:List Value},k<f.flen→zA2 G w f c vs→zA2 G w (f.fty k) (c.nth k) (seg vs (f.foff k) (f.fty k).size):=by
 induction f with
 |cons h t _ iht =>
  intro c k vs hk hc
  obtain⟨a,b,us,ws,rfl,rfl,h1,h2⟩:=zN0 hc
  have hl:=zB h1
  cases k with
  |zero=>simp only[Ty.fty,AVal.nth,Ty.foff];rw[← hl,yA7];exact h1
  |succ k =>
   simp only[Ty.flen] at hk
   simp only[Ty.fty,AVal.nth,Ty.foff]
   rw[← hl,zU2]
   exact iht (by omega) h2
 |_=>intro c k vs hk;simp[Ty.flen] at hk
theorem zT0 {G:Gh}{w:World}{f:Ty}:∀ {c B:AVal}{k:Nat}{vs ys:List Value},k<f.flen→zA2 G w f c vs→zA2 G w (f.fty k) B ys→zA2 G w f (c.setNth k B) (spl vs (f.foff k) ys):=by
 induction f with
 |cons h t _ iht =>
  intro c B k vs ys hk hc hB
  obtain⟨a,b,us,ws,rfl,rfl,h1,h2⟩:=zN0 hc
  have hl:=zB h1
  cases k with
  |zero =>
   simp only[Ty.fty] at hB
   have hyl:=zB hB
   simp only[AVal.setNth,Ty.foff];rw[yJ6 _ _ _ (by omega)];simp only[zA2];exact⟨h,t,ys,ws,rfl,rfl,hB,h2⟩
  |succ k =>
   simp only[Ty.flen] at hk
   simp only[AVal.setNth,Ty.foff]
   rw[← hl,yC7]
   simp only[zA2]
   exact⟨h,t,us,_,rfl,rfl,h1,iht (by omega) h2 hB⟩
 |_=>intro c B k vs ys hk;simp[Ty.flen] at hk
theorem zC4 {τ:Ty}{T:Nat}(h:zC0 P τ (.inl T)=true):τ.isL=false:=by
 cases τ<;>first|rfl | (simp[zC0] at h)
theorem yV5 {τ:Ty}{x:List Field×Nat}(h:zC0 P τ (.inr x)=true):τ.isL=true:=by
 cases τ<;>first|rfl | (simp[zC0] at h)
theorem zH8:∀ {τ:Ty}{x:Nat ⊕ (List Field×Nat)},zC0 P τ x=true→τ.plain=true:=by
 intro τ
 induction τ with
 |cons h t ihh iht =>
  intro x hx
  rcases x with x|⟨fs,o⟩
  ·simp[zC0] at hx
  ·cases fs with
   |nil=>simp[zC0] at hx
   |cons fd r =>
    simp only[zC0,jB] at hx
    simp[Ty.plain,ihh hx.1.2,iht hx.2,zC4 hx.1.2,yV5 hx.2]
 |st f ih =>
  intro x hx
  rcases x with x|x
  ·obtain⟨fs,_,h⟩:=zP7 hx;simp[Ty.plain,ih h,yV5 h]
  ·simp[zC0] at hx
 |arr n t ih =>
  intro x hx
  rcases x with x|x
  ·obtain⟨e,_,h⟩:=zN hx;simp[Ty.plain,ih h,zC4 h]
  ·simp[zC0] at hx
 |sl t ih =>
  intro x hx
  rcases x with x|x
  ·obtain⟨e,_,h⟩:=zG1 hx;simp[Ty.plain,ih h,zC4 h]
  ·simp[zC0] at hx
 |ptr t ih =>
  intro x hx
  rcases x with x|x
  ·obtain⟨e,_,h⟩:=xM5 hx;simp[Ty.plain,ih h,zC4 h]
  ·simp[zC0] at hx
 |_=>intro x _;rfl
theorem yD0 {f:Ty}:∀ {k:Nat},f.plain=true→k<f.flen→(f.fty k).isL=false∧(f.fty k).plain=true:=by
 induction f with
 |cons h t _ iht =>
  intro k hp hk
  simp only[Ty.plain,jB,jK] at hp
  cases k with
  |zero=>exact⟨hp.1.1.1,hp.1.1.2⟩
  |succ k=>simp only[Ty.flen] at hk;exact iht hp.2 (by omega)
 |_=>intro k _ hk;simp[Ty.flen] at hk
theorem yN0 {G:Gh}{w:World}{f:Ty}:∀ {x:f.den}{vs:List Value},f.isL=true→f.plain=true→zB0 G.χ w f x vs→zA2 G w f (yB5 f x) vs:=by
 induction f with
 |cons h t _ iht =>
  intro x vs hl hp hc
  simp only[Ty.plain,jB,jK] at hp
  simp only[zB0] at hc
  obtain⟨us,ws,rfl,h1,h2⟩:=hc
  simp only[yB5,zA2]
  exact⟨h,t,us,ws,rfl,rfl,⟨rfl,hp.1.1.1,h1⟩,iht hp.1.2 hp.2 h2⟩
 |nl=>intro x vs _ _ hc;simp only[zB0] at hc;simp only[yB5,zA2];exact⟨trivial,hc⟩
 |_=>intro x vs hl;simp[Ty.isL] at hl
theorem zD5 {a b:Ty}{x:a.den}{y:b.den}(h:Ty.cast b x=some y):∃ e:a=b,e ▸ x=y:=by
 unfold Ty.cast at h
 split at h
 ·rename_i hb
  exact⟨Ty.eq_of_beq hb,by injection h⟩
 ·cases h
theorem zD1 {G:Gh}{w:World}{t:Ty}{l:List t.den}{T:Nat}{v:Value}(h:zF4 G w t l T false v):zB0 G.χ w (.sl t) l [v]:=by
 simp only[zB0]
 rcases (yY1 h).2 with ⟨rfl,rfl⟩ | ⟨cap,cur,e,us,rfl,h2,h3,h4,h5,h6,h7,h8⟩
 ·exact⟨none,0,rfl,.inl rfl⟩
 ·refine⟨_,cap,rfl,?_⟩
  refine .inr ⟨G.γ T,0,us,rfl,h3,h6,fun j u hu=>?_⟩
  have hul:=zB3 (k:=t.size) (fun _ _ h=>zA1 h) h6
  have hj:j<l.length*t.size:=by rw[← hul];exact (List.getElem?_eq_some_iff.1 hu).1
  rw[← h7,List.getElem?_take,if_pos hj] at hu
  refine⟨?_,by rw[h8,if_pos ⟨rfl,by omega⟩]⟩
  simp only[World.cell?,h2]
  simpa using hu
theorem zK3 {G:Gh}{w:World}:∀ {A:AVal}{τ:Ty}{x:τ.den}{vs:List Value},AVal.as τ A=some x→zA2 G w τ A vs→zB0 G.χ w τ x vs:=by
 intro A
 induction A with
 |val τ' y =>
  intro τ x vs h ht
  simp only[AVal.as,AVal.asT] at h
  simp only[zA2] at ht
  rw[ht.2.1,jD] at h
  obtain⟨e,rfl⟩:=zD5 h
  subst e
  exact ht.2.2
 |nil =>
  intro τ x vs h ht
  simp only[zA2] at ht
  obtain⟨h1,rfl⟩:=ht
  cases τ with
  |sl t =>
   have h:(some []:Option (List t.den))=some x:=h
   injection h with h
   subst h
   simp only[zB0]
   exact⟨none,0,rfl,.inl (by first|rfl|trivial)⟩
  |_=>simp[Ty.isSl] at h1
 |own t l T m =>
  intro τ x vs h ht
  simp only[AVal.as,AVal.asT] at h
  simp only[zA2] at ht
  obtain⟨rfl,v,rfl,ho⟩:=ht
  cases m with
  |true=>simp only[jE] at h;cases h
  |false =>
   simp only[jD] at h
   obtain⟨e,rfl⟩:=zD5 h
   exact zD1 ho
 |agg f c ih =>
  intro τ x vs h ht
  simp only[zA2] at ht
  obtain⟨rfl,ht⟩:=ht
  simp only[AVal.as,AVal.asT] at h
  cases hb:Ty.beq (.st f) (.st f) with
  |false=>rw[hb,jD] at h;cases h
  |true =>
   rw[hb,jE] at h
   simp only[zB0]
   exact ih h ht
 |nl =>
  intro τ x vs h ht
  simp only[zA2] at ht
  obtain⟨rfl,rfl⟩:=ht
  simp only[zB0]
 |cons a b iha ihb =>
  intro τ x vs h ht
  simp only[zA2] at ht
  obtain⟨h1,t1,us,ws,rfl,rfl,h2,h3⟩:=ht
  simp only[AVal.as,AVal.asT,yV1] at h
  split at h
  ·rename_i y z hy hz
   injection h with h
   subst h
   simp only[zB0]
   exact⟨us,ws,rfl,iha hy h2,ihb hz h3⟩
  ·cases h
 |junk=>intro τ x vs h ht;simp only[AVal.as,AVal.asT] at h;cases h
 |_=>intro τ x vs h ht;simp only[zA2] at ht
theorem zP8 {G:Gh}{w:World}:∀ {p:yI4}{τ:Ty}{c:AVal}{vs:List Value},τ.plain=true→τ.isL=false→zD8 τ p→zA2 G w τ c vs →
  (zA2 G w (τ.pty p) (c.at p) (seg vs (τ.poff p) (τ.pty p).size)∧τ.poff p+(τ.pty p).size≤τ.size∧(τ.pty p).plain=true∧(τ.pty p).isL=false):=by
 intro p
 induction p with
 |nil=>intro τ c vs hp hl _ h;have:=zB h;simp only[Ty.pty,AVal.at,Ty.poff];rw[← this,yJ5];exact⟨h,by omega,hp,hl⟩
 |cons x p ih =>
  intro τ c vs hp hl hk h
  rcases x with k|i
  ·cases τ<;>simp only[zD8] at hk
   rename_i f
   simp only[Ty.plain,jB] at hp
   have hpf:=yD0 hp.2 hk.1
   have hle:=yD hk.1
   have hc:zA2 G w (f.fty k) (c.fld k) (seg vs (f.foff k) (f.fty k).size):=by
    cases c with
    |val τ' x=>simp only[zA2] at h;obtain⟨rfl,_,h⟩:=h;simp only[AVal.fld,zA2];simp only[zB0] at h;exact⟨trivial,hpf.1,zU3 hk.1 h⟩
    |agg f' a=>simp only[zA2] at h;obtain⟨e,h⟩:=h;injection e with e;subst e;simp only[AVal.fld];exact yJ8 hk.1 h
    |nil=>simp[zA2,Ty.isSl] at h
    |junk=>simp[zA2,Ty.isSl] at h
    |_=>simp[zA2] at h
   obtain⟨h1,h2,h3,h4⟩:=ih hpf.2 hpf.1 hk.2 hc
   simp only[Ty.pty,AVal.at,Ty.poff,Ty.size]
   rw[yC6 _ _ _ _ _ h2] at h1
   exact⟨h1,by omega,h3,h4⟩
  ·cases τ<;>simp only[zD8] at hk
   rename_i n t
   simp only[Ty.plain,jB,jK] at hp
   cases c with
   |val τ' x =>
    simp only[zA2] at h
    obtain⟨rfl,_,h⟩:=h
    simp only[zB0] at h
    obtain⟨h1,h2⟩:=h
    have hi:i.toNat<List.length (α:=t.den) x:=by omega
    have hg:=yA8 (k:=t.size) (fun _ _ h=>zA1 h) t.dflt h2 hi
    have hc:zA2 G w t (.val t (List.getD (α:=t.den) x i.toNat t.dflt)) (seg vs (i.toNat*t.size) t.size):=(by simp only[zA2];exact⟨trivial,hp.1,hg⟩)
    obtain⟨h3,h4,h5,h6⟩:=ih hp.2 hp.1 hk.2.2 hc
    simp only[Ty.pty,AVal.at,Ty.poff,Ty.size,AVal.ix]
    rw[yC6 _ _ _ _ _ h4] at h3
    refine⟨h3,?_,h5,h6⟩
    have:i.toNat*t.size+t.size≤n*t.size:=by rw[← Nat.succ_mul];exact jS _ (by omega)
    omega
   |nil=>simp[zA2,Ty.isSl] at h
   |junk=>simp[zA2,Ty.isSl] at h
   |_=>simp[zA2] at h
theorem zP9:∀ {A:AVal}{τ:Ty}{x:τ.den},AVal.as τ A=some x→A.fitsT τ=true:=by
 intro A
 induction A with
 |val τ' y =>
  intro τ x h
  simp only[AVal.as,AVal.asT] at h
  cases hl:τ'.isL with
  |true=>rw[hl,jE] at h;cases h
  |false =>
   rw[hl,jD] at h
   simp only[AVal.fitsT,hl,Bool.not_false,Bool.and_true]
   unfold Ty.cast at h
   split at h
   ·assumption
   ·cases h
 |nil=>intro τ x h;cases τ<;>first|rfl | (simp only[AVal.as,AVal.asT,xT9] at h;cases h)
 |own t l T m =>
  intro τ x h
  simp only[AVal.as,AVal.asT] at h
  cases m with
  |true=>simp only[jE] at h;cases h
  |false =>
   simp only[jD] at h
   simp only[AVal.fitsT]
   unfold Ty.cast at h
   split at h
   ·assumption
   ·cases h
 |agg f c ih =>
  intro τ x h
  simp only[AVal.as,AVal.asT] at h
  cases hb:Ty.beq (.st f) τ with
  |false=>rw[hb,jD] at h;cases h
  |true =>
   rw[hb,jE] at h
   have:=Ty.eq_of_beq hb;subst this
   simp only[AVal.fitsT,hb,Bool.true_and]
   exact ih h
 |nl=>intro τ x h;cases τ<;>first|rfl | (simp only[AVal.as,AVal.asT,xX2] at h;cases h)
 |cons a b iha ihb =>
  intro τ x h
  cases τ with
  |cons h1 t1 =>
   simp only[AVal.as,AVal.asT,yV1] at h
   split at h
   ·rename_i y z hy hz
    simp only[AVal.fitsT,zD7,jB]
    exact⟨iha hy,ihb hz⟩
   ·cases h
  |_=>simp only[AVal.as,AVal.asT,yV1] at h;cases h
 |_=>intro τ x h;simp only[AVal.as,AVal.asT] at h;cases h
theorem zN1:∀ {A:AVal}{τ:Ty},A.fitsT τ=true→A.laxT τ=true:=by
 intro A
 induction A with
 |agg f c ih=>intro τ h;simp only[AVal.fitsT,AVal.laxT,jB] at h ⊢;exact⟨h.1,ih h.2⟩
 |cons a b iha ihb =>
  intro τ h
  cases τ with
  |cons h1 t1=>simp only[AVal.fitsT,AVal.laxT,zD7,jB] at h ⊢;exact⟨iha h.1,ihb h.2⟩
  |_=>simp[AVal.fitsT,zD7] at h
 |val τ' y=>intro τ h;exact h
 |nil=>intro τ h;exact h
 |own t l T m=>intro τ h;exact h
 |nl=>intro τ h;exact h
 |_=>intro τ h;simp[AVal.fitsT] at h
theorem yH {G:Gh}{w:World}{f:Ty}:∀ {c B:AVal}{k:Nat}{vs:List Value},k<f.flen→zA2 G w f c vs→(c.setNth k B).laxT f=true→B.laxT (f.fty k)=true:=by
 induction f with
 |cons h t _ iht =>
  intro c B k vs hk hc hf
  obtain⟨a,b,us,ws,rfl,rfl,h1,h2⟩:=zN0 hc
  cases k with
  |zero=>simp only[AVal.setNth,AVal.laxT,zD7,jB] at hf;exact hf.1
  |succ k =>
   simp only[Ty.flen] at hk
   simp only[AVal.setNth,AVal.laxT,zD7,jB] at hf
   exact iht (by omega) h2 hf.2
 |_=>intro c B k vs hk;simp[Ty.flen] at hk
theorem yV6 {G:Gh}{w:World}:∀ {p:yI4}{τ:Ty}{c B:AVal}{vs ys:List Value},τ.plain=true→τ.isL=false→zD8 τ p→zA2 G w τ c vs→zA2 G w (τ.pty p) B ys →
  (AVal.put p c B).laxT τ=true→zA2 G w τ (AVal.put p c B) (spl vs (τ.poff p) ys):=by
 intro p
 induction p with
 |nil=>intro τ c B vs ys hp hl _ h hB _;simp only[Ty.pty] at hB;have:=zB h;have:=zB hB;simp only[AVal.put,Ty.poff];rw[xR6 _ _ (by omega)];exact hB
 |cons x p ih =>
  intro τ c B vs ys hp hl hk h hB hj
  have hat:=zP8 hp hl hk h
  rcases x with k|i
  ·cases τ<;>simp only[zD8] at hk
   rename_i f
   simp only[Ty.plain,jB] at hp
   have hpf:=yD0 hp.2 hk.1
   have hle:=yD hk.1
   have hyl:=zB hB
   simp only[Ty.pty] at hyl hB hat
   simp only[Ty.poff,Ty.size] at hat ⊢
   have hvl:=zB h
   simp only[Ty.size] at hvl
   cases c with
   |val τ' x =>
    simp only[zA2] at h
    obtain⟨rfl,_,h⟩:=h
    simp only[zB0] at h
    have hg:zA2 G w (f.fty k) (.val (f.fty k) (f.fget k x)) (seg vs (f.foff k) (f.fty k).size):=(by simp only[zA2];exact⟨trivial,hpf.1,zU3 hk.1 h⟩)
    have hat2:=zP8 hpf.2 hpf.1 hk.2 hg
    simp only[AVal.put] at hj ⊢
    have hC:=fun hn=>ih (B:=B) hpf.2 hpf.1 hk.2 hg hB hn
    cases hy:AVal.as (f.fty k) (AVal.put p (.val (f.fty k) (f.fget k x)) B) with
    |some y =>
     simp only[hy] at hj ⊢
     have:=xF0 hk.1 h (zK3 hy (hC (zN1 (zP9 hy))))
     rw[yC8 _ _ _ _ _ (by omega) (by omega)] at this
     simp only[zA2]
     exact⟨trivial,rfl,by simpa only[zB0] using this⟩
    |none =>
     simp only[hy] at hj ⊢
     have hex:=yN0 hp.1 hp.2 h
     simp only[AVal.laxT,jB] at hj
     have:=zT0 hk.1 hex (hC (yH hk.1 hex hj.2))
     rw[yC8 _ _ _ _ _ (by omega) (by omega)] at this
     simp only[zA2]
     exact⟨trivial,this⟩
   |agg f' a =>
    simp only[zA2] at h
    obtain⟨e,h⟩:=h
    injection e with e;subst e
    have hg:=yJ8 hk.1 h
    have hat2:=zP8 hpf.2 hpf.1 hk.2 hg
    simp only[AVal.put] at hj ⊢
    simp only[AVal.laxT,jB] at hj
    have:=zT0 hk.1 h (ih hpf.2 hpf.1 hk.2 hg hB (yH hk.1 h hj.2))
    rw[yC8 _ _ _ _ _ (by omega) (by omega)] at this
    simp only[zA2]
    exact⟨trivial,this⟩
   |nil=>simp[zA2,Ty.isSl] at h
   |junk=>simp[zA2,Ty.isSl] at h
   |_=>simp[zA2] at h
  ·cases τ<;>simp only[zD8] at hk
   rename_i n t
   simp only[Ty.plain,jB,jK] at hp
   have hyl:=zB hB
   have hvl:=zB h
   simp only[Ty.pty,Ty.size] at hyl hB hvl
   cases c with
   |val τ' x =>
    simp only[zA2] at h
    obtain⟨rfl,_,h⟩:=h
    simp only[zB0] at h
    obtain⟨h1,h2⟩:=h
    have hi:i.toNat<List.length (α:=t.den) x:=by omega
    have hg:=yA8 (k:=t.size) (fun _ _ h=>zA1 h) t.dflt h2 hi
    have hc:zA2 G w t (.val t (List.getD (α:=t.den) x i.toNat t.dflt)) (seg vs (i.toNat*t.size) t.size):=(by simp only[zA2];exact⟨trivial,hp.1,hg⟩)
    have hat2:=zP8 hp.2 hp.1 hk.2.2 hc
    have hsz:i.toNat*t.size+t.size≤n*t.size:=by rw[← Nat.succ_mul];exact jS _ (by omega)
    simp only[AVal.put] at hj ⊢
    cases hy:AVal.as t (AVal.put p (.val t (List.getD (α:=t.den) x i.toNat t.dflt)) B) with
    |none=>simp only[hy,AVal.laxT] at hj;cases hj
    |some y =>
     simp only[hy] at hj ⊢
     have hn:=zN1 (zP9 hy)
     have:=yJ7 (R:=zB0 G.χ w t) (k:=t.size) (fun _ _ h=>zA1 h) (zK3 hy (ih hp.2 hp.1 hk.2.2 hc hB hn)) h2 hi
     rw[yC8 _ _ _ _ _ (by omega) (by omega)] at this
     simp only[zA2,Ty.poff]
     exact⟨trivial,rfl,by simp only[zB0];exact⟨(List.length_set (α:=t.den)).trans h1,this⟩⟩
   |nil=>simp[zA2,Ty.isSl] at h
   |junk=>simp[zA2,Ty.isSl] at h
   |_=>simp[zA2] at h
end Go.Am
namespace Go.Am
open Go Go.RowKit
variable {P:Program}{c:Ctx}{G:Gh}{w:World}{tm:Array Value}
theorem zC (hty:zL4 P c.tys=true){T:Nat}{τ:Ty}(h:c.is T τ=true):zC0 P τ (.inl T)=true:=by
 simp only[Ctx.is,jB] at h
 have e:=Ty.eq_of_beq h.1
 rw[e]
 exact zJ0 hty T (by rw[← e];intro h';rw[h'] at h;simp[xU] at h)
theorem VRep_int {χ:Nat→Nat→Nat}{k:IntKind}{n:Int}{v:Value}:zP0 χ w (.int k) n v↔v=.int k n:=by
 constructor
 ·rintro⟨vs,h1,h2⟩
  simp only[zB0] at h1
  simp only[Ty.isAgg,jD] at h2
  rw[h1] at h2
  injection h2 with h2 _
  exact h2.symm
 ·rintro rfl
  exact⟨[.int k n],by simp only[zB0],by simp[Ty.isAgg]⟩
theorem VRep_bool {χ:Nat→Nat→Nat}{b:Bool}{v:Value}:zP0 χ w .bool b v↔v=.bool b:=by
 constructor
 ·rintro⟨vs,h1,h2⟩
  simp only[zB0] at h1
  simp only[Ty.isAgg,jD] at h2
  rw[h1] at h2
  injection h2 with h2 _
  exact h2.symm
 ·rintro rfl
  exact⟨[.bool b],by simp only[zB0],by simp[Ty.isAgg]⟩
theorem VRep_str {χ:Nat→Nat→Nat}{s:List UInt8}{v:Value}:zP0 χ w .str s v↔v=.string ⟨s.toArray⟩:=by
 constructor
 ·rintro⟨vs,h1,h2⟩
  simp only[zB0] at h1
  simp only[Ty.isAgg,jD] at h2
  rw[h1] at h2
  injection h2 with h2 _
  exact h2.symm
 ·rintro rfl
  exact⟨[.string ⟨s.toArray⟩],by simp only[zB0],by simp[Ty.isAgg]⟩
theorem zC1 {χ:Nat→Nat→Nat}{τ:Ty}{x:τ.den}{v:Value}(h:τ.isAgg=false):zP0 χ w τ x v↔zB0 χ w τ x [v]:=by
 constructor
 ·rintro⟨vs,h1,h2⟩
  rw[h,jD] at h2
  rw[← h2];exact h1
 ·intro h1
  exact⟨[v],h1,by rw[h,jD]⟩
theorem zF9 {χ:Nat→Nat→Nat}{τ:Ty}{x:τ.den}{v:Value}(h:τ.isAgg=true):zP0 χ w τ x v↔∃ vs,v=.agg vs.toArray∧zB0 χ w τ x vs:=by
 constructor
 ·rintro⟨vs,h1,h2⟩
  rw[h,jE] at h2
  exact⟨vs,h2,h1⟩
 ·rintro⟨vs,h1,h2⟩
  exact⟨vs,h2,by rw[h,jE];exact h1⟩
def zP (τ:Ty)(us:List Value)(u:Value):Prop:=bif τ.isAgg then u=.agg us.toArray else us=[u]
theorem yD1 {τ:Ty}{A:AVal}{us:List Value}{u:Value}(h:zA2 G w τ A us)(hl:τ.isL=false)(hu:zP τ us u):zA G w tm none A u:=by
 unfold zP at hu
 cases A with
 |val τ' x=>simp only[zA2] at h;obtain⟨rfl,h1,h2⟩:=h;simp only[zA];exact⟨us,h2,hu⟩
 |nil=>simp only[zA2] at h;obtain⟨h1,rfl⟩:=h;cases τ<;>simp[Ty.isSl] at h1;simp only[Ty.isAgg,jD] at hu;simp only[zA];injection hu with hu _;exact hu.symm
 |own t l T m=>simp only[zA2] at h;obtain⟨rfl,v,rfl,h1⟩:=h;simp only[Ty.isAgg,jD] at hu;injection hu with hu _;subst hu;simp only[zA];exact h1
 |agg f a=>simp only[zA2] at h;obtain⟨rfl,h1⟩:=h;simp only[Ty.isAgg,jE] at hu;simp only[zA];exact⟨us,hu,h1⟩
 |nl=>simp only[zA2] at h;obtain⟨rfl,_⟩:=h;simp[Ty.isL] at hl
 |cons a b=>simp only[zA2] at h;obtain⟨_,_,_,_,rfl,_⟩:=h;simp[Ty.isL] at hl
 |junk=>simp only[zA]
 |_=>simp only[zA2] at h
theorem zQ {τ:Ty}{A:AVal}{u:Value}(h:zA G w tm none A u)(hf:A.fitsT τ=true)(hl:τ.isL=false):∃ us,zA2 G w τ A us∧zP τ us u:=by
 unfold zP
 cases A with
 |val τ' x =>
  simp only[AVal.fitsT,jB,jK] at hf
  have e:=Ty.eq_of_beq hf.1;subst e
  simp only[zA] at h
  obtain⟨us,h1,h2⟩:=h
  exact⟨us,by simp only[zA2];exact⟨trivial,hl,h1⟩,h2⟩
 |nil =>
  simp only[zA] at h;subst h
  simp only[AVal.fitsT] at hf
  cases τ<;>simp[Ty.isSl] at hf
  exact⟨[.slice none 0 0],by simp[zA2,Ty.isSl],by simp[Ty.isAgg]⟩
 |own t l T m =>
  simp only[AVal.fitsT] at hf
  have e:=Ty.eq_of_beq hf;subst e
  simp only[zA] at h
  exact⟨[u],by simp only[zA2];exact⟨trivial,u,rfl,h⟩,by simp[Ty.isAgg]⟩
 |agg f a =>
  simp only[AVal.fitsT,jB] at hf
  have e:=Ty.eq_of_beq hf.1;subst e
  simp only[zA] at h
  obtain⟨us,h1,h2⟩:=h
  exact⟨us,by simp only[zA2];exact⟨trivial,h2⟩,by simp[Ty.isAgg,h1]⟩
 |nl=>simp only[AVal.fitsT] at hf;have e:=Ty.eq_of_beq hf;subst e;simp[Ty.isL] at hl
 |cons a b=>simp only[AVal.fitsT] at hf;cases τ<;>simp[zD7] at hf;simp[Ty.isL] at hl
 |_=>simp[AVal.fitsT] at hf
theorem zH9 {τ:Ty}{A:AVal}{x:τ.den}{u:Value}(h:AVal.as τ A=some x)(hl:τ.isL=false)(hr:zA G w tm none A u):zP0 G.χ w τ x u:=by
 obtain⟨us,h1,h2⟩:=zQ hr (zP9 h) hl
 exact⟨us,zK3 h h1,h2⟩
theorem yV7 {τ:Ty}{T:Nat}(h:zC0 P τ (.inl T)=true)(ha:τ.isAgg=false):τ.size=1:=by
 cases τ<;>simp[Ty.isAgg,zC0] at h ha<;>rfl
theorem yD2 {T:Nat}{d:TypeDesc}(hu:P.underlying T=some d)(w:World):(isAgg T).run P w=.ok d.isRow w:=by
 unfold isAgg
 rw[Sem.run_bind,run_underlying hu w]
 cases d<;>simp[TypeDesc.isRow]
theorem zI3 {τ:Ty}{T b o:Nat}{us:List Value}(hT:zC0 P τ (.inl T)=true)(hr:w.rangeAt b o us)(hl:us.length=τ.size) :
  ∃ u,(Instr.loadAt T (.pointer (some ⟨b,o,none⟩))).run P w=.ok u w∧zP τ us u:=by
 obtain⟨⟨i,z,hi,hs,_⟩,d,hu,hd⟩:=zF5 hT
 unfold zP
 cases ha:τ.isAgg with
 |true=>exact⟨_,run_loadAt_mid w b o T us d hr hu (by rw[hd,ha]) (by simp[hi,hs,hl]),by simp⟩
 |false =>
  have h1:=yV7 hT ha
  rw[h1] at hl
  obtain⟨u,rfl⟩:∃ u,us=[u]:=by
   cases us with
   |nil=>simp at hl
   |cons x r=>cases r with
    |nil=>exact⟨x,rfl⟩
    |cons _ _=>simp at hl
  refine⟨u,?_,by simp⟩
  have hc:=hr 0 u rfl
  have hg:=yD2 hu w
  rw[hd,ha] at hg
  simp only[Nat.add_zero] at hc
  simp only[Instr.loadAt,Instr.sureAddr,Sem.run_bind,Sem.run_pure,Result.andThen_ok,loadVar,hg]
  simp[hc]
theorem yR3 {χ:Nat→Nat→Nat}{b o:Nat}{us:List Value}(h:yJ3 χ w b o us):w.rangeAt b o us:=fun j v hv=>(h j v hv).1
theorem yR4 {b:Nat}{cur:Array Value}{e:TypeId}{fr:Nat×Nat}(h:w.heap[b]?=some (.cells cur e fr))(o n:Nat):w.rangeAt b o (seg cur.toList o n):=by
 intro j v hv
 rw[seg_getElem?] at hv
 split at hv
 ·simp only[World.cell?,h];simpa using hv
 ·cases hv
def zC8:AVal→Option Nat
 |.ref s _ _=>some s
 |.eref s _ _ _ _=>some s
 |.rref s=>some s
 |_=>none
theorem zF3 {s:Nat}{τ:Ty}{k:AVal}{u:Value}(h:zA G w tm (some s) (.box τ k) u):zZ3 τ∧∃ cur e,w.heap[G.β s]?=some (.cells cur e (0,0))∧zA2 G w τ k cur.toList∧(∀ o,G.χ (G.β s) o=zG8 s):=by
 simp only[zA] at h
 exact h.2
def xX3 (P:Program)(T:Nat):Bool:=
 match P.info? T,P.underlying T with
 |some i,some d=>Nat.beq i.size 1&&!d.isRow&&(match i.zero with|some z=>Nat.beq z.cells.size 1|none=>false)
 |_,_=>false
def yN1 (P:Program)(l:List Nat):Bool:=l.all (xX3 P)
theorem yR5 {l:List Nat}(h:yN1 P l=true){T:Nat}(hT:l.any (Nat.beq T)=true):∃ i d z u,P.info? T=some i∧P.underlying T=some d∧i.size=1∧d.isRow=false∧i.zero=some z∧z.cells=#[u]:=by
 obtain⟨T',hm,hb⟩:=List.any_eq_true.1 hT
 have:=jC hb
 subst this
 have:=List.all_eq_true.1 h _ hm
 unfold xX3 at this
 split at this
 ·rename_i i d hi hd
  simp only[jB,jK] at this
  obtain⟨⟨h1,h2⟩,h3⟩:=this
  split at h3
  ·rename_i z hz
   have h3:=jC h3
   obtain⟨u,hu⟩:=Array.size_eq_one_iff.1 h3
   exact⟨i,d,z,u,hi,hd,jC h1,h2,hz,hu⟩
  ·cases h3
 ·cases this
theorem xM6 {f:Nat}{caps:List (Option (Nat×Ty))}{v:Value}(hv:zA G w tm none (.fptr f caps) v):∀ r,zA G w tm none (xR3 f caps r) (.tuple (r.map (yM G v)).toArray):=by
 intro r
 induction r with
 |nil=>simp only[xR3,zA,List.map_nil]
 |cons q r ih =>
  cases q with
  |none=>simp only[xR3];rw[zA];exact⟨v,r.map (yM G v),by simp[yM],hv,ih⟩
  |some q =>
   obtain⟨k,τ⟩:=q
   simp only[xR3]
   rw[zA]
   refine⟨.pointer (some ⟨G.β k,0,none⟩),r.map (yM G v),by simp[yM],?_,ih⟩
   simp only[zA]
   exact⟨by simp only[zD8],by simp[Ty.poff]⟩
theorem yD3 (hty:zL4 P c.tys=true)(hft:yN1 P c.fts=true){T:Nat}{x k A:AVal}{v:Value}{p:List Prop}(hx:zA G w tm none x v)(hk:∀ s,zC8 x=some s→∃ u,zA G w tm (some s) k u)
  (h:yI9 c T x k=some (p,A)) (hp:∀ q∈p,q):∃ u,(Instr.loadAt T v).run P w=.ok u w∧zA G w tm none A u:=by
 cases x with
 |fptr f caps =>
  simp only[yI9] at h
  cases hb:c.fts.any (Nat.beq T) with
  |false=>simp[hb] at h
  |true =>
   simp only[hb,jE,jA,jG] at h
   obtain⟨rfl,rfl⟩:=h
   obtain⟨i,d,z,u,hi,hu,_,hrow,_,_⟩:=yR5 hft hb
   have hv:=hx
   simp only[zA] at hx
   obtain⟨b,rfl,_,hc⟩:=hx
   refine⟨.func (.func f) #[] (caps.map (yM G (.pointer (some ⟨b,0,none⟩)))).toArray,?_,?_⟩
   ·have hg:=yD2 hu w
    rw[hrow] at hg
    simp only[Instr.loadAt,Instr.sureAddr,Sem.run_bind,Sem.run_pure,Result.andThen_ok,loadVar,hg]
    simp[hc]
   ·rw[zA]
    exact⟨_,rfl,xM6 hv caps⟩
 |val τ x =>
  cases τ with
  |ptr t =>
   simp only[yI9] at h
   cases hi:c.is T t with
   |false=>simp[hi] at h
   |true =>
    simp only[hi,jE,jA,jG] at h
    obtain⟨rfl,rfl⟩:=h
    have hT:=zC hty hi
    simp only[zA] at hx
    rw[zC1 rfl] at hx
    simp only[zB0] at hx
    obtain⟨b,o,us,hv,h1,h2⟩:=hx
    injection hv with hv _
    subst hv
    obtain⟨u,h3,h4⟩:=zI3 hT (yR3 h2) (zA1 h1)
    exact⟨u,h3,by simp only[zA];exact⟨us,h1,h4⟩⟩
  |_=>simp[yI9] at h
 |ref s τ q =>
  simp only[yI9] at h
  cases k with
  |box τ' k =>
   simp only at h
   cases hc:(Ty.beq τ' τ&&c.is T (τ.pty q)&&AVal.fits (τ.pty q) (k.at q)) with
   |false=>simp[hc] at h
   |true =>
    simp only[hc,jE,jA,jG] at h
    obtain⟨rfl,rfl⟩:=h
    simp only[jB] at hc
    have e:=Ty.eq_of_beq hc.1.1;subst e
    have hT:=zC hty hc.1.2
    obtain⟨u,hu⟩:=hk s rfl
    obtain⟨⟨hpl,hnl⟩,cur,e,h1,h2,h3⟩:=zF3 hu
    simp only[zA] at hx
    obtain⟨hx1,rfl⟩:=hx
    obtain⟨h4,h5,h6,h7⟩:=zP8 hpl hnl hx1 h2
    obtain⟨u,h8,h9⟩:=zI3 hT (yR4 h1 _ _) (zB h4)
    exact⟨u,h8,yD1 h4 h7 h9⟩
  |_=>simp at h
 |eref s U t i q =>
  simp only[yI9] at h
  cases k with
  |ownh t' l U' j V m =>
   simp only at h
   cases hc:(Ty.beq (.sl t') t&&Nat.beq U' U&&c.is T (.sl t')&&q.isEmpty&&!(Nat.beq U' V)) with
   |false=>simp only[hc,jD] at h;cases h
   |true =>
    simp only[hc,jE,jA,jG] at h
    obtain⟨rfl,rfl⟩:=h
    simp only[jB] at hc
    obtain⟨hc,hUV⟩:=hc
    have e:=Ty.eq_of_beq hc.1.1.1;subst e
    have e:=jC hc.1.1.2;subst e
    have hq:q=[]:=List.isEmpty_iff.1 hc.2
    subst hq
    have hT:=zC hty hc.1.2
    obtain⟨u,hu⟩:=hk s rfl
    simp only[zA] at hu hx
    obtain⟨hx0,hx1,rfl⟩:=hx
    obtain⟨hij,hi⟩:=hp _ (jH.2 rfl)
    have hi':i.toNat<List.length (α:=List t'.den) l:=by omega
    obtain⟨hv,⟨he,_⟩ | ⟨hne,⟨_,h0⟩ | ⟨cap,cur,e,h1,h2,h3,h4,h5,h6,h7⟩⟩⟩:=hu
    ·subst he;simp at hUV
    ·rw[h0] at hi';simp at hi'
    ·obtain⟨u1,hu1,hr⟩:=h7 i.toNat _ (jL hi')
     rw[if_pos hij] at hr
     have hr':w.rangeAt (G.γ U') (i.toNat*(Ty.sl t').size+(Ty.sl t').poff []) [u1]:=by
      intro k v hv
      cases k with
      |zero=>simp at hv;subst hv;simp only[Ty.size,Ty.poff,World.cell?,h2];simpa using hu1
      |succ k=>simp at hv
     obtain⟨u2,h13,h14⟩:=zI3 hT hr' rfl
     refine⟨u2,h13,?_⟩
     simp only[zP,Ty.isAgg,jD] at h14
     injection h14 with h14 _
     subst h14
     simp only[zA]
     refine .inl ?_
     rw[← hij,jM,jL hi']
     exact hr
  |own t' l U' m =>
   simp only at h
   cases hc:(Ty.beq t' t&&Nat.beq U' U&&c.is T (t.pty q)&&AVal.fits (t.pty q) ((AVal.val t' (List.getD (α:=t'.den) l i.toNat t'.dflt)).at q)) with
   |false=>simp only[hc,jD] at h;cases h
   |true =>
    simp only[hc,jE,jA,jG] at h
    obtain⟨rfl,rfl⟩:=h
    simp only[jB] at hc
    have e:=Ty.eq_of_beq hc.1.1.1;subst e
    have e:=jC hc.1.1.2;subst e
    have hT:=zC hty hc.1.2
    obtain⟨u,hu⟩:=hk s rfl
    simp only[zA] at hu hx
    obtain⟨hx0,hx1,rfl⟩:=hx
    have hi:=hp _ (jH.2 rfl)
    have hi':i.toNat<l.length:=by omega
    obtain⟨⟨hpl,hnl⟩,hu⟩:=zB4 hu (yV4 hx1 hT)
    rcases hu with ⟨_,rfl⟩ | ⟨cap,cur,e,us,_,h2,h3,h4,h5,h6,h7,h8⟩
    ·simp at hi'
    ·have hul:=zB3 (k:=t'.size) (fun _ _ h=>zA1 h) h6
     have hg:=yA8 (k:=t'.size) (fun _ _ h=>zA1 h) t'.dflt h6 hi'
     have hsz:i.toNat*t'.size+t'.size≤l.length*t'.size:=by rw[← Nat.succ_mul];exact jS _ (by omega)
     have hc2:zA2 G w t' (.val t' (List.getD (α:=t'.den) l i.toNat t'.dflt)) (seg us (i.toNat*t'.size) t'.size):=by simp only[zA2];exact⟨trivial,hnl,hg⟩
     obtain⟨h9,h10,h11,h12⟩:=zP8 hpl hnl hx1 hc2
     rw[yC6 _ _ _ _ _ h10] at h9
     have hr:w.rangeAt (G.γ U') (i.toNat*t'.size+t'.poff q) (seg us (i.toNat*t'.size+t'.poff q) (t'.pty q).size):=by
      intro j v hv
      rw[seg_getElem?] at hv
      split at hv
      ·rw[← h7,List.getElem?_take] at hv
       split at hv
       ·simp only[World.cell?,h2];simpa using hv
       ·cases hv
      ·cases hv
     obtain⟨u,h13,h14⟩:=zI3 hT hr (zB h9)
     exact⟨u,h13,yD1 h9 h12 h14⟩
  |_=>simp at h
 |_=>simp[yI9] at h
end Go.Am
namespace Go.Am
open Go Go.RowKit
variable {P:Program}{c:Ctx}{G:Gh}{w:World}{tm:Array Value}
theorem zR0 {s:Option Nat}{t:Ty}{x:t.den}{b o:Nat}{us:List Value}(h1:zB0 G.χ w t x us)(h2:yJ3 G.χ w b o us):zA G w tm s (.val (.ptr t) x) (.pointer (some ⟨b,o,none⟩)):=by
 simp only[zA]
 refine (zC1 rfl).2 ?_
 simp only[zB0]
 exact⟨b,o,us,rfl,h1,h2⟩
theorem zN2 {χ:Nat→Nat→Nat}{t:Ty}{l:List t.den}{us:List Value}{i:Nat}(h:zJ1 (zB0 χ w t) l us)(hi:i<l.length):zB0 χ w t (l.getD i t.dflt) (seg us (i*t.size) t.size):=
 yA8 (R:=zB0 χ w t) (k:=t.size) (fun _ _ h=>zA1 h) t.dflt h hi
theorem xF1 (s:List UInt8)(n:Nat)(h:n<s.length):((⟨s.toArray⟩:ByteArray))[n]?=some (s.getD n 0):=by
 rw[jM,jL h]
 rw[getElem?_pos (c:=(⟨s.toArray⟩:ByteArray)) (i:=n) (by simpa[ByteArray.size] using h)]
 rfl
theorem zD2 {τ:Ty}{T:Nat}(h:zC0 P τ (.inl T)=true)(w:World):(sizeOf T).run P w=.ok τ.size w:=by
 obtain⟨⟨i,z,hi,hs,_⟩,_⟩:=zF5 h
 simp[sizeOf,typeInfo,hi,hs]
theorem zU4 {χ:Nat→Nat→Nat}{b o:Nat}{us:List Value}(h:yJ3 χ w b o us)(q n:Nat):yJ3 χ w b (o+q) (seg us q n):=by
 intro j v hv
 rw[seg_getElem?] at hv
 split at hv
 ·have:=h _ _ hv
  rw[← Nat.add_assoc] at this
  exact this
 ·cases hv
theorem zN3 {p:yI4}:∀ {τ:Ty}{x:Nat ⊕ Int},zD8 τ p→τ.poff (p++[x])=τ.poff p+(τ.pty p).poff [x]:=by
 induction p with
 |nil=>intro τ x _;simp[Ty.poff,Ty.pty]
 |cons y p ih =>
  intro τ x h
  rcases y with k|i
  ·cases τ<;>simp only[zD8] at h
   simp only[List.cons_append,Ty.pty,Ty.poff];rw[ih h.2];omega
  ·cases τ<;>simp only[zD8] at h
   simp only[List.cons_append,Ty.pty,Ty.poff];rw[ih h.2.2];omega
theorem zJ4 {p:yI4}:∀ {τ:Ty}{x:Nat ⊕ Int},zD8 τ p→zD8 (τ.pty p) [x]→zD8 τ (p++[x]):=by
 induction p with
 |nil=>intro τ x _ h;exact h
 |cons y p ih =>
  intro τ x h hx
  rcases y with k|i
  ·cases τ<;>simp only[zD8] at h
   simp only[List.cons_append,zD8];exact⟨h.1,ih h.2 hx⟩
  ·cases τ<;>simp only[zD8] at h
   simp only[List.cons_append,zD8];exact⟨h.1,h.2.1,ih h.2.2 hx⟩
theorem zT1 {f:Ty}{T b o k:Nat}(hT:zC0 P (.st f) (.inl T)=true)(hk:k<f.flen)(hs:0<(f.fty k).size)(w:World) :
  (Instr.fieldAt T (.pointer (some ⟨b,o,none⟩)) k).run P w=.ok (.pointer (some ⟨b,o+f.foff k,none⟩)) w:=by
 obtain⟨fs,h1,h2⟩:=zP7 hT
 obtain⟨fd,h3,h4,h5,_⟩:=zW2 h2 hk
 rw[Array.getElem?_toList] at h3
 have h6:=zD2 h5 w
 simp only[Instr.fieldAt,Sem.run_bind,run_underlying h1 w,Result.andThen_ok,h3,Instr.sureAddr,Sem.run_pure,fieldPlace,h6]
 rw[if_neg (by omega)]
 simp[Addr.add_mid,h4]
theorem zZ4 (hty:zL4 P c.tys=true){T k:Nat}{x A:AVal}{v:Value}{p:List Prop}(hx:zA G w tm none x v)(h:zG4 c T x k=some (p,A)) :
  ∃ u,(Instr.fieldAt T v k).run P w=.ok u w∧zA G w tm none A u:=by
 cases x with
 |val τ x =>
  cases τ with
  |ptr t =>
   cases t with
   |st f =>
    simp only[zG4] at h
    cases hi:(c.is T (.st f)&&Nat.blt k f.flen&&Nat.blt 0 (f.fty k).size) with
    |false=>simp[hi] at h
    |true =>
     simp only[hi,jE,jA,jG] at h
     obtain⟨rfl,rfl⟩:=h
     simp only[jB] at hi
     have hT:=zC hty hi.1.1
     have hk:k<f.flen:=jR hi.1.2
     have hs:0<(f.fty k).size:=jR hi.2
     simp only[zA] at hx
     rw[zC1 rfl] at hx
     simp only[zB0] at hx
     obtain⟨b,o,us,hv,h1,h2⟩:=hx
     injection hv with hv _
     subst hv
     refine⟨_,zT1 hT hk hs w,?_⟩
     exact zR0 (zU3 hk h1) (zU4 h2 _ _)
   |_=>simp[zG4] at h
  |_=>simp[zG4] at h
 |ref s τ q =>
  simp only[zG4] at h
  split at h
  ·rename_i f hf
   cases hi:(c.is T (.st f)&&Nat.blt k f.flen&&Nat.blt 0 (f.fty k).size) with
   |false=>simp[hi] at h
   |true =>
    simp only[hi,jE,jA,jG] at h
    obtain⟨rfl,rfl⟩:=h
    simp only[jB] at hi
    have hT:=zC hty hi.1.1
    have hk:k<f.flen:=jR hi.1.2
    have hs:0<(f.fty k).size:=jR hi.2
    simp only[zA] at hx
    obtain⟨hq,rfl⟩:=hx
    refine⟨_,zT1 hT hk hs w,?_⟩
    simp only[zA]
    refine⟨zJ4 hq (by rw[hf];simp only[zD8];exact⟨hk,trivial⟩),?_⟩
    rw[zN3 hq,hf]
    simp[Ty.poff]
  ·cases h
 |eref s U t i q =>
  simp only[zG4] at h
  split at h
  ·rename_i f hf
   cases hi:(c.is T (.st f)&&Nat.blt k f.flen&&Nat.blt 0 (f.fty k).size) with
   |false=>simp[hi] at h
   |true =>
    simp only[hi,jE,jA,jG] at h
    obtain⟨rfl,rfl⟩:=h
    simp only[jB] at hi
    have hT:=zC hty hi.1.1
    have hk:k<f.flen:=jR hi.1.2
    have hs:0<(f.fty k).size:=jR hi.2
    simp only[zA] at hx
    obtain⟨h0,hq,rfl⟩:=hx
    refine⟨_,zT1 hT hk hs w,?_⟩
    simp only[zA]
    refine⟨h0,zJ4 hq (by rw[hf];simp only[zD8];exact⟨hk,trivial⟩),?_⟩
    rw[zN3 hq,hf]
    simp[Ty.poff,Nat.add_assoc]
  ·cases h
 |_=>simp[zG4] at h
theorem zH1 {ix:Operand}{i n:Int}(h:∀ q∈zP3 ix i n,q):0≤i∧i<n:=by
 unfold zP3 at h
 split at h<;>exact h _ (jH.2 rfl)
theorem zI4 {t:Ty}{T:Nat}{k:IntKind}{i:Int}{a:Option Addr}{b o len cap:Nat}(hT:zC0 P (.sl t) (.inl T)=true)(ha:a=some ⟨b,o,none⟩)(hi:0≤i∧i<(len:Int))(w:World) :
  (Instr.indexAt T (.slice a len cap) (.int k i)).run P w=.ok (.pointer (some ⟨b,o+i.toNat*t.size,none⟩)) w:=by
 obtain⟨e,h1,h2⟩:=zG1 hT
 have h3:=zD2 h2 w
 subst ha
 simp only[Instr.indexAt,asIntOf,Sem.run_bind,Sem.run_pure,Result.andThen_ok,run_underlying h1 w]
 simp[hi,h3,Addr.add_mid]
theorem zK4 {t:Ty}{T n:Nat}{k:IntKind}{i:Int}{b o:Nat}(hT:zC0 P (.arr n t) (.inl T)=true)(hi:0≤i∧i<(n:Int))(w:World) :
  (Instr.indexAt T (.pointer (some ⟨b,o,none⟩)) (.int k i)).run P w=.ok (.pointer (some ⟨b,o+i.toNat*t.size,none⟩)) w:=by
 obtain⟨e,h1,h2⟩:=zN hT
 have h3:=zD2 h2 w
 simp only[Instr.indexAt,asIntOf,Sem.run_bind,Sem.run_pure,Result.andThen_ok,run_underlying h1 w,Instr.sureAddr]
 simp[hi,h3,Addr.add_mid]
theorem zZ5 (hty:zL4 P c.tys=true){T s:Nat}{x y A:AVal}{v u:Value}{ix:Operand}{p:List Prop}(hx:zA G w tm none x v)(hy:zA G w tm none y u)
  (h:zV8 c T x s y ix=some (p,A)) (hp:∀ q∈p,q):∃ r,(Instr.indexAt T v u).run P w=.ok r w∧zA G w tm none A r:=by
 have hy':∀ k (i:Int),y=.val (.int k) i→u=.int k i:=by rintro k i rfl;simp only[zA] at hy;exact VRep_int.1 hy
 unfold zV8 at h
 split at h
 ·rename_i t l k i
  have:=hy' _ _ rfl;subst this
  cases hi:c.is T (.sl t) with
  |false=>simp[hi] at h
  |true =>
   simp only[hi,jE,jA,jG] at h
   obtain⟨rfl,rfl⟩:=h
   have hb:=zH1 hp
   have hT:=zC hty hi
   simp only[zA] at hx
   rw[zC1 rfl] at hx
   simp only[zB0] at hx
   obtain⟨a,cap,hv,hx⟩:=hx
   injection hv with hv _
   subst hv
   rcases hx with rfl|⟨b,o,us,ha,h1,h2,h3⟩
   ·simp at hb;omega
   ·refine⟨_,zI4 hT ha hb w,?_⟩
    exact zR0 (zN2 h2 (by omega)) (zU4 h3 _ _)
 ·rename_i t l U m k i
  have:=hy' _ _ rfl;subst this
  cases hi:c.is T (.sl t) with
  |false=>simp[hi] at h
  |true =>
   simp only[hi,jE] at h
   have hT:=zC hty hi
   cases m with
   |true =>
    simp only[jE,jA,jG] at h
    obtain⟨rfl,rfl⟩:=h
    have hb:=zH1 hp
    simp only[zA] at hx
    rcases (zB4 hx (yA6 hT)).2 with ⟨_,rfl⟩ | ⟨cap,cur,e,us,rfl,h2,h3,h4,h5,h6,h7,h8⟩
    ·simp at hb;omega
    ·refine⟨_,zI4 hT rfl hb w,?_⟩
     simp only[zA]
     exact⟨hb.1,trivial,by simp[Ty.poff]⟩
   |false =>
    simp only[jD,jA,jG] at h
    obtain⟨rfl,rfl⟩:=h
    have hb:=zH1 hp
    simp only[zA] at hx
    have hx2:=zD1 hx
    simp only[zB0] at hx2
    obtain⟨a,cap,hv,hx3⟩:=hx2
    injection hv with hv _
    subst hv
    rcases hx3 with he|⟨b,o,us,ha,h1,h2,h3⟩
    ·rw[he] at hb;simp at hb;omega
    ·refine⟨_,zI4 hT ha hb w,?_⟩
     exact zR0 (zN2 h2 (by omega)) (zU4 h3 _ _)
 ·rename_i t l U j V m k i
  have:=hy' _ _ rfl;subst this
  cases hi:(c.is T (.sl (.sl t))&&!(Nat.beq U V)) with
  |false=>simp[hi] at h
  |true =>
   simp only[hi,jE,jA,jG] at h
   obtain⟨rfl,rfl⟩:=h
   simp only[jB] at hi
   obtain⟨hi,hUV⟩:=hi
   have hT:=zC hty hi
   have hb:=zH1 hp
   simp only[zA] at hx
   obtain⟨_,⟨he,_⟩ | ⟨_,⟨_,rfl⟩ | ⟨cap,cur,e,rfl,_⟩⟩⟩:=hx
   ·subst he;simp at hUV
   ·simp at hb;omega
   ·refine⟨_,zI4 hT rfl hb w,?_⟩
    simp only[zA]
    exact⟨hb.1,trivial,by simp[Ty.poff]⟩
 ·rename_i n t l k i
  have:=hy' _ _ rfl;subst this
  cases hi:c.is T (.arr n t) with
  |false=>simp[hi] at h
  |true =>
   simp only[hi,jE,jA,jG] at h
   obtain⟨rfl,rfl⟩:=h
   have hb:=zH1 hp
   have hT:=zC hty hi
   simp only[zA] at hx
   rw[zC1 rfl] at hx
   simp only[zB0] at hx
   obtain⟨b,o,us,hv,⟨h1,h2⟩,h3⟩:=hx
   injection hv with hv _
   subst hv
   refine⟨_,zK4 hT hb w,?_⟩
   exact zR0 (zN2 h2 (by omega)) (zU4 h3 _ _)
 ·rename_i s' τ q k i
  have:=hy' _ _ rfl;subst this
  split at h
  ·rename_i n t hf
   cases hi:c.is T (.arr n t) with
   |false=>simp[hi] at h
   |true =>
    simp only[hi,jE,jA,jG] at h
    obtain⟨rfl,rfl⟩:=h
    have hb:=zH1 hp
    have hT:=zC hty hi
    simp only[zA] at hx
    obtain⟨hq,rfl⟩:=hx
    refine⟨_,zK4 hT hb w,?_⟩
    simp only[zA]
    refine⟨zJ4 hq (by rw[hf];simp only[zD8];exact⟨hb.1,hb.2,trivial⟩),?_⟩
    rw[zN3 hq,hf]
    simp[Ty.poff]
  ·cases h
 ·rename_i s' U t' j q k i
  have:=hy' _ _ rfl;subst this
  split at h
  ·rename_i n t hf
   cases hi:c.is T (.arr n t) with
   |false=>simp[hi] at h
   |true =>
    simp only[hi,jE,jA,jG] at h
    obtain⟨rfl,rfl⟩:=h
    have hb:=zH1 hp
    have hT:=zC hty hi
    simp only[zA] at hx
    obtain⟨h0,hq,rfl⟩:=hx
    refine⟨_,zK4 hT hb w,?_⟩
    simp only[zA]
    refine⟨h0,zJ4 hq (by rw[hf];simp only[zD8];exact⟨hb.1,hb.2,trivial⟩),?_⟩
    rw[zN3 hq,hf]
    simp[Ty.poff,Nat.add_assoc]
  ·cases h
 ·cases h
theorem zN4 {τ:Ty}{T o:Nat}{us:List Value}(hT:zC0 P τ (.inl T)=true)(ho:o+τ.size≤us.length)(w:World) :
  ∃ u,(part T us.toArray o).run P w=.ok u w∧zP τ (seg us o τ.size) u:=by
 obtain⟨⟨i,z,hi,hs,_⟩,d,hu,hd⟩:=zF5 hT
 unfold part zP
 rw[Sem.run_bind,yD2 hu w,hd]
 cases ha:τ.isAgg with
 |true =>
  refine⟨.agg (seg us o τ.size).toArray,?_,by simp⟩
  simp[zD2 hT w,seg]
 |false =>
  have h1:=yV7 hT ha
  rw[h1] at ho ⊢
  have hlt:o<us.length:=by omega
  refine⟨us[o],?_,?_⟩
  ·simp[jL hlt]
  ·simp only[jD]
   apply List.ext_getElem?
   intro j
   rw[seg_getElem?]
   cases j with
   |zero=>simp[jL hlt]
   |succ j=>simp
theorem yN2 (hty:zL4 P c.tys=true){T:Nat}{x y A:AVal}{v u:Value}{ix:Operand}{p:List Prop}(hx:zA G w tm none x v)(hy:zA G w tm none y u)
  (h:xD4 c T x y ix=some (p,A)) (hp:∀ q∈p,q):∃ r,(Instr.index T v u).run P w=.ok r w∧zA G w tm none A r:=by
 have hy':∀ k (i:Int),y=.val (.int k) i→u=.int k i:=by rintro k i rfl;simp only[zA] at hy;exact VRep_int.1 hy
 unfold xD4 at h
 split at h
 ·rename_i s k i
  have:=hy' _ _ rfl;subst this
  cases hi:c.is T .str with
  |false=>simp[hi] at h
  |true =>
   simp only[hi,jE,jA,jG] at h
   obtain⟨rfl,rfl⟩:=h
   have hb:=zH1 hp
   have hT:=zJ3 (zC hty hi)
   simp only[zA] at hx
   have hv:=VRep_str.1 hx
   subst hv
   have hlt:i.toNat<List.length (α:=UInt8) s:=by omega
   have hg:=xF1 s i.toNat hlt
   refine⟨.int .u8 ((List.getD (α:=UInt8) s i.toNat 0).toNat:Int),?_,?_⟩
   ·simp only[Instr.index,asIntOf,Sem.run_bind,Sem.run_pure,Result.andThen_ok,run_underlying hT w,hb.1,if_true,hg]
   ·simp only[zA];exact VRep_int.2 rfl
 ·rename_i n t l k i
  have:=hy' _ _ rfl;subst this
  cases hi:c.is T (.arr n t) with
  |false=>simp[hi] at h
  |true =>
   simp only[hi,jE,jA,jG] at h
   obtain⟨rfl,rfl⟩:=h
   have hb:=zH1 hp
   have hT:=zC hty hi
   obtain⟨e,h1,h2⟩:=zN hT
   simp only[zA] at hx
   obtain⟨vs,rfl,hx2⟩:=(zF9 rfl).1 hx
   simp only[zB0] at hx2
   have hlen:=zB3 (k:=t.size) (fun _ _ h=>zA1 h) hx2.2
   have hlt:i.toNat<List.length (α:=t.den) l:=by omega
   have hle:i.toNat*t.size+t.size≤vs.length:=by rw[hlen,← Nat.succ_mul];exact jS _ (by omega)
   obtain⟨r,h3,h4⟩:=zN4 h2 hle w
   refine⟨r,?_,?_⟩
   ·simp only[Instr.index,asIntOf,Sem.run_bind,Sem.run_pure,Result.andThen_ok,run_underlying h1 w]
    rw[if_pos hb]
    simpa only[Sem.run_bind,Result.andThen_ok,zD2 h2 w] using h3
   ·simp only[zA]
    exact⟨_,zN2 hx2.2 hlt,h4⟩
 ·cases h
theorem yN3 (hty:zL4 P c.tys=true){T k:Nat}{x A:AVal}{v:Value}{p:List Prop}(hx:zA G w tm none x v)(h:xD5 c T x k=some (p,A)) :
  ∃ u,(Instr.field T v k).run P w=.ok u w∧zA G w tm none A u:=by
 unfold xD5 at h
 split at h
 ·rename_i f x
  cases hi:(c.is T (.st f)&&Nat.blt k f.flen) with
  |false=>simp[hi] at h
  |true =>
   simp only[hi,jE,jA,jG] at h
   obtain⟨rfl,rfl⟩:=h
   simp only[jB] at hi
   have hT:=zC hty hi.1
   have hk:k<f.flen:=jR hi.2
   obtain⟨fs,h1,h2⟩:=zP7 hT
   obtain⟨fd,h3,h4,h5,_⟩:=zW2 h2 hk
   rw[Array.getElem?_toList] at h3
   simp only[zA] at hx
   obtain⟨vs,rfl,hx2⟩:=(zF9 rfl).1 hx
   simp only[zB0] at hx2
   have hle:=yD hk
   have hvl:=zA1 hx2
   obtain⟨u,h6,h7⟩:=zN4 h5 (o:=f.foff k) (us:=vs) (by omega) w
   refine⟨u,?_,?_⟩
   ·simp only[Instr.field,Sem.run_bind,run_underlying h1 w,Result.andThen_ok,h3,asAgg,Sem.run_pure,h4,Nat.zero_add];exact h6
   ·simp only[zA];exact⟨_,zU3 hk hx2,h7⟩
 ·rename_i f a
  cases hi:(c.is T (.st f)&&Nat.blt k f.flen) with
  |false=>simp[hi] at h
  |true =>
   simp only[hi,jE,jA,jG] at h
   obtain⟨rfl,rfl⟩:=h
   simp only[jB] at hi
   have hT:=zC hty hi.1
   have hk:k<f.flen:=jR hi.2
   obtain⟨fs,h1,h2⟩:=zP7 hT
   obtain⟨fd,h3,h4,h5,_⟩:=zW2 h2 hk
   rw[Array.getElem?_toList] at h3
   simp only[zA] at hx
   obtain⟨vs,rfl,hx⟩:=hx
   have hle:=yD hk
   have hvl:=zB hx
   obtain⟨u,h6,h7⟩:=zN4 h5 (o:=f.foff k) (us:=vs) (by omega) w
   refine⟨u,?_,yD1 (yJ8 hk hx) (zC4 h5) h7⟩
   simp only[Instr.field,Sem.run_bind,run_underlying h1 w,Result.andThen_ok,h3,asAgg,Sem.run_pure,h4,Nat.zero_add];exact h6
 ·cases h
end Go.Am
namespace Go.Am
open Go Go.RowKit
variable {P:Program}{c:Ctx}{G:Gh}{w:World}{tm:Array Value}
theorem zS7 {xs us ws:List Value}{o n:Nat}(h:seg xs o n=us++ws)(hn:us.length+ws.length=n):seg xs o us.length=us∧seg xs (o+us.length) ws.length=ws:=by
 have hl:o+n≤xs.length∨n=0:=by
  by_cases hz:n=0
  ·exact .inr hz
  ·left
   have:=congrArg List.length h
   simp[seg] at this
   omega
 constructor
 ·have:=yC6 xs o n 0 us.length (by omega)
  rw[h,yA7] at this
  simpa using this.symm
 ·have:=yC6 xs o n us.length ws.length (by omega)
  rw[h] at this
  have h2:=zU2 us ws 0 ws.length
  simp only[Nat.add_zero] at h2
  rw[h2,yJ5] at this
  exact this.symm
theorem yF9:∀ {τ:Ty},
  (∀ {T d:Nat}{x y:Value}{a b:τ.den},zC0 P τ (.inl T)=true→τ.cmp=true→τ.ht≤d→zP0 G.χ w τ a x→zP0 G.χ w τ b y→(Op.equalIn (d+1) T x y).run P w=.ok (τ.eqb a b) w) ∧
  (∀ {fs:List Field}{o d:Nat}{xs ys:List Value}{a b:τ.den},zC0 P τ (.inr (fs,o))=true→τ.cmp=true→τ.ht≤d→o+τ.size≤xs.length→o+τ.size≤ys.length →
   zB0 G.χ w τ a (seg xs o τ.size)→zB0 G.χ w τ b (seg ys o τ.size)→(Op.eqFields (d+1) xs.toArray ys.toArray fs).run P w=.ok (τ.eqb a b) w):=by
 intro τ
 induction τ with
 |int k =>
  refine⟨?_,fun h=>by simp[zC0] at h⟩
  intro T d x y a b hT _ _ hx hy
  rw[VRep_int.1 hx,VRep_int.1 hy]
  exact run_equalIn_int w d T k k a b (yA5 hT)
 |bool =>
  refine⟨?_,fun h=>by simp[zC0] at h⟩
  intro T d x y a b hT _ _ hx hy
  rw[VRep_bool.1 hx,VRep_bool.1 hy]
  exact run_equalIn_bool w d T a b (yM8 hT)
 |str =>
  refine⟨?_,fun h=>by simp[zC0] at h⟩
  intro T d x y a b hT _ _ hx hy
  rw[VRep_str.1 hx,VRep_str.1 hy,run_equalIn_string w d T _ _ (zJ3 hT)]
  simp only[ByteArray.toList_eq,Ty.eqb]
 |nl =>
  refine⟨fun h=>by simp[zC0] at h,?_⟩
  intro fs o d xs ys a b hT _ _ _ _ _ _
  cases fs with
  |nil=>simp[Op.eqFields,Ty.eqb]
  |cons f fs=>simp[zC0] at hT
 |cons h t ihh iht =>
  refine⟨fun h=>by simp[zC0] at h,?_⟩
  intro fs o d xs ys a b hT hc hd hlx hly hx hy
  cases fs with
  |nil=>simp[zC0] at hT
  |cons fd r =>
   simp only[zC0,jB] at hT
   obtain⟨⟨⟨h1,h2⟩,h3⟩,h4⟩:=hT
   have h1:=jC h1
   simp only[Ty.cmp,jB] at hc
   simp only[Ty.ht] at hd
   simp only[Ty.size] at hlx hly hx hy
   simp only[zB0] at hx hy
   obtain⟨us,ws,e1,hu,hw⟩:=hx
   obtain⟨us',ws',e2,hu',hw'⟩:=hy
   have l1:=zA1 hu
   have l2:=zA1 hw
   have l3:=zA1 hu'
   have l4:=zA1 hw'
   obtain⟨s1,s2⟩:=zS7 e1 (by omega)
   obtain⟨s3,s4⟩:=zS7 e2 (by omega)
   obtain⟨p1,q1,q2⟩:=zN4 h3 (o:=o) (us:=xs) (by omega) w
   obtain⟨p2,q3,q4⟩:=zN4 h3 (o:=o) (us:=ys) (by omega) w
   have hn:fd.name≠"_":=by simpa using h2
   obtain⟨ihh1,_⟩:=ihh
   obtain⟨_,iht2⟩:=iht
   have he:=ihh1 (d:=d) (x:=p1) (y:=p2) (a:=a.1) (b:=b.1) h3 hc.1 (by omega) ⟨us,hu,by rw[← s1,l1];exact q2⟩ ⟨us',hu',by rw[← s3,l3];exact q4⟩
   have hr:=iht2 (fs:=r) (o:=o+h.size) (d:=d) (xs:=xs) (ys:=ys) (a:=a.2) (b:=b.2) h4 hc.2 (by omega) (by omega) (by omega) (by rw[← l2,← l1,s2];exact hw) (by rw[← l4,← l3,s4];exact hw')
   simp only[Op.eqFields,hn,ne_eq,not_false_eq_true,if_true,h1,Sem.run_bind,q1,q3,Result.andThen_ok,he,Ty.eqb]
   cases hb:h.eqb a.1 b.1 with
   |true=>simpa using hr
   |false=>simp
 |st f ih =>
  refine⟨?_,fun h=>by simp[zC0] at h⟩
  intro T d x y a b hT hc hd hx hy
  obtain⟨fs,h1,h2⟩:=zP7 hT
  obtain⟨xs,rfl,hx'⟩:=(zF9 rfl).1 hx
  obtain⟨ys,rfl,hy'⟩:=(zF9 rfl).1 hy
  clear hx hy
  have hx:=hx'
  have hy:=hy'
  clear hx' hy'
  simp only[zB0] at hx hy
  have l1:=zA1 hx
  have l2:=zA1 hy
  simp only[Ty.ht] at hd
  have hfo:P.fieldsOf T=fs:=by simp[Program.fieldsOf,h1]
  have hu:P.underlying T=some (.struct (P.fieldsOf T)):=by rw[hfo];exact h1
  rw[run_equalIn_struct w d T _ _ hu (yY4 hT),hfo]
  obtain⟨d',rfl⟩:∃ d',d=d'+1:=⟨d-1,by omega⟩
  obtain⟨_,ih2⟩:=ih
  exact ih2 (d:=d') h2 hc (by omega) (by omega) (by omega) (by rw[← l1,yJ5];exact hx) (by rw[← l2,yJ5];exact hy)
 |arr n t ih =>
  refine⟨?_,fun h=>by simp[zC0] at h⟩
  intro T d x y a b hT hc hd hx hy
  obtain⟨e,h1,h2⟩:=zN hT
  obtain⟨xs,rfl,hx'⟩:=(zF9 rfl).1 hx
  obtain⟨ys,rfl,hy'⟩:=(zF9 rfl).1 hy
  clear hx hy
  have hx:=hx'
  have hy:=hy'
  clear hx' hy'
  simp only[zB0] at hx hy
  simp only[Ty.ht] at hd
  simp only[Ty.cmp] at hc
  obtain⟨⟨i,z,hi,hs,_⟩,_⟩:=zF5 h2
  rw[run_equalIn_array w d _ _ h1 hi]
  obtain⟨d',rfl⟩:∃ d',d=d'+1:=⟨d-1,by omega⟩
  have hce:P.cellsOf e=t.size:=by simp[Program.cellsOf,hi,hs]
  rw[hce]
  have l1:=zB3 (k:=t.size) (fun _ _ h=>zA1 h) hx.2
  have l2:=zB3 (k:=t.size) (fun _ _ h=>zA1 h) hy.2
  obtain⟨ih1,_⟩:=ih
  have key:∀ is:List Nat,(∀ j∈is,j<n)→(Op.eqItems (d'+1) e t.size xs.toArray ys.toArray is).run P w=.ok (is.all fun i=>t.eqb (List.getD (α:=t.den) a i t.dflt) (List.getD (α:=t.den) b i t.dflt)) w:=by
   intro is
   induction is with
   |nil=>intro _;simp[Op.eqItems]
   |cons j is ihl =>
    intro hj
    have hjn:j<n:=hj j (by simp)
    have hle:j*t.size+t.size≤n*t.size:=by rw[← Nat.succ_mul];exact jS _ (by omega)
    obtain⟨p1,q1,q2⟩:=zN4 h2 (o:=j*t.size) (us:=xs) (by rw[l1,hx.1];exact hle) w
    obtain⟨p2,q3,q4⟩:=zN4 h2 (o:=j*t.size) (us:=ys) (by rw[l2,hy.1];exact hle) w
    have he:=ih1 (d:=d') (x:=p1) (y:=p2) (a:=List.getD (α:=t.den) a j t.dflt) (b:=List.getD (α:=t.den) b j t.dflt) h2 hc (by omega)
     ⟨_,zN2 hx.2 (by rw[hx.1];exact hjn),q2⟩ ⟨_,zN2 hy.2 (by rw[hy.1];exact hjn),q4⟩
    have hr:=ihl (fun k hk=>hj k (by simp[hk]))
    simp only[Op.eqItems,Sem.run_bind,q1,q3,Result.andThen_ok,he]
    rw[List.all_cons]
    cases hb:t.eqb (List.getD (α:=t.den) a j t.dflt) (List.getD (α:=t.den) b j t.dflt) with
    |true=>simpa using hr
    |false=>simp
  exact key (List.range n) (fun j hj=>by simpa using hj)
 |sl t _=>exact⟨fun _ h=>by simp[Ty.cmp] at h,fun h=>by simp[zC0] at h⟩
 |ptr t _=>exact⟨fun _ h=>by simp[Ty.cmp] at h,fun h=>by simp[zC0] at h⟩
end Go.Am
namespace Go.Am
open Go Go.RowKit
variable {P:Program}{c:Ctx}{G:Gh}{w:World}{tm:Array Value}
theorem zI {wr:Bool}{k:IntKind}{r:Int}(h:∀ q∈(yB6 wr k r).1,q):zA G w tm none (yB6 wr k r).2 (.int k (k.wrap r)):=by
 unfold yB6 at h ⊢
 cases hc:(!wr&&xR k) with
 |true =>
  simp only[hc,jE] at h ⊢
  simp only[jB] at hc
  have hk:k=.i64:=by cases k<;>simp[xR] at hc ⊢
  have hr:=h _ (jH.2 rfl)
  subst hk
  simp only[zA]
  rw[IntWalk.i64_in r hr]
  exact VRep_int.2 rfl
 |false =>
  simp only[jD]
  simp only[zA]
  exact VRep_int.2 rfl
theorem yD4 {a:Act}{y:Operand}{n:Int}{k:IntKind}{b:Int}(h:yM0 y=some n)(hy:a.eval y=.int k b):n=b:=by
 unfold yM0 at h
 split at h
 ·simp only[Act.eval,Value.int.injEq] at hy
  injection h with h
  rw[← h];exact hy.2
 ·cases h
theorem zU5 {a:Act}{y:Operand}{k:IntKind}{b:Int}(hy:a.eval y=.int k b)(h:∀ q∈yI7 y b,q):b≠0:=by
 unfold yI7 at h
 split at h
 ·rename_i n hn
  have:=yD4 hn hy;subst this
  intro he
  subst he
  exact h False (by simp)
 ·exact h _ (jH.2 rfl)
theorem zX9 {a:Act}{y:Operand}{k:IntKind}{b:Int}(hy:a.eval y=.int k b)(h:∀ q∈yV2 y b,q):0≤b:=by
 unfold yV2 at h
 split at h
 ·rename_i n hn
  have:=yD4 hn hy;subst this
  by_cases he:0≤n
  ·exact he
  ·exact (h False (by simp[he])).elim
 ·exact h _ (jH.2 rfl)
theorem zQ0 {op:BinOp}{T:Nat}{x y:Operand}{k k':IntKind}{a b:Int}(w:World):(eqGuard op T x y (.int k a) (.int k' b)).run P w=.ok () w:=by
 cases op<;>simp[eqGuard]
theorem yD5 {op:BinOp}{T:Nat}{x y:Operand}{a b:ByteArray}(w:World):(eqGuard op T x y (.string a) (.string b)).run P w=.ok () w:=by
 cases op<;>simp[eqGuard]
theorem zZ6 {op:BinOp}{T:Nat}{x y:Operand}{a b:Bool}(w:World):(eqGuard op T x y (.bool a) (.bool b)).run P w=.ok () w:=by
 cases op<;>simp[eqGuard]
theorem zC7 {s:Option Nat}{k:IntKind}{n:Int}:zA G w tm s (.val (.int k) n) (.int k n):=by simp only[zA];exact VRep_int.2 rfl
theorem zC5 {s:Option Nat}{b:Bool}:zA G w tm s (.val .bool b) (.bool b):=by simp only[zA];exact VRep_bool.2 rfl
theorem yJ9 {s:Option Nat}{b:List UInt8}:zA G w tm s (.val .str b) (.string ⟨b.toArray⟩):=by simp only[zA];exact VRep_str.2 rfl
theorem yR6 {α β:Type}{x:α×β}{p:α}{A:β}(h:x=(p,A)):x.1=p∧x.2=A:=by rw[h];exact⟨rfl,rfl⟩
theorem yN4 {ac:Act}{wr:Bool}{op:BinOp}{k:IntKind}{a b:Int}{oy:Operand}{p:List Prop}{A:AVal}{T:Nat}(hoy:ac.eval oy=.int k b)(hs:yQ8 op=false)
  (h:xD2 wr op k a b oy=some (p,A)) (hp:∀ q∈p,q):∃ r,(binOp op T (.int k a) (.int k b)).run P w=.ok r w∧zA G w tm none A r:=by
 cases op<;>simp only[xD2,jA] at h
 case add=>obtain⟨rfl,rfl⟩:=yR6 h;exact⟨_,by simp[binOp,Op.intArith],zI hp⟩
 case sub=>obtain⟨rfl,rfl⟩:=yR6 h;exact⟨_,by simp[binOp,Op.intArith],zI hp⟩
 case mul=>obtain⟨rfl,rfl⟩:=yR6 h;exact⟨_,by simp[binOp,Op.intArith],zI hp⟩
 case quo =>
  simp only[jG] at h;obtain⟨rfl,rfl⟩:=h
  have hb:=zU5 hoy (fun q hq=>hp q (List.mem_append_left _ hq))
  exact⟨_,by simp[binOp,Op.intDiv,hb],zI (fun q hq=>hp q (List.mem_append_right _ hq))⟩
 case rem =>
  simp only[jG] at h;obtain⟨rfl,rfl⟩:=h
  have hb:=zU5 hoy hp
  exact⟨_,by simp[binOp,Op.intDiv,hb],zC7⟩
 case and=>simp only[jG] at h;obtain⟨rfl,rfl⟩:=h;exact⟨_,by simp only[binOp];rw[if_neg (by simp)];rfl,zC7⟩
 case or=>simp only[jG] at h;obtain⟨rfl,rfl⟩:=h;exact⟨_,by simp only[binOp];rw[if_neg (by simp)];rfl,zC7⟩
 case xor=>simp only[jG] at h;obtain⟨rfl,rfl⟩:=h;exact⟨_,by simp only[binOp];rw[if_neg (by simp)];rfl,zC7⟩
 case andNot=>simp only[jG] at h;obtain⟨rfl,rfl⟩:=h;exact⟨_,by simp only[binOp];rw[if_neg (by simp)];rfl,zC7⟩
 case eql=>simp only[jG] at h;obtain⟨rfl,rfl⟩:=h;exact⟨_,by simp[binOp,Op.intCmp],zC5⟩
 case neq=>simp only[jG] at h;obtain⟨rfl,rfl⟩:=h;exact⟨_,by simp[binOp,Op.intCmp],zC5⟩
 case lss=>simp only[jG] at h;obtain⟨rfl,rfl⟩:=h;exact⟨_,by simp[binOp,Op.intCmp],zC5⟩
 case leq=>simp only[jG] at h;obtain⟨rfl,rfl⟩:=h;exact⟨_,by simp[binOp,Op.intCmp],zC5⟩
 case gtr=>simp only[jG] at h;obtain⟨rfl,rfl⟩:=h;exact⟨_,by simp[binOp,Op.intCmp],zC5⟩
 case geq=>simp only[jG] at h;obtain⟨rfl,rfl⟩:=h;exact⟨_,by simp[binOp,Op.intCmp],zC5⟩
 all_goals cases h
theorem yG {ac:Act}{wr:Bool}{op:BinOp}{k k':IntKind}{a b:Int}{oy:Operand}{p:List Prop}{A:AVal}{T:Nat}(hoy:ac.eval oy=.int k' b)
  (h:yI8 wr op k a b oy=some (p,A)) (hp:∀ q∈p,q):∃ r,(binOp op T (.int k a) (.int k' b)).run P w=.ok r w∧zA G w tm none A r:=by
 cases op<;>simp only[yI8,jA,jG] at h
 case shl =>
  obtain⟨rfl,rfl⟩:=h
  have hb:=zX9 hoy (fun q hq=>hp q (List.mem_append_left _ hq))
  exact⟨_,by simp[binOp,Op.shift,Int.not_lt.2 hb],zI (fun q hq=>hp q (List.mem_append_right _ hq))⟩
 case shr =>
  obtain⟨rfl,rfl⟩:=h
  have hb:=zX9 hoy hp
  exact⟨_,by simp[binOp,Op.shift,Int.not_lt.2 hb],zC7⟩
 all_goals cases h
theorem yN5 {op:BinOp}{a b:List UInt8}{p:List Prop}{A:AVal}{T:Nat}
  (h:xD3 op a b=some (p,A)) (hp:∀ q∈p,q):∃ r,(binOp op T (.string ⟨a.toArray⟩) (.string ⟨b.toArray⟩)).run P w=.ok r w∧zA G w tm none A r:=by
 cases op<;>simp only[xD3,jA,jG] at h
 case add =>
  obtain⟨rfl,rfl⟩:=h
  have hb:=hp _ (jH.2 rfl)
  refine⟨.string ⟨(a++b).toArray⟩,?_,yJ9⟩
  have e:(⟨a.toArray⟩++⟨b.toArray⟩:ByteArray)=⟨(a++b).toArray⟩:=by
   apply ByteArray.ext
   simp[ByteArray.data_append]
  have hsz:((⟨a.toArray⟩:ByteArray).size+(⟨b.toArray⟩:ByteArray).size:Nat)=a.length+b.length:=by simp[ByteArray.size]
  simp only[binOp,Op.stringOp,hsz]
  rw[if_neg (by simp[IntKind.max,IntKind.bits,IntKind.signed];omega),e]
  simp
 case eql=>obtain⟨rfl,rfl⟩:=h;exact⟨_,by simp only[binOp,Op.stringOp,ByteArray.toList_eq];rfl,zC5⟩
 case neq=>obtain⟨rfl,rfl⟩:=h;exact⟨_,by simp only[binOp,Op.stringOp,ByteArray.toList_eq];rfl,zC5⟩
 case lss=>obtain⟨rfl,rfl⟩:=h;exact⟨_,by simp only[binOp,Op.stringOp,ByteArray.toList_eq];rfl,zC5⟩
 case leq=>obtain⟨rfl,rfl⟩:=h;exact⟨_,by simp only[binOp,Op.stringOp,ByteArray.toList_eq];rfl,zC5⟩
 case gtr=>obtain⟨rfl,rfl⟩:=h;exact⟨_,by simp only[binOp,Op.stringOp,ByteArray.toList_eq];rfl,zC5⟩
 case geq=>obtain⟨rfl,rfl⟩:=h;exact⟨_,by simp only[binOp,Op.stringOp,ByteArray.toList_eq];rfl,zC5⟩
 all_goals cases h
theorem xF2 {χ:Nat→Nat→Nat}{τ:Ty}{a b:τ.den}{x y:Value}(h:τ.eqs=true)(hx:zP0 χ w τ a x)(hy:zP0 χ w τ b y):(∃ p q,x=.bool p∧y=.bool q)∨(∃ p q,x=.agg p∧y=.agg q):=by
 cases τ with
 |bool=>exact .inl ⟨_,_,VRep_bool.1 hx,VRep_bool.1 hy⟩
 |st f=>obtain⟨xs,rfl,_⟩:=(zF9 rfl).1 hx;obtain⟨ys,rfl,_⟩:=(zF9 rfl).1 hy;exact .inr ⟨_,_,rfl,rfl⟩
 |arr n t=>obtain⟨xs,rfl,_⟩:=(zF9 rfl).1 hx;obtain⟨ys,rfl,_⟩:=(zF9 rfl).1 hy;exact .inr ⟨_,_,rfl,rfl⟩
 |_=>simp[Ty.eqs] at h
theorem yR7 (hty:zL4 P c.tys=true){op:BinOp}{T:Nat}{x y A:AVal}{v u:Value}{ox oy:Operand}{p:List Prop}(hx:zA G w tm none x v)(hy:zA G w tm none y u)
  (h:xR0 op (c.ty T) x y=some (p,A)):∃ r,(do eqGuard op T ox oy v u;binOp op T v u:Sem Value).run P w=.ok r w∧zA G w tm none A r:=by
 unfold xR0 at h
 split at h
 ·rename_i a b hc ha hb
  simp only[jB] at hc
  have hT:=zJ0 hty T (by intro e;rw[e] at hc;simp[Ty.eqs] at hc)
  have hl:=zC4 hT
  have hvx:=zH9 ha hl hx
  have hvy:=zH9 hb hl hy
  have he:(Op.equal T v u).run P w=.ok ((c.ty T).eqb a b) w:=(yF9 (G:=G) (P:=P) (w:=w)).1 (d:=9999) hT hc.1 (by have:=xR5 hT;omega) hvx hvy
  have hshape:=xF2 hc.2 hvx hvy
  have hg:(eqGuard op T ox oy v u).run P w=.ok () w:=by
   rcases hshape with ⟨p,q,rfl,rfl⟩ | ⟨p,q,rfl,rfl⟩
   ·exact zZ6 w
   ·exact run_eqGuard_agg w op T ox oy _ _ (yY3 hT)
  have hb2:∀ o:BinOp,o=.eql∨o=.neq→(binOp o T v u).run P w=.ok (.bool (if o=.eql then (c.ty T).eqb a b else !((c.ty T).eqb a b))) w:=by
   intro o ho
   rcases hshape with ⟨p,q,rfl,rfl⟩ | ⟨p,q,rfl,rfl⟩<;>rcases ho with rfl|rfl<;>simp[binOp,he]
  split at h
  ·simp only[jA,jG] at h
   obtain⟨rfl,rfl⟩:=h
   exact⟨_,by rw[Sem.run_bind,hg,Result.andThen_ok,hb2 .eql (.inl rfl)];rfl,zC5⟩
  ·simp only[jA,jG] at h
   obtain⟨rfl,rfl⟩:=h
   exact⟨_,by rw[Sem.run_bind,hg,Result.andThen_ok,hb2 .neq (.inr rfl)];rfl,zC5⟩
  ·cases h
 ·cases h
theorem yR8 (hty:zL4 P c.tys=true){op:BinOp}{T:Nat}{x A:AVal}{v u:Value}{ox oy:Operand}{p:List Prop}(hx:zA G w tm none x v)(hu:u=.slice none 0 0)
  (h:xR1 c op T x=some (p,A)) (hp:∀ q∈p,q):∃ r,(do eqGuard op T ox oy v u;binOp op T v u:Sem Value).run P w=.ok r w∧zA G w tm none A r:=by
 subst hu
 unfold xR1 at h
 split at h
 ·rename_i t0 hT
  have hT':=zJ0 hty T (by rw[hT];simp)
  rw[hT] at hT'
  obtain⟨e,hu,_⟩:=zG1 hT'
  have key:∀ (a:Option Addr) n cap (b:Bool) q,b=a.isNone→zX4 op q b=some (p,A)→v=.slice a n cap→∃ r,(do eqGuard op T ox oy v (.slice none 0 0);binOp op T v (.slice none 0 0):Sem Value).run P w=.ok r w∧zA G w tm none A r:=by
   intro a n cap b q hb hr hv
   subst hv
   have hg:(eqGuard op T ox oy (.slice a n cap) (.slice none 0 0)).run P w=.ok () w:=by cases op<;>simp[eqGuard]
   have he:(Op.equal T (.slice a n cap) (.slice none 0 0)).run P w=.ok b w:=by
    subst hb
    have hd:∀ d:Nat,(Op.equalIn (d+1) T (.slice a n cap) (.slice none 0 0)).run P w=.ok a.isNone w:=by
     intro d
     cases a<;>simp[Op.equalIn,run_underlying hu w]
    exact hd 9999
   unfold zX4 at hr
   split at hr
   ·simp only[jA,jG] at hr
    obtain⟨rfl,rfl⟩:=hr
    exact⟨_,by rw[Sem.run_bind,hg,Result.andThen_ok];simp[binOp,he],zC5⟩
   ·simp only[jA,jG] at hr
    obtain⟨rfl,rfl⟩:=hr
    exact⟨_,by rw[Sem.run_bind,hg,Result.andThen_ok];simp[binOp,he],zC5⟩
   ·cases hr
  have hq:∀ q b,zX4 op [q] b=some (p,A)→q:=by
   intro q b hr
   unfold zX4 at hr
   split at hr
   ·simp only[jA,jG] at hr;obtain⟨rfl,_⟩:=hr;exact hp _ (jH.2 rfl)
   ·simp only[jA,jG] at hr;obtain⟨rfl,_⟩:=hr;exact hp _ (jH.2 rfl)
   ·cases hr
  split at h
  ·simp only[zA] at hx;exact key none 0 0 true _ rfl h hx
  ·simp only[zA] at hx;obtain⟨a,cap,rfl,hb⟩:=hx;exact key a 0 cap _ _ hb.symm h rfl
  ·rename_i t l
   have hpos:=hq _ _ h
   simp only[zA] at hx
   rw[zC1 rfl] at hx
   simp only[zB0] at hx
   obtain⟨a,cap,hv,hx⟩:=hx
   injection hv with hv _
   rcases hx with hx|⟨b,o,us,ha,_⟩
   ·rw[hx] at hpos;simp at hpos
   ·exact key a _ cap false _ (by rw[ha];rfl) h hv
  ·rename_i t l T' m
   cases htl:t.isL with
   |true=>simp only[htl,jE] at h;cases h
   |false =>
   simp only[htl,jD] at h
   have hpos:=hq _ _ h
   simp only[zA] at hx
   rcases (zB4 hx htl).2 with ⟨_,hl⟩ | ⟨cap,cur,e,us,h1,_⟩
   ·rw[hl] at hpos;simp at hpos
   ·exact key _ _ cap false _ rfl h h1
  ·cases h
 ·cases h
theorem yY6 (hty:zL4 P c.tys=true){ac:Act}{op:BinOp}{T:Nat}{x y A:AVal}{v:Value}{ox oy:Operand}{p:List Prop}(hx:zA G w tm none x v)(hy:zA G w tm none y (ac.eval oy))
  (h:xW6 c op T x y oy=some (p,A)) (hp:∀ q∈p,q):∃ r,(do eqGuard op T ox oy v (ac.eval oy);binOp op T v (ac.eval oy):Sem Value).run P w=.ok r w∧zA G w tm none A r:=by
 unfold xW6 at h
 split at h
 ·rename_i k a k' b
  simp only[zA] at hx hy
  have hv:=VRep_int.1 hx
  have hu:=VRep_int.1 hy
  subst hv
  cases hs:yQ8 op with
  |true =>
   simp only[hs,jE] at h
   obtain⟨r,h1,h2⟩:=yG (P:=P) (w:=w) (G:=G) (tm:=tm) (T:=T) hu h hp
   exact⟨r,by rw[hu,Sem.run_bind,zQ0,Result.andThen_ok,h1],h2⟩
  |false =>
   simp only[hs,jD] at h
   cases hk:Nat.beq (zI7 k) (zI7 k') with
   |false=>simp[hk] at h
   |true =>
    simp only[hk,jE] at h
    have:=zH7 (jC hk)
    subst this
    obtain⟨r,h1,h2⟩:=yN4 (P:=P) (w:=w) (G:=G) (tm:=tm) (T:=T) hu hs h hp
    exact⟨r,by rw[hu,Sem.run_bind,zQ0,Result.andThen_ok,h1],h2⟩
 ·rename_i a b
  simp only[zA] at hx hy
  have hv:=VRep_str.1 hx
  have hu:=VRep_str.1 hy
  subst hv
  obtain⟨r,h1,h2⟩:=yN5 (P:=P) (w:=w) (G:=G) (tm:=tm) (T:=T) h hp
  exact⟨r,by rw[hu,Sem.run_bind,yD5,Result.andThen_ok,h1],h2⟩
 ·simp only[zA] at hy;exact yR8 hty hx hy h hp
 ·exact yR7 hty hx hy h
theorem xF3 {op:UnOp}{x A:AVal}{v:Value}{p:List Prop}(hx:zA G w tm none x v)(h:unA c op x=some (p,A))(hp:∀ q∈p,q) :
  ∃ r,(Op.unary op v).run P w=.ok r w∧zA G w tm none A r:=by
 unfold unA at h
 split at h
 ·simp only[jA,jG] at h
  obtain⟨rfl,rfl⟩:=h
  simp only[zA] at hx
  rw[VRep_bool.1 hx]
  exact⟨_,by simp[Op.unary],zC5⟩
 ·simp only[jA] at h
  simp only[zA] at hx
  rw[VRep_int.1 hx]
  have h1:=congrArg Prod.fst h
  have h2:=congrArg Prod.snd h
  simp only at h1 h2
  subst h1;subst h2
  exact⟨_,rfl,zI hp⟩
 ·simp only[jA,jG] at h
  obtain⟨rfl,rfl⟩:=h
  simp only[zA] at hx
  rw[VRep_int.1 hx]
  exact⟨_,rfl,zC7⟩
 ·cases h
theorem yR9 (hty:zL4 P c.tys=true){src dst:Nat}{x A:AVal}{v:Value}{p:List Prop}(hx:zA G w tm none x v)(h:xR2 c src dst x=some (p,A)) :
  ∃ r,(convert src dst v).run P w=.ok r w∧zA G w tm none A r:=by
 unfold xR2 at h
 split at h
 ·rename_i k0 k k1 n e1 e2
  simp only[jA,jG] at h
  obtain⟨rfl,rfl⟩:=h
  have h1:=zJ0 hty src (by rw[e1];simp)
  have h2:=zJ0 hty dst (by rw[e2];simp)
  rw[e1] at h1
  rw[e2] at h2
  simp only[zA] at hx
  rw[VRep_int.1 hx]
  exact⟨_,by simp[convert,run_underlying (yA5 h1),run_underlying (yA5 h2),Conv.intToInt],zC7⟩
 ·rename_i s e1 e2
  simp only[jA,jG] at h
  obtain⟨rfl,rfl⟩:=h
  have h1:=zJ0 hty src (by rw[e1];simp)
  have h2:=zJ0 hty dst (by rw[e2];simp)
  rw[e1] at h1
  rw[e2] at h2
  simp only[zA] at hx
  rw[VRep_str.1 hx]
  exact⟨_,by simp[convert,run_underlying (zJ3 h1),run_underlying (zJ3 h2)],yJ9⟩
 ·cases h
theorem yY7 (hty:zL4 P c.tys=true){ats:Array TypeId}{ty:TypeId}{x A:AVal}{v:Value}{p:List Prop}(hx:zA G w tm none x v)(h:xW7 c ats.toList x=some (p,A)) :
  ∃ r,(Builtin.len_ ats ty #[v]).run P w=.ok r w∧zA G w tm none A r:=by
 unfold xW7 at h
 split at h
 ·rename_i T r e
  have ha:ats[0]?=some T:=by rw[← Array.getElem?_toList,e];rfl
  split at h
  ·rename_i s
   cases hi:c.is T .str with
   |false=>simp[hi] at h
   |true =>
    simp only[hi,jE,jA,jG] at h
    obtain⟨rfl,rfl⟩:=h
    simp only[zA] at hx
    rw[VRep_str.1 hx]
    exact⟨.int .i64 (List.length (α:=UInt8) s:Int),by simp[Builtin.len_,ha,run_underlying (zJ3 (zC hty hi)),goInt];rfl,zC7⟩
  ·rename_i t l
   cases hi:c.is T (.sl t) with
   |false=>simp[hi] at h
   |true =>
    simp only[hi,jE,jA,jG] at h
    obtain⟨rfl,rfl⟩:=h
    obtain⟨e',h1,h2⟩:=zG1 (zC hty hi)
    simp only[zA] at hx
    have hx2:=(zC1 rfl).1 hx
    simp only[zB0] at hx2
    obtain⟨a,cap,hv,_⟩:=hx2
    injection hv with hv _
    rw[hv]
    exact⟨_,by simp[Builtin.len_,ha,run_underlying h1,goInt],zC7⟩
  ·rename_i t l U m
   cases hi:c.is T (.sl t) with
   |false=>simp[hi] at h
   |true =>
    simp only[hi,jE,jA,jG] at h
    obtain⟨rfl,rfl⟩:=h
    obtain⟨e',h1,h2⟩:=zG1 (zC hty hi)
    simp only[zA] at hx
    rcases (zB4 hx (yA6 (zC hty hi))).2 with ⟨hv,hl⟩ | ⟨cap,cur,e,us,hv,_⟩
    ·rw[hv,hl];exact⟨_,by simp[Builtin.len_,ha,run_underlying h1,goInt],zC7⟩
    ·rw[hv];exact⟨_,by simp[Builtin.len_,ha,run_underlying h1,goInt],zC7⟩
  ·rename_i t l U j V m
   cases hi:(c.is T (.sl (.sl t))&&!(Nat.beq U V)) with
   |false=>simp[hi] at h
   |true =>
    simp only[hi,jE,jA,jG] at h
    obtain⟨rfl,rfl⟩:=h
    simp only[jB] at hi
    obtain⟨hi,hUV⟩:=hi
    obtain⟨e',h1,h2⟩:=zG1 (zC hty hi)
    simp only[zA] at hx
    obtain⟨_,⟨he,_⟩ | ⟨_,⟨hv,hl⟩ | ⟨cap,cur,e,hv,_⟩⟩⟩:=hx
    ·subst he;simp at hUV
    ·rw[hv,hl];exact⟨_,by simp[Builtin.len_,ha,run_underlying h1,goInt],zC7⟩
    ·rw[hv];exact⟨_,by simp[Builtin.len_,ha,run_underlying h1,goInt],zC7⟩
  ·cases hi:(c.is T (c.ty T)&&(c.ty T).isSl) with
   |false=>simp[hi] at h
   |true =>
    simp only[hi,jE,jA,jG] at h
    obtain⟨rfl,rfl⟩:=h
    simp only[jB] at hi
    have hT:=zC hty hi.1
    obtain⟨t,ht⟩:∃ t,c.ty T=.sl t:=by revert hi;cases c.ty T<;>simp[Ty.isSl]
    rw[ht] at hT
    obtain⟨e',h1,h2⟩:=zG1 hT
    simp only[zA] at hx
    rw[hx]
    exact⟨_,by simp[Builtin.len_,ha,run_underlying h1,goInt],zC7⟩
  ·cases h
 ·cases h
end Go.Am
namespace Go.Am
open Go Go.RowKit
variable {P:Program}{c:Ctx}{G:Gh}{w:World}{tm:Array Value}
theorem zI5 {k:IntKind}{i:Int}{y:Nat}{code:BoundsCode}(h:0≤i∧i≤(y:Int))(w:World):(Instr.sliceBound (.int k i) y code).run P w=.ok i.toNat w:=by
 simp[Instr.sliceBound,asIntOf,h]
theorem zH2 {b:Bool}{n m:Nat}{lo hi:Option AVal}{vlo vhi:Option Value}{a h:Option Int}(hn:n≤m)
  (h1:zL7 lo=some a) (h2:zL7 hi=some h)
  (hlo:∀ A,lo=some A→∃ v,vlo=some v∧zA G w tm none A v) (hlo':lo=none→vlo=none)
  (hhi:∀ A,hi=some A→∃ v,vhi=some v∧zA G w tm none A v) (hhi':hi=none→vhi=none)
  {α:Type}{l:List α}(hl:l.length=n) (hp:∀ q∈(yL8 l a h).1,q) :
  ∃ x y,x≤y∧y≤n∧(Instr.sliceBounds b n m vlo vhi none).run P w=.ok (x,y,m) w∧(yL8 l a h).2=(l.take y).drop x:=by
 have opt:∀ (lo:Option AVal) (a:Option Int) (vlo:Option Value),zL7 lo=some a→(∀ A,lo=some A→∃ v,vlo=some v∧zA G w tm none A v)→(lo=none→vlo=none) →
   (a=none∧vlo=none)∨∃ k i,a=some i∧vlo=some (.int k i):=by
  intro lo a vlo h1 hlo hlo'
  cases lo with
  |none=>simp only[zL7,jA] at h1;exact .inl ⟨h1.symm,hlo' rfl⟩
  |some A =>
   obtain⟨v,hv,hA⟩:=hlo A rfl
   cases A with
   |val τ x =>
    cases τ with
    |int k=>simp only[zL7,jA] at h1;simp only[zA] at hA;rw[VRep_int.1 hA] at hv;exact .inr ⟨k,x,h1.symm,hv⟩
    |_=>simp[zL7] at h1
   |_=>simp[zL7] at h1
 subst hl
 rcases opt lo a vlo h1 hlo hlo' with ⟨rfl,rfl⟩ | ⟨k,i,rfl,rfl⟩<;>rcases opt hi h vhi h2 hhi hhi' with ⟨rfl,rfl⟩ | ⟨k',j,rfl,rfl⟩
 ·exact⟨0,l.length,by omega,by omega,by simp[Instr.sliceBounds],by simp[yL8]⟩
 ·have hb:=hp _ (jH.2 rfl)
  refine⟨0,j.toNat,by omega,by omega,?_,by simp[yL8]⟩
  have:=zI5 (P:=P) (k:=k') (i:=j) (y:=m) (code:=if b then .sliceAcap else .sliceAlen) ⟨hb.1,by omega⟩ w
  simp[Instr.sliceBounds,this]
 ·have hb:=hp _ (jH.2 rfl)
  refine⟨i.toNat,l.length,by omega,by omega,?_,by simp[yL8]⟩
  have:=zI5 (P:=P) (k:=k) (i:=i) (y:=l.length) (code:=.sliceB) hb w
  simp[Instr.sliceBounds,this]
 ·have hb:=hp _ (jH.2 rfl)
  refine⟨i.toNat,j.toNat,by omega,by omega,?_,by simp[yL8]⟩
  have h3:=zI5 (P:=P) (k:=k') (i:=j) (y:=m) (code:=if b then .sliceAcap else .sliceAlen) ⟨by omega,by omega⟩ w
  have h4:=zI5 (P:=P) (k:=k) (i:=i) (y:=j.toNat) (code:=.sliceB) ⟨hb.1,by omega⟩ w
  simp[Instr.sliceBounds,h3,h4]
theorem yK (s:List UInt8)(x y:Nat):(⟨s.toArray⟩:ByteArray).extract x y=⟨((s.take y).drop x).toArray⟩:=by
 apply ByteArray.ext
 simp[ByteArray.data_extract,List.drop_take]
theorem yN6 {t:Ty}{T x y cap:Nat}{a:Option Addr}{l:List t.den}{lo hi:Option Value}(hT:zC0 P (.sl t) (.inl T)=true)(hxy:x≤y)(hy:y≤l.length)
  (hr:zB0 G.χ w (.sl t) l [.slice a l.length cap]) (hcap:l.length≤cap) (hb:(Instr.sliceBounds true l.length cap lo hi none).run P w=.ok (x,y,cap) w) :
  ∃ r,(Instr.sliceAt T (.slice a l.length cap) lo hi none).run P w=.ok r w∧zB0 G.χ w (.sl t) ((l.take y).drop x) [r]:=by
 obtain⟨e,h1,h2⟩:=zG1 hT
 refine⟨.slice (if cap=x then a else a.map (·.add (x*t.size))) (y-x) (cap-x),?_,?_⟩
 ·simp only[Instr.sliceAt,Sem.run_bind,run_underlying h1 w,Result.andThen_ok,Instr.slice,hb,zD2 h2 w,Sem.run_pure]
 ·simp only[zB0] at hr ⊢
  obtain⟨a',cap',hv,hr⟩:=hr
  simp only[List.cons.injEq,Value.slice.injEq,and_true,true_and] at hv
  obtain⟨rfl,rfl⟩:=hv
  have hlen:List.length (α:=t.den) ((l.take y).drop x)=y-x:=by simp;omega
  refine⟨_,cap-x,by rw[hlen],?_⟩
  rcases hr with rfl|⟨b,o,us,ha,h3,h4,h5⟩
  ·exact .inl (by simp)
  ·by_cases hz:y=x
   ·left;subst hz;apply List.eq_nil_of_length_eq_zero;omega
   ·right
    have hul:=zB3 (k:=t.size) (fun _ _ h=>zA1 h) h4
    rw[if_neg (by omega)]
    subst ha
    refine⟨b,o+x*t.size,((us.take (y*t.size)).drop (x*t.size)),by simp[Addr.add_mid],by omega,?_,?_⟩
    ·exact yN (k:=t.size) (fun _ _ h=>zA1 h) x (yM9 (k:=t.size) (fun _ _ h=>zA1 h) y h4)
    ·intro j v hv
     rw[List.getElem?_drop,List.getElem?_take] at hv
     split at hv
     ·have:=h5 _ _ hv
      rw[← Nat.add_assoc] at this
      exact this
     ·cases hv
theorem yS {χ:Nat→Nat→Nat}{t:Ty}{l:List t.den}{v:Value}(h:zB0 χ w (.sl t) l [v]):∃ a cap,v=.slice a l.length cap∧l.length≤cap:=by
 simp only[zB0] at h
 obtain⟨a,cap,hv,h⟩:=h
 injection hv with hv _
 refine⟨a,cap,hv,?_⟩
 rcases h with rfl|⟨b,o,us,_,h3,_⟩
 ·simp
 ·exact h3
theorem zL5 {s:Option Nat}{t:Ty}{l:List t.den}{v:Value}(h:zB0 G.χ w (.sl t) l [v]):zA G w tm s (.val (.sl t) l) v:=by
 simp only[zA];exact (zC1 rfl).2 h
theorem yN7 {T:Nat}{t:Ty}{l:List t.den}{v:Value}{lo hi:Option AVal}{vlo vhi:Option Value}{a b:Option Int}(hT:zC0 P (.sl t) (.inl T)=true)(hx:zB0 G.χ w (.sl t) l [v])
  (ea:zL7 lo=some a) (eb:zL7 hi=some b)
  (hlo:∀ A,lo=some A→∃ v,vlo=some v∧zA G w tm none A v) (hlo':lo=none→vlo=none)
  (hhi:∀ A,hi=some A→∃ v,vhi=some v∧zA G w tm none A v) (hhi':hi=none→vhi=none)
  (hp:∀ q∈(yL8 l a b).1,q):∃ r,(Instr.sliceAt T v vlo vhi none).run P w=.ok r w∧zA G w tm none (.val (.sl t) (yL8 l a b).2) r:=by
 obtain⟨ad,cap,rfl,hcap⟩:=yS hx
 obtain⟨x,y,h1,h2,h3,h4⟩:=zH2 (P:=P) (G:=G) (w:=w) (tm:=tm) (b:=true) (n:=l.length) (m:=cap) hcap ea eb hlo hlo' hhi hhi' (l:=l) rfl hp
 obtain⟨r,h5,h6⟩:=yN6 hT h1 h2 hx hcap h3
 exact⟨r,h5,by rw[h4];exact zL5 h6⟩
theorem yY8 {T U:Nat}{t:Ty}{l:List t.den}{v:Value}{lo hi:Option AVal}{vlo vhi:Option Value}{a b:Option Int}(hT:zC0 P (.sl t) (.inl T)=true)(hx:zF4 G w t l U true v)
  (ea:zL7 lo=some a) (eb:zL7 hi=some b)
  (hlo:∀ A,lo=some A→∃ v,vlo=some v∧zA G w tm none A v) (hlo':lo=none→vlo=none)
  (hhi:∀ A,hi=some A→∃ v,vhi=some v∧zA G w tm none A v) (hhi':hi=none→vhi=none)
  (hp:∀ q∈(yL8 l a b).1,q):∃ r,(Instr.sliceAt T v vlo vhi none).run P w=.ok r w∧zA G w tm none (.ownh t [(yL8 l a b).2] U 0 U false) r:=by
 obtain⟨hvt,hs⟩:=zB4 hx (yA6 hT)
 obtain⟨e,h1,h2⟩:=zG1 hT
 simp only[zA]
 rcases hs with ⟨rfl,rfl⟩ | ⟨cap,cur,e',us,rfl,g2,g3,g4,g5,g6,g7,g8⟩
 ·obtain⟨x,y,q1,q2,q3,q4⟩:=zH2 (P:=P) (G:=G) (w:=w) (tm:=tm) (b:=true) (n:=0) (m:=0) (jI _) ea eb hlo hlo' hhi hhi' (l:=([]:List t.den)) rfl hp
  have hxy:x=0∧y=0:=by omega
  obtain⟨rfl,rfl⟩:=hxy
  have q4':(yL8 ([]:List t.den) a b).2=([]:List t.den):=by rw[q4];simp
  rw[q4']
  have q3':(Instr.sliceBounds true (List.length (α:=t.den) []) 0 vlo vhi none).run P w=.ok (0,0,0) w:=q3
  refine⟨.slice none 0 0,?_,hvt,.inl ⟨rfl,rfl,[],none,0,rfl,rfl,.inl rfl⟩⟩
  simp only[Instr.sliceAt,Sem.run_bind,run_underlying h1 w,Result.andThen_ok,Instr.slice,q3,zD2 h2 w,Sem.run_pure]
  simp
 ·obtain⟨x,y,q1,q2,q3,q4⟩:=zH2 (P:=P) (G:=G) (w:=w) (tm:=tm) (b:=true) (n:=l.length) (m:=cap) g3 ea eb hlo hlo' hhi hhi' (l:=l) rfl hp
  have hlen:List.length (α:=t.den) ((l.take y).drop x)=y-x:=by simp;omega
  refine⟨.slice (if cap=x then some ⟨G.γ U,0,none⟩ else (some (⟨G.γ U,0,none⟩:Addr)).map (·.add (x*t.size))) (y-x) (cap-x),by simp only[Instr.sliceAt,Sem.run_bind,run_underlying h1 w,Result.andThen_ok,Instr.slice,q3,zD2 h2 w,Sem.run_pure],hvt,.inl ⟨rfl,rfl,(l.take y).drop x,_,_,by rw[q4],by rw[hlen],?_⟩⟩
  by_cases hz:y=x
  ·left;subst hz;apply List.eq_nil_of_length_eq_zero;omega
  ·right
   rw[if_neg (by omega)]
   refine⟨0+x*t.size,(us.take (y*t.size)).drop (x*t.size),cur,e',by simp[Addr.add_mid],by omega,g2,?_,?_,fun o=>by rw[g8,if_neg (by simp)]⟩
   ·exact yN (k:=t.size) (fun _ _ h=>zA1 h) x (yM9 (k:=t.size) (fun _ _ h=>zA1 h) y g6)
   ·intro j u hu
    rw[List.getElem?_drop,List.getElem?_take] at hu
    split at hu
    ·rw[← g7,List.getElem?_take] at hu
     split at hu
     ·rw[Nat.zero_add];exact hu
     ·cases hu
    ·cases hu
theorem zL1 (hty:zL4 P c.tys=true){T:Nat}{x A:AVal}{v:Value}{lo hi:Option AVal}{vlo vhi:Option Value}{p:List Prop}(hx:zA G w tm none x v)
  (hlo:∀ A,lo=some A→∃ v,vlo=some v∧zA G w tm none A v) (hlo':lo=none→vlo=none)
  (hhi:∀ A,hi=some A→∃ v,vhi=some v∧zA G w tm none A v) (hhi':hi=none→vhi=none)
  (h:xD8 c T x lo hi=some (p,A)) (hp:∀ q∈p,q):∃ r,(Instr.sliceAt T v vlo vhi none).run P w=.ok r w∧zA G w tm none A r:=by
 unfold xD8 at h
 split at h
 ·rename_i a b ea eb
  split at h
  ·rename_i s
   cases hi':c.is T .str with
   |false=>simp[hi'] at h
   |true =>
    simp only[hi',jE,jA,jG] at h
    obtain⟨rfl,rfl⟩:=h
    have hT:=zJ3 (zC hty hi')
    simp only[zA] at hx
    rw[VRep_str.1 hx]
    obtain⟨x,y,h1,h2,h3,h4⟩:=zH2 (P:=P) (G:=G) (w:=w) (tm:=tm) (b:=false) (m:=List.length (α:=UInt8) s) (jI _) ea eb hlo hlo' hhi hhi' (l:=s) rfl hp
    refine⟨.string ⟨(((List.take y s).drop x)).toArray⟩,?_,?_⟩
    ·have hsz:(⟨List.toArray s⟩:ByteArray).size=List.length (α:=UInt8) s:=by simp[ByteArray.size]
     simp only[Instr.sliceAt,Sem.run_bind,run_underlying hT w,Result.andThen_ok,Instr.slice,hsz,h3,Option.isSome_none,Bool.false_eq_true,if_false,Sem.run_pure,yK]
    ·rw[h4];exact yJ9
  ·rename_i t l
   cases hi':c.is T (.sl t) with
   |false=>simp[hi'] at h
   |true =>
    simp only[hi',jE,jA,jG] at h
    obtain⟨rfl,rfl⟩:=h
    have hT:=zC hty hi'
    simp only[zA] at hx
    exact yN7 hT ((zC1 rfl).1 hx) ea eb hlo hlo' hhi hhi' hp
  ·rename_i t l U m
   cases hi':c.is T (.sl t) with
   |false=>simp[hi'] at h
   |true =>
    simp only[hi',jE,jA,jG] at h
    obtain⟨rfl,rfl⟩:=h
    have hT:=zC hty hi'
    simp only[zA] at hx
    cases m with
    |true=>exact yY8 hT hx ea eb hlo hlo' hhi hhi' hp
    |false=>exact yN7 hT (zD1 hx) ea eb hlo hlo' hhi hhi' hp
  ·cases h
 ·cases h
theorem xF4:∀ {a:AVal}{vs:List Value}{k:Nat},zA G w tm none a (.tuple vs.toArray)→k<a.clen→∃ u,vs[k]?=some u∧zA G w tm none (a.nth k) u:=by
 intro a
 induction a with
 |cons h t _ iht =>
  intro vs k hr hk
  simp only[zA] at hr
  obtain⟨x,xs,e,h1,h2⟩:=hr
  simp only[Value.tuple.injEq] at e
  have e:vs=x::xs:=by simpa using e
  subst e
  cases k with
  |zero=>exact⟨x,rfl,h1⟩
  |succ k=>simp only[AVal.clen] at hk;obtain⟨u,h3,h4⟩:=iht (k:=k) h2 (by omega);exact⟨u,by simpa using h3,h4⟩
 |_=>intro vs k _ hk;simp[AVal.clen] at hk
theorem yY9 {a:AVal}{v:Value}(h:zA G w tm none a v)(hc:0<a.clen):∃ vs:List Value,v=.tuple vs.toArray:=by
 cases a with
 |cons h t=>simp only[zA] at h;obtain⟨x,xs,e,_⟩:=h;exact⟨x::xs,e⟩
 |_=>simp[AVal.clen] at hc
theorem yG0 {x A:AVal}{v:Value}{k:Nat}{p:List Prop}(hx:zA G w tm none x v)(h:yJ x k=some (p,A)) :
  ∃ r,(Instr.extract v k).run P w=.ok r w∧zA G w tm none A r:=by
 unfold yJ at h
 split at h
 ·rename_i a
  cases hk:Nat.blt k a.clen with
  |false=>simp[hk] at h
  |true =>
   simp only[hk,jE,jA,jG] at h
   obtain⟨rfl,rfl⟩:=h
   have hk:k<a.clen:=jR hk
   simp only[zA] at hx
   obtain⟨vs,rfl⟩:=yY9 hx (by omega)
   obtain⟨u,h1,h2⟩:=xF4 hx hk
   exact⟨u,by simp[Instr.extract,h1],h2⟩
 ·cases h
def zG {α β:Type}(R:α→β→Prop):List α→List β→Prop
 |[],[]=>True
 |a::r,b::s=>R a b∧zG R r s
 |_,_=>False
theorem yS0 {f:Int→Int→Int}{g:Value→Value→Sem Value}(hg:∀ k a b (w:World),(g (.int k a) (.int k b)).run P w=.ok (.int k (f a b)) w) :
  ∀ {r:List AVal}{vs:List Value}{A B:AVal}{v:Value},yM2 A=true→zA G w tm none A v→zG (zA G w tm none) r vs→yM1 f A r=some B →
   ∃ u,(vs.foldlM g v).run P w=.ok u w∧zA G w tm none B u:=by
 intro r
 induction r with
 |nil=>intro vs A B v hi ha hr h;cases vs with
  |cons _ _=>simp[zG] at hr
  |nil=>simp only[yM1,jA] at h;subst h;exact⟨v,by simp,ha⟩
 |cons x r ih =>
  intro vs A B v hi ha hr h
  cases vs with
  |nil=>simp[zG] at hr
  |cons u us =>
   simp only[zG] at hr
   obtain⟨hx,hr⟩:=hr
   cases A with
   |val τ a =>
    cases τ with
    |int k =>
     cases x with
     |val τ' b =>
      cases τ' with
      |int k' =>
       simp only[yM1] at h
       cases hk:Nat.beq (zI7 k) (zI7 k') with
       |false=>simp[hk] at h
       |true =>
        simp only[hk,jE] at h
        have:=zH7 (jC hk);subst this
        simp only[zA] at ha hx
        have e1:=VRep_int.1 ha;have e2:=VRep_int.1 hx
        subst e1;subst e2
        obtain⟨z,h1,h2⟩:=ih (v:=.int k (f a b)) rfl zC7 hr h
        exact⟨z,by simp[List.foldlM_cons,hg,h1],h2⟩
      |_=>simp[yM1] at h
     |_=>simp[yM1] at h
    |_=>simp[yM2] at hi
   |_=>simp[yM2] at hi
theorem yH0 {f:Int→Int→Int}{g:Value→Value→Sem Value}(hg:∀ k a b (w:World),(g (.int k a) (.int k b)).run P w=.ok (.int k (f a b)) w)
  {xs:List AVal}{vs:List Value}{A:AVal}{p:List Prop}(hx:zG (zA G w tm none) xs vs) (h:xU1 f xs=some (p,A)) :
  ∃ v r,vs=v::r∧∃ u,(r.foldlM g v).run P w=.ok u w∧zA G w tm none A u:=by
 cases xs with
 |nil=>simp[xU1] at h
 |cons x r =>
  cases vs with
  |nil=>simp[zG] at hx
  |cons v us =>
  simp only[zG] at hx
  obtain⟨hx,hr⟩:=hx
  simp only[xU1] at h
  cases hi:yM2 x with
  |false=>simp[hi] at h
  |true =>
   simp only[hi,jE] at h
   cases hf:yM1 f x r with
   |none=>simp[hf] at h
   |some B =>
    simp only[hf,jA,jG] at h
    obtain⟨rfl,rfl⟩:=h
    obtain⟨u,h1,h2⟩:=yS0 hg hi hx hr hf
    exact⟨v,us,rfl,u,h1,h2⟩
theorem xM7 (k:IntKind)(a b:Int)(w:World):(Builtin.max2 (.int k a) (.int k b)).run P w=.ok (.int k (xW8 a b)) w:=by simp[Builtin.max2,xW8]
theorem xM8 (k:IntKind)(a b:Int)(w:World):(Builtin.min2 (.int k a) (.int k b)).run P w=.ok (.int k (xW9 a b)) w:=by simp[Builtin.min2,xW9]
end Go.Am
namespace Go.Am
open Go Go.RowKit
variable {P:Program}{c:Ctx}{G:Gh}{w:World}{tm:Array Value}
theorem yK0 {α:Type}{R:α→List Value→Prop}(h:∀ x vs,R x vs→∀ u∈vs,u.oneCell'=true):∀ {l us},zJ1 R l us→∀ u∈us,u.oneCell'=true:=by
 intro l
 induction l with
 |nil=>intro us hu;simp only[zJ1] at hu;subst hu;simp
 |cons x l ih=>rintro us ⟨vs,ws,rfl,hx,hl⟩ u hu;exact (List.mem_append.1 hu).elim (fun hu=>h _ _ hx u hu) (fun hu=>ih hl u hu)
theorem yA9 {χ:Nat→Nat→Nat}:∀ {τ:Ty}{x:τ.den}{vs:List Value},zB0 χ w τ x vs→∀ u∈vs,u.oneCell'=true:=by
 intro τ
 induction τ with
 |int k=>intro x vs h u hu;simp only[zB0] at h;subst h;simp at hu;subst hu;rfl
 |bool=>intro x vs h u hu;simp only[zB0] at h;subst h;simp at hu;subst hu;rfl
 |str=>intro x vs h u hu;simp only[zB0] at h;subst h;simp at hu;subst hu;rfl
 |nl=>intro x vs h u hu;simp only[zB0] at h;subst h;simp at hu
 |cons a b ha hb=>intro x vs h u hu;simp only[zB0] at h;obtain⟨us,ws,rfl,h1,h2⟩:=h;exact (List.mem_append.1 hu).elim (fun hu=>ha h1 u hu) (fun hu=>hb h2 u hu)
 |st f hf=>intro x vs h u hu;simp only[zB0] at h;exact hf h u hu
 |arr n t ht=>intro x vs h u hu;simp only[zB0] at h;exact yK0 (fun _ _ h=>ht h) h.2 u hu
 |sl t ht=>intro x vs h u hu;simp only[zB0] at h;obtain⟨a,cap,rfl,_⟩:=h;simp at hu;subst hu;rfl
 |ptr t ht=>intro x vs h u hu;simp only[zB0] at h;obtain⟨b,o,us,rfl,_⟩:=h;simp at hu;subst hu;rfl
theorem yB {t:Ty}{l:List t.den}{T:Nat}{m:Bool}{v:Value}(h:zF4 G w t l T m v):v.oneCell'=true:=by
 rcases h with h|⟨_,k,e,l',_,_,es,clock,rfl,_⟩
 ·rcases h.2 with ⟨rfl,_⟩ | ⟨cap,cur,e,us,rfl,_⟩<;>rfl
 ·rfl
theorem zR1:∀ {A:AVal}{τ:Ty}{vs:List Value},zA2 G w τ A vs→∀ u∈vs,u.oneCell'=true:=by
 intro A
 induction A with
 |val τ' x=>intro τ vs h;simp only[zA2] at h;exact yA9 h.2.2
 |nil=>intro τ vs h u hu;simp only[zA2] at h;rw[h.2] at hu;simp at hu;subst hu;rfl
 |own t l T m=>intro τ vs h u hu;simp only[zA2] at h;obtain⟨_,v,rfl,h⟩:=h;simp at hu;subst hu;exact yB h
 |agg f a ih=>intro τ vs h;simp only[zA2] at h;exact ih h.2
 |nl=>intro τ vs h u hu;simp only[zA2] at h;rw[h.2] at hu;simp at hu
 |junk=>intro τ vs h u hu;simp only[zA2] at h;obtain⟨_,v,rfl,h1⟩:=h;simp at hu;subst hu;exact h1
 |cons a b iha ihb=>intro τ vs h u hu;simp only[zA2] at h;obtain⟨h1,t1,us,ws,_,rfl,h2,h3⟩:=h;exact (List.mem_append.1 hu).elim (fun hu=>iha h2 u hu) (fun hu=>ihb h3 u hu)
 |_=>intro τ vs h;simp only[zA2] at h
theorem zJ8 {τ:Ty}{us:List Value}{u:Value}(hs:zP τ us u)(h1:∀ u∈us,u.oneCell'=true):u.cells.toList=us:=by
 unfold zP at hs
 cases ha:τ.isAgg with
 |true=>rw[ha,jE] at hs;subst hs;simp[Value.cells]
 |false =>
  rw[ha,jD] at hs;subst hs
  have:=h1 u (by simp)
  cases u<;>simp_all [Value.cells,Value.oneCell']
theorem zR2 {χ:Nat→Nat→Nat}:∀ {τ:Ty},τ.noPtr=true→zB0 χ w τ τ.dflt (zB1 τ):=by
 intro τ
 induction τ with
 |int k=>intro _;simp only[zB0,zB1,Ty.dflt]
 |bool=>intro _;simp only[zB0,zB1,Ty.dflt]
 |str=>intro _;simp only[zB0,zB1,Ty.dflt]
 |nl=>intro _;simp only[zB0,zB1]
 |cons a b ha hb=>intro h;simp only[Ty.noPtr,jB] at h;simp only[zB0,zB1,Ty.dflt];exact⟨_,_,rfl,ha h.1,hb h.2⟩
 |st f hf=>intro h;simp only[Ty.noPtr] at h;simp only[zB0,zB1,Ty.dflt];exact hf h
 |arr n t ht=>intro h;simp only[Ty.noPtr] at h;simp only[zB0,zB1,Ty.dflt];exact⟨by simp,zI2 (ht h) n⟩
 |sl t _=>intro _;simp only[zB0,zB1,Ty.dflt];exact⟨none,0,rfl,.inl (by first|rfl|trivial)⟩
 |ptr t _=>intro h;simp[Ty.noPtr] at h
theorem yV8:∀ {τ:Ty},τ.noPtr=true→τ.plain=true→zA2 G w τ (zP2 τ) (zB1 τ):=by
 intro τ
 induction τ with
 |int k=>intro _ _;simp only[zA2,zP2,zB0,zB1];simp[Ty.isL]
 |bool=>intro _ _;simp only[zA2,zP2,zB0,zB1];simp[Ty.isL]
 |str=>intro _ _;simp only[zA2,zP2,zB0,zB1];simp[Ty.isL]
 |nl=>intro _ _;simp only[zA2,zP2,zB1];simp
 |cons a b ha hb =>
  intro h hp
  simp only[Ty.noPtr,jB] at h
  simp only[Ty.plain,jB,jK] at hp
  simp only[zP2,zA2,zB1]
  exact⟨a,b,_,_,rfl,rfl,ha h.1 hp.1.1.2,hb h.2 hp.2⟩
 |st f hf =>
  intro h hp
  simp only[Ty.noPtr] at h
  simp only[Ty.plain,jB] at hp
  simp only[zP2]
  cases hs:f.hasSl with
  |true=>simp only[jE,zA2,zB1];exact⟨trivial,hf h hp.2⟩
  |false=>simp only[jD,zA2];exact⟨trivial,rfl,zR2 (τ:=.st f) h⟩
 |arr n t ht=>intro h hp;simp only[zP2,zA2];exact⟨trivial,rfl,zR2 h⟩
 |sl t _=>intro _ _;simp only[zP2,zA2,zB1];simp[Ty.isSl]
 |ptr t _=>intro h;simp[Ty.noPtr] at h
theorem zJ5:∀ {τ:Ty},(zB1 τ).length=τ.size:=by
 intro τ
 induction τ with
 |cons a b ha hb=>simp[zB1,Ty.size,ha,hb]
 |st f hf=>simp[zB1,Ty.size,hf]
 |arr n t ht=>simp[zB1,Ty.size,ht]
 |_=>rfl
theorem yN8 (cells:Array Value)(off:Nat)(ps:List Value)(h:off+ps.length≤cells.size) :
  ((ps.toArray.zipIdx.foldl (fun cs (x:Value×Nat)=>cs.setIfInBounds (off+x.2) x.1) cells)).toList=spl cells.toList off ps:=by
 have key:∀ (ps:List Value) (k:Nat) (cells:Array Value),off+k+ps.length≤cells.size →
   ((ps.zipIdx k).foldl (fun cs (x:Value×Nat)=>cs.setIfInBounds (off+x.2) x.1) cells).toList=spl cells.toList (off+k) ps:=by
  intro ps
  induction ps with
  |nil=>intro k cells _;simp[xF]
  |cons p ps ih =>
   intro k cells hk
   simp only[List.length_cons] at hk
   simp only[List.zipIdx_cons,List.foldl_cons]
   rw[ih (k+1) _ (by simp;omega)]
   apply List.ext_getElem?
   intro j
   rw[spl_getElem? _ _ _ _ (by simp;omega),spl_getElem? _ _ _ _ (by simp;omega)]
   simp only[List.length_cons,Array.toList_setIfInBounds,List.getElem?_set]
   by_cases h1:off+k=j
   ·subst h1
    rw[if_neg (by omega),if_pos rfl,if_pos (by simp;omega),if_pos ⟨by omega,by omega⟩]
    simp
   ·by_cases h2:off+(k+1)≤j∧j<off+(k+1)+ps.length
    ·rw[if_pos h2,if_pos ⟨by omega,by omega⟩]
     rw[show j-(off+k)=(j-(off+(k+1)))+1 from by omega]
     simp
    ·rw[if_neg h2,if_neg h1,if_neg (by omega)]
 have:=key ps 0 cells (by omega)
 simp only[Nat.add_zero] at this
 rw[← this]
 congr 1
 simp
theorem yS1 {f:Ty}{places:Nat→Option (Nat×Nat)}(hpl:∀ k,k<f.flen→places k=some (f.foff k,(f.fty k).size)) :
  ∀ {parts:List (Nat×AVal)}{vs:List Value}{ks:List Nat}{z:AVal}{cells:Array Value},f.plain=true→zT7 f parts=true→zG (zA G w tm none) (parts.map (·.2)) vs→ks=parts.map (·.1) →
   zA2 G w f z cells.toList→∃ cells',Instr.fill places cells (List.zip ks vs)=some cells'∧zA2 G w f (xW parts z) cells'.toList:=by
 intro parts
 induction parts with
 |nil=>intro vs ks z cells _ _ hv hk hz;subst hk;exact⟨cells,by simp[Instr.fill],by simpa[xW] using hz⟩
 |cons q r ih =>
  intro vs ks z cells hp hf hv hk hz
  obtain⟨k,A⟩:=q
  cases vs with
  |nil=>simp[zG] at hv
  |cons v vs =>
   simp only[List.map_cons,zG] at hv
   simp only[zT7,List.all_cons,jB] at hf
   obtain⟨⟨hk1,hA⟩,hr⟩:=hf
   have hk1:k<f.flen:=jR hk1
   have hpf:=yD0 hp hk1
   obtain⟨us,h1,h2⟩:=zQ hv.1 hA hpf.1
   have hc:=zJ8 h2 (zR1 h1)
   have hle:=yD hk1
   have hcl:=zB hz
   have hul:=zB h1
   have hvs:v.cells=us.toArray:=by rw[← hc]
   subst hk
   simp only[List.map_cons,List.zip_cons_cons,Instr.fill,hpl k hk1]
   have hsz:v.cells.size=(f.fty k).size:=by rw[hvs];simpa using hul
   rw[if_neg (by simp only[hsz];simp;rw[← jN,hcl];exact hle)]
   have hcell:(Array.foldl (fun cs (x:Value×Nat)=>cs.setIfInBounds (f.foff k+x.2) x.1) cells v.cells.zipIdx).toList=spl cells.toList (f.foff k) us:=by
    rw[hvs];exact yN8 cells (f.foff k) us (by rw[← jN,hcl];omega)
   have hz':=zT0 hk1 hz h1
   rw[← hcell] at hz'
   obtain⟨cells',h3,h4⟩:=ih hp (by simpa[zT7] using hr) hv.2 rfl hz'
   exact⟨cells',h3,h4⟩
theorem yN9 {t:Ty}:∀ {parts:List (Nat×AVal)}{vs:List Value}{ks:List Nat}{l l':List t.den}{cells:Array Value},t.isL=false→(∀ q∈parts,q.1<l.length)→zG (zA G w tm none) (parts.map (·.2)) vs→ks=parts.map (·.1) →
   zJ1 (zB0 G.χ w t) l cells.toList→xS9 t parts l=some l'→∃ cells',Instr.fill (fun i=>some (i*t.size,t.size)) cells (List.zip ks vs)=some cells'∧zJ1 (zB0 G.χ w t) l' cells'.toList∧l'.length=l.length:=by
 intro parts
 induction parts with
 |nil=>intro vs ks l l' cells _ _ hv hk hz h;subst hk;simp only[xS9,jA] at h;subst h;exact⟨cells,by simp[Instr.fill],hz,rfl⟩
 |cons q r ih =>
  intro vs ks l l' cells hp hlt hv hk hz h
  obtain⟨k,A⟩:=q
  cases vs with
  |nil=>simp[zG] at hv
  |cons v vs =>
   simp only[List.map_cons,zG] at hv
   simp only[xS9] at h
   split at h
   ·rename_i x hx
    have hk1:k<l.length:=hlt (k,A) (by simp)
    obtain⟨us,h1,h2⟩:=zH9 hx hp hv.1
    have hc:=zJ8 h2 (yA9 h1)
    have hul:=zA1 h1
    have hcl:=zB3 (k:=t.size) (fun _ _ h=>zA1 h) hz
    have hvs:v.cells=us.toArray:=by rw[← hc]
    have hle:k*t.size+t.size≤l.length*t.size:=by rw[← Nat.succ_mul];exact jS _ (by omega)
    subst hk
    simp only[List.map_cons,List.zip_cons_cons,Instr.fill]
    have hsz:v.cells.size=t.size:=by rw[hvs];simpa using hul
    rw[if_neg (by simp only[hsz];simp;rw[← jN,hcl];exact hle)]
    have hcell:(Array.foldl (fun cs (x:Value×Nat)=>cs.setIfInBounds (k*t.size+x.2) x.1) cells v.cells.zipIdx).toList=spl cells.toList (k*t.size) us:=by
     rw[hvs];exact yN8 cells (k*t.size) us (by rw[← jN,hcl];omega)
    have hz':=yJ7 (R:=zB0 G.χ w t) (k:=t.size) (fun _ _ h=>zA1 h) h1 hz hk1
    rw[← hcell] at hz'
    obtain⟨cells',h3,h4,h5⟩:=ih hp (fun q hq=>by simp;exact hlt q (by simp[hq])) hv.2 rfl hz' h
    exact⟨cells',h3,h4,by rw[h5];simp⟩
   ·cases h
end Go.Am
