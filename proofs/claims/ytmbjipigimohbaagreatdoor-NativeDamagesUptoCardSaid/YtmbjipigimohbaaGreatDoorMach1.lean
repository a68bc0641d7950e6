/- The abstract machine, part 1: a typed interpreter for the program's code, and that it is sound. No condition. -/
import Derived.Calls
import Derived.KernelRfl
import Derived.Orders
import Derived.Laws.AppendOwn
import Derived.Below
import Derived.Deep.MidRow
import Derived.IntWalk
import Derived.Laws.StructEq
import Derived.ChangeKeysEq
namespace Go.Am
open Go
inductive Ty where
 |int (k:IntKind)|bool|str|nl|cons (h t:Ty)|st (f:Ty)|arr (n:Nat) (t:Ty)|sl (t:Ty)|ptr (t:Ty)
@[reducible] def Ty.den:Ty→Type
 |.int _=>Int|.bool=>Bool|.str=>List UInt8|.nl=>Unit|.cons h t=>h.den×t.den
 |.st f=>f.den|.arr _ t=>List t.den|.sl t=>List t.den|.ptr t=>t.den
def zJ1:IntKind→Nat
 |.i8=>0|.i16=>1|.i32=>2|.i64=>3|.u8=>4|.u16=>5|.u32=>6|.u64=>7
theorem zI7 {a b:IntKind}(h:zJ1 a=zJ1 b):a=b:=by cases a<;>cases b<;>first|rfl | (simp[zJ1] at h)
def Ty.beq:Ty→Ty→Bool
 |.int k,.int k'=>Nat.beq (zJ1 k) (zJ1 k')
 |.bool,.bool=>true
 |.str,.str=>true
 |.nl,.nl=>true
 |.cons a b,.cons c d=>Ty.beq a c&&Ty.beq b d
 |.st a,.st b=>Ty.beq a b
 |.arr n a,.arr m b=>Nat.beq n m&&Ty.beq a b
 |.sl a,.sl b=>Ty.beq a b
 |.ptr a,.ptr b=>Ty.beq a b
 |_,_=>false
theorem Ty.eq_of_beq:∀ {a b:Ty},Ty.beq a b=true→a=b:=by
 intro a
 induction a with
 |int k=>intro b h;cases b<;>simp[Ty.beq] at h;rename_i k';have:=zI7 h;rw[this]
 |bool=>intro b h;cases b<;>simp[Ty.beq] at h;rfl
 |str=>intro b h;cases b<;>simp[Ty.beq] at h;rfl
 |nl=>intro b h;cases b<;>simp[Ty.beq] at h;rfl
 |cons x y hx hy=>intro b h;cases b<;>simp[Ty.beq] at h;rw[hx h.1,hy h.2]
 |st x hx=>intro b h;cases b<;>simp[Ty.beq] at h;rw[hx h]
 |arr n x hx=>intro b h;cases b<;>simp[Ty.beq] at h;rw[h.1,hx h.2]
 |sl x hx=>intro b h;cases b<;>simp[Ty.beq] at h;rw[hx h]
 |ptr x hx=>intro b h;cases b<;>simp[Ty.beq] at h;rw[hx h]
def Ty.cast {a:Ty}(b:Ty)(x:a.den):Option b.den:=
 match h:Ty.beq a b with
 |true=>some (Ty.eq_of_beq h ▸ x)
 |false=>none
def Ty.dflt:(τ:Ty)→τ.den
 |.int _=>(0:Int)|.bool=>false|.str=>([]:List UInt8)|.nl=>()|.cons h t=>(h.dflt,t.dflt)
 |.st f=>f.dflt|.arr n t=>List.replicate n t.dflt|.sl t=>([]:List t.den)|.ptr t=>t.dflt
def Ty.size:Ty→Nat
 |.int _=>1|.bool=>1|.str=>1|.nl=>0|.cons h t=>h.size+t.size
 |.st f=>f.size|.arr n t=>n*t.size|.sl _=>1|.ptr _=>1
def Ty.isAgg:Ty→Bool
 |.st _=>true|.arr _ _=>true|_=>false
def Ty.isL:Ty→Bool
 |.nl=>true|.cons _ _=>true|_=>false
def Ty.plain:Ty→Bool
 |.cons h t=>!h.isL&&h.plain&&t.isL&&t.plain
 |.st f=>f.isL&&f.plain
 |.arr _ t=>!t.isL&&t.plain
 |.sl t=>!t.isL&&t.plain
 |.ptr t=>!t.isL&&t.plain
 |_=>true
def Ty.hasSl:Ty→Bool
 |.sl _=>true|.cons h t=>h.hasSl||t.hasSl|.st f=>f.hasSl|_=>false
def Ty.fty:Ty→Nat→Ty
 |.cons h _,0=>h
 |.cons _ t,k+1=>t.fty k
 |_,_=>.nl
def Ty.fget:(f:Ty)→(k:Nat)→f.den→(f.fty k).den
 |.cons _ _,0,x=>x.1
 |.cons _ t,k+1,x=>t.fget k x.2
 |.int _,_,_=>()|.bool,_,_=>()|.str,_,_=>()|.nl,_,_=>()|.st _,_,_=>()|.arr _ _,_,_=>()|.sl _,_,_=>()|.ptr _,_,_=>()
def Ty.fset:(f:Ty)→(k:Nat)→(f.fty k).den→f.den→f.den
 |.cons _ _,0,y,x=>(y,x.2)
 |.cons _ t,k+1,y,x=>(x.1,t.fset k y x.2)
 |.int _,_,_,x=>x|.bool,_,_,x=>x|.str,_,_,x=>x|.nl,_,_,x=>x|.st _,_,_,x=>x|.arr _ _,_,_,x=>x|.sl _,_,_,x=>x|.ptr _,_,_,x=>x
def Ty.foff:Ty→Nat→Nat
 |.cons _ _,0=>0
 |.cons h t,k+1=>h.size+t.foff k
 |_,_=>0
def Ty.flen:Ty→Nat
 |.cons _ t=>t.flen+1
 |_=>0
def Ty.eqb:(τ:Ty)→τ.den→τ.den→Bool
 |.int _,x,y=>@BEq.beq Int _ x y
 |.bool,x,y=>@BEq.beq Bool _ x y
 |.str,x,y=>@BEq.beq (List UInt8) _ x y
 |.nl,_,_=>true
 |.cons h t,x,y=>h.eqb x.1 y.1&&t.eqb x.2 y.2
 |.st f,x,y=>f.eqb x y
 |.arr n t,x,y=>(List.range n).all fun i=>t.eqb (List.getD (α:=t.den) x i t.dflt) (List.getD (α:=t.den) y i t.dflt)
 |.sl _,_,_=>false
 |.ptr _,_,_=>false
def Ty.cmp:Ty→Bool
 |.int _=>true|.bool=>true|.str=>true|.nl=>true|.cons h t=>h.cmp&&t.cmp|.st f=>f.cmp|.arr _ t=>t.cmp|.sl _=>false|.ptr _=>false
def Ty.noPtr:Ty→Bool
 |.ptr _=>false|.cons h t=>h.noPtr&&t.noPtr|.st f=>f.noPtr|.arr _ t=>t.noPtr|_=>true
def Ty.eqs:Ty→Bool
 |.bool=>true|.st _=>true|.arr _ _=>true|_=>false
def Ty.ht:Ty→Nat
 |.cons h t=>max h.ht t.ht|.st f=>f.ht+1|.arr _ t=>t.ht+1|_=>0
abbrev zG4:=List (Nat ⊕ Int)
def Ty.pty:Ty→zG4→Ty
 |τ,[]=>τ
 |.st f,.inl k::p=>(f.fty k).pty p
 |.arr _ t,.inr _::p=>t.pty p
 |_,_=>.nl
def Ty.poff:Ty→zG4→Nat
 |_,[]=>0
 |.st f,.inl k::p=>f.foff k+(f.fty k).poff p
 |.arr _ t,.inr i::p=>i.toNat*t.size+t.poff p
 |_,_=>0
inductive AVal where
 |junk
 |val (τ:Ty) (x:τ.den)
 |opt (s:Nat) (want g:Bool) (A:AVal)
 |nil
 |nn (b:Bool)
 |own (t:Ty) (l:List t.den) (T:Nat) (m:Bool)
 |box (τ:Ty) (c:AVal)
 |ref (s:Nat) (τ:Ty) (p:zG4)
 |eref (s:Nat) (T:Nat) (t:Ty) (i:Int) (p:zG4)
 |nl
 |cons (h t:AVal)
 |agg (f:Ty) (c:AVal)
 |tup (c:AVal)
 |fn (f:Nat) (c:AVal)
 |raw
 |rref (s:Nat)
 |fptr (f:Nat) (caps:List (Option (Nat×Ty)))
 |ownh (t:Ty) (l:List (List t.den)) (T i U:Nat) (m:Bool)
 |nilp
 |pn (b:Bool) (s:Nat) (τ:Ty)
 |may (b:Bool) (τ:Ty) (c:AVal)
 |ptrs (one:Bool) (l:List (Option (Nat×Ty×zG4)))
 |lbox (one:Bool) (ps:List zG4) (τ:Ty) (c:AVal)
 |bld (T e U:Nat) (l:List UInt8)
abbrev St:=List (Nat×AVal)
def zA4:Nat:=1000000
def vNo:Nat:=900000
def hid (i:Nat):Nat:=990000+i
def St.get:St→Nat→AVal
 |[],_=>.junk
 |(s,A)::r,n=>bif Nat.beq s n then A else bif Nat.beq s zA4 then .junk else St.get r n
def AVal.nth:AVal→Nat→AVal
 |.cons h _,0=>h
 |.cons _ t,k+1=>t.nth k
 |_,_=>.junk
def AVal.setNth:AVal→Nat→AVal→AVal
 |.cons _ t,0,B=>.cons B t
 |.cons h t,k+1,B=>.cons h (t.setNth k B)
 |A,_,_=>A
def zW5:Ty→AVal
 |.sl _=>.nil
 |.nl=>.nl
 |.cons h t=>.cons (zW5 h) (zW5 t)
 |.st f=>bif f.hasSl then .agg f (zW5 f) else .val (.st f) f.dflt
 |.int k=>.val (.int k) (0:Int)
 |.bool=>.val .bool false
 |.str=>.val .str ([]:List UInt8)
 |.arr n t=>.val (.arr n t) (Ty.dflt (.arr n t))
 |.ptr _=>.junk
def wK1:Value→AVal
 |.bool b=>.val .bool b
 |.int k n=>.val (.int k) n
 |.string s=>.val .str s.data.toList
 |.slice none 0 0=>.nil
 |.pointer none=>.nilp
 |_=>.junk
def yR7:(f:Ty)→f.den→AVal
 |.cons h t,x=>.cons (.val h x.1) (yR7 t x.2)
 |_,_=>.nl
def wO6:(τ:Ty)→Option τ.den
 |.sl _=>some []
 |_=>none
def wT1:(τ:Ty)→Option τ.den
 |.nl=>some ()
 |_=>none
def wU (g:(f:Ty)→Option f.den):(τ:Ty)→Option τ.den
 |.st f=>g f
 |_=>none
def xI3 (g g':(f:Ty)→Option f.den):(τ:Ty)→Option τ.den
 |.cons h t=>match g h,g' t with|some x,some y=>some (x,y)|_,_=>none
 |_=>none
def AVal.asT:AVal→(τ:Ty)→Option τ.den
 |.val τ' x,τ=>bif τ'.isL then none else Ty.cast τ x
 |.nil,τ=>wO6 τ
 |.own t l _ m,τ=>bif m then none else Ty.cast (a:=.sl t) τ l
 |.agg f c,τ=>bif Ty.beq (.st f) τ then wU (AVal.asT c) τ else none
 |.nl,τ=>wT1 τ
 |.cons a b,τ=>xI3 (AVal.asT a) (AVal.asT b) τ
 |_,_=>none
def AVal.as (τ:Ty)(A:AVal):Option τ.den:=A.asT τ
def Ty.isSl:Ty→Bool
 |.sl _=>true|_=>false
def zF5 (g g':Ty→Bool):Ty→Bool
 |.cons h t=>g h&&g' t
 |_=>false
def AVal.fitsT:AVal→Ty→Bool
 |.val τ' _,τ=>Ty.beq τ' τ&&!τ'.isL
 |.nil,τ=>τ.isSl
 |.own t _ _ _,τ=>Ty.beq (.sl t) τ
 |.agg f c,τ=>Ty.beq (.st f) τ&&AVal.fitsT c f
 |.nl,τ=>Ty.beq .nl τ
 |.cons a b,τ=>zF5 (AVal.fitsT a) (AVal.fitsT b) τ
 |_,_=>false
def AVal.fits (τ:Ty)(A:AVal):Bool:=A.fitsT τ
def AVal.laxT:AVal→Ty→Bool
 |.val τ' _,τ=>Ty.beq τ' τ&&!τ'.isL
 |.nil,τ=>τ.isSl
 |.own t _ _ _,τ=>Ty.beq (.sl t) τ
 |.agg f c,τ=>Ty.beq (.st f) τ&&AVal.laxT c f
 |.nl,τ=>Ty.beq .nl τ
 |.cons a b,τ=>zF5 (AVal.laxT a) (AVal.laxT b) τ
 |.junk,τ=>τ.isSl
 |_,_=>false
def AVal.fld (k:Nat):AVal→AVal
 |.val (.st f) x=>.val (f.fty k) (f.fget k x)
 |.agg _ c=>c.nth k
 |_=>.junk
def AVal.ix (i:Int):AVal→AVal
 |.val (.arr _ t) l=>.val t (List.getD (α:=t.den) l i.toNat t.dflt)
 |_=>.junk
def AVal.at (c:AVal):zG4→AVal
 |[]=>c
 |.inl k::p=>(c.fld k).at p
 |.inr i::p=>(c.ix i).at p
def AVal.put:zG4→AVal→AVal→AVal
 |[],_,B=>B
 |.inl k::p,.agg f c,B=>.agg f (c.setNth k (AVal.put p (c.nth k) B))
 |.inl k::p,.val (.st f) x,B =>
  let C:=AVal.put p (.val (f.fty k) (f.fget k x)) B
  match AVal.as (f.fty k) C with
  |some y=>.val (.st f) (f.fset k y x)
  |none=>.agg f ((yR7 f x).setNth k C)
 |.inr i::p,.val (.arr n t) l,B =>
  match AVal.as t (AVal.put p (.val t (List.getD (α:=t.den) l i.toNat t.dflt)) B) with
  |some y=>.val (.arr n t) (List.set (α:=t.den) l i.toNat y)
  |none=>.junk
 |_,_,_=>.junk
def AVal.hasTag (T:Nat):AVal→Bool
 |.own _ _ T' _=>Nat.beq T T'
 |.eref _ T' _ _ _=>Nat.beq T T'
 |.ownh _ _ T' _ U _=>Nat.beq T T'||Nat.beq T U
 |.opt _ _ _ A=>A.hasTag T
 |.box _ c=>c.hasTag T
 |.may _ _ c=>c.hasTag T
 |.bld _ _ U _=>Nat.beq T U
 |.cons h t=>h.hasTag T||t.hasTag T
 |.agg _ c=>c.hasTag T
 |.tup c=>c.hasTag T
 |.fn _ c=>c.hasTag T
 |_=>false
def wE0 (s:Nat):Option (Nat×Ty)→Bool
 |some (k,_)=>Nat.beq s k
 |none=>false
def wE1 (s:Nat):Option (Nat×Ty×zG4)→Bool
 |some (k,_)=>Nat.beq s k
 |none=>false
def AVal.hasRef (s:Nat):AVal→Bool
 |.ptrs _ l=>l.any (wE1 s)
 |.ref s' _ _=>Nat.beq s s'
 |.rref s'=>Nat.beq s s'
 |.pn _ s' _=>Nat.beq s s'
 |.may _ _ c=>c.hasRef s
 |.fptr _ caps=>caps.any (wE0 s)
 |.opt _ _ _ A=>A.hasRef s
 |.box _ c=>c.hasRef s
 |.cons h t=>h.hasRef s||t.hasRef s
 |.agg _ c=>c.hasRef s
 |.tup c=>c.hasRef s
 |.fn _ c=>c.hasRef s
 |_=>false
def AVal.mapOwn (g:(t:Ty)→List t.den→Nat→Bool→AVal)(h:Nat→Nat→Ty→Int→zG4→AVal):AVal→AVal
 |.own t l T m=>g t l T m
 |.eref s T t i p=>h s T t i p
 |.opt s w b A=>.opt s w b (A.mapOwn g h)
 |.box τ c=>bif (c.mapOwn g h).laxT τ then .box τ (c.mapOwn g h) else .junk
 |.may b τ c=>bif (c.mapOwn g h).laxT τ then .may b τ (c.mapOwn g h) else .junk
 |.cons x y=>.cons (x.mapOwn g h) (y.mapOwn g h)
 |.agg f c=>bif (c.mapOwn g h).laxT f then .agg f (c.mapOwn g h) else .junk
 |.tup c=>.tup (c.mapOwn g h)
 |.fn f c=>.fn f (c.mapOwn g h)
 |.ownh _ _ _ _ _ _=>.junk
 |.bld _ _ _ _=>.junk
 |A=>A
def AVal.retag (T U:Nat):AVal→AVal:=
 AVal.mapOwn (fun t l T' m=>.own t l (bif Nat.beq T T' then U else T') m) (fun s T' t i p=>.eref s (bif Nat.beq T T' then U else T') t i p)
def AVal.retagH (T U:Nat):AVal→AVal
 |.ownh t l T' i V m=>.ownh t l (bif Nat.beq T T' then U else T') i (bif Nat.beq T V then U else V) m
 |A=>A.retag T U
def AVal.lose (T:Nat):AVal→AVal:=
 AVal.mapOwn (fun t l T' m=>bif Nat.beq T T' then (bif m then .junk else .val (.sl t) l) else .own t l T' m) (fun s T' t i p=>bif Nat.beq T T' then .junk else .eref s T' t i p)
def AVal.gone (T:Nat):AVal→AVal:=
 AVal.mapOwn (fun t l T' m=>bif Nat.beq T T' then .junk else .own t l T' m) (fun s T' t i p=>bif Nat.beq T T' then .junk else .eref s T' t i p)
def AVal.hung (d:Nat):AVal→Bool
 |.opt s _ _ A=>Nat.beq s d||A.hung d
 |.cons a b=>a.hung d||b.hung d
 |.tup c=>c.hung d
 |.fn _ c=>c.hung d
 |_=>false
def AVal.hasOpt:AVal→Bool
 |.opt _ _ _ _=>true
 |.cons a b=>a.hasOpt||b.hasOpt
 |.tup c=>c.hasOpt
 |.fn _ c=>c.hasOpt
 |_=>false
structure GTab where
 tab:List (Nat×(τ:Ty)×τ.den)
abbrev GlobTab:Type:=Inhabited GTab
def GlobTab.tab [i:GlobTab]:List (Nat×(τ:Ty)×τ.den):=(@default GTab i).tab
def Ty.nsl:Ty→Nat
 |.sl _=>1|.cons h t=>h.nsl+t.nsl|.st f=>f.nsl|_=>0
def AVal.pos:AVal→Ty→Nat→AVal
 |.own t l _ m,_,b=>.own t l b m
 |.agg f c,_,b=>.agg f (c.pos f b)
 |.cons x y,.cons h t,b=>.cons (x.pos h b) (y.pos t (b+h.nsl))
 |.cons _ _,_,_=>.junk
 |A,_,_=>A
def AVal.tags:AVal→Ty→Nat→List (Nat×Nat)
 |.own _ _ T _,_,b=>[(T,b)]
 |.agg f c,_,b=>c.tags f b
 |.cons x y,.cons h t,b=>x.tags h b++y.tags t (b+h.nsl)
 |_,_,_=>[]
def Ty.noMem:Ty→Bool
 |.sl _=>false|.ptr _=>false|.cons h t=>h.noMem&&t.noMem|.st f=>f.noMem|.arr _ t=>t.noMem|_=>true
def AVal.scal:AVal→Bool
 |.val τ _=>τ.noMem
 |.nil=>true
 |.own t _ _ _=>t.noMem
 |.tup c=>c.scal
 |.nl=>true
 |.cons a b=>a.scal&&b.scal
 |_=>false
def AVal.pureL:AVal→Bool
 |.nl=>true
 |.cons (.val _ _) t=>t.pureL
 |.cons .nil t=>t.pureL
 |.cons (.fn _ .nl) t=>t.pureL
 |_=>false
end Go.Am
namespace Go.Am
open Go
structure CallOut where
 ok:List Prop
 res:AVal
 outs:List (Nat×AVal)
 nb:List (Nat×AVal)
abbrev Spec:=List AVal→Option CallOut
structure Comp where
 kind:Nat
 g:Option Bool
 d:St
structure Out where
 ok:List Prop
 comps:List Comp
structure Ctx where
 tys:List (Nat×Ty)
 fns:List (Nat×Spec)
 loops:List (Nat×(St→Option Out))
 gh:List (Nat×List (Nat×Nat×Nat×Nat))
 wrap:Bool
 n:Nat
 keep:List Nat
 wr:List Nat
 wants:List (Nat×List Nat):=[]
 exts:List (Nat×(List AVal→Option (List Prop×AVal))):=[]
 maps:List (Nat×(Ty×Ty)):=[]
 fts:List Nat:=[]
 clones:List (Nat×Nat):=[]
 blds:List (Nat×Nat×Nat×Nat):=[]
 dead:List Nat:=[]
 closed:Bool:=false
 skip:Bool:=false
def look {α:Type}(dflt:α):List (Nat×α)→Nat→α
 |[],_=>dflt
 |(k,a)::r,n=>bif Nat.beq k n then a else look dflt r n
def Ctx.ty (c:Ctx)(T:Nat):Ty:=look .nl c.tys T
def wO7:Ty→Bool
 |.nl=>false|_=>true
def Ctx.is (c:Ctx)(T:Nat)(τ:Ty):Bool:=Ty.beq τ (c.ty T)&&wO7 τ
def Ctx.mapTy (c:Ctx)(T:Nat):Option (Ty×Ty):=look none (c.maps.map fun e=>(e.1,some e.2)) T
@[reducible] def xS (k v:Ty):Ty:=.cons k (.cons v .nl)
def yR8 (k v:Ty)(x:k.den):List (k.den×v.den×Unit)→Option v.den
 |[]=>none
 |e::r=>bif k.eqb x e.1 then some e.2.1 else yR8 k v x r
def wD8 (k v:Ty)(x:k.den)(y:v.den):List (k.den×v.den×Unit)→List (k.den×v.den×Unit)
 |[]=>[(x,y,())]
 |e::r=>bif k.eqb x e.1 then (x,y,())::r else e::wD8 k v x y r
def InR (r:Int):Prop:=-9223372036854775808≤r∧r≤9223372036854775807
def xS0:List (Nat×(τ:Ty)×τ.den)→Nat→AVal
 |[],_=>.junk
 |(k,⟨τ,x⟩)::r,g=>bif Nat.beq k g then .val (.ptr τ) x else xS0 r g
def arg [GlobTab] (S:St):Operand→AVal
 |.tmp t=>match S.get t with|.box τ _=>bif Nat.blt t vNo then .ref t τ [] else .junk|.raw=>.rref t|.may _ _ _=>.junk|.bld _ _ _ _=>bif Nat.blt t vNo then .ref t .nl [] else .junk | A=>A
 |.const v=>wK1 v
 |.func f=>.fn f .nl
 |.global g=>xS0 GlobTab.tab g
def zB (S:St):AVal→AVal
 |.ref s _ _=>S.get s
 |.eref s _ _ _ _=>S.get s
 |.rref s=>S.get s
 |_=>.junk
def yR9:Option Bool→Option Bool→Option Bool
 |none,g=>g
 |some a,none=>some a
 |some a,some b=>some (a&&b)
abbrev Gd:=Option (Nat×Bool×Bool)
def zP1 (dsts:List (Option Nat))(S:St):Option (Nat×Bool)→Option Gd
 |none=>some none
 |some (j,want) =>
  match dsts[j]? with
  |some (some s)=>match S.get s with
   |.val .bool b=>some (some (s,want,bif want then b else !b))
   |.opt _ _ g (.val .bool b)=>some (some (s,want,g&&(bif want then b else !b)))
   |_=>none
  |_=>none
def zG (gd:Gd):AVal→AVal
 |.opt s w _ A=>match gd with
  |some (s',w',_)=>bif Nat.beq s s'&&(w==w') then A else .junk
  |none=>.junk
 |A=>A
def yV6:Operand→Option Int
 |.const (.int _ n)=>some n
 |_=>none
def wL4:IntKind→Bool
 |.i64=>true|_=>false
def yI9 (wrap:Bool)(k:IntKind)(r:Int):List Prop×AVal:=
 bif !wrap&&wL4 k then ([InR r],.val (.int k) r) else ([],.val (.int k) (k.wrap r))
def yS (y:Operand)(b:Int):List Prop:=
 match yV6 y with
 |some n=>bif n==0 then [False] else []
 |none=>[b≠0]
def xI4 (y:Operand)(b:Int):List Prop:=
 match yV6 y with
 |some n=>bif decide (0≤n) then [] else [False]
 |none=>[0≤b]
def zZ0 (k:IntKind)(f:BitVec k.bits→BitVec k.bits→BitVec k.bits)(a b:Int):Int:=
 k.wrap ((f (BitVec.ofInt k.bits a) (BitVec.ofInt k.bits b)).toNat)
def xS1 (wrap:Bool)(op:BinOp)(k:IntKind)(a b:Int)(y:Operand):Option (List Prop×AVal):=
 match op with
 |.add=>some (yI9 wrap k (a+b))
 |.sub=>some (yI9 wrap k (a-b))
 |.mul=>some (yI9 wrap k (a*b))
 |.quo=>some (yS y b++(yI9 wrap k (a.tdiv b)).1,(yI9 wrap k (a.tdiv b)).2)
 |.rem=>some (yS y b,.val (.int k) (a.tmod b))
 |.and=>some ([],.val (.int k) (zZ0 k (fun x y=>x &&& y) a b))
 |.or=>some ([],.val (.int k) (zZ0 k (fun x y=>x ||| y) a b))
 |.xor=>some ([],.val (.int k) (zZ0 k (fun x y=>x ^^^ y) a b))
 |.andNot=>some ([],.val (.int k) (zZ0 k (fun x y=>x &&& ~~~y) a b))
 |.eql=>some ([],.val .bool (a==b))
 |.neq=>some ([],.val .bool (a !=b))
 |.lss=>some ([],.val .bool (decide (a<b)))
 |.leq=>some ([],.val .bool (decide (a≤b)))
 |.gtr=>some ([],.val .bool (decide (a>b)))
 |.geq=>some ([],.val .bool (decide (a≥b)))
 |_=>none
def yS0 (wrap:Bool)(op:BinOp)(k:IntKind)(a b:Int)(y:Operand):Option (List Prop×AVal):=
 match op with
 |.shl=>some (xI4 y b++(yI9 wrap k (a*2 ^ (min b.toNat k.bits))).1,(yI9 wrap k (a*2 ^ (min b.toNat k.bits))).2)
 |.shr=>some (xI4 y b,.val (.int k) (a.fdiv (2 ^ (min b.toNat k.bits))))
 |_=>none
def xC2:BinOp→Bool
 |.shl=>true|.shr=>true|_=>false
def xS2 (op:BinOp)(a b:List UInt8):Option (List Prop×AVal):=
 match op with
 |.add=>some ([((a.length+b.length:Nat):Int)≤9223372036854775807],.val .str (a++b))
 |.eql=>some ([],.val .bool (a==b))
 |.neq=>some ([],.val .bool (!(a==b)))
 |.lss=>some ([],.val .bool (Op.bytesLess a b))
 |.leq=>some ([],.val .bool (Op.bytesLess a b||a==b))
 |.gtr=>some ([],.val .bool (!(Op.bytesLess a b||a==b)))
 |.geq=>some ([],.val .bool (!(Op.bytesLess a b)))
 |_=>none
def wL5 (op:BinOp)(τ:Ty)(x y:AVal):Option (List Prop×AVal):=
 match τ.cmp&&τ.eqs,AVal.as τ x,AVal.as τ y with
 |true,some a,some b =>
  match op with
  |.eql=>some ([],.val .bool (τ.eqb a b))
  |.neq=>some ([],.val .bool (!(τ.eqb a b)))
  |_=>none
 |_,_,_=>none
def zO4 (op:BinOp)(p:List Prop)(b:Bool):Option (List Prop×AVal):=
 match op with
 |.eql=>some (p,.val .bool b)
 |.neq=>some (p,.val .bool (!b))
 |_=>none
def wL6 (c:Ctx)(op:BinOp)(T:Nat)(x:AVal):Option (List Prop×AVal):=
 match c.ty T with
 |.sl _=>(match x with
  |.nil=>zO4 op [] true
  |.nn b=>zO4 op [] b
  |.val (.sl t) l=>zO4 op [0<List.length (α:=t.den) l] false
  |.own t l _ _=>bif t.isL then none else zO4 op [0<l.length] false
  |_=>none)
 |_=>none
def xS3 (c:Ctx)(op:BinOp)(T:Nat)(x:AVal):Option (List Prop×AVal):=
 match c.ty T with
 |.ptr _=>(match x with
  |.nilp=>zO4 op [] true
  |.pn b _ _=>zO4 op [] b
  |.ref _ _ _=>zO4 op [] false
  |.val (.ptr _) _=>zO4 op [] false
  |_=>none)
 |_=>none
def wS (c:Ctx)(op:BinOp)(T:Nat)(x y:AVal)(oy:Operand):Option (List Prop×AVal):=
 match x,y with
 |.val (.int k) a,.val (.int k') b =>
  bif xC2 op then yS0 c.wrap op k a b oy
  else bif Nat.beq (zJ1 k) (zJ1 k') then xS1 c.wrap op k a b oy else none
 |.val .str a,.val .str b=>xS2 op a b
 |x,.nil=>wL6 c op T x
 |x,.nilp=>xS3 c op T x
 |x,y=>wL5 op (c.ty T) x y
def unA (c:Ctx)(op:UnOp)(x:AVal):Option (List Prop×AVal):=
 match op,x with
 |.not,.val .bool b=>some ([],.val .bool (!b))
 |.neg,.val (.int k) n=>some (yI9 c.wrap k (Int.sub 0 n))
 |.xor,.val (.int k) n=>some ([],.val (.int k) (zZ0 k (fun x y=>x ^^^ y) (if k.signed then -1 else k.max) n))
 |_,_=>none
def wO8 (t:Ty):AVal→Option (List t.den)
 |.own t' l _ _=>Ty.cast (a:=.sl t') (.sl t) l
 |.nn _=>some []
 |B=>AVal.as (.sl t) B
def xC3 (l:List Int):List UInt8:=l.map fun n=>UInt8.ofNat n.toNat
def wL7 (c:Ctx)(src dst:Nat)(x:AVal):Option (List Prop×AVal):=
 match c.ty src,c.ty dst,x with
 |.int _,.int k,.val (.int _) n=>some ([],.val (.int k) (k.wrap n))
 |.str,.str,.val .str s=>some ([],.val .str s)
 |.sl (.int .u8),.str,x=>(match wO8 (.int .u8) x with|some l=>some ([],.val .str (xC3 l))|none=>none)
 |_,_,_=>none
def zP4 (ix:Operand)(i:Int)(n:Int):List Prop:=
 match yV6 ix with
 |some _=>[0≤i∧i<n]
 |none=>[0≤i∧i<n]
def zU8 (c:Ctx)(T:Nat)(x:AVal)(s:Nat)(i:AVal)(ix:Operand):Option (List Prop×AVal):=
 match x,i with
 |.val (.sl t) l,.val (.int _) i=>bif c.is T (.sl t) then some (zP4 ix i (List.length (α:=t.den) l:Int),.val (.ptr t) (List.getD (α:=t.den) l i.toNat t.dflt)) else none
 |.own t l U m,.val (.int _) i =>
  bif c.is T (.sl t) then
   (bif m then some (zP4 ix i (l.length:Int),.eref s U t i [])
    else some (zP4 ix i (l.length:Int),.val (.ptr t) (List.getD (α:=t.den) l i.toNat t.dflt))) else none
 |.ownh t l U _ V m,.val (.int _) i=>bif c.is T (.sl (.sl t))&&(m||!(Nat.beq U V)) then some (zP4 ix i (List.length (α:=List t.den) l:Int),.eref s U (.sl t) i []) else none
 |.val (.ptr (.arr n t)) l,.val (.int _) i=>bif c.is T (.arr n t) then some (zP4 ix i (n:Int),.val (.ptr t) (List.getD (α:=t.den) l i.toNat t.dflt)) else none
 |.ptrs false l,.val (.int _) i=>(match c.ty T with|.sl (.ptr t)=>bif c.is T (.sl (.ptr t)) then some (zP4 ix i (l.length:Int),.ptrs true [l.getD i.toNat none]) else none|_=>none)
 |.ref s τ p,.val (.int _) i =>
  match τ.pty p with
  |.arr n t=>bif c.is T (.arr n t) then some (zP4 ix i (n:Int),.ref s τ (p++[.inr i])) else none
  |_=>none
 |.eref s U t j p,.val (.int _) i =>
  match t.pty p with
  |.arr n t'=>bif c.is T (.arr n t') then some (zP4 ix i (n:Int),.eref s U t j (p++[.inr i])) else none
  |_=>none
 |_,_=>none
def xS4 (c:Ctx)(T:Nat)(x i:AVal)(ix:Operand):Option (List Prop×AVal):=
 match x,i with
 |.val .str s,.val (.int _) i=>bif c.is T .str then some (zP4 ix i (List.length (α:=UInt8) s:Int),.val (.int .u8) ((List.getD (α:=UInt8) s i.toNat 0).toNat:Int)) else none
 |.val (.arr n t) l,.val (.int _) i=>bif c.is T (.arr n t) then some (zP4 ix i (n:Int),.val t (List.getD (α:=t.den) l i.toNat t.dflt)) else none
 |_,_=>none
def zI8 (c:Ctx)(T:Nat)(x:AVal)(k:Nat):Option (List Prop×AVal):=
 match x with
 |.val (.ptr (.st f)) v=>bif c.is T (.st f)&&Nat.blt k f.flen&&Nat.blt 0 (f.fty k).size then some ([],.val (.ptr (f.fty k)) (f.fget k v)) else none
 |.ref s τ p =>
  match τ.pty p with
  |.st f=>bif c.is T (.st f)&&Nat.blt k f.flen&&Nat.blt 0 (f.fty k).size then some ([],.ref s τ (p++[.inl k])) else none
  |_=>none
 |.eref s U t i p =>
  match t.pty p with
  |.st f=>bif c.is T (.st f)&&Nat.blt k f.flen&&Nat.blt 0 (f.fty k).size then some ([],.eref s U t i (p++[.inl k])) else none
  |_=>none
 |_=>none
def xS5 (c:Ctx)(T:Nat)(x:AVal)(k:Nat):Option (List Prop×AVal):=
 match x with
 |.val (.st f) v=>bif c.is T (.st f)&&Nat.blt k f.flen then some ([],.val (f.fty k) (f.fget k v)) else none
 |.agg f a=>bif c.is T (.st f)&&Nat.blt k f.flen then some ([],a.nth k) else none
 |_=>none
def wN7 (f:Nat)(caps:List (Option (Nat×Ty))):List (Option (Nat×Ty))→AVal
 |[]=>.nl
 |some (k,τ)::r=>.cons (.ref k τ []) (wN7 f caps r)
 |none::r=>.cons (.fptr f caps) (wN7 f caps r)
def zW8 (s:Nat):AVal→Option (List (Option (Nat×Ty)))
 |.nl=>some []
 |.cons (.ref k τ []) t=>(match zW8 s t with|some r=>some (some (k,τ)::r)|none=>none)
 |.cons (.rref s') t=>bif Nat.beq s s' then (match zW8 s t with|some r=>some (none::r)|none=>none) else none
 |_=>none
def wO9:Option (Nat×Ty×zG4)→AVal
 |none=>.nilp
 |some (s,τ,p)=>.ref s τ p
def yG8 (c:Ctx)(T:Nat)(x cont:AVal):Option (List Prop×AVal):=
 match x with
 |.fptr f caps=>bif c.fts.any (Nat.beq T) then some ([],.fn f (wN7 f caps caps)) else none
 |.val (.ptr t) v=>bif c.is T t then some ([],.val t v) else none
 |.ptrs true (o::_)=>(match c.ty T with|.ptr t=>bif c.is T (.ptr t) then some ([],wO9 o) else none|_=>none)
 |.ref _ τ p =>
  match cont with
  |.box τ' k=>bif Ty.beq τ' τ&&c.is T (τ.pty p)&&AVal.fits (τ.pty p) (k.at p) then some ([],k.at p) else none
  |_=>none
 |.eref _ U t i p =>
  match cont with
  |.ownh t' l U' j V m=>bif Ty.beq (.sl t') t&&Nat.beq U' U&&c.is T (.sl t')&&p.isEmpty&&!(Nat.beq U' V) then some ([i.toNat=j∧i<(List.length (α:=List t'.den) l:Int)],.own t' (List.getD (α:=List t'.den) l j []) V m) else none
  |.own t' l U' _=>bif Ty.beq t' t&&Nat.beq U' U&&c.is T (t.pty p)&&AVal.fits (t.pty p) ((AVal.val t' (List.getD (α:=t'.den) l i.toNat t'.dflt)).at p) then some ([i<(l.length:Int)],(AVal.val t' (List.getD (α:=t'.den) l i.toNat t'.dflt)).at p) else none
  |_=>none
 |_=>none
def xS6 (c:Ctx)(T:Nat)(x cont v:AVal):Option (Nat×AVal):=
 match x with
 |.ref s τ p =>
  match cont with
  |.box τ' k =>
   bif Ty.beq τ' τ&&c.is T (τ.pty p)&&AVal.fits (τ.pty p) v&&AVal.laxT (k.at p) (τ.pty p)&&AVal.laxT (AVal.put p k v) τ then some (s,.box τ (AVal.put p k v)) else none
  |_=>none
 |_=>none
def wR2 (parts:List (Nat×AVal))(z:AVal):AVal:=parts.foldl (fun a q=>a.setNth q.1 q.2) z
def wN8 (t:Ty):List (Nat×AVal)→List t.den→Option (List t.den)
 |[],l=>some l
 |(k,A)::r,l=>match AVal.as t A with|some x=>wN8 t r (l.set k x)|none=>none
def zZ1 (f:Ty)(parts:List (Nat×AVal)):Bool:=parts.all fun q=>Nat.blt q.1 f.flen&&AVal.fits (f.fty q.1) q.2
def xS7 (c:Ctx)(T:Nat)(parts:List (Nat×AVal)):Option (List Prop×AVal):=
 match c.ty T with
 |.st f =>
  bif zZ1 f parts&&f.noPtr then
   (bif f.hasSl then some ([],.agg f (wR2 parts (zW5 f)))
    else match AVal.as f (wR2 parts (zW5 f)) with|some x=>some ([],.val (.st f) x)|none=>none)
  else none
 |.arr n t=>bif parts.all (fun q=>Nat.blt q.1 n)&&t.noPtr then (match wN8 t parts (List.replicate n t.dflt) with|some l=>some ([],.val (.arr n t) l)|none=>none) else none
 |_=>none
def zZ2 (c:Ctx)(T len dst:Nat)(parts:List (Nat×AVal)):Option (List Prop×AVal):=
 match parts with
 |[(0,.nil)]=>bif c.wr.any (Nat.beq dst)&&Nat.beq len 1 then
   (match c.ty T with
    |.sl (.sl s)=>bif !s.isL then some ([],.ownh s [[]] dst 0 (100000+dst) true) else none
    |_=>none) else none
 |_=>none
def zM2 (t:Ty):Nat→List (Nat×AVal)→Option (List (Option (Nat×Ty×zG4)))
 |_,[]=>some []
 |i,(k,.nilp)::r=>bif Nat.beq i k then (match zM2 t (i+1) r with|some l=>some (none::l)|none=>none) else none
 |i,(k,.ref s τ p)::r=>bif Nat.beq i k then (match zM2 t (i+1) r with|some l=>some (some (s,τ,p)::l)|none=>none) else none
 |_,_=>none
def zU9 (c:Ctx)(T len:Nat)(parts:List (Nat×AVal)):Option (List Prop×AVal):=
 match c.ty T with
 |.sl (.ptr t)=>(match zM2 t 0 parts with|some l=>bif c.is T (.sl (.ptr t))&&(Nat.beq l.length len&&(Nat.blt 0 len&&Nat.ble len 16777216)) then some ([],.ptrs false l) else none|none=>none)
 |_=>none
def yS1 (c:Ctx)(T:Nat)(A:AVal):Option (List Prop×AVal):=
 match A with
 |.ref s τ p=>(match c.ty T with|.ptr t=>bif c.is T (.ptr t) then some ([],.ptrs true [some (s,τ,p)]) else none|_=>none)
 |.nilp=>(match c.ty T with|.ptr t=>bif c.is T (.ptr t) then some ([],.ptrs true [none]) else none|_=>none)
 |_=>none
def yJ (c:Ctx)(T len dst:Nat)(parts:List (Nat×AVal)):Option (List Prop×AVal):=
 match c.ty T with
 |.sl t=>bif parts.all (fun q=>Nat.blt q.1 len)&&Nat.ble (len*t.size) 16777216&&Nat.blt 0 t.size&&t.noPtr then (match wN8 t parts (List.replicate len t.dflt) with|some l=>some ([],.own t l dst true)|none=>none) else none
 |_=>none
def wS0 (c:Ctx)(Ts:List Nat)(x:AVal):Option (List Prop×AVal):=
 match Ts with
 |T::_ =>
  (match x with
   |.val .str s=>bif c.is T .str then some ([],.val (.int .i64) (List.length (α:=UInt8) s:Int)) else none
   |.val (.sl t) l=>bif c.is T (.sl t) then some ([],.val (.int .i64) (List.length (α:=t.den) l:Int)) else none
   |.own t l _ _=>bif c.is T (.sl t) then some ([],.val (.int .i64) (l.length:Int)) else none
   |.ownh t l U _ V _=>bif c.is T (.sl (.sl t))&&!(Nat.beq U V) then some ([],.val (.int .i64) (List.length (α:=List t.den) l:Int)) else none
   |.ptrs false l=>(match c.ty T with|.sl (.ptr t)=>bif c.is T (.sl (.ptr t)) then some ([],.val (.int .i64) (l.length:Int)) else none|_=>none)
   |.nil=>bif c.is T (c.ty T)&&(c.ty T).isSl then some ([],.val (.int .i64) (0:Int)) else none
   |_=>none)
 |[]=>none
def zP5:Option AVal→Option (Option Int)
 |none=>some none
 |some (.val (.int _) n)=>some (some n)
 |some _=>none
def yV5 {α:Type}(l:List α)(lo hi:Option Int):List Prop×List α:=
 match lo,hi with
 |none,none=>([],l)
 |none,some h=>([0≤h∧h≤(l.length:Int)],l.take h.toNat)
 |some a,none=>([0≤a∧a≤(l.length:Int)],l.drop a.toNat)
 |some a,some h=>([0≤a∧a≤h∧h≤(l.length:Int)],(l.take h.toNat).drop a.toNat)
def xS8 (c:Ctx)(T:Nat)(x:AVal)(lo hi:Option AVal):Option (List Prop×AVal):=
 match zP5 lo,zP5 hi with
 |some a,some b =>
  match x with
  |.val .str s=>bif c.is T .str then some ((yV5 (α:=UInt8) s a b).1,.val .str (yV5 (α:=UInt8) s a b).2) else none
  |.val (.sl t) l=>bif c.is T (.sl t) then some ((yV5 (α:=t.den) l a b).1,.val (.sl t) (yV5 (α:=t.den) l a b).2) else none
  |.own t l U m=>bif c.is T (.sl t) then some ((yV5 l a b).1,bif m then .ownh t [(yV5 l a b).2] U 0 U false else .val (.sl t) (yV5 l a b).2) else none
  |_=>none
 |_,_=>none
def wP (n m:Int):List Prop:=[0≤n∧n≤m∧m≤4294967296]
def xI5 (c:Ctx)(T dst:Nat)(n m:AVal):Option (List Prop×AVal):=
 match c.ty T,n,m with
 |.sl t,.val (.int _) n,.val (.int _) m=>bif Nat.blt 0 t.size&&t.noPtr then some (wP n m,.own t (List.replicate (Int.toNat n) t.dflt) dst true) else none
 |_,_,_=>none
def xC4 (c:Ctx)(T:Nat)(x y:AVal)(ok:Bool):Option (List Prop×AVal):=
 match c.mapTy T with
 |some (k,v) =>
  match x with
  |.own t l _ _ =>
   match Ty.cast (a:=.sl t) (.sl (xS k v)) l,AVal.as k y with
   |some m,some q=>bif ok then some ([],.tup (.cons (.val v ((yR8 k v q m).getD v.dflt)) (.cons (.val .bool (yR8 k v q m).isSome) .nl))) else some ([],.val v ((yR8 k v q m).getD v.dflt))
   |_,_=>none
  |_=>none
 |none=>none
def wK2 (c:Ctx)(T dst:Nat):Option (List Prop×AVal):=
 match c.mapTy T with
 |some (k,v)=>some ([],.own (xS k v) [] dst true)
 |none=>none
def wS1 (x y:Int):Int:=if y>x then y else x
def wS2 (x y:Int):Int:=if y<x then y else x
def yV7 (f:Int→Int→Int):AVal→List AVal→Option AVal
 |A,[]=>some A
 |.val (.int k) x,.val (.int k') y::r=>bif Nat.beq (zJ1 k) (zJ1 k') then yV7 f (.val (.int k) (f x y)) r else none
 |_,_=>none
def yV8:AVal→Bool
 |.val (.int _) _=>true|_=>false
def wP0 (f:Int→Int→Int):List AVal→Option (List Prop×AVal)
 |A::r=>bif yV8 A then (match yV7 f A r with|some B=>some ([],B)|none=>none) else none
 |[]=>none
def AVal.clen:AVal→Nat
 |.cons _ t=>t.clen+1
 |_=>0
def yS2 (x:AVal)(k:Nat):Option (List Prop×AVal):=
 match x with
 |.tup a=>bif Nat.blt k a.clen then some ([],a.nth k) else none
 |_=>none
end Go.Am
namespace Go.Am
open Go
def zE7:Op→List Operand
 |.move x=>[x]|.assign x=>[x]|.box _ x=>[x]|.load _ a=>[a]|.store _ a v=>[a,v]|.nilCheck x=>[x]
 |.pick x a b=>[x,a,b]
 |.binOp _ _ x y _=>[x,y]|.unOp _ _ x=>[x]|.convert _ _ x=>[x]
 |.build _ ps=>ps.toList.map (·.2)|.buildSlice _ _ ps=>ps.toList.map (·.2)
 |.makeSlice _ a b=>[a,b]
 |.slice _ x lo hi mx=>x::(lo.toList++(hi.toList++mx.toList))
 |.fieldAddr _ x _=>[x]|.field _ x _=>[x]|.indexAddr _ x i=>[x,i]|.index _ x i=>[x,i]|.extract t _=>[t]
 |.makeFunc _ _ cs=>cs.toList
 |.lookup _ x i _=>[x,i]
 |.mapUpdate _ m k v=>[m,k,v]
 |.call { callee:=.value f,args,.. }=>f::args.toList
 |.call { callee:=.builtin _,args,.. }=>args.toList
 |_=>[]
def AVal.toL:AVal→List AVal
 |.cons h t=>h::t.toL
 |_=>[]
def AVal.ofL:List AVal→AVal
 |[]=>.nl
 |A::r=>.cons A (AVal.ofL r)
def wL8:Op→List AVal→List AVal
 |.call { callee:=.value _,.. },.fn _ cs::r=>r++cs.toL
 |_,xs=>xs
def zW9:List Operand→List Nat
 |[]=>[]
 |.tmp t::r=>t::zW9 r
 |_::r=>zW9 r
def wP1:Operand→Nat
 |.tmp t=>t|_=>0
def zD4 (ps:List (Nat×Operand))(xs:List AVal):List (Nat×AVal):=List.zipWith (fun p A=>(p.1,A)) ps xs
def yO2:List AVal→List Nat
 |[]=>[]
 |.ref s _ _::r=>s::yO2 r
 |.eref s _ _ _ _::r=>s::yO2 r
 |.rref s::r=>s::yO2 r
 |_::r=>yO2 r
def zD3:AVal→AVal→AVal
 |.nilp,_=>.nilp
 |.ref s τ [],.box τ' k=>bif Ty.beq τ' τ&&Nat.blt s vNo then (match AVal.as τ k with|some x=>.box τ (.val τ x)|none=>.junk) else .junk
 |.val τ x,_=>.val τ x
 |.nil,_=>.nil
 |.own t l _ m,_=>bif m then .junk else .val (.sl t) l
 |.agg f a,_=>match AVal.as (.st f) (.agg f a) with|some x=>.val (.st f) x|none=>.junk
 |.fn f cs,_=>bif cs.pureL then .fn f cs else .junk
 |_,_=>.junk
def zF7:AVal→Bool
 |.box _ _=>true|_=>false
def yC4:AVal→Bool
 |.lbox _ _ _ _=>true|_=>false
def yE9 (outs:List (Nat×AVal)):Nat→List AVal→Bool
 |_,[]=>true
 |i,A::r=>(!(zF7 A)||outs.any (fun e=>Nat.beq e.1 i))&&yE9 outs (i+1) r
def zG5:AVal→Bool
 |.junk=>true|.val _ _=>true|.nil=>true|.nilp=>true|.own _ _ T _=>Nat.blt T 4|.agg _ c=>zG5 c|.nl=>true|.cons a b=>zG5 a&&zG5 b|.tup c=>zG5 c
 |_=>false
def yF:AVal→Bool
 |.ref s _ p=>Nat.ble vNo s&&(Nat.blt s (vNo+4)&&p.isEmpty)
 |.pn _ s _=>Nat.ble vNo s&&Nat.blt s (vNo+4)
 |.cons a b=>yF a&&yF b
 |.tup c=>yF c
 |A=>zG5 A
def zH9:AVal→Bool
 |.nl=>true|.cons _ t=>zH9 t|_=>false
def zM3:List AVal→Bool
 |[]=>true
 |.ref s _ _::r=>!((yO2 r).any (Nat.beq s))&&zM3 r
 |_::r=>zM3 r
def zQ9 (fns:List (Nat×Spec))(f:Nat)(args:List AVal):Option CallOut:=
 match fns with
 |[]=>none
 |(g,sp)::r=>bif Nat.beq g f then (match sp args with|some o=>some o|none=>zQ9 r f args) else zQ9 r f args
def St.has0 (s:Nat)(S:St):Bool:=S.any fun e=>Nat.beq e.1 s
def vTo (d s:Nat):Nat:=s+4*(d+1)
def AVal.tagTo (d:Nat):AVal→AVal
 |.own t l T m=>.own t l (T*100000+d) m
 |.ref s τ p=>.ref (vTo d s) τ p
 |.pn b s τ=>.pn b (vTo d s) τ
 |.box τ c=>.box τ (c.tagTo d)
 |.may b τ c=>.may b τ (c.tagTo d)
 |.cons h t=>.cons (h.tagTo d) (t.tagTo d)
 |.agg f c=>.agg f (c.tagTo d)
 |.tup c=>.tup (c.tagTo d)
 |A=>A
def yO9:AVal→Bool
 |.val _ _=>true|_=>false
def yP (ys args:List AVal):List (Nat×AVal)→Option St
 |[]=>some []
 |(i,k)::r =>
  match ys[i]?,args[i]?,yP ys args r with
  |some (.ref s τ []),some (.box τ' _),some u=>bif Ty.beq τ' τ&&AVal.fits τ k&&yO9 k then some ((s,.box τ k)::u) else none
  |_,_,_=>none
def zB9:List AVal→List AVal→Bool
 |.ref _ _ []::r,A::l=>zF7 A&&zB9 r l
 |.ptrs _ (some _::_)::r,A::l=>yC4 A&&zB9 r l
 |_::r,_::l=>zB9 r l
 |_,_=>true
def zN1:Option Operand→List AVal→Option AVal×List AVal
 |none,xs=>(none,xs)
 |some _,A::r=>(some A,r)
 |some _,[]=>(some .junk,[])
def xL0 (T:Nat):List (Nat×Nat×Nat×Nat)→Option Nat
 |[]=>none
 |(T',e,_,_)::r=>bif Nat.beq T' T then some e else xL0 T r
def zZ3 (c:Ctx)(d:Nat)(op:Op)(xs ks:List AVal):Option (List Prop×AVal):=
 match op,xs,ks with
 |.move _,[A],_=>some ([],A)
 |.assign _,[A],_=>some ([],A)
 |.box T _,[A],_=>(match yS1 c T A with|some r=>some r|none=>bif c.is T (c.ty T)&&AVal.fits (c.ty T) A then some ([],.box (c.ty T) A) else none)
 |.alloc T,[],_=>bif c.fts.any (Nat.beq T) then some ([],.raw) else match xL0 T c.blds with|some e=>some ([],.bld T e d [])|none=>bif c.is T (c.ty T)&&(c.ty T).noPtr then some ([],.box (c.ty T) (zW5 (c.ty T))) else none
 |.load T _,[A],[k]=>yG8 c T A k
 |.nilCheck _,[A],_=>match A with|.val (.ptr _) _=>some ([],A)|.ref _ _ _=>some ([],A)|.eref _ _ _ _ _=>some ([],A)|.fn _ _=>some ([],A)|_=>none
 |.binOp o T _ y _,[A,B],_=>wS c o T A B y
 |.unOp o _ _,[A],_=>unA c o A
 |.convert s t _,[A],_=>wL7 c s t A
 |.build T ps,xs,_=>xS7 c T (zD4 ps.toList xs)
 |.buildSlice T n ps,xs,_=>(match zZ2 c T n d (zD4 ps.toList xs) with|some r=>some r|none=>match zU9 c T n (zD4 ps.toList xs) with|some r=>some r|none=>yJ c T n d (zD4 ps.toList xs))
 |.makeSlice T _ _,[A,B],_=>xI5 c T d A B
 |.slice T _ lo hi none,A::r,_=>xS8 c T A (zN1 lo r).1 (zN1 hi (zN1 lo r).2).1
 |.fieldAddr T _ k,[A],_=>zI8 c T A k
 |.field T _ k,[A],_=>xS5 c T A k
 |.indexAddr T x i,[A,B],_=>zU8 c T A (wP1 x) B i
 |.index T _ i,[A,B],_=>xS4 c T A B i
 |.extract _ k,[A],_=>yS2 A k
 |.lookup T _ _ ok,[A,B],_=>xC4 c T A B ok
 |.makeMap T none,[],_=>wK2 c T d
 |.makeFunc (.func f) fs _,cs,_=>match fs.toList with | []=>some ([],.fn f (AVal.ofL cs))|_=>none
 |.call { callee:=.builtin .len,argTypes,.. },[A],_=>wS0 c argTypes.toList A
 |.call { callee:=.builtin .max,.. },xs,_=>wP0 wS1 xs
 |.call { callee:=.builtin .min,.. },xs,_=>wP0 wS2 xs
 |_,_,_=>none
def xS9:AVal→Bool
 |.box _ _=>true
 |.own _ _ _ _=>true
 |.ownh _ _ _ _ _ _=>true
 |.raw=>true
 |.ptrs _ _=>true
 |.bld _ _ _ _=>true
 |_=>false
def zB7 (T:Nat)(h:AVal→AVal)(S:St):St→St
 |[]=>[]
 |(s,_)::r=>bif (S.get s).hasTag T then (s,h (S.get s))::zB7 T h S r else zB7 T h S r
def zC0 (T:Nat)(S:St):Bool:=S.all fun e=>!(e.2.hasTag T)
def zW6 (s:Nat)(S:St):Bool:=S.all fun e=>!(e.2.hasRef s)
def yP0 (T:Nat)(S:St):Bool:=S.all fun e=>!((S.get e.1).hasTag T)
def AVal.setEl0 (T:Nat)(t:Ty)(i:Nat)(y:t.den):AVal→AVal:=
 AVal.mapOwn (fun t' l T' m=>bif Nat.beq T T' then (match Ty.cast t' y with|some y'=>bif m then .own t' (l.set i y') T' m else .junk|none=>.junk) else .own t' l T' m) (fun s T' t i p=>.eref s T' t i p)
def AVal.setEl (T:Nat)(t:Ty)(i:Nat)(y:t.den):AVal→AVal
 |.ownh t' l T' j U m=>bif Nat.beq T U&&m&&!(Nat.beq T' U) then (match Ty.cast t' y with|some y'=>.ownh t' (List.set (α:=List t'.den) l j ((List.getD (α:=List t'.den) l j []).set i y')) T' j U m|none=>.junk) else .junk
 |A=>A.setEl0 T t i y
def AVal.setHole (T:Nat)(s:Ty)(i:Nat)(x:List s.den)(V:Nat)(m:Bool):AVal→AVal:=
 AVal.mapOwn (fun t0 l0 T0 m0=>bif Nat.beq T T0 then (match Ty.cast (a:=.sl t0) (.sl (.sl s)) l0 with|some l1=>bif m0 then .ownh s (List.set (α:=List s.den) l1 i x) T i V m else .junk|none=>.junk) else .own t0 l0 T0 m0) (fun s T' t i p=>.eref s T' t i p)
def xT (c:Ctx)(T d:Nat)(A B:AVal):Option (List Prop×AVal×Option Nat):=
 match c.ty T with
 |.sl t =>
  bif !(Nat.blt 0 t.size) then none else
  match wO8 t B with
  |some l2 =>
   match A with
   |.nil=>some ([(l2.length:Int)≤4294967296],.own t l2 d true,none)
   |.own t' l U m=>match Ty.cast (a:=.sl t') (.sl t) l with
    |some l1=>some ([((List.length (α:=t.den) l1+l2.length:Nat):Int)≤4294967296],.own t (List.append (α:=t.den) l1 l2) d m,some U)
    |none=>none
   |_=>none
  |none=>none
 |_=>none
def yC5 (gd:Gd)(sc:Operand)(want:Bool):AVal→AVal
 |.opt s w g A=>match sc with
  |.tmp c=>bif Nat.beq s c&&(w==want) then A else zG gd (.opt s w g A)
  |_=>zG gd (.opt s w g A)
 |A=>A
def zG2 (gd:Gd)(A:AVal):AVal:=
 match gd with
 |none=>A
 |some (s,w,g)=>.opt s w g A
def zX (gd:Gd)(l:List Prop):List Prop:=
 match gd with
 |none=>l
 |some (_,_,g)=>l.map fun p=>g=true→p
def wL9:AVal→Bool
 |.own _ _ _ m=>m|_=>false
def yJ0 (c:Ctx)(T U:Nat)(t:Ty)(i:Int)(p:zG4)(t':Ty)(n:Nat)(U':Nat)(v:AVal)(S:St):Option (List Prop×St×Bool):=
 match v with
 |.own s x V m=>bif Ty.beq t' t&&Ty.beq (.sl s) t'&&Nat.beq U' U&&c.is T (.sl s)&&p.isEmpty&&!(Nat.beq V U)&&!s.isL then
   some ([i<(n:Int)],zB7 U (AVal.setHole U s i.toNat x V m) S S,true) else none
 |_=>none
def AVal.fill (U:Nat)(t:Ty)(i:Nat)(x:List t.den)(V:Nat)(m:Bool):AVal→AVal
 |.ownh t' l T' _ U' true=>bif Nat.beq T' U&&Nat.beq U' U then (match Ty.cast (a:=.sl t) (.sl t') x with|some x'=>.ownh t' (List.set (α:=List t'.den) l i x') U i V m|none=>.junk) else .junk
 |A=>A.gone U
def zZ4 (c:Ctx)(U:Nat)(t:Ty)(i:Nat)(x:List t.den)(V:Nat)(m:Bool)(s0:Nat)(S:St):St→St
 |[]=>[]
 |(s,_)::r=>bif (S.get s).hasTag U then (s,bif Nat.beq s s0||c.wr.any (Nat.beq s) then (S.get s).fill U t i x V m else (S.get s).gone U)::zZ4 c U t i x V m s0 S r else zZ4 c U t i x V m s0 S r
def zZ5 (U:Nat)(i:Int):AVal→List Prop
 |.ownh t l T j U' true=>bif Nat.beq T U&&Nat.beq U' U then [i.toNat=j∧i<(List.length (α:=List t.den) l:Int)] else []
 |_=>[]
def zZ6 (U:Nat)(i:Int)(s0:Nat)(S:St):List Nat→List Prop
 |[]=>[]
 |s::r=>(bif Nat.beq s s0 then [] else zZ5 U i (S.get s))++zZ6 U i s0 S r
def yJ1 (c:Ctx)(T s U:Nat)(t:Ty)(i:Int)(p:zG4)(t':Ty)(l:List (List t'.den))(U' j U2:Nat)(v:AVal)(S:St):Option (List Prop×St×Bool):=
 match v with
 |.own s' x V m=>bif Ty.beq (.sl t') t&&Nat.beq U' U2&&Nat.beq U' U&&c.is T (.sl t')&&p.isEmpty&&!(Nat.beq V U)&&!t'.isL then
   (match Ty.cast (a:=.sl s') (.sl t') x with
    |some x'=>some ((i.toNat=j∧i<(List.length (α:=List t'.den) l:Int))::zZ6 U i s S c.wr,zZ4 c U t' i.toNat x' V m s S S,true)
    |none=>none) else none
 |_=>none
def zZ7 (c:Ctx)(T:Nat)(A k v:AVal)(S:St):Option (List Prop×St×Bool):=
 match A with
 |.eref s U t i p=>match k with
  |.ownh t' l U' j U2 true=>yJ1 c T s U t i p t' l U' j U2 v S
  |.own t' l U' true=>bif wL9 v then yJ0 c T U t i p t' l.length U' v S else bif Ty.beq t' t&&Nat.beq U' U&&c.is T (t'.pty p)&&AVal.fits (t'.pty p) v then
    (match AVal.as t' (AVal.put p (.val t' (List.getD (α:=t'.den) l i.toNat t'.dflt)) v) with
     |some y=>some ([i<(l.length:Int)],zB7 U (AVal.setEl U t' i.toNat y) S S,true)
     |none=>none) else none
  |_=>none
 |.rref s=>(match k,v with
  |.raw,.fn f cs=>bif c.fts.any (Nat.beq T) then (match zW8 s cs with|some caps=>some ([],[(s,.fptr f caps)],false)|none=>none) else none
  |_,_=>none)
 |A=>match xS6 c T A k v with|some u=>some ([],[u],false)|none=>none
def AVal.setMap (T:Nat)(k v:Ty)(x:k.den)(y:v.den):AVal→AVal:=
 AVal.mapOwn (fun t' l T' m=>bif Nat.beq T T' then (match Ty.cast (a:=.sl t') (.sl (xS k v)) l with|some l'=>.own (xS k v) (wD8 k v x y l') T' m|none=>.junk) else .own t' l T' m) (fun s T' t i p=>.eref s T' t i p)
def yS3 (c:Ctx)(T:Nat)(A B C:AVal)(S:St):Option (List Prop×St×Bool):=
 match c.mapTy T with
 |some (k,v) =>
  match A with
  |.own t l U _ =>
   match Ty.cast (a:=.sl t) (.sl (xS k v)) l,AVal.as k B,AVal.as v C with
   |some _,some x,some y=>some ([],zB7 U (AVal.setMap U k v x y) S S,true)
   |_,_,_=>none
  |_=>none
 |none=>none
def xT0 (c:Ctx)(T d:Nat)(A B:AVal):Option (List Prop×AVal×Nat):=
 match B with
 |.ownh s [[]] T' 0 V m =>
  (match A with
   |.own t' l U true=>bif c.is T (.sl (.sl s))&&!(Nat.beq V U)&&!(Nat.beq T' V)&&!(Nat.beq V d) then
    (match Ty.cast (a:=.sl t') (.sl (.sl s)) l with
     |some l1=>some ([((List.length (α:=List s.den) l1+1:Nat):Int)≤4294967296],.ownh s (List.append (α:=List s.den) l1 [[]]) d (List.length (α:=List s.den) l1) V m,U)
     |none=>none) else none
   |_=>none)
 |_=>none
def zP6 (c:Ctx)(d T:Nat)(A B:AVal)(S:St):Option (List Prop×St×Bool):=
 bif zC0 d S then
  (match xT0 c T d A B with
   |some (p,R,U)=>some (p,(d,R)::zB7 U (AVal.lose U) S S,true)
   |none=>(match xT c T d A B with
    |some (p,R,some U)=>some (p,(d,R)::zB7 U (AVal.lose U) S S,true)
    |some (p,R,none)=>some (p,[(d,R)],true)
    |none=>none)) else none
def zL1:AVal→Bool
 |.val _ _=>true
 |.nilp=>true
 |_=>false
def zJ2 (c:Ctx)(gd:Gd)(dst:Option Nat)(f:Nat)(ys ks:List AVal)(S:St):Option (List Prop×St×Bool):=
 match zQ9 c.fns f (List.zipWith zD3 ys ks) with
 |none=>none
 |some co=>bif !(yE9 co.outs 0 (List.zipWith zD3 ys ks)&&zG5 co.res&&zM3 ys&&zB9 ys (List.zipWith zD3 ys ks)) then none else match yP ys (List.zipWith zD3 ys ks) co.outs,co.nb with
  |some u,[] =>
   (match gd with
    |none=>(match dst with
     |none=>some (co.ok,u,false)
     |some d=>bif zC0 d S&&zC0 (100000+d) S&&zC0 (200000+d) S&&zC0 (300000+d) S then some (co.ok,(d,co.res.tagTo d)::u,false) else none)
    |some _=>(match dst,u with
     |some d,[]=>bif zL1 co.res then some (zX gd co.ok,[(d,zG2 gd co.res)],false) else none
     |_,_=>none))
  |_,_=>none
def zT:List Nat→Bool
 |[]=>true
 |a::r=>!(r.any (Nat.beq a))&&zT r
def zL7 (i:Nat):Nat:=400000+100*i
def yS4 (i:Nat):AVal→List (Nat×Nat)
 |.ref s _ []=>[(s,i)]
 |.ptrs _ (some (s,_,_)::_)=>[(s,hid i)]
 |_=>[]
def zN2:Nat→List AVal→List (Nat×Nat)
 |i,Y::r=>yS4 i Y++zN2 (i+1) r
 |_,[]=>[]
def lkB:List (Nat×Nat)→Nat→Option Nat
 |[],_=>none
 |(s,i)::r,k=>bif Nat.beq s k then some i else lkB r k
def yJ2 (HB:List (Nat×Nat)):List (Option (Nat×Ty))→Option (List (Option (Nat×Ty)))
 |[]=>some []
 |none::r=>(match yJ2 HB r with|some l=>some (none::l)|none=>none)
 |some (k,τ)::r=>(match lkB HB k,yJ2 HB r with|some i,some l=>some (some (i,τ)::l)|_,_=>none)
def yP1 (HB:List (Nat×Nat)):List (Option (Nat×Ty×zG4))→Option (List (Option (Nat×Ty×zG4)))
 |[]=>some []
 |none::r=>(match yP1 HB r with|some l=>some (none::l)|none=>none)
 |some (k,τ,p)::r=>(match lkB HB k,yP1 HB r with|some i,some l=>some (some (i,τ,p)::l)|_,_=>none)
def wM (HB:List (Nat×Nat)):AVal→Option AVal
 |.nl=>some .nl
 |.cons (.ptrs one l) t=>(match yP1 HB l,wM HB t with|some l',some t'=>some (.cons (.ptrs one l') t')|_,_=>none)
 |.cons a t=>bif (AVal.cons a .nl).pureL then (match wM HB t with|some t'=>some (.cons a t')|none=>none) else none
 |_=>none
def zZ8 (s:Nat)(τ:Ty):List (Option (Nat×Ty×zG4))→Option (List zG4)
 |[]=>some []
 |some (k,τ',p)::r=>bif Nat.beq k s&&Ty.beq τ' τ then (match zZ8 s τ r with|some l=>some (p::l)|none=>none) else none
 |none::_=>none
def xL1 (i:Nat)(one:Bool)(l:List (Option (Nat×Ty×zG4)))(τ:Ty)(k:AVal):AVal:=
 match l with
 |some (s,_,_)::_=>(match zZ8 s τ l with|some ps=>.lbox one ps τ (k.pos τ (zL7 i))|none=>.junk)
 |_=>.junk
def zE8 (HB:List (Nat×Nat))(wants:List Nat)(i:Nat):AVal→AVal→AVal
 |.ref _ τ [],.box τ' k=>bif Ty.beq τ' τ then .box τ (k.pos τ (zL7 i)) else .junk
 |.own t l _ m,_=>bif wants.any (Nat.beq i) then .own t l (zL7 i) m else bif m then .junk else .val (.sl t) l
 |.agg f a,_=>bif wants.any (Nat.beq i) then .agg f (a.pos f (zL7 i)) else match AVal.as (.st f) (.agg f a) with|some x=>.val (.st f) x|none=>.junk
 |.val τ x,_=>.val τ x
 |.nil,_=>.nil
 |.nilp,_=>.nilp
 |.fn f cs,_=>(match wM HB cs with|some cs'=>.fn f cs' | none=>.junk)
 |.fptr f caps,_=>(match yJ2 HB caps with|some l=>.fptr f l|none=>.junk)
 |.ptrs one l,.box τ k=>xL1 i one l τ k
 |_,_=>.junk
def yC6 (HB:List (Nat×Nat))(wants:List Nat):Nat→List AVal→List AVal→List AVal
 |i,Y::r,k::s=>zE8 HB wants i Y k::yC6 HB wants (i+1) r s
 |_,_,_=>[]
def yS5 (wants:List Nat)(i:Nat):AVal→AVal→List (Nat×Nat)
 |.ref _ τ [],.box _ c=>c.tags τ (zL7 i)
 |.ptrs _ _,.box τ c=>c.tags τ (zL7 i)
 |.own _ _ T _,_=>bif wants.any (Nat.beq i) then [(T,zL7 i)] else []
 |.agg f c,_=>bif wants.any (Nat.beq i) then c.tags f (zL7 i) else []
 |_,_=>[]
def zZ9 (wants:List Nat):Nat→List AVal→List AVal→List (Nat×Nat)
 |i,Y::r,k::s=>yS5 wants i Y k++zZ9 wants (i+1) r s
 |_,_,_=>[]
def yV9 (l:List (Nat×Nat)):Bool:=l.all fun p=>Nat.beq p.1 p.2
structure Bor where
 U:Nat
 T:Nat
 t:Ty
 l:List t.den
 l':List t.den
 m:Bool
def zI9:AVal→AVal→Option (List Bor)
 |.own t l U _,k=>(match k with
  |.own t' l' T m'=>(match Ty.cast (a:=.sl t') (.sl t) l' with|some l2=>bif Nat.blt 0 t.size then some [⟨U,T,t,l,l2,m'⟩] else none|none=>none)
  |_=>none)
 |.agg f c,k=>(match k with|.agg f' c'=>bif Ty.beq f f' then zI9 c c' else none|_=>none)
 |.cons a b,k=>(match k with|.cons a' b'=>(match zI9 a a',zI9 b b' with|some x,some y=>some (x++y)|_,_=>none)|_=>none)
 |.val _ _,_=>some []
 |.nil,_=>some []
 |.nl,_=>some []
 |_,_=>none
def yC7:List Bor→Nat→Option Bor
 |[],_=>none
 |b::r,T=>bif Nat.beq b.U T then some b else yC7 r T
def AVal.turn (bs:List Bor)(L:List Nat):AVal→AVal:=
 AVal.mapOwn (fun t l T m=>match yC7 bs T with
  |some b=>(match Ty.cast (a:=.sl b.t) (.sl t) b.l' with|some l2=>.own t l2 T b.m|none=>.junk)
  |none=>bif L.any (Nat.beq T) then (bif m then .junk else .val (.sl t) l) else .own t l T m)
  (fun s T t i p=>bif L.any (Nat.beq T) then .junk else .eref s T t i p)
def AVal.turnH (bs:List Bor)(L:List Nat):AVal→AVal
 |.ownh t l T i U _=>bif !(Nat.beq T U)&&!(L.any (Nat.beq T)) then .ownh t l T i T true else .junk
 |A=>A.turn bs L
def AVal.borAsks (bs:List Bor):AVal→List Prop
 |.own _ l T _=>match yC7 bs T with|some b=>[l.length=b.l.length]|none=>[]
 |.opt _ _ _ A=>A.borAsks bs
 |.box _ c=>c.borAsks bs
 |.may _ _ c=>c.borAsks bs
 |.cons a b=>a.borAsks bs++b.borAsks bs
 |.agg _ c=>c.borAsks bs
 |.tup c=>c.borAsks bs
 |.fn _ c=>c.borAsks bs
 |_=>[]
def zP7 (L:List Nat)(A:AVal):Bool:=L.any fun T=>A.hasTag T
def zM0 (bs:List Bor)(L:List Nat)(S:St):St→St
 |[]=>[]
 |(s,_)::r=>bif zP7 L (S.get s) then (s,(S.get s).turnH bs L)::zM0 bs L S r else zM0 bs L S r
def yA (bs:List Bor)(L:List Nat)(S:St):Nat→List Prop
 |0=>[]
 |s+1=>yA bs L S s++(bif zP7 L (S.get s) then (S.get s).borAsks bs else [])
def yA0 (c:Ctx)(bs:List Bor)(L:List Nat)(S:St):St→List Prop
 |[]=>[]
 |(s,_)::r=>(bif !(Nat.blt s c.n)&&zP7 L (S.get s) then (S.get s).borAsks bs else [])++yA0 c bs L S r
def wD9 (Y:AVal)(i:Nat)(k:AVal):Option (St×List Bor×List (Nat×Nat)):=
 match Y with
 |.ref s τ []=>bif AVal.fits τ k&&yV9 (k.tags τ (zL7 i)) then some ([(s,.box τ (k.pos τ (zL7 s)))],[],k.tags τ (zL7 s)) else none
 |.ptrs _ (some (s,τ,_)::_)=>bif AVal.fits τ k&&yV9 (k.tags τ (zL7 i)) then some ([(s,.box τ (k.pos τ (zL7 s)))],[],k.tags τ (zL7 s)) else none
 |Y=>match zI9 Y k with|some bs=>some ([],bs,bs.map fun b=>(b.T,b.U))|none=>none
def xT1 (ys:List AVal):List (Nat×AVal)→Option (St×List Bor×List (Nat×Nat))
 |[]=>some ([],[],[])
 |(i,k)::r =>
  match ys[i]?,xT1 ys r with
  |some Y,some (u,bs,K)=>(match wD9 Y i k with|some (u',bs',K')=>some (u'++u,bs'++bs,K'++K)|none=>none)
  |_,_=>none
def xT2 (dst:Option Nat):List (Nat×Nat):=
 match dst with
 |some d=>[(0,d),(1,100000+d),(2,200000+d),(3,300000+d)]
 |none=>[]
def wU0 (nb:List (Nat×AVal)):Bool:=nb.all fun e=>Nat.ble vNo e.1&&(Nat.blt e.1 (vNo+4)&&(match e.2 with|.box _ c=>zG5 c|.may _ _ c=>zG5 c|_=>false))
def nbK (dst:Option Nat)(co:CallOut):List (Nat×Nat):=
 match dst with
 |some d=>bif co.nb.isEmpty&&zG5 co.res then [] else [(vNo,vTo d vNo),(vNo+1,vTo d (vNo+1)),(vNo+2,vTo d (vNo+2)),(vNo+3,vTo d (vNo+3))]
 |none=>[]
def wU1 (d:Nat)(nb:List (Nat×AVal)):St:=nb.map fun e=>(vTo d e.1,e.2.tagTo d)
def eatenTo (outs:List (Nat×AVal)):Nat→List AVal→List AVal→St
 |i,.ref s _ _::r,A::l=>(bif zF7 A&&!(outs.any (fun e=>Nat.beq e.1 i)) then [(s,.junk)] else [])++eatenTo outs (i+1) r l
 |i,.ptrs _ (some (s,_,_)::_)::r,A::l=>(bif yC4 A&&!(outs.any (fun e=>Nat.beq e.1 i)) then [(s,.junk)] else [])++eatenTo outs (i+1) r l
 |i,_::r,_::l=>eatenTo outs (i+1) r l
 |_,_,_=>[]
def wP2 (dst:Option Nat)(KB:List (Nat×Nat))(u S:St):Bool:=
 KB.all fun e=>Nat.blt e.2 zA4&&(!(St.has0 e.2 u)&&S.all fun q=>(match dst with|some d=>Nat.beq q.1 d|none=>false)||(St.has0 q.1 u||!((S.get q.1).hasRef e.2)))
def wE2 (dst:Option Nat)(nb:List (Nat×AVal))(KB:List (Nat×Nat))(u:St):St:=match dst with|some d=>wU1 d nb++(KB.map (fun q=>(q.2,.junk))++u)|none=>u
def zC5 (S:St):AVal→AVal
 |.ptrs _ (some (s,_,_)::_)=>S.get s
 |A=>zB S A
def xL2 (c:Ctx)(dst:Option Nat)(f:Nat)(ys:List AVal)(S:St):Option (List Prop×St×Bool):=
 match zQ9 c.fns f (yC6 (zN2 0 ys) (look [] c.wants f) 0 ys (ys.map (zC5 S))) with
 |none=>none
 |some co=>match xT1 ys co.outs with
  |none=>none
  |some (u,bs,K) =>
   bif wU0 co.nb&&yF co.res&&wP2 dst (nbK dst co) (u++eatenTo co.outs 0 ys (yC6 (zN2 0 ys) (look [] c.wants f) 0 ys (ys.map (zC5 S)))) S&&zB9 ys (yC6 (zN2 0 ys) (look [] c.wants f) 0 ys (ys.map (zC5 S))) &&
    zT ((zN2 0 ys).map (·.1))&&zT ((zZ9 (look [] c.wants f) 0 ys (ys.map (zC5 S))).map (·.1))&&zT ((zZ9 (look [] c.wants f) 0 ys (ys.map (zC5 S))).map (·.2)) &&
    zT ((xT2 dst++K).map (·.1))&&zT ((xT2 dst++K).map (·.2))&&zT ((zN2 0 ys).map (·.2)++(nbK dst co).map (·.1)) then
    some (co.ok++(bs.map (fun b=>0<b.l.length)++yA bs ((zZ9 (look [] c.wants f) 0 ys (ys.map (zC5 S))).map (·.1)++(xT2 dst++K).map (·.2)) S c.n++yA0 c bs ((zZ9 (look [] c.wants f) 0 ys (ys.map (zC5 S))).map (·.1)++(xT2 dst++K).map (·.2)) S S),
     (match dst with|some d=>(d,co.res.tagTo d)::wE2 dst co.nb (nbK dst co) (u++eatenTo co.outs 0 ys (yC6 (zN2 0 ys) (look [] c.wants f) 0 ys (ys.map (zC5 S))))|none=>wE2 dst co.nb (nbK dst co) (u++eatenTo co.outs 0 ys (yC6 (zN2 0 ys) (look [] c.wants f) 0 ys (ys.map (zC5 S)))))++zM0 bs ((zZ9 (look [] c.wants f) 0 ys (ys.map (zC5 S))).map (·.1)++(xT2 dst++K).map (·.2)) S S,true)
   else none
def AVal.lent:AVal→AVal:=AVal.mapOwn (fun t l _ _=>bif t.isL then .junk else .val (.sl t) l) (fun _ _ _ _ _=>.junk)
def zX2:AVal→AVal→AVal
 |.ref _ τ [],.box τ' k=>bif Ty.beq τ' τ then (match AVal.as τ k.lent with|some x=>.val (.ptr τ) x|none=>.junk) else .junk
 |.own t l _ _,_=>bif t.isL then .junk else .val (.sl t) l
 |.ownh t l T _ U m,_=>bif Nat.beq T U&&!m then (match l with | [x]=>.val (.sl t) x|_=>.junk) else .junk
 |.agg f a,_=>(match AVal.as (.st f) (.agg f a.lent) with|some x=>.val (.st f) x|none=>.junk)
 |.val τ x,_=>.val τ x
 |.nil,_=>.nil
 |.nilp,_=>.nilp
 |.fn f cs,_=>bif cs.pureL then .fn f cs else .junk
 |_,_=>.junk
def yG9 (c:Ctx)(dst:Option Nat)(f:Nat)(ys ks:List AVal)(S:St):Option (List Prop×St×Bool):=
 match zQ9 c.fns f (List.zipWith zX2 ys ks) with
 |none=>none
 |some co=>match co.outs,dst with
  |[],some d=>bif co.nb.isEmpty&&zG5 co.res&&co.res.scal&&zC0 d S&&zC0 (100000+d) S&&zC0 (200000+d) S&&zC0 (300000+d) S then some (co.ok,[(d,co.res.tagTo d)],false) else none
  |_,_=>none
def yJ3 (exts:List (Nat×(List AVal→Option (List Prop×AVal))))(f:Nat)(ys:List AVal):Option (List Prop×AVal):=
 match exts with
 |[]=>none
 |(g,e)::r=>bif Nat.beq g f then e ys else yJ3 r f ys
def zX3 (c:Ctx)(gd:Gd)(dst:Option Nat)(f:Nat)(ys:List AVal):Option (List Prop×St×Bool):=
 match yJ3 c.exts f ys,dst with
 |some (p,.val τ x),some d=>some (zX gd p,[(d,zG2 gd (.val τ x))],false)
 |some (p,.tup a),some d=>match gd with|none=>bif zG5 (.tup a)&&AVal.scal (.tup a)&&!(a.hung d) then some (p,[(d,.tup a)],false) else none|some _=>none
 |_,_=>none
def zC1 {α:Type}(x y:Option α):Option α:=match x with|some a=>some a|none=>y
def yP2 (c:Ctx)(dst:Option Nat)(f:Nat)(ys:List AVal)(S:St):Option (List Prop×St×Bool):=
 match ys,dst with
 |[.ownh t [x] T _ U false],some d=>bif Nat.beq T U&&c.clones.any (fun p=>Nat.beq p.1 f&&Nat.beq p.2 t.size)&&zC0 d S then
   some ([0<List.length (α:=t.den) x∧(List.length (α:=t.den) x:Int)≤4294967296],[(d,.own t x d true)],true) else none
 |_,_=>none
def yJ4 (U s:Nat)(S:St):Bool:=S.all fun e=>Nat.beq e.1 s||!((S.get e.1).hasTag U)
def xT3 (c:Ctx)(T e:Nat)(g:Nat×Nat→Bool):Bool:=c.blds.any fun q=>Nat.beq q.1 T&&(Nat.beq q.2.1 e&&g q.2.2)
def wS3 (c:Ctx)(dst:Option Nat)(f s:Nat)(x:List UInt8)(S:St):AVal→Option (List Prop×St×Bool)
 |.bld T e U l=>bif xT3 c T e (fun q=>Nat.beq q.1 f)&&yJ4 U s S&&(match dst with|some d=>!(Nat.beq d s)|none=>true) then
   some ([((l.length+x.length:Nat):Int)≤4294967296],(match dst with|some d=>[(d,.junk),(s,.bld T e U (l++x))]|none=>[(s,.bld T e U (l++x))]),true) else none
 |_=>none
def wS4 (c:Ctx)(dst:Option Nat)(f s:Nat)(S:St):AVal→Option (List Prop×St×Bool)
 |.bld T e U l=>(match dst with
  |some d=>bif xT3 c T e (fun q=>Nat.beq q.2 f)&&yJ4 U s S&&!(Nat.beq d s) then some ([],[(d,.val .str l),(s,.junk)],true) else none
  |none=>none)
 |_=>none
def wE3 (c:Ctx)(dst:Option Nat)(f:Nat)(ys:List AVal)(S:St):Option (List Prop×St×Bool):=
 match ys with
 |[.ref s _ [],.val .str x]=>wS3 c dst f s x S (S.get s)
 |[.ref s _ []]=>wS4 c dst f s S (S.get s)
 |_=>none
def xC5 (c:Ctx)(dst:Option Nat)(f:Nat)(ys:List AVal)(S:St):Option (List Prop×St×Bool):=zC1 (yP2 c dst f ys S) (wE3 c dst f ys S)
def yW (c:Ctx)(gd:Gd)(dst:Option Nat)(f:Nat)(ys:List AVal)(S:St):Option (List Prop×St×Bool):=
 match yG9 c dst f ys (ys.map (zB S)) S with
 |some (p,[(d,.own t l T m)],_)=>some (zX gd p,[(d,zG2 gd (.own t l T m))],true)
 |some (p,[(d,.val τ x)],_)=>some (zX gd p,[(d,zG2 gd (.val τ x))],true)
 |_=>none
def ovA (g:Bool)(t:Ty)(l:List t.den)(m:Bool)(τ':Ty)(y:τ'.den):AVal:=
 bif m then .junk else match Ty.cast (.sl t) y with|some z=>.val (.sl t) (cond g l z)|none=>.junk
def voA (g:Bool)(τ:Ty)(x:τ.den)(t:Ty)(l:List t.den)(m:Bool):AVal:=
 bif m then .junk else match Ty.cast (a:=.sl t) τ l with|some z=>.val τ (cond g x z)|none=>.junk
def zA0 (g:Bool):AVal→AVal→AVal
 |.val τ x,.val _ y=>match Ty.cast τ y with|some z=>.val τ (cond g x z)|none=>.junk
 |.nil,.nil=>.nil
 |.nil,.val (.sl t) y=>.val (.sl t) (cond g [] y)
 |.val (.sl t) x,.nil=>.val (.sl t) (cond g x [])
 |.nil,.own t l T m=>bif t.plain&&!t.isL then .own t (cond g [] l) T m else .junk
 |.own t l T m,.nil=>bif t.plain&&!t.isL then .own t (cond g l []) T m else .junk
 |.own t l _ m,.val τ' y=>ovA g t l m τ' y
 |.val τ x,.own t l _ m=>voA g τ x t l m
 |.own t l T m,.own t' l' T' m'=>bif Nat.beq T T'&&(m==m') then (match Ty.cast (a:=.sl t') (.sl t) l' with|some l2=>.own t (cond g l l2) T m|none=>.junk) else .junk
 |.box τ a,.box τ' b=>bif Ty.beq τ τ'&&AVal.fits τ (zA0 g a b) then .box τ (zA0 g a b) else .junk
 |.ref s τ [],.ref s' τ' []=>bif Nat.beq s s'&&Ty.beq τ τ' then .ref s τ [] else .junk
 |.nl,.nl=>.nl
 |.cons a b,.cons a' b'=>.cons (zA0 g a a') (zA0 g b b')
 |.agg f a,.agg f' b=>bif Ty.beq f f'&&AVal.fits f (zA0 g a b) then .agg f (zA0 g a b) else .junk
 |.agg f a,.val (.st f') y=>match AVal.as (.st f') (.agg f a) with|some x=>.val (.st f') (cond g x y)|none=>.junk
 |.val (.st f) x,.agg f' b=>match AVal.as (.st f) (.agg f' b) with|some y=>.val (.st f) (cond g x y)|none=>.junk
 |.tup a,.tup b=>.tup (zA0 g a b)
 |.nilp,.nilp=>.nilp
 |.nilp,.ref s τ []=>.pn g s τ
 |.ref s τ [],.nilp=>.pn (!g) s τ
 |.nilp,.pn b s τ=>.pn (cond g true b) s τ
 |.pn b s τ,.nilp=>.pn (cond g b true) s τ
 |.pn b s τ,.ref s' τ' []=>bif Nat.beq s s'&&Ty.beq τ τ' then .pn (cond g b false) s τ else .junk
 |.ref s τ [],.pn b s' τ'=>bif Nat.beq s s'&&Ty.beq τ τ' then .pn (cond g false b) s τ else .junk
 |.pn b s τ,.pn b' s' τ'=>bif Nat.beq s s'&&Ty.beq τ τ' then .pn (cond g b b') s τ else .junk
 |.ownh t l T i U m,.ownh t' l' T' i' U' m'=>bif Nat.beq T T'&&Nat.beq U U'&&(m==m') then (match Ty.cast (a:=.sl (.sl t')) (.sl (.sl t)) l' with|some l2=>.ownh t (cond g l l2) T (cond g i i') U m|none=>.junk) else .junk
 |_,_=>.junk
def wP3 (m:Bool)(τ τ':Ty)(g:Bool)(a b:AVal):AVal:=bif Ty.beq τ τ'&&AVal.fits τ (zA0 g a b) then .may m τ (zA0 g a b) else .junk
def zM1 (g:Bool):AVal→AVal→AVal
 |.box τ a,.junk=>.may g τ a
 |.junk,.box τ b=>.may (!g) τ b
 |.may m τ a,.junk=>.may (cond g m false) τ a
 |.junk,.may m τ b=>.may (cond g false m) τ b
 |.box τ a,.may m τ' b=>wP3 (cond g true m) τ τ' g a b
 |.may m τ a,.box τ' b=>wP3 (cond g m true) τ τ' g a b
 |.may m τ a,.may m' τ' b=>wP3 (cond g m m') τ τ' g a b
 |A,B=>zA0 g A B
def yJ5 (g:Bool)(d1 d2 S:St):St→St
 |[]=>[]
 |(s,_)::r=>(s,bif Nat.beq s zA4 then .junk else bif Nat.blt s vNo then zA0 g (St.get (d1++S) s) (St.get (d2++S) s) else zM1 g (St.get (d1++S) s) (St.get (d2++S) s))::yJ5 g d1 d2 S r
def yA1 (d:St):St:=d.filter fun e=>!(Nat.beq e.1 zA4)
def zJ3 (d:St):St:=d.filter fun e=>Nat.beq e.1 zA4
def zF3 (g:Bool)(d1 d2 S:St):St:=yJ5 g d1 d2 S (yA1 d1++(yA1 d2++(zJ3 d1++zJ3 d2)))
def yW0 (c:Ctx)(q:Nat×Bool×Bool)(dst:Option Nat)(f:Nat)(ys:List AVal)(S:St):Option (List Prop×St×Bool):=
 match xL2 c dst f ys S,dst with
 |some (p,(d',R)::u,_),some d=>bif Nat.beq d' d&&zL1 R then some (zX (some q) p,(d,zG2 (some q) R)::zF3 q.2.2 u [] S,true) else none
 |_,_=>none
def yP3 (c:Ctx)(gd:Gd)(dst:Option Nat)(f:Nat)(ys:List AVal)(S:St):Option (List Prop×St×Bool):=
 match gd with
 |none=>zC1 (yG9 c dst f ys (ys.map (zB S)) S) (zC1 (xC5 c dst f ys S) (xL2 c dst f ys S))
 |some q=>zC1 (yW c (some q) dst f ys S) (yW0 c q dst f ys S)
def yS6 (c:Ctx)(gd:Gd)(dst:Option Nat)(f:Nat)(ys:List AVal)(S:St):Option (List Prop×St×Bool):=
 zC1 (zX3 c gd dst f ys) (zC1 (zJ2 c gd dst f ys (ys.map (zB S)) S) (yP3 c gd dst f ys S))
def yH6 (gd:Gd)(dst:Option Nat)(x:Operand)(xs0:List AVal):Option (List Prop×St×Bool):=
 match dst,xs0 with
 |some d,[C,A,B] =>
  match zG gd C,yC5 gd x true A,yC5 gd x false B with
  |.val .bool b,.val τ a,.val _ y=>match Ty.cast τ y with
   |some z=>some ([],[(d,zG2 gd (.val τ (cond b a z)))],false)
   |none=>none
  |.val .bool b,X,Y=>(match (b:Bool) with|true=>some ([],[(d,zG2 gd X)],false)|false=>some ([],[(d,zG2 gd Y)],false))
  |_,_,_=>none
 |_,_=>none
def yA2:Op→Bool
 |.box _ _=>true|.alloc _=>true|.buildSlice _ _ _=>true|.makeSlice _ _ _=>true|.makeMap _ _=>true|_=>false
def gMk (gd:Gd)(d:Nat)(p:List Prop)(A:AVal)(S:St):Option (List Prop×St×Bool):=
 match gd,A with
 |some q,.own t l T _=>bif zW6 d S&&zC0 d S&&Nat.beq T d&&!t.isL then some (zX (some q) p,[(d,zG2 (some q) (.val (.sl t) l))],false) else none
 |_,_=>none
def zM4 (c:Ctx)(gd:Gd)(dst:Option Nat)(op:Op)(xs ks:List AVal)(S:St):Option (List Prop×St×Bool):=
 match dst with
 |none=>none
 |some d=>match zZ3 c d op xs ks with
  |none=>none
  |some (p,A) =>
   bif yA2 op then (bif gd.isNone&&zW6 d S&&zC0 d S then some (p,[(d,A)],false) else gMk gd d p A S)
   else some (zX gd p,[(d,zG2 gd A)],false)
def zT0:Op→Nat
 |.pick _ _ _=>0
 |.store _ _ _=>1
 |.mapUpdate _ _ _ _=>1
 |.call { callee:=.builtin .append,.. }=>2
 |.call { callee:=.value _,.. }=>3
 |.makeInterface _ _=>4
 |.panic _=>4
 |_=>5
def yS7 (c:Ctx)(gd:Gd)(o:Oper)(S:St)(xs0 xs:List AVal):Option (List Prop×St×Bool):=
 match zT0 o.op with
 |0=>(match o.op with|.pick x _ _=>yH6 gd o.dst x xs0|_=>none)
 |1=>(match gd,o.dst,o.op,xs with
  |none,none,.store T _ _,[A,v]=>zZ7 c T A (zB S A) v S
  |none,none,.mapUpdate T _ _ _,[A,k,v]=>yS3 c T A k v S
  |_,_,_,_=>none)
 |2=>(match gd,o.dst,o.op,xs with
  |none,some d,.call { argTypes,.. },[A,B]=>(match argTypes.toList with
   |[T,T']=>bif Nat.beq T T' then zP6 c d T A B S else none
   |_=>none)
  |_,_,_,_=>none)
 |3=>(match xs with
  |.fn f cs::r=>bif zH9 cs then yS6 c gd o.dst f (r++cs.toL) S else none
  |_=>none)
 |4=>(match gd with|none=>some ([False],[],false)|some _=>none)
 |_=>zM4 c gd o.dst o.op xs ((xs.map (zB S)).map (zG gd)) S
def yJ6:Op→Bool
 |.nilCheck _=>true
 |.fieldAddr _ _ _=>true
 |.load _ _=>true
 |.binOp _ _ _ _ _=>true
 |.unOp _ _ _=>true
 |.move _=>true
 |.field _ _ _=>true
 |.indexAddr _ _ _=>true
 |.call { callee:=.builtin .len,.. }=>true
 |.call { callee:=.value _,.. }=>true
 |_=>false
def zR (c:Ctx)(gd:Gd)(o:Oper):Option (List Prop×St×Bool):=
 match c.skip&&yJ6 o.op,gd,o.dst with
 |true,some (s,w,g),some d=>(match (g:Bool) with|false=>some ([],[(d,.opt s w false .junk)],false)|true=>none)
 |_,_,_=>none
theorem yP4 {c:Ctx}{gd:Gd}{o:Oper}{p:List Prop}{u:St}{hv:Bool}(h:zR c gd o=some (p,u,hv)) :
  ∃ s w d,gd=some (s,w,false)∧o.dst=some d∧p=[]∧u=[(d,.opt s w false .junk)]∧hv=false∧yJ6 o.op=true:=by
 unfold zR at h;split at h
 ·rename_i s w g d hb hd;cases g with
  |true=>cases h
  |false =>
   simp only[Option.some.injEq,Prod.mk.injEq] at h;obtain⟨rfl,rfl,rfl⟩:=h;exact⟨s,w,d,rfl,hd,rfl,rfl,rfl,(Bool.and_eq_true_iff.1 hb).2⟩
 ·cases h
theorem yP5 {c:Ctx}{gd:Gd}{o:Oper}(h:yJ6 o.op=false):zR c gd o=none:=by
 cases hx:zR c gd o with
 |none=>rfl
 |some r=>obtain⟨_,_,_,_,_,_,_,_,e⟩:=yP4 (p:=r.1) (u:=r.2.1) (hv:=r.2.2) hx;rw[h] at e;cases e
def zT4 [GlobTab] (c:Ctx)(dsts:List (Option Nat))(o:Oper)(S:St):Option (List Prop×St×Bool):=
 match zP1 dsts S o.guard with
 |none=>none
 |some gd=>zC1 (zR c gd o) (yS7 c gd o S ((zE7 o.op).map (arg S)) (((zE7 o.op).map (arg S)).map (zG gd)))
def wK3 (c:Ctx)(S:St):St→Option St
 |(d,.own t l T true)::u=>bif Nat.beq T d&&!(c.wr.any (Nat.beq d)) then (bif zC0 T (u++S)&&!t.isL then some ((d,.own t l T false)::u) else none) else some ((d,.own t l T true)::u)
 |u=>some u
def wM0:Op→Bool
 |.buildSlice _ _ _=>true
 |.makeSlice _ _ _=>true
 |.call { callee:=.builtin .append,.. }=>true
 |_=>false
def wE4 (c:Ctx):St→Bool→St
 |[(d,.val τ x)],false=>bif c.dead.any (Nat.beq d) then [(d,.junk)] else [(d,.val τ x)]
 |u,_=>u
def yH [GlobTab] (c:Ctx)(dsts:List (Option Nat))(o:Oper)(S:St):Option (List Prop×St×Bool):=
 match zT4 c dsts o S with
 |none=>none
 |some (p,u,h)=>bif wM0 o.op then (match wK3 c S u with|some u'=>some (p,u',h)|none=>none) else some (p,wE4 c u h,h)
def bare:AVal→AVal
 |.opt _ _ _ A=>A
 |A=>A
def St.has (s:Nat)(S:St):Bool:=S.any fun e=>Nat.beq e.1 s
def wM1 (q:Nat):Option Nat→Bool
 |some d=>Nat.beq d q|none=>false
def zX4 (dsts:List (Option Nat))(S:St):List Nat→List Nat
 |[]=>[]
 |q::r=>match S.get q with
  |.ref k _ _=>bif dsts.any (wM1 q) then zX4 dsts S r else k::zX4 dsts S r
  |_=>zX4 dsts S r
def yJ7 (rd bs:List Nat):AVal→Bool
 |.val _ _=>true
 |.opt s _ _ (.val _ _)=>rd.any (Nat.beq s)
 |.ref k _ _=>bs.any (Nat.beq k)
 |.opt s _ _ (.ref k _ _)=>rd.any (Nat.beq s)&&bs.any (Nat.beq k)
 |_=>false
def xI6 (dst:Option Nat)(rd bs:List Nat)(S:St):St→Bool
 |[(d',A)]=>yJ7 rd bs A&&(match dst with|some d=>Nat.beq d d'&&!(St.has d' S)|none=>false)
 |_=>false
def wE5 (dst:Option Nat)(S:St):St→Bool
 |[(d',.junk)]=>(match dst with|some d=>Nat.beq d d'&&!(St.has d' S)|none=>false)
 |_=>false
structure Tr where
 heavy:Bool
 rd:List Nat
 dst:Option Nat
 u:St
 pl:Bool
 dk:Bool
def zT5 (dsts:List (Option Nat)):Option (Nat×Bool)→List Nat
 |some (j,_)=>(match dsts[j]? with|some (some s)=>[s]|_=>[])
 |none=>[]
def yO3 [GlobTab] (dsts:List (Option Nat))(o:Oper)(S:St)(u:St)(heavy:Bool):Tr:=
 ⟨heavy,zW9 (zE7 o.op)++(zT5 dsts o.guard++yO2 (wL8 o.op ((zE7 o.op).map (fun x=>bare (arg S x))))),o.dst,u,
  !heavy&&xI6 o.dst (zW9 (zE7 o.op)++(zT5 dsts o.guard++yO2 (wL8 o.op ((zE7 o.op).map (fun x=>bare (arg S x)))))) (zX4 dsts S (zW9 (zE7 o.op)++(zT5 dsts o.guard++yO2 (wL8 o.op ((zE7 o.op).map (fun x=>bare (arg S x))))))) S u,!heavy&&wE5 o.dst S u⟩
def xL3 (u:St)(A:AVal):Bool:=u.any fun e=>A.hung e.1
def wP4 (c:Ctx):Option Nat→Bool
 |some d=>Nat.blt d c.n|none=>true
def yW1 {α β:Type}(f:β→(β→α)→α):List β→(List β→α)→α
 |[],k=>k []
 |a::r,k=>f a fun a=>yW1 f r fun r=>k (a::r)
theorem yW2 {α β:Type}{f:β→(β→α)→α}(hf:∀ x k,f x k=k x):∀ (l:List β) (k:List β→α),yW1 f l k=k l:=by
 intro l
 induction l with
 |nil=>intro k;rfl
 |cons a r ih=>intro k;rw[yW1,hf,ih]
def Ty.spineD {α:Type}:(τ:Ty)→τ.den→(τ.den→α)→α
 |.cons _ t,x,k=>(match (x:_×_) with | (a,b)=>t.spineD b fun b=>k (a,b))
 |.st f,x,k=>f.spineD x k
 |.int _,x,k=>k x
 |.bool,x,k=>k x
 |.str,x,k=>k x
 |.nl,x,k=>k x
 |.arr _ _,x,k=>k x
 |.sl _,x,k=>k x
 |.ptr _,x,k=>k x
theorem Ty.spineD_eq {α:Type}:∀ (τ:Ty) (x:τ.den) (k:τ.den→α),τ.spineD x k=k x:=by
 intro τ
 induction τ with
 |cons h t ih it=>intro x k;rw[Ty.spineD];exact it _ _
 |st f ih=>intro x k;exact ih x k
 |_=>intro x k;rfl
def Ty.forceD {α:Type}:(τ:Ty)→Nat→τ.den→(τ.den→α)→α
 |.int _,_,x,k=>(match (x:Int) with|.ofNat 0=>k (Int.ofNat 0)|.ofNat (n+1)=>k (Int.ofNat (n+1))|.negSucc n=>k (Int.negSucc n))
 |.bool,_,x,k=>(match (x:Bool) with|true=>k true|false=>k false)
 |.str,_,x,k=>yW1 (β:=UInt8) (fun b k=>k b) x k
 |.nl,_,x,k=>k x
 |.cons h t,d,x,k=>(match (x:_×_) with | (a,b)=>h.forceD d a fun a=>t.forceD d b fun b=>k (a,b))
 |.st f,d,x,k=>bif Nat.beq d 0 then f.spineD x k else f.forceD (d-1) x k
 |.arr _ _,_,x,k=>k x
 |.sl t,d,x,k=>yW1 (β:=t.den) (t.forceD d) x k
 |.ptr _,_,x,k=>k x
theorem Ty.forceD_eq {α:Type}:∀ (τ:Ty) (d:Nat) (x:τ.den) (k:τ.den→α),τ.forceD d x k=k x:=by
 intro τ
 induction τ with
 |int k=>intro d x k;rcases (x:Int) with (_|n)|n<;>rfl
 |bool=>intro d x k;cases x<;>rfl
 |str=>intro d x k;exact yW2 (fun _ _=>rfl) x k
 |cons h t ih it=>intro d x k;rw[Ty.forceD];show h.forceD d x.1 (fun a=>t.forceD d x.2 fun b=>k (a,b))=k x;rw[ih,it]
 |st f ih=>intro d x k;rw[Ty.forceD];cases Nat.beq d 0 with
  |true=>exact Ty.spineD_eq f x k
  |false=>exact ih _ x k
 |sl t ih=>intro d x k;exact yW2 (ih d) x k
 |_=>intro d x k;rfl
def AVal.force {α:Type}(b:Bool):AVal→(AVal→α)→α
 |.val τ x,k=>bif b then τ.forceD 2 x (fun x=>k (.val τ x)) else k (.val τ x)
 |.agg f a,k=>a.force b fun a=>k (.agg f a)
 |.cons a c,k=>a.force b fun a=>c.force b fun c=>k (.cons a c)
 |.box τ a,k=>a.force b fun a=>k (.box τ a)
 |.may m τ a,k=>a.force b fun a=>k (.may m τ a)
 |.tup a,k=>a.force b fun a=>k (.tup a)
 |.fn f a,k=>a.force b fun a=>k (.fn f a)
 |.opt s w g a,k=>a.force b fun a=>k (.opt s w g a)
 |.own t l T m,k=>(match m with
  |true=>bif b then (Ty.sl t).forceD 2 l (fun l=>k (.own t l T true)) else k (.own t l T true)
  |false=>bif b then (Ty.sl t).forceD 2 l (fun l=>k (.own t l T false)) else k (.own t l T false))
 |A,k=>k A
def St.force {α:Type}(b:Bool):St→(St→α)→α
 |[],k=>k []
 |(s,A)::r,k=>A.force b fun A=>St.force b r fun r=>k ((s,A)::r)
theorem AVal.force_eq {α:Type}{b:Bool}:∀ (A:AVal) (k:AVal→α),A.force b k=k A:=by
 intro A
 induction A with
 |val τ x=>intro k;cases b with
  |true=>exact Ty.forceD_eq _ _ _ _
  |false=>rfl
 |own t l T m=>intro k;cases m<;>cases b<;>first|rfl|exact Ty.forceD_eq (.sl t) 2 l _
 |agg f a ih=>intro k;exact ih _
 |cons a b iha ihb=>intro k;exact (iha _).trans (ihb _)
 |box τ a ih=>intro k;exact ih _
 |may b τ a ih=>intro k;exact ih _
 |tup a ih=>intro k;exact ih _
 |fn f a ih=>intro k;exact ih _
 |opt s w g a ih=>intro k;exact ih _
 |_=>intro k;rfl
theorem St.force_eq {α:Type}{b:Bool}:∀ (S:St) (k:St→α),S.force b k=k S:=by
 intro S
 induction S with
 |nil=>intro k;rfl
 |cons e r ih=>intro k;exact (AVal.force_eq _ _).trans (ih _)
def xI7 [GlobTab] (c:Ctx)(dsts:List (Option Nat)):List Oper→St→St→Option (List Prop×St×List Tr)
 |[],_,U=>some ([],U,[])
 |o::r,S,U =>
  match yH c dsts o (U++S) with
  |none=>none
  |some (p,u,h)=>St.force c.closed u fun u=>bif (u++U).any (fun e=>xL3 u e.2)||(!(u.all fun e=>Nat.blt e.1 zA4)||!(wP4 c o.dst)) then none else
   match xI7 c dsts r S (u++U) with
   |none=>none
   |some (p',u',t')=>some (p++p',u',yO3 dsts o (U++S) u h::t')
def apart:List Nat→List Nat→Bool
 |[],_=>true
 |a::r,l=>!(l.any (Nat.beq a))&&apart r l
def yP6 (d:Nat)(A:AVal):Bool:=!(A.hasRef d)&&(!(A.hasTag d)&&(!(A.hasTag (100000+d))&&(!(A.hasTag (200000+d))&&!(A.hasTag (300000+d)))))
def wE6 (d:Option Nat)(u u':St):Bool:=u'.all fun e=>!(xL3 u e.2)&&(match d with|some d=>yP6 d e.2|none=>true)
def zW7 (t t':Tr):Bool:=
 bif t.heavy then !(t'.pl&&(apart (t.u.map (·.1)) t'.rd&&(apart (t.u.map (·.1)) (t'.u.map (·.1))&&(match t.dst with|some d=>!(St.has d t'.u)&&!(t'.rd.any (Nat.beq d))|none=>true))))
 else (t'.heavy&&!t.dk)||!(apart (t.u.map (·.1)) t'.rd&&(apart (t.u.map (·.1)) (t'.u.map (·.1))&&(apart t.rd (t'.u.map (·.1))&&wE6 t.dst t.u t'.u)))
def zG0 (acc:List Nat):List Edge→Nat
 |[]=>0
 |e::r=>bif Region.binds .any e then Nat.lor (Nat.lor (Nat.pow 2 e.on) (acc.getD e.on 0)) (zG0 acc r) else zG0 acc r
def ahead:List Oper→List Nat→List Nat
 |[],acc=>acc
 |o::r,acc=>ahead r (acc++[zG0 acc o.after.toList])
def zJ4:Nat→List Oper→Bool
 |_,[]=>true
 |i,o::r=>o.after.toList.all (fun e=>!(Region.binds .any e)||Nat.blt e.on i)&&zJ4 (i+1) r
def yH7 (k bits:Nat)(t:Tr):Nat→List Tr→Bool
 |_,[]=>true
 |i,t'::r=>(Nat.blt i k||(!(zW7 t' t)||Nat.testBit bits i))&&yH7 k bits t (i+1) r
def zR0 (k:Nat)(trs:List Tr):List Nat→List Tr→Bool
 |b::bs,t::r=>yH7 k b t 0 trs&&zR0 k (trs++[t]) bs r
 |[],[]=>true
 |_,_=>false
def yC8 [GlobTab] (c:Ctx)(S:St)(o:Oper):Bool:=
 match o.guard,o.dst with
 |none,some _=>(match o.op,(zE7 o.op).map (arg S) with
  |.move _,_=>true
  |.call { callee:=.builtin .len,argTypes,.. },[.ownh t _ U _ V _]=>(match argTypes.toList with | [T]=>c.is T (.sl (.sl t))&&!(Nat.beq U V)|_=>false)
  |.binOp .sub _ _ _ _,[.val (.int k) _,.val (.int k') _]=>Nat.beq (zJ1 k) (zJ1 k')
  |.indexAddr T _ _,[.val (.sl t) _,.val (.int _) _]=>c.is T (.sl t)
  |_,_=>false)
 |_,_=>false
def yJ8 (ops:Array Oper)(i:Nat)(oi:Oper):Nat→List Oper→Bool
 |_,[]=>true
 |j,oj::r=>(Nat.ble j i||(oj.after.toList.any (fun e=>Region.binds .any e&&Nat.beq e.on i)||oi.apart ops oj))&&yJ8 ops i oi (j+1) r
def zT1 [GlobTab] (c:Ctx)(ops:List Oper)(S:St):Nat→List Oper→List Tr→St→Nat
 |i,o::r,t::ts,U=>bif yC8 c (U++S) o&&yJ8 ops.toArray i o 0 ops then zT1 c ops S (i+1) r ts (t.u++U) else i
 |i,_,_,_=>i
def xL4 (k:Nat):AVal→Option Nat
 |.own _ _ T _=>some T
 |.box _ a=>match a.fld k with|.own _ _ T _=>some T | _=>none
 |.ownh _ _ T _ U _=>bif Nat.beq T U then none else some U
 |_=>none
def zG6 (k:Nat):AVal→AVal
 |.ownh t l T _ _ _=>.own (.sl t) l T true
 |.own t l T _=>bif t.isL then .junk else .own t l T false
 |.box τ (.agg f a)=>match a.nth k with
  |.own t l T _=>bif t.isL then .junk else bif ((a.gone T).setNth k (.own t l T false)).fitsT f then .box τ (.agg f ((a.gone T).setNth k (.own t l T false))) else .junk
  |_=>.junk
 |_=>.junk
def yJ9 (s:Nat)(h:AVal→AVal)(S:St):St→St
 |[]=>[]
 |(k,_)::r=>bif (S.get k).hasRef s then (k,h (S.get k))::yJ9 s h S r else yJ9 s h S r
def yS8 (s:Nat)(τ:Ty)(x:τ.den):AVal→AVal
 |.ref s' τ' []=>bif Nat.beq s s'&&Ty.beq τ' τ then .val (.ptr τ) x else .junk
 |_=>.junk
def xC6 (S:St)(s:Nat):Option St:=
 match S.get s with
 |.box τ c=>(match AVal.as τ c with|some x=>some ((s,bif Nat.blt s vNo then .val (.ptr τ) x else .junk)::yJ9 s (yS8 s τ x) S S)|none=>none)
 |_=>none
def xT4 (S:St):Nat×Nat×Nat×Nat→Option St
 |(kind,s,k,U) =>
  bif Nat.beq kind 3 then xC6 S s else
  bif Nat.beq kind 4 then (bif Nat.beq k U then some [] else bif yP0 U S then some (zB7 k (AVal.retagH k U) S S) else none) else
  bif Nat.beq kind 5 then some (zB7 k (AVal.lose k) S S) else
  match xL4 k (S.get s) with
  |none=>none
  |some T =>
   match kind with
   |0=>bif Nat.beq T U then some [] else bif yP0 U S then some (zB7 T (AVal.retagH T U) S S) else none
   |1=>some ((s,zG6 k (S.get s))::zB7 T (AVal.gone T) S S)
   |_=>some (zB7 T (AVal.lose T) S S)
def AVal.renRef (s U:Nat):AVal→AVal
 |.ref s' τ p=>.ref (bif Nat.beq s s' then U else s') τ p
 |.pn b s' τ=>.pn b (bif Nat.beq s s' then U else s') τ
 |.cons a b=>.cons (a.renRef s U) (b.renRef s U)
 |.tup c=>.tup (c.renRef s U)
 |A=>bif A.hasRef s then .junk else A
def xI8 (s:Nat)(S:St):Bool:=S.all fun e=>!((S.get e.1).hasRef s)
def wS5 (S:St)(s U:Nat):Option St:=
 bif Nat.ble vNo U&&Nat.blt U zA4&&!(Nat.beq s U)&&xI8 U S then
  (match S.get s with
   |.box τ c=>some ((U,.box τ c)::(s,bif Nat.blt s vNo then .ref U τ [] else .junk)::yJ9 s (AVal.renRef s U) S S)
   |.may b τ c=>bif Nat.ble vNo s then some ((U,.may b τ c)::(s,.junk)::yJ9 s (AVal.renRef s U) S S) else none
   |_=>none) else none
def xT5 (S:St)(g:Nat×Nat×Nat×Nat):Option (List Prop×St):=
 match g with
 |(6,s,_,U)=>(match wS5 S s U with|some u=>some ([],u)|none=>none)
 |(9,s,_,_)=>some ([],yJ9 s (fun _=>.junk) S S)
 |(7,s,_,_)=>(match S.get s with|.may b τ c=>bif Nat.ble vNo s then some ([b=true],[(s,.box τ c)]) else none|_=>none)
 |(8,s,_,_)=>(match S.get s with|.pn b k τ=>some ([b=false],[(s,.ref k τ [])])|_=>none)
 |g=>(match xT4 S g with|some u=>some ([],u)|none=>none)
def yP7:List (Nat×Nat×Nat×Nat)→St→Option (List Prop×St)
 |[],_=>some ([],[])
 |g::r,S=>match xT5 S g with
  |none=>none
  |some (p,u)=>match yP7 r (u++S) with
   |none=>none
   |some (p',u')=>some (p++p',u'++u)
def xC7 [GlobTab] (c:Ctx)(gh:List (Nat×Nat×Nat×Nat))(ops:List Oper)(draw:Bool)(S:St):Option (List Prop×St):=
 St.force c.closed S fun S=>bif S.any (fun e=>e.2.hasOpt) then none else
 match xI7 c (ops.map (·.dst)) ops S [] with
 |none=>none
 |some (p,u0,t) =>
  let u:=u0.map fun e=>(e.1,bif e.2.hasOpt then .junk else e.2)
  bif !draw||(zJ4 0 ops&&(zR0 0 [] (ahead ops []) t||zR0 (zT1 c ops S 0 ops t []) [] (ahead ops []) t)) then
   (match yP7 gh (u++S) with
    |some (p',u')=>bif u'.all (fun e=>Nat.blt e.1 zA4) then St.force c.closed (u'++u) (fun w=>some (p++p',w)) else none
    |none=>none)
  else none
def zA6 (k:Nat):List Comp→Option Comp
 |[]=>none
 |x::r=>bif Nat.beq x.kind k then some x else zA6 k r
def zK1 (k:Nat)(l:List Comp):List Comp:=l.filter fun x=>!(Nat.beq x.kind k)
def gor (a b:Option Bool):Option Bool:=
 match a,b with
 |some x,some y=>some (x||y)
 |_,_=>none
def zX5 (t:Bool)(x y:Option Comp):Option Bool:=
 match x,y with
 |some a,some b=>(match a.g,b.g with|none,none=>none|ga,gb=>some (cond t (ga.getD true) (gb.getD true)))
 |some a,none=>yR9 a.g (some t)
 |none,some b=>yR9 b.g (some (!t))
 |none,none=>none
def xT6 (t:Bool)(S:St)(la lb:List Comp):List Comp→List Comp
 |[]=>[]
 |x::r =>
  {kind:=x.kind,g:=zX5 t (zA6 x.kind la) (zA6 x.kind lb),
   d:=match zA6 x.kind la,zA6 x.kind lb with
    |some a,some b=>zF3 t a.d b.d S
    |some a,none=>a.d
    |none,some b=>b.d
    |none,none=>[] }::xT6 t S la lb r
def xI9:List Prop→Prop
 |[]=>True
 |[p]=>p
 |p::r=>p∧xI9 r
def wP5 (b:Prop):List Prop→List Prop
 |[]=>[]
 |p::r=>[b→xI9 (p::r)]
def imp (g:Option Bool)(l:List Prop):List Prop:=
 match g with
 |none=>l
 |some b=>wP5 (b=true) l
def yC9 (t:Bool)(S:St)(a b:Out):Out:=
 {ok:=wP5 (t=true) a.ok++wP5 (t=false) b.ok,
  comps:=xT6 t S a.comps b.comps (a.comps++b.comps.filter fun x=>(zA6 x.kind a.comps).isNone) }
def wN9 (n:Comp)(S:St)(la:List Comp):List Comp→List Comp
 |[]=>[]
 |x::r =>
  (match zA6 x.kind la with
   |some a=>{ kind:=x.kind,g:=gor a.g (yR9 n.g x.g),d:=zF3 (a.g.getD true) a.d (x.d++n.d) S }
   |none=>{ kind:=x.kind,g:=yR9 n.g x.g,d:=x.d++n.d })::wN9 n S la r
def yP8 (n:Comp)(S:St)(a b:Out):Out:=
 {ok:=a.ok++imp n.g b.ok,
  comps:=wN9 n S (zK1 0 a.comps) b.comps++(zK1 0 a.comps).filter fun x=>(zA6 x.kind b.comps).isNone }
def yH8 (id:Nat)(S:St)(a:Out):Out:=
 match zA6 0 a.comps,zA6 (id+2) a.comps with
 |_,none=>a
 |none,some e=>{ a with comps:={ e with kind:=0 }::zK1 (id+2) a.comps }
 |some n,some e=>{ a with comps:={ kind:=0,g:=gor e.g n.g,d:=zF3 (e.g.getD true) e.d n.d S }::zK1 0 (zK1 (id+2) a.comps) }
def zE5:Code→Nat
 |.region id _ _=>id
 |.seq a _=>zE5 a
 |.block _ a=>zE5 a
 |.loop a=>zE5 a
 |.scope a=>zE5 a
 |_=>0
def eval [GlobTab] (c:Ctx):Code→St→Option Out
 |.skip,_=>some { ok:=[],comps:=[⟨0,none,[]⟩] }
 |.region id ops draw,S=>match yP7 (look [] c.gh (2*id)) S with
  |none=>none
  |some (p0,v)=>bif !(v.all (fun e=>Nat.blt e.1 zA4)) then none else match xC7 c (look [] c.gh (2*id+1)) ops.toList draw (v++S) with
   |some (p,u)=>some { ok:=p0++p,comps:=[⟨0,none,u++v⟩] }
   |none=>none
 |.seq a b,S=>match eval c a S with
  |none=>none
  |some oa=>match zA6 0 oa.comps with
   |none=>some oa
   |some n=>match eval c b (n.d++S) with
    |none=>none
    |some ob=>some (yP8 n S oa ob)
 |.cond x a b,S=>match arg S x with
  |.val .bool t=>match eval c a S,eval c b S with
   |some oa,some ob=>some (yC9 t S oa ob)
   |_,_=>none
  |_=>none
 |.block id a,S=>match eval c a S with
  |some oa=>some (yH8 id S oa)
  |none=>none
 |.loop a,S=>look (fun _=>none) c.loops (zE5 a) S
 |.exit id,_=>some { ok:=[],comps:=[⟨id+2,none,[]⟩] }
 |.ret,_=>some { ok:=[],comps:=[⟨1,none,[]⟩] }
 |_,_=>none
end Go.Am
namespace Go.Am
open Go Go.RowKit
def zD8 (s:Nat):Nat:=2*s+4
def zA9 (T:Nat):Nat:=2*T+5
def yK (χ:Nat→Nat→Nat)(w:World)(b o:Nat)(vs:List Value):Prop:=
 ∀ j v,vs[j]?=some v→w.cell? ⟨b,o+j,none⟩=some v∧χ b (o+j)=0
def zM5 {α:Type}(R:α→List Value→Prop):List α→List Value→Prop
 |[],us=>us=[]
 |x::l,us=>∃ vs ws,us=vs++ws∧R x vs∧zM5 R l ws
def zB6 (χ:Nat→Nat→Nat)(w:World):(τ:Ty)→τ.den→List Value→Prop
 |.int k,x,vs=>vs=[.int k x]
 |.bool,x,vs=>vs=[.bool x]
 |.str,x,vs=>vs=[.string ⟨List.toArray x⟩]
 |.nl,_,vs=>vs=[]
 |.cons h t,x,vs=>∃ us ws,vs=us++ws∧zB6 χ w h x.1 us∧zB6 χ w t x.2 ws
 |.st f,x,vs=>zB6 χ w f x vs
 |.arr n t,l,vs=>List.length (α:=t.den) l=n∧zM5 (zB6 χ w t) l vs
 |.sl t,l,vs=>∃ a cap,vs=[.slice a (List.length (α:=t.den) l) cap]∧(l=([]:List t.den)∨∃ b o us,a=some ⟨b,o,none⟩∧List.length (α:=t.den) l≤cap∧zM5 (zB6 χ w t) l us∧yK χ w b o us)
 |.ptr t,x,vs=>∃ b o us,vs=[.pointer (some ⟨b,o,none⟩)]∧zB6 χ w t x us∧yK χ w b o us
def zT2 (χ:Nat→Nat→Nat)(w:World)(τ:Ty)(x:τ.den)(v:Value):Prop:=
 ∃ vs,zB6 χ w τ x vs∧(bif τ.isAgg then v=.agg vs.toArray else vs=[v])
structure Gh where
 χ:Nat→Nat→Nat
 β:Nat→Nat
 γ:Nat→Nat
def yK0 (t:Ty):Prop:=t.plain=true∧t.isL=false
def xC1 (G:Gh)(w:World)(t:Ty)(l:List t.den)(T:Nat)(m:Bool)(v:Value):Prop:=
 yK0 t∧((v=.slice none 0 0∧l=[]) ∨
 ∃ cap cur e us,v=.slice (some ⟨G.γ T,0,none⟩) l.length cap∧w.heap[G.γ T]?=some (.cells cur e (0,0))∧l.length≤cap∧cap≤maxLen∧cur.size=cap*t.size ∧
  zM5 (zB6 G.χ w t) l us∧cur.toList.take (l.length*t.size)=us∧(∀ o,G.χ (G.γ T) o=if m=false∧o<l.length*t.size then 0 else zA9 T))
def xL5 (χ:Nat→Nat→Nat)(w:World)(k v:Ty):List (k.den×v.den×Unit)→List MapEntry→Prop
 |[],es=>es=[]
 |x::l,es=>∃ e r,es=e::r∧zT2 χ w k x.1 e.key∧zT2 χ w v x.2.1 e.val∧xL5 χ w k v l r
def wE7 (G:Gh)(w:World)(k e:Ty)(l:List (k.den×e.den×Unit))(T:Nat)(v:Value):Prop:=
 ∃ es clock,v=.map (some (G.γ T))∧w.heap[G.γ T]?=some (.map es clock)∧xL5 G.χ w k e l es.toList∧∀ o,G.χ (G.γ T) o=zA9 T
def wO (G:Gh)(w:World)(t:Ty)(l:List t.den)(T:Nat)(v:Value):Prop:=
 ∃ k e,∃ l':List (k.den×e.den×Unit),t=xS k e∧HEq l l'∧wE7 G w k e l' T v
def zG3 (G:Gh)(w:World)(t:Ty)(l:List t.den)(T:Nat)(m:Bool)(v:Value):Prop:=xC1 G w t l T m v∨(m=true∧wO G w t l T v)
def zA8 (G:Gh)(w:World)(τ:Ty):AVal→List Value→Prop
 |.val τ' x,vs=>τ'=τ∧τ'.isL=false∧zB6 G.χ w τ' x vs
 |.nil,vs=>τ.isSl=true∧vs=[.slice none 0 0]
 |.junk,vs=>τ.isSl=true∧∃ v,vs=[v]∧v.oneCell'=true
 |.own t l T m,vs=>τ=.sl t∧∃ v,vs=[v]∧zG3 G w t l T m v
 |.agg f c,vs=>τ=.st f∧zA8 G w f c vs
 |.nl,vs=>τ=.nl∧vs=[]
 |.cons a b,vs=>∃ h t us ws,τ=.cons h t∧vs=us++ws∧zA8 G w h a us∧zA8 G w t b ws
 |_,_=>False
def zN3 (G:Gh)(w:World)(s:Nat)(τ:Ty)(c:AVal):Prop:=
 yK0 τ∧∃ cur e,w.heap[G.β s]?=some (.cells cur e (0,0))∧zA8 G w τ c cur.toList∧∀ o,G.χ (G.β s) o=zD8 s
def zE:Ty→zG4→Prop
 |_,[]=>True
 |.st f,.inl k::p=>k<f.flen∧zE (f.fty k) p
 |.arr n t,.inr i::p=>0≤i∧i<(n:Int)∧zE t p
 |_,_=>False
def xJ (G:Gh)(v:Value):Option (Nat×Ty)→Value
 |some (k,_)=>.pointer (some ⟨G.β k,0,none⟩)
 |none=>v
def yH9 (G:Gh):Option (Nat×Ty×zG4)→Value
 |some (k,τ,p)=>.pointer (some ⟨G.β k,τ.poff p,none⟩)
 |none=>.pointer none
def yF0 (G:Gh)(w:World)(one:Bool)(l:List (Option (Nat×Ty×zG4)))(v:Value):Prop:=
 ∃ b o cap,v=cond one (.pointer (some ⟨b,o,none⟩)) (.slice (some ⟨b,o,none⟩) l.length cap)∧yK G.χ w b o (l.map (yH9 G))∧∀ k τ p,some (k,τ,p)∈l→zE τ p
def wU2 (G:Gh)(w:World)(t:Ty)(l:List (List t.den))(T:Nat)(v:Value):Prop:=
 ∃ x a cap,l=[x]∧v=.slice a (List.length (α:=t.den) x) cap∧(x=([]:List t.den)∨∃ o us cur e,a=some ⟨G.γ T,o,none⟩∧List.length (α:=t.den) x≤cap∧w.heap[G.γ T]?=some (.cells cur e (0,0)) ∧
  zM5 (zB6 G.χ w t) x us∧(∀ j u,us[j]?=some u→cur.toList[o+j]?=some u)∧∀ o,G.χ (G.γ T) o=zA9 T)
def wS6 (G:Gh)(w:World)(t:Ty)(l:List (List t.den))(T i:Nat)(v:Value):Prop:=
 (v=.slice none 0 0∧l=[])∨∃ cap cur e,v=.slice (some ⟨G.γ T,0,none⟩) (List.length (α:=List t.den) l) cap∧w.heap[G.γ T]?=some (.cells cur e (0,0))∧List.length (α:=List t.den) l≤cap∧cap≤maxLen∧cur.size=cap∧(∀ o,G.χ (G.γ T) o=zA9 T) ∧
  ∀ (j:Nat) (x:List t.den),l[j]?=some x→j≠i→∃ u,cur.toList[j]?=some u∧zB6 G.χ w (.sl t) x [u]
def xR9 (G:Gh)(w:World)(t:Ty)(l:List (List t.den))(T i U:Nat)(m:Bool)(v:Value):Prop:=
 yK0 t∧((T=U∧((m=false∧wU2 G w t l T v)∨(m=true∧wS6 G w t l T i v)))∨T≠U∧((v=.slice none 0 0∧l=[])∨∃ cap cur e,v=.slice (some ⟨G.γ T,0,none⟩) (List.length (α:=List t.den) l) cap∧w.heap[G.γ T]?=some (.cells cur e (0,0))∧List.length (α:=List t.den) l≤cap∧cap≤maxLen∧cur.size=cap∧(∀ o,G.χ (G.γ T) o=zA9 T) ∧
  ∀ (j:Nat) (x:List t.den),l[j]?=some x→∃ u,cur.toList[j]?=some u∧if j=i then xC1 G w t x U m u else zB6 G.χ w (.sl t) x [u]))
def zX0 (l:List UInt8):List Value:=l.map fun b=>.int .u8 (b.toNat:Int)
def zX6:Value→Option Nat
 |.slice (some a) _ _=>some a.block
 |_=>none
def wE8 (w:World)(e:Nat)(v:Value)(xs:List Value):Prop:=
 (v=.slice none 0 0∧xs=[])∨∃ g cap cur,v=.slice (some ⟨g,0,none⟩) xs.length cap∧w.heap[g]?=some (.cells cur e (0,0))∧xs.length≤cap∧cap≤maxLen∧cur.size=cap∧cur.toList.take xs.length=xs
def wS7 (G:Gh)(w:World)(s T e U:Nat)(l:List UInt8):Prop:=
 ∃ p v,w.heap[G.β s]?=some (.cells #[p,v] T (0,0))∧(p=.pointer none∨p=.pointer (some ⟨G.β s,0,none⟩))∧wE8 w e v (zX0 l)∧(∀ g,zX6 v=some g→g=G.γ U∧∀ o,G.χ g o=zA9 U)∧∀ o,G.χ (G.β s) o=zD8 s
def zA (G:Gh)(w:World)(tm:Array Value):Option Nat→AVal→Value→Prop
 |_,.junk,_=>True
 |_,.val τ x,v=>zT2 G.χ w τ x v
 |_,.opt s' want g A,v=>(tm.getD s' undef=.bool want↔g=true)∧(g=true→zA G w tm none A v)∧(g=false→v=undef)
 |_,.nil,v=>v=.slice none 0 0
 |_,.nn b,v=>∃ a cap,v=.slice a 0 cap∧a.isNone=b
 |_,.own t l T m,v=>zG3 G w t l T m v
 |some s,.box τ c,v=>(s<vNo→v=.pointer (some ⟨G.β s,0,none⟩))∧zN3 G w s τ c
 |none,.box _ _,_=>False
 |some s,.may b τ c,_=>b=true→zN3 G w s τ c
 |none,.may _ _ _,_=>False
 |some s,.bld T e U l,v=>(s<vNo→v=.pointer (some ⟨G.β s,0,none⟩))∧wS7 G w s T e U l
 |none,.bld _ _ _ _,_=>False
 |_,.nilp,v=>v=.pointer none
 |_,.pn b s' _,v=>v=.pointer (if b=true then none else some ⟨G.β s',0,none⟩)
 |_,.ref s' τ p,v=>zE τ p∧v=.pointer (some ⟨G.β s',τ.poff p,none⟩)
 |_,.eref _ T t i p,v=>0≤i∧zE t p∧v=.pointer (some ⟨G.γ T,i.toNat*t.size+t.poff p,none⟩)
 |_,.agg f c,v=>∃ vs,v=.agg vs.toArray∧zA8 G w f c vs
 |_,.nl,v=>v=.tuple #[]
 |_,.cons a b,v=>∃ x xs,v=.tuple (x::xs).toArray∧zA G w tm none a x∧zA G w tm none b (.tuple xs.toArray)
 |_,.tup c,v=>zA G w tm none c v
 |_,.fn f c,v=>∃ vs,v=.func (.func f) #[] vs∧zA G w tm none c (.tuple vs)
 |some s,.raw,v=>v=.pointer (some ⟨G.β s,0,none⟩)∧∃ u e,w.heap[G.β s]?=some (.cells #[u] e (0,0))∧∀ o,G.χ (G.β s) o=zD8 s
 |none,.raw,_=>False
 |_,.rref s',v=>v=.pointer (some ⟨G.β s',0,none⟩)
 |_,.ownh t l T i U m,v=>xR9 G w t l T i U m v
 |_,.ptrs one l,v=>yF0 G w one l v
 |_,.lbox _ _ _ _,_=>True
 |_,.fptr f caps,v=>∃ b,v=.pointer (some ⟨b,0,none⟩)∧G.χ b 0=0∧w.cell? ⟨b,0,none⟩=some (.func (.func f) #[] (caps.map (xJ G v)).toArray)
def ArgRep (G:Gh)(w:World)(i:Nat):AVal→Value→Prop
 |.lbox one ps τ c,v=>yF0 G w one (ps.map fun p=>some (hid i,τ,p)) v∧zN3 G w (hid i) τ c
 |A,v=>zA G w #[] (some i) A v
theorem ArgRep.arep {G:Gh}{w:World}{i:Nat}{A:AVal}{v:Value}(h:ArgRep G w i A v):zA G w #[] (some i) A v:=by
 cases A<;>first|exact h | (simp only[zA])
structure Ext (X Y:Nat→Prop) (G:Gh) (w:World) (G':Gh) (w':World):Prop where
 prot:∀ b o,b<w.heap.size→G.χ b o=0→G'.χ b o=0∧w'.cell? ⟨b,o,none⟩=w.cell? ⟨b,o,none⟩
 block:∀ b,b<w.heap.size→(∀ o,¬ X (G.χ b o))→w'.heap[b]?=w.heap[b]?∧∀ o,G'.χ b o=G.χ b o
 size:w.heap.size≤w'.heap.size
 box:∀ s,¬ Y (zD8 s)→G'.β s=G.β s
 tag:∀ T,¬ Y (zA9 T)→G'.γ T=G.γ T
 sub:∀ n,Y n→X n
def GlobOk [GlobTab] (χ:Nat→Nat→Nat)(w:World):Prop:=
 ∀ g τ (x:τ.den),(g,⟨τ,x⟩)∈GlobTab.tab→∃ vs,zB6 χ w τ x vs∧yK χ w g 0 vs
structure Frame0 (χ0:Nat→Nat→Nat) (w0:World) (χ:Nat→Nat→Nat) (w:World):Prop where
 os:w.os=w0.os
 tape:w.tape=w0.tape
 output:w.output=w0.output
 size:w0.heap.size≤w.heap.size
 block:∀ b,b<w0.heap.size→(∀ o,χ0 b o≤1)→w.heap[b]?=w0.heap[b]?
 cell:∀ b o,b<w0.heap.size→χ0 b o≤1→χ b o=χ0 b o∧w.cell? ⟨b,o,none⟩=w0.cell? ⟨b,o,none⟩
structure Rel [GlobTab] (n:Nat) (χ0:Nat→Nat→Nat) (w0:World) (S:St) (a:Act) (w:World) (G:Gh):Prop where
 len:a.tmps.size=n
 defers:a.defers=[]
 reps:∀ s,zA G w a.tmps (some s) (S.get s) (a.tmps.getD s undef)
 frame:Frame0 χ0 w0 G.χ w
 glob:GlobOk G.χ w
theorem zB8 {α:Type}{R R':α→List Value→Prop}(h:∀ x vs,R x vs→R' x vs):∀ {l us},zM5 R l us→zM5 R' l us:=by
 intro l
 induction l with
 |nil=>intro us hu;exact hu
 |cons x l ih=>rintro us ⟨vs,ws,rfl,hx,hl⟩;exact⟨vs,ws,rfl,h _ _ hx,ih hl⟩
theorem zD1 {α:Type}{R:α→List Value→Prop}{k:Nat}(h:∀ x vs,R x vs→vs.length=k):∀ {l us},zM5 R l us→us.length=l.length*k:=by
 intro l
 induction l with
 |nil=>grind [zM5]
 |cons x l ih=>rintro us ⟨vs,ws,rfl,hx,hl⟩;grind
theorem zA1 {χ:Nat→Nat→Nat}{w:World}:∀ {τ:Ty}{x:τ.den}{vs:List Value},zB6 χ w τ x vs→vs.length=τ.size:=by
 intro τ
 induction τ with
 |int k=>grind [zB6,Ty.size]
 |bool=>grind [zB6,Ty.size]
 |str=>grind [zB6,Ty.size]
 |nl=>grind [zB6,Ty.size]
 |cons a b ha hb=>grind [zB6,Ty.size]
 |st f hf=>grind [zB6,Ty.size]
 |arr n t ht=>intro x vs h;obtain⟨h1,h2⟩:=h;have:=zD1 (k:=t.size) (fun _ _ h=>ht h) h2;rw[this,h1];rfl
 |sl t ht=>intro x vs h;obtain⟨a,cap,rfl,_⟩:=h;simp[Ty.size]
 |ptr t ht=>intro x vs h;obtain⟨b,o,us,rfl,_⟩:=h;simp[Ty.size]
theorem zP8 {χ χ':Nat→Nat→Nat}{w w':World}(h:∀ b o,b<w.heap.size→χ b o=0→χ' b o=0∧w'.cell? ⟨b,o,none⟩=w.cell? ⟨b,o,none⟩)
  {b o:Nat}{vs:List Value}(hc:yK χ w b o vs):yK χ' w' b o vs:=by
 intro j v hv;obtain⟨h1,h2⟩:=hc j v hv
 grind [World.cell?]
theorem zA5 {χ χ':Nat→Nat→Nat}{w w':World}(h:∀ b o,b<w.heap.size→χ b o=0→χ' b o=0∧w'.cell? ⟨b,o,none⟩=w.cell? ⟨b,o,none⟩) :
  ∀ {τ:Ty}{x:τ.den}{vs:List Value},zB6 χ w τ x vs→zB6 χ' w' τ x vs:=by
 intro τ
 induction τ with
 |int k=>intro x vs hc;exact hc
 |bool=>intro x vs hc;exact hc
 |str=>intro x vs hc;exact hc
 |nl=>intro x vs hc;exact hc
 |cons a b ha hb=>intro x vs hc;obtain⟨us,ws,rfl,h1,h2⟩:=hc;exact⟨us,ws,rfl,ha h1,hb h2⟩
 |st f hf=>grind [zB6]
 |arr n t ht=>grind [zB6,zB8]
 |sl t ht =>
  intro x vs hc;simp only[zB6] at hc ⊢;obtain⟨a,cap,rfl,hc⟩:=hc;refine⟨a,cap,rfl,?_⟩;rcases hc with hc|⟨b,o,us,h1,h2,h3,h4⟩
  ·grind
  ·exact .inr ⟨b,o,us,h1,h2,zB8 (fun _ _ h=>ht h) h3,zP8 h h4⟩
 |ptr t ht =>
  intro x vs hc;simp only[zB6] at hc ⊢;obtain⟨b,o,us,rfl,h1,h2⟩:=hc;exact⟨b,o,us,rfl,ht h1,zP8 h h2⟩
theorem zI5 [GlobTab]{χ χ':Nat→Nat→Nat}{w w':World}(h:∀ b o,b<w.heap.size→χ b o=0→χ' b o=0∧w'.cell? ⟨b,o,none⟩=w.cell? ⟨b,o,none⟩)
  (hc:GlobOk χ w):GlobOk χ' w':=by
 intro g τ x hm;obtain⟨vs,h1,h2⟩:=hc g τ x hm;exact⟨vs,zA5 h h1,zP8 h h2⟩
theorem zD {χ χ':Nat→Nat→Nat}{w w':World}(h:∀ b o,b<w.heap.size→χ b o=0→χ' b o=0∧w'.cell? ⟨b,o,none⟩=w.cell? ⟨b,o,none⟩)
  {τ:Ty}{x:τ.den}{v:Value}(hc:zT2 χ w τ x v):zT2 χ' w' τ x v:=by
 obtain⟨vs,h1,h2⟩:=hc;exact⟨vs,zA5 h h1,h2⟩
theorem Ext.refl (X:Nat→Prop)(G:Gh)(w:World):Ext X X G w G w:=⟨fun _ _ _ h=>⟨h,rfl⟩,fun _ _ _=>⟨rfl,fun _=>rfl⟩,Nat.le_refl _,fun _ _=>rfl,fun _ _=>rfl,fun _ h=>h⟩
def AVal.names (X Y:Nat→Prop):Option Nat→AVal→Prop
 |_,.own _ _ T _=>X (zA9 T)
 |_,.opt _ _ _ A=>A.names X Y none
 |some s,.box _ c=>X (zD8 s)∨c.names X Y none
 |none,.box _ c=>c.names X Y none
 |some s,.may _ _ c=>X (zD8 s)∨c.names X Y none
 |none,.may _ _ c=>c.names X Y none
 |some s,.bld _ _ U _=>X (zD8 s)∨X (zA9 U)
 |none,.bld _ _ U _=>X (zA9 U)
 |_,.pn _ s' _=>Y (zD8 s')
 |_,.ref s' _ _=>Y (zD8 s')
 |_,.eref _ T _ _ _=>Y (zA9 T)
 |_,.ownh _ _ T _ U _=>X (zA9 T)∨X (zA9 U)
 |_,.cons a b=>a.names X Y none∨b.names X Y none
 |_,.agg _ c=>c.names X Y none
 |_,.tup c=>c.names X Y none
 |_,.fn _ c=>c.names X Y none
 |some s,.raw=>X (zD8 s)
 |_,.rref s'=>Y (zD8 s')
 |_,.fptr _ caps=>∃ k τ,some (k,τ)∈caps∧Y (zD8 k)
 |_,.ptrs _ l=>∃ k τ p,some (k,τ,p)∈l∧Y (zD8 k)
 |_,_=>False
theorem zE0 {w:World}{b:Nat}{o:Obj}(h:w.heap[b]?=some o):b<w.heap.size:=(Array.getElem?_eq_some_iff.1 h).1
theorem zX7 {G G':Gh}{w w':World}(h:∀ b o,b<w.heap.size→G.χ b o=0→G'.χ b o=0∧w'.cell? ⟨b,o,none⟩=w.cell? ⟨b,o,none⟩){one:Bool}{l:List (Option (Nat×Ty×zG4))}{v:Value}
  (hb:∀ k τ p,some (k,τ,p)∈l→G'.β k=G.β k) (hc:yF0 G w one l v):yF0 G' w' one l v:=by
 obtain⟨b,o,cap,h1,h2,h3⟩:=hc;refine⟨b,o,cap,h1,?_,h3⟩;have e:l.map (yH9 G')=l.map (yH9 G):=List.map_congr_left fun q hq=>by
  cases q with
  |none=>rfl
  |some q=>obtain⟨k,τ,p⟩:=q;simp only[yH9];rw[hb k τ p hq]
 rw[e];exact zP8 h h2
theorem yK1 {χ χ':Nat→Nat→Nat}{w w':World}(h:∀ b o,b<w.heap.size→χ b o=0→χ' b o=0∧w'.cell? ⟨b,o,none⟩=w.cell? ⟨b,o,none⟩){k v:Ty} :
  ∀ {l:List (k.den×v.den×Unit)}{es:List MapEntry},xL5 χ w k v l es→xL5 χ' w' k v l es:=by
 intro l
 induction l with
 |nil=>intro es h;exact h
 |cons x l ih=>rintro es ⟨e,r,rfl,h1,h2,h3⟩;exact⟨e,r,rfl,zD h h1,zD h h2,ih h3⟩
theorem yA3 {X Y:Nat→Prop}{G G':Gh}{w w':World}(hx:Ext X Y G w G' w')(h0:¬ X 0){t:Ty}{l:List t.den}{T:Nat}{m:Bool}{v:Value}(hn:¬ X (zA9 T))
  (h:xC1 G w t l T m v):xC1 G' w' t l T m v:=by
 refine⟨h.1,?_⟩;rcases h.2 with h|⟨cap,cur,e,us,h1,h2,h3,h4,h5,h6,h7,h8⟩
 ·grind
 ·have hb:=hx.block (G.γ T) (zE0 h2) (fun o=>by grind);have hg:=hx.tag T (fun h=>hn (hx.sub _ h));refine .inr ⟨cap,cur,e,us,by grind,by grind,h3,h4,h5,zB8 (fun _ _ h=>zA5 hx.prot h) h6,h7,fun o=>?_⟩
  grind
theorem wE9 {X Y:Nat→Prop}{G G':Gh}{w w':World}(hx:Ext X Y G w G' w'){t:Ty}{l:List (List t.den)}{T i:Nat}{v:Value}(hT:¬ X (zA9 T))(h:wS6 G w t l T i v):wS6 G' w' t l T i v:=by
 rcases h with h|⟨cap,cur,e,h1,h2,h3,h4,h5,h6,h7⟩
 ·exact .inl h
 have hb:=hx.block (G.γ T) (zE0 h2) (fun o=>by grind);have hg:=hx.tag T (fun h=>hT (hx.sub _ h));refine .inr ⟨cap,cur,e,by grind,by grind,h3,h4,h5,fun o=>by grind,fun j x hj hne=>?_⟩;obtain⟨u,hu,hr⟩:=h7 j x hj hne;exact⟨u,hu,zA5 hx.prot hr⟩
theorem wF {X Y:Nat→Prop}{G G':Gh}{w w':World}(hx:Ext X Y G w G' w')(h0:¬ X 0){t:Ty}{l:List (List t.den)}{T i U:Nat}{m:Bool}{v:Value}(hT:¬ X (zA9 T))(hU:¬ X (zA9 U))
  (h:xR9 G w t l T i U m v):xR9 G' w' t l T i U m v:=by
 obtain⟨hv,⟨he,⟨hm,x,a,cap,h1,h2,h3⟩ | ⟨hm,hK⟩⟩ | ⟨hne,h|⟨cap,cur,e,h1,h2,h3,h4,h5,h6,h7⟩⟩⟩:=h
 rotate_left
 ·exact⟨hv,.inl ⟨he,.inr ⟨hm,wE9 hx hT hK⟩⟩⟩
 rotate_right
 ·refine⟨hv,.inl ⟨he,.inl ⟨hm,x,a,cap,h1,h2,?_⟩⟩⟩;rcases h3 with h3|⟨o,us,cur,e,g1,g2,g3,g4,g5,g6⟩
  ·grind
  ·have hb:=hx.block (G.γ T) (zE0 g3) (fun o=>by grind);have hg:=hx.tag T (fun h=>hT (hx.sub _ h));exact .inr ⟨o,us,cur,e,by grind,g2,by grind,zB8 (fun _ _ h=>zA5 hx.prot h) g4,g5,fun o=>by grind⟩
 ·exact⟨hv,.inr ⟨hne,.inl h⟩⟩
 have hb:=hx.block (G.γ T) (zE0 h2) (fun o=>by grind);have hg:=hx.tag T (fun h=>hT (hx.sub _ h));refine⟨hv,.inr ⟨hne,.inr ⟨cap,cur,e,by grind,by grind,h3,h4,h5,fun o=>by grind,fun j x hj=>?_⟩⟩⟩;obtain⟨u,hu,hr⟩:=h7 j x hj;refine⟨u,hu,?_⟩;split
 ·grind [yA3]
 ·rename_i e;rw[if_neg e] at hr;exact zA5 hx.prot hr
theorem wF0 {X Y:Nat→Prop}{G G':Gh}{w w':World}(hx:Ext X Y G w G' w'){t:Ty}{l:List t.den}{T:Nat}{v:Value}(hn:¬ X (zA9 T))
  (h:wO G w t l T v):wO G' w' t l T v:=by
 obtain⟨k,e,l',ht,hl,es,clock,h1,h2,h3,h4⟩:=h;have hb:=hx.block (G.γ T) (zE0 h2) (fun o=>by grind);have hg:=hx.tag T (fun h=>hn (hx.sub _ h));exact⟨k,e,l',ht,hl,es,clock,by grind,by grind,yK1 hx.prot h3,fun o=>by grind⟩
theorem zF6 {X Y:Nat→Prop}{G G':Gh}{w w':World}(hx:Ext X Y G w G' w')(h0:¬ X 0){t:Ty}{l:List t.den}{T:Nat}{m:Bool}{v:Value}(hn:¬ X (zA9 T))
  (h:zG3 G w t l T m v):zG3 G' w' t l T m v:=h.imp (yA3 hx h0 hn) fun h=>⟨h.1,wF0 hx hn h.2⟩
theorem xT7 {G G':Gh}{w w':World}{t:Ty}{l:List t.den}{T U:Nat}{v:Value}(hγ:G'.γ U=G.γ T)(hh:w'.heap[G.γ T]?=w.heap[G.γ T]?)
  (hp:∀ b o,b<w.heap.size→G.χ b o=0→G'.χ b o=0∧w'.cell? ⟨b,o,none⟩=w.cell? ⟨b,o,none⟩) (hc:(∀ o,G.χ (G.γ T) o=zA9 T)→∀ o,G'.χ (G.γ T) o=zA9 U) (h:wO G w t l T v):wO G' w' t l U v:=by
 obtain⟨k,e,l',ht,hl,es,clock,h1,h2,h3,h4⟩:=h;exact⟨k,e,l',ht,hl,es,clock,by grind,by grind,yK1 hp h3,fun o=>by grind⟩
theorem yA4 {G G':Gh}{w w':World}{t:Ty}{l:List t.den}{T U:Nat}{m:Bool}{v:Value}(hs:xC1 G w t l T m v→xC1 G' w' t l U m v)(hγ:G'.γ U=G.γ T)(hh:w'.heap[G.γ T]?=w.heap[G.γ T]?)
  (hp:∀ b o,b<w.heap.size→G.χ b o=0→G'.χ b o=0∧w'.cell? ⟨b,o,none⟩=w.cell? ⟨b,o,none⟩) (hc:wO G w t l T v→(∀ o,G.χ (G.γ T) o=zA9 T)→∀ o,G'.χ (G.γ T) o=zA9 U) (h:zG3 G w t l T m v):zG3 G' w' t l U m v:=
 h.imp hs fun h=>⟨h.1,xT7 hγ hh hp (hc h.2) h.2⟩
theorem xL6 {G:Gh}{w:World}{t:Ty}{l:List t.den}{T:Nat}{v:Value}(h:zG3 G w t l T false v):xC1 G w t l T false v:=h.elim id fun h=>(by grind)
theorem zB1 {G:Gh}{w:World}{t:Ty}{l:List t.den}{T:Nat}{m:Bool}{v:Value}(h:zG3 G w t l T m v)(ht:t.isL=false):xC1 G w t l T m v:=by
 rcases h with h|⟨_,k,e,_,rfl,_⟩
 all_goals grind [Ty.isL]
theorem yA5 {X Y:Nat→Prop}{G G':Gh}{w w':World}(hx:Ext X Y G w G' w')(h0:¬ X 0):∀ {c:AVal}{τ:Ty}{vs:List Value},¬ c.names X Y none→zA8 G w τ c vs→zA8 G' w' τ c vs:=by
 intro c
 induction c with
 |val τ' x=>intro τ vs _ h;exact⟨h.1,h.2.1,zA5 hx.prot h.2.2⟩
 |junk=>grind [zA8]
 |nil=>grind [zA8]
 |own t l T m=>grind [AVal.names,zA8,zF6]
 |agg f a ih=>grind [AVal.names,zA8]
 |nl=>grind [zA8]
 |cons a b iha ihb =>
  grind [zA8,AVal.names]
 |_=>grind [zA8]
theorem yW3 {X Y:Nat→Prop}{G G':Gh}{w w':World}(hx:Ext X Y G w G' w')(h0:¬ X 0){s:Nat}{τ:Ty}{c:AVal}(hs:¬ X (zD8 s))(hc:¬ c.names X Y none)(h:zN3 G w s τ c):zN3 G' w' s τ c:=by
 obtain⟨hvt,cur,e,h2,h3,h4⟩:=h;have hb:=hx.block (G.β s) (zE0 h2) (fun o=>by rw[h4 o];exact hs);have hg:=hx.box s (fun h=>hs (hx.sub _ h));exact⟨hvt,cur,e,by rw[hg,hb.1];exact h2,yA5 hx h0 hc h3,fun o=>by rw[hg,hb.2 o];exact h4 o⟩
theorem zV {X Y:Nat→Prop}{G G':Gh}{w w':World}(hx:Ext X Y G w G' w')(h0:¬ X 0)(tm:Array Value) :
  ∀ {A:AVal}{s:Option Nat}{v:Value},¬ A.names X Y s→zA G w tm s A v→zA G' w' tm s A v:=by
 intro A
 induction A with
 |val τ x=>intro s v _ h;simp only[zA] at h ⊢;exact zD hx.prot h
 |junk=>intro s v _ _;simp only[zA]
 |nil=>intro s v _ h;simp only[zA] at h ⊢;exact h
 |nn b=>intro s v _ h;simp only[zA] at h ⊢;exact h
 |own t l T m=>intro s v hn h;simp only[zA] at h ⊢;simp only[AVal.names] at hn;exact zF6 hx h0 hn h
 |opt s' want g A ih=>intro s v hn h;simp only[zA] at h ⊢;simp only[AVal.names] at hn;exact⟨h.1,fun hg=>ih hn (h.2.1 hg),h.2.2⟩
 |box τ c ih =>
  intro s v hn h;cases s with
  |none=>simp only[zA] at h
  |some s =>
   simp only[AVal.names,not_or] at hn;simp only[zA] at h ⊢;have hg:=hx.box s (fun h=>hn.1 (hx.sub _ h));exact⟨by rw[hg];exact h.1,yW3 hx h0 hn.1 hn.2 h.2⟩
 |may b τ c ih =>
  intro s v hn h;cases s with
  |none=>simp only[zA] at h
  |some s =>
   simp only[AVal.names,not_or] at hn;simp only[zA] at h ⊢;exact fun hb=>yW3 hx h0 hn.1 hn.2 (h hb)
 |nilp=>intro s v _ h;simp only[zA] at h ⊢;exact h
 |pn b s' τ=>intro s v hn h;simp only[AVal.names] at hn;simp only[zA] at h ⊢;rw[hx.box s' hn];exact h
 |ref s' τ p=>intro s v hn h;simp only[AVal.names] at hn;simp only[zA] at h ⊢;rw[hx.box s' hn];exact h
 |eref _ T t i p=>intro s v hn h;simp only[AVal.names] at hn;simp only[zA] at h ⊢;rw[hx.tag T hn];exact h
 |ownh t l T i U m=>intro s v hn h;simp only[AVal.names,not_or] at hn;simp only[zA] at h ⊢;exact wF hx h0 hn.1 hn.2 h
 |agg f c _=>intro s v hn h;simp only[AVal.names] at hn;simp only[zA] at h ⊢;obtain⟨vs,h1,h2⟩:=h;exact⟨vs,h1,yA5 hx h0 hn h2⟩
 |nl=>intro s v _ h;simp only[zA] at h ⊢;exact h
 |cons a b iha ihb =>
  intro s v hn h;simp only[AVal.names,not_or] at hn;simp only[zA] at h ⊢;obtain⟨x,xs,h1,h2,h3⟩:=h;exact⟨x,xs,h1,iha hn.1 h2,ihb hn.2 h3⟩
 |tup c ih=>intro s v hn h;simp only[AVal.names] at hn;simp only[zA] at h ⊢;exact ih hn h
 |fn f c ih=>intro s v hn h;simp only[AVal.names] at hn;simp only[zA] at h ⊢;obtain⟨vs,h1,h2⟩:=h;exact⟨vs,h1,ih hn h2⟩
 |raw =>
  intro s v hn h;cases s with
  |none=>simp only[zA] at h
  |some s =>
   simp only[AVal.names] at hn;simp only[zA] at h ⊢;obtain⟨h1,u,e,h2,h3⟩:=h;have hb:=hx.block (G.β s) (zE0 h2) (fun o=>by rw[h3 o];exact hn);have hg:=hx.box s (fun h=>hn (hx.sub _ h));exact⟨by rw[hg];exact h1,u,e,by rw[hg,hb.1];exact h2,fun o=>by rw[hg,hb.2 o];exact h3 o⟩
 |rref s'=>intro s v hn h;simp only[AVal.names] at hn;simp only[zA] at h ⊢;rw[hx.box s' hn];exact h
 |lbox _ _ _ _=>intro s v _ _;simp only[zA]
 |bld T e U l =>
  intro s v hn h;cases s with
  |none=>simp only[zA] at h
  |some s =>
   simp only[AVal.names,not_or] at hn;obtain⟨h1,p,u,h2,h3,h4,h5,h6⟩:=h;have hg:=hx.box s (fun h=>hn.1 (hx.sub _ h));have hb:=hx.block (G.β s) (zE0 h2) (fun o=>by rw[h6 o];exact hn.1);refine⟨by rw[hg];exact h1,p,u,by rw[hg,hb.1];exact h2,by rw[hg];exact h3,?_,fun g hq=>?_,fun o=>by rw[hg,hb.2 o];exact h6 o⟩
   ·rcases h4 with h4|⟨g,cap,cur,e1,e2,e3⟩
    ·exact .inl h4
    ·have hgc:=(h5 g (by rw[e1];rfl)).2;exact .inr ⟨g,cap,cur,e1,by rw[(hx.block g (zE0 e2) (fun o=>by rw[hgc o];exact hn.2)).1];exact e2,e3⟩
   ·obtain⟨q1,q2⟩:=h5 g hq;have hlt:g<w.heap.size:=by
     rcases h4 with ⟨e0,_⟩ | ⟨g',cap,cur,e1,e2,e3⟩
     ·rw[e0] at hq;cases hq
     ·rw[e1] at hq;simp only[zX6,Option.some.injEq] at hq;subst hq;exact zE0 e2
    exact⟨by rw[hx.tag U (fun h=>hn.2 (hx.sub _ h))];exact q1,fun o=>by rw[(hx.block g hlt (fun o=>by rw[q2 o];exact hn.2)).2 o];exact q2 o⟩
 |ptrs one l=>intro s v hn h;simp only[AVal.names] at hn;simp only[zA] at h ⊢;exact zX7 hx.prot (fun k τ p hm=>hx.box k fun hY=>hn ⟨k,τ,p,hm,hY⟩) h
 |fptr f caps =>
  intro s v hn h;simp only[AVal.names] at hn;simp only[zA] at h ⊢;obtain⟨b,h1,h2,h3⟩:=h;have hb:b<w.heap.size:=by
   by_cases hb:b<w.heap.size
   ·exact hb
   ·have:w.heap[b]?=none:=Array.getElem?_eq_none (by omega);simp[World.cell?,this] at h3
  obtain⟨h4,h5⟩:=hx.prot b 0 hb h2;refine⟨b,h1,h4,?_⟩;rw[h5,h3];congr 3;refine List.map_congr_left fun q hq=>?_;cases q with
  |none=>rfl
  |some q=>obtain⟨k,τ⟩:=q;simp only[xJ];rw[hx.box k (fun hY=>hn ⟨k,τ,hq,hY⟩)]
theorem zK4 {G:Gh}{w:World}{tm tm':Array Value}{A:AVal}:∀ {s:Option Nat}{v:Value},(∀ d,A.hung d=true→tm'.getD d undef=tm.getD d undef)→zA G w tm s A v→zA G w tm' s A v:=by
 induction A with
 |opt s' want g A ih =>
  simp_all [zA,AVal.hung]
 |cons a b iha ihb =>
  grind [zA,AVal.hung]
 |tup c ih=>grind [zA,AVal.hung]
 |fn f c ih=>grind [zA,AVal.hung]
 |box τ c _=>intro s v _ h;cases s<;>simp only[zA] at h ⊢;grind
 |raw=>intro s v _ h;cases s<;>simp only[zA] at h ⊢;grind
 |may b τ c _=>intro s v _ h;cases s<;>simp only[zA] at h ⊢;grind
 |bld T e U l=>intro s v _ h;cases s<;>simp only[zA] at h ⊢;exact h
 |_=>grind [zA]
theorem zP9 {G:Gh}{w:World}{tm:Array Value}{A:AVal}{s:Option Nat}{v:Value}(h:zA G w tm s A v)(hb:∀ τ c,A≠.box τ c)(hr:A≠.raw)(hm:∀ b τ c,A≠.may b τ c)(hd:∀ T e U l,A≠.bld T e U l):zA G w tm none A v:=by
 cases A<;>first | (exfalso;exact hb _ _ rfl) | (exfalso;exact hr rfl) | (exfalso;exact hm _ _ _ rfl) | (exfalso;exact hd _ _ _ _ rfl)|grind [zA]
theorem zL6 {G:Gh}{w:World}{tm:Array Value}{A:AVal}{s:Option Nat}{v:Value}(h:zA G w tm none A v):zA G w tm s A v:=by
 cases A<;>(grind [zA])
end Go.Am
namespace Go.Am
open Go Go.RowKit
variable {P:Program}
def zC:Ty→List Value
 |.int k=>[.int k 0]|.bool=>[.bool false]|.str=>[.string ⟨#[]⟩]|.nl=>[]|.cons h t=>zC h++zC t
 |.st f=>zC f|.arr n t=>(List.replicate n (zC t)).flatten|.sl _=>[.slice none 0 0]|.ptr _=>[.pointer none]
def xT8:Value→Value→Bool
 |.int k n,.int k' m=>Nat.beq (zJ1 k) (zJ1 k')&&(n==m)
 |.bool a,.bool b=>a==b
 |.string a,.string b=>a.data.toList.isEmpty&&b.data.toList.isEmpty
 |.slice none 0 0,.slice none 0 0=>true
 |.pointer none,.pointer none=>true
 |_,_=>false
theorem xT9 {a b:Value}(h:xT8 a b=true):a=b:=by
 unfold xT8 at h;split at h
 ·simp at h;grind [zI7]
 ·grind
 ·rename_i a b;obtain⟨⟨a⟩⟩:=a;obtain⟨⟨b⟩⟩:=b
  grind
 all_goals grind
def yK2:List Value→List Value→Bool
 |[],[]=>true
 |a::r,b::s=>xT8 a b&&yK2 r s
 |_,_=>false
theorem xL7:∀ {a b:List Value},yK2 a b=true→a=b:=by
 intro a
 induction a with
 |nil=>grind [yK2]
 |cons x r ih=>intro b h;cases b<;>simp[yK2] at h;grind [xT9]
def yW4:Value→Bool
 |.agg _=>true|_=>false
def zQ (P:Program)(T:Nat)(τ:Ty):Bool:=
 match P.info? T with
 |some i=>Nat.beq i.size τ.size&&Nat.ble i.bytes 32768&&!(P.eqGuardType P.depth T)&&Nat.ble τ.ht 9000&&(match i.zero with|some v=>yK2 v.cells.toList (zC τ)&&(yW4 v==τ.isAgg)|none=>false)
 |none=>false
def zC3 (P:Program):Ty→Nat ⊕ (List Field×Nat)→Bool
 |.int k,.inl T=>(match P.underlying T with|some (.int k')=>Nat.beq (zJ1 k') (zJ1 k)|_=>false)&&zQ P T (.int k)
 |.bool,.inl T=>(match P.underlying T with|some .bool=>true|_=>false)&&zQ P T .bool
 |.str,.inl T=>(match P.underlying T with|some .string=>true|_=>false)&&zQ P T .str
 |.nl,.inr ([],_)=>true
 |.cons h t,.inr (fd::r,o)=>Nat.beq fd.offset o&&!(fd.name=="_")&&zC3 P h (.inl fd.type)&&zC3 P t (.inr (r,o+h.size))
 |.st f,.inl T=>(match P.underlying T with|some (.struct fs)=>zC3 P f (.inr (fs.toList,0))&&!(P.stoodInHeld T)|_=>false)&&zQ P T (.st f)
 |.arr n t,.inl T=>(match P.underlying T with|some (.array m e)=>Nat.beq m n&&zC3 P t (.inl e)|_=>false)&&zQ P T (.arr n t)
 |.sl t,.inl T=>(match P.underlying T with|some (.slice e)=>zC3 P t (.inl e)|_=>false)&&zQ P T (.sl t)
 |.ptr t,.inl T=>(match P.underlying T with|some (.pointer e)=>zC3 P t (.inl e)|_=>false)&&zQ P T (.ptr t)
 |_,_=>false
def zM6 (P:Program)(l:List (Nat×Ty)):Bool:=l.all fun e=>zC3 P e.2 (.inl e.1)
theorem wF1 {l:List (Nat×Ty)}{T:Nat}:look Ty.nl l T=.nl∨(T,look Ty.nl l T)∈l:=by
 induction l with
 |nil=>exact .inl rfl
 |cons e r ih =>
  grind [look,Nat.beq,Nat.eq_of_beq_eq_true]
theorem zI {c:Ctx}(h:zM6 P c.tys=true)(T:Nat)(hn:c.ty T≠.nl):zC3 P (c.ty T) (.inl T)=true:=by
 rcases wF1 (l:=c.tys) (T:=T) with h' | h'
 ·exact absurd h' hn
 ·exact (List.all_eq_true.1 h) _ h'
structure TyIs (P:Program) (T:Nat) (τ:Ty):Prop where
 info:∃ i z,P.info? T=some i∧i.size=τ.size∧i.bytes≤32768∧i.zero=some z∧z.cells.toList=zC τ∧yW4 z=τ.isAgg
 und:∃ d,P.underlying T=some d∧d.isRow=τ.isAgg
theorem zN4 {T:Nat}{τ:Ty}(h:zQ P T τ=true):∃ i z,P.info? T=some i∧i.size=τ.size∧i.bytes≤32768∧i.zero=some z∧z.cells.toList=zC τ∧yW4 z=τ.isAgg:=by
 unfold zQ at h;split at h
 ·rename_i i hi;split at h
  ·rename_i v hv;simp only[Bool.and_eq_true,beq_iff_eq] at h;exact⟨i,v,hi,Nat.eq_of_beq_eq_true h.1.1.1.1,Nat.le_of_ble_eq_true h.1.1.1.2,hv,xL7 h.2.1,h.2.2⟩
  grind
 grind
theorem yW5 {T:Nat}{τ:Ty}(h:zQ P T τ=true):P.eqGuardType P.depth T=false:=by
 grind [zQ]
theorem xU {T:Nat}{τ:Ty}(h:zQ P T τ=true):τ.ht≤9000:=by
 unfold zQ at h;split at h
 all_goals simp_all
theorem wM2 {τ:Ty}{T:Nat}(h:zC3 P τ (.inl T)=true):τ.ht≤9000:=by
 cases τ<;>simp[zC3] at h<;>first|grind [xU]|grind
theorem xL8 {τ:Ty}{T:Nat}(h:zC3 P τ (.inl T)=true):P.eqGuardType P.depth T=false:=by
 cases τ<;>simp[zC3] at h<;>first|grind [yW5]|grind
theorem zG7 {τ:Ty}{T:Nat}(h:zC3 P τ (.inl T)=true):TyIs P T τ:=by
 cases τ with
 |nl=>grind [zC3]
 |cons a b=>grind [zC3]
 |int k=>simp[zC3] at h;refine⟨zN4 h.2,?_⟩;grind [Ty.isAgg]
 |bool=>simp[zC3] at h;refine⟨zN4 h.2,?_⟩;grind [Ty.isAgg]
 |str=>simp[zC3] at h;refine⟨zN4 h.2,?_⟩;grind [Ty.isAgg]
 |st f=>simp[zC3] at h;refine⟨zN4 h.2,?_⟩;grind [Ty.isAgg]
 |arr n t=>simp[zC3] at h;refine⟨zN4 h.2,?_⟩;grind [Ty.isAgg]
 |sl t=>simp[zC3] at h;refine⟨zN4 h.2,?_⟩;grind [Ty.isAgg]
 |ptr t=>simp[zC3] at h;refine⟨zN4 h.2,?_⟩;grind [Ty.isAgg]
theorem yD {f:Ty}:∀ {fs:List Field}{o k:Nat},zC3 P f (.inr (fs,o))=true→k<f.flen →
  ∃ fd,fs[k]?=some fd∧fd.offset=o+f.foff k∧zC3 P (f.fty k) (.inl fd.type)=true∧fd.name≠"_":=by
 induction f with
 |cons h t _ iht =>
  intro fs o k hk hl;cases fs with
  |nil=>grind [zC3]
  |cons fd r =>
   simp[zC3] at hk;cases k with
   |zero=>grind [Ty.foff,Ty.fty]
   |succ k =>
    simp only[Ty.flen] at hl
    grind [Ty.foff,Ty.fty]
 |_=>grind [Ty.flen]
theorem zX8 {f:Ty}{T:Nat}(h:zC3 P (.st f) (.inl T)=true):∃ fs,P.underlying T=some (.struct fs)∧zC3 P f (.inr (fs.toList,0))=true:=by
 grind [zC3]
theorem xL9 {f:Ty}{T:Nat}(h:zC3 P (.st f) (.inl T)=true):P.stoodInHeld T=false:=by
 grind [zC3]
theorem zV0 {n:Nat}{t:Ty}{T:Nat}(h:zC3 P (.arr n t) (.inl T)=true):∃ e,P.underlying T=some (.array n e)∧zC3 P t (.inl e)=true:=by
 simp[zC3] at h;cases hu:P.underlying T with
 |none=>grind
 |some d =>
  cases d<;>simp_all
theorem zF8 {t:Ty}{T:Nat}(h:zC3 P (.sl t) (.inl T)=true):∃ e,P.underlying T=some (.slice e)∧zC3 P t (.inl e)=true:=by
 grind [zC3]
theorem wF2 {t:Ty}{T:Nat}(h:zC3 P (.ptr t) (.inl T)=true):∃ e,P.underlying T=some (.pointer e)∧zC3 P t (.inl e)=true:=by
 grind [zC3]
theorem yA6 {k:IntKind}{T:Nat}(h:zC3 P (.int k) (.inl T)=true):P.underlying T=some (.int k):=by
 simp[zC3] at h;cases hu:P.underlying T with
 |none=>grind
 |some d=>cases d<;>simp_all;grind [zI7]
theorem yW6 {T:Nat}(h:zC3 P .bool (.inl T)=true):P.underlying T=some .bool:=by
 grind [zC3]
theorem zM7 {T:Nat}(h:zC3 P .str (.inl T)=true):P.underlying T=some .string:=by
 grind [zC3]
theorem xU0 {τ:Ty}{T:Nat}(h:zC3 P τ (.inl T)=true):τ.isL=false:=by
 cases τ<;>first|rfl|grind [zC3]
theorem xJ0 {t:Ty}{q:zG4}{T:Nat}(hq:zE t q)(h:zC3 P (t.pty q) (.inl T)=true):t.isL=false:=by
 cases q with
 |nil=>exact xU0 h
 |cons e r =>
  cases t<;>first|rfl|grind [zE]
theorem yI {t:Ty}{T:Nat}(h:zC3 P (.sl t) (.inl T)=true):t.isL=false:=by
 grind [zF8,xU0]
end Go.Am
namespace Go.Am
open Go Go.RowKit
variable {P:Program}
def seg (vs:List Value)(o n:Nat):List Value:=(vs.drop o).take n
def spl (vs:List Value)(o:Nat)(ys:List Value):List Value:=vs.take o++(ys++vs.drop (o+ys.length))
theorem xM {vs:List Value}{o n:Nat}(h:o+n≤vs.length):(seg vs o n).length=n:=by grind [seg]
theorem seg_getElem? (vs:List Value)(o n j:Nat):(seg vs o n)[j]?=if j<n then vs[o+j]? else none:=by
 simp[seg,List.getElem?_take]
theorem yK3 (vs:List Value)(o n o' n':Nat)(h:o'+n'≤n):seg (seg vs o n) o' n'=seg vs (o+o') n':=by
 apply List.ext_getElem?;intro j;simp only[seg_getElem?];by_cases hj:j<n'
 ·grind
 grind
theorem yS9 (vs:List Value):seg vs 0 vs.length=vs:=by simp[seg]
theorem yI0 (us ws:List Value):seg (us++ws) 0 us.length=us:=by simp[seg]
theorem yA7 (us ws:List Value)(o n:Nat):seg (us++ws) (us.length+o) n=seg ws o n:=by
 unfold seg;rw[List.drop_append,List.drop_of_length_le (by omega),List.nil_append];congr 2;omega
theorem zQ0 {vs ys:List Value}{o:Nat}(h:o+ys.length≤vs.length):(spl vs o ys).length=vs.length:=by grind [spl]
theorem yT (us ws ys:List Value)(h:ys.length=us.length):spl (us++ws) 0 ys=ys++ws:=by
 grind [spl]
theorem yK4 (us ws ys:List Value)(o:Nat):spl (us++ws) (us.length+o) ys=us++spl ws o ys:=by
 unfold spl;rw[List.take_append,List.take_of_length_le (by omega),List.drop_append,List.drop_of_length_le (by omega),List.nil_append,List.append_assoc]
 grind
theorem xU1 (vs:List Value)(o:Nat):spl vs o []=vs:=by simp[spl]
theorem wM3 (vs ys:List Value)(h:ys.length=vs.length):spl vs 0 ys=ys:=by grind [spl]
theorem spl_getElem? (vs ys:List Value)(o j:Nat)(h:o+ys.length≤vs.length) :
  (spl vs o ys)[j]?=if o≤j∧j<o+ys.length then ys[j-o]? else vs[j]?:=by
 unfold spl;by_cases h1:j<o
 ·grind
 ·rw[List.getElem?_append_right (by grind)];have hl:(vs.take o).length=o:=by grind
  rw[hl];by_cases h2:j<o+ys.length
  ·rw[List.getElem?_append_left (by omega),if_pos ⟨by omega,h2⟩]
  grind
theorem yK5 (vs ys:List Value)(o n o':Nat)(h:o+n≤vs.length)(h':o'+ys.length≤n):spl vs o (spl (seg vs o n) o' ys)=spl vs (o+o') ys:=by
 have hl:(seg vs o n).length=n:=xM h;have hl':(spl (seg vs o n) o' ys).length=n:=by grind [zQ0]
 apply List.ext_getElem?;intro j;rw[spl_getElem? vs _ o j (by omega),spl_getElem? vs ys (o+o') j (by omega),hl'];by_cases h1:o≤j∧j<o+n
 ·rw[if_pos h1,spl_getElem? _ _ _ _ (by omega)];by_cases h2:o'≤j-o∧j-o<o'+ys.length
  ·grind
  ·rw[if_neg h2,if_neg (by omega),seg_getElem?,if_pos (by omega)];grind
 ·rw[if_neg h1,if_neg (by omega)]
theorem yI1 {α:Type}{R:α→List Value→Prop}{k:Nat}(hk:∀ x vs,R x vs→vs.length=k)(d:α) :
  ∀ {l:List α}{us:List Value}{i:Nat},zM5 R l us→i<l.length→R (l.getD i d) (seg us (i*k) k):=by
 intro l
 induction l with
 |nil=>grind
 |cons x l ih =>
  rintro us i ⟨vs,ws,rfl,hx,hl⟩ hi;cases i with
  |zero=>grind [yI0]
  |succ i =>
   rw[show (i+1)*k=vs.length+i*k from by grind,yA7]
   grind
theorem yT0 {α:Type}{R:α→List Value→Prop}{k:Nat}(hk:∀ x vs,R x vs→vs.length=k){y:α}{ys:List Value}(hy:R y ys) :
  ∀ {l:List α}{us:List Value}{i:Nat},zM5 R l us→i<l.length→zM5 R (l.set i y) (spl us (i*k) ys):=by
 intro l
 induction l with
 |nil=>grind
 |cons x l ih =>
  rintro us i ⟨vs,ws,rfl,hx,hl⟩ hi;have hv:=hk _ _ hx;have hyl:=hk _ _ hy;cases i with
  |zero=>simp ;rw[yT _ _ _ (by omega)];exact⟨ys,ws,rfl,hy,hl⟩
  |succ i =>
   rw[show (i+1)*k=vs.length+i*k from by grind,yK4];exact⟨vs,_,rfl,hx,ih hl (by grind)⟩
theorem yK6 {α:Type}{R:α→List Value→Prop}:∀ {l m:List α}{us ws:List Value},zM5 R l us→zM5 R m ws→zM5 R (l++m) (us++ws):=by
 intro l
 induction l with
 |nil=>grind [zM5]
 |cons x l ih=>rintro m us ws ⟨vs,ws',rfl,hx,hl⟩ hm;exact⟨vs,ws'++ws,by simp,hx,ih hl hm⟩
theorem yW7 {α:Type}{R:α→List Value→Prop}{k:Nat}(hk:∀ x vs,R x vs→vs.length=k) :
  ∀ {l:List α}{us:List Value}(n:Nat),zM5 R l us→zM5 R (l.take n) (us.take (n*k)):=by
 intro l
 induction l with
 |nil=>grind [zM5]
 |cons x l ih =>
  rintro us n ⟨vs,ws,rfl,hx,hl⟩;have hv:=hk _ _ hx;cases n with
  |zero=>simp[zM5]
  |succ n =>
   refine⟨vs,ws.take (n*k),?_,hx,ih n hl⟩;rw[List.take_append,List.take_of_length_le (by rw[hv,Nat.add_mul];omega),show (n+1)*k-vs.length=n*k from by rw[hv,Nat.add_mul];omega]
theorem yW8 {α:Type}{R:α→List Value→Prop}{k:Nat}(hk:∀ x vs,R x vs→vs.length=k) :
  ∀ {l:List α}{us:List Value}(n:Nat),zM5 R l us→zM5 R (l.drop n) (us.drop (n*k)):=by
 intro l
 induction l with
 |nil=>grind [zM5]
 |cons x l ih =>
  rintro us n ⟨vs,ws,rfl,hx,hl⟩;have hv:=hk _ _ hx;cases n with
  |zero=>simp ;exact⟨vs,ws,rfl,hx,hl⟩
  |succ n =>
   simp_all [List.drop_append,List.drop_of_length_le,Nat.add_mul]
theorem zL2 {α:Type}{R:α→List Value→Prop}{x:α}{vs:List Value}(h:R x vs):∀ n,zM5 R (List.replicate n x) (List.replicate n vs).flatten:=by
 intro n
 induction n with
 |zero=>simp[zM5]
 |succ n ih=>exact⟨vs,_,by simp[List.replicate_succ],h,ih⟩
theorem yK7 {f:Ty}:∀ {k:Nat},k<f.flen→f.foff k+(f.fty k).size≤f.size:=by
 induction f with
 |cons h t _ iht =>
  intro k hk;cases k<;>grind [Ty.foff,Ty.fty,Ty.size,Ty.flen]
 |_=>grind [Ty.flen]
theorem yA8 {χ:Nat→Nat→Nat}{w:World}{f:Ty}:∀ {k:Nat}{x:f.den}{vs:List Value},k<f.flen→zB6 χ w f x vs→zB6 χ w (f.fty k) (f.fget k x) (seg vs (f.foff k) (f.fty k).size):=by
 induction f with
 |cons h t _ iht =>
  intro k x vs hk hc;obtain⟨us,ws,rfl,h1,h2⟩:=hc;have hl:=zA1 h1;cases k with
  |zero=>grind [Ty.fty,Ty.fget,Ty.foff,yI0]
  |succ k =>
   simp only[Ty.flen] at hk;simp[Ty.fty,Ty.fget,Ty.foff];rw[← hl,yA7]
   grind
 |_=>grind [Ty.flen]
theorem xU2 {χ:Nat→Nat→Nat}{w:World}{f:Ty}:∀ {k:Nat}{x:f.den}{y:(f.fty k).den}{vs ys:List Value},k<f.flen→zB6 χ w f x vs→zB6 χ w (f.fty k) y ys→zB6 χ w f (f.fset k y x) (spl vs (f.foff k) ys):=by
 induction f with
 |cons h t _ iht =>
  intro k x y vs ys hk hc hy;obtain⟨us,ws,rfl,h1,h2⟩:=hc;have hl:=zA1 h1;cases k with
  |zero =>
   simp only[Ty.fty] at y hy;have hyl:=zA1 hy;simp[Ty.foff];rw[yT _ _ _ (by omega)];exact⟨ys,ws,rfl,hy,h2⟩
  |succ k =>
   simp only[Ty.flen] at hk;simp[Ty.foff];rw[← hl,yK4];exact⟨us,_,rfl,h1,iht (by omega) h2 hy⟩
 |_=>grind [Ty.flen]
theorem zB2 {G:Gh}{w:World}:∀ {c:AVal}{τ:Ty}{vs:List Value},zA8 G w τ c vs→vs.length=τ.size:=by
 intro c
 induction c with
 |val τ' x=>grind [zA8,zA1]
 |nil=>intro τ vs h;obtain⟨h1,rfl⟩:=h;cases τ<;>simp[Ty.isSl] at h1;rfl
 |own t l T m=>intro τ vs h;obtain⟨rfl,v,rfl,_⟩:=h;rfl
 |agg f a ih=>grind [zA8,Ty.size]
 |nl=>intro τ vs h;obtain⟨rfl,rfl⟩:=h;rfl
 |junk=>intro τ vs h;obtain⟨h1,v,rfl,_⟩:=h;cases τ<;>simp[Ty.isSl] at h1;rfl
 |cons a b iha ihb=>grind [zA8,Ty.size]
 |_=>grind [zA8]
theorem zR1 {G:Gh}{w:World}{h t:Ty}{c:AVal}{vs:List Value}(hc:zA8 G w (.cons h t) c vs):∃ a b us ws,c=.cons a b∧vs=us++ws∧zA8 G w h a us∧zA8 G w t b ws:=by
 cases c with
 |cons a b=>obtain⟨h',t',us,ws,e,rfl,h1,h2⟩:=hc;injection e with e1 e2;subst e1;subst e2;exact⟨a,b,us,ws,rfl,rfl,h1,h2⟩
 |val τ' x=>simp only[zA8] at hc;grind [Ty.isL]
 |nil=>grind [zA8,Ty.isSl]
 |junk=>grind [zA8,Ty.isSl]
 |_=>grind [zA8]
theorem yT1 {G:Gh}{w:World}{f:Ty}:∀ {c:AVal}{k:Nat}{vs:List Value},k<f.flen→zA8 G w f c vs→zA8 G w (f.fty k) (c.nth k) (seg vs (f.foff k) (f.fty k).size):=by
 induction f with
 |cons h t _ iht =>
  intro c k vs hk hc;obtain⟨a,b,us,ws,rfl,rfl,h1,h2⟩:=zR1 hc;have hl:=zB2 h1;cases k with
  |zero=>grind [Ty.fty,AVal.nth,Ty.foff,yI0]
  |succ k =>
   simp only[Ty.flen] at hk;simp[Ty.fty,AVal.nth,Ty.foff];rw[← hl,yA7]
   grind
 |_=>grind [Ty.flen]
theorem zX9 {G:Gh}{w:World}{f:Ty}:∀ {c B:AVal}{k:Nat}{vs ys:List Value},k<f.flen→zA8 G w f c vs→zA8 G w (f.fty k) B ys→zA8 G w f (c.setNth k B) (spl vs (f.foff k) ys):=by
 induction f with
 |cons h t _ iht =>
  intro c B k vs ys hk hc hB;obtain⟨a,b,us,ws,rfl,rfl,h1,h2⟩:=zR1 hc;have hl:=zB2 h1;cases k with
  |zero =>
   simp only[Ty.fty] at hB;have hyl:=zB2 hB;simp[Ty.foff];rw[yT _ _ _ (by omega)];exact⟨h,t,ys,ws,rfl,rfl,hB,h2⟩
  |succ k =>
   simp only[Ty.flen] at hk;simp[Ty.foff];rw[← hl,yK4];exact⟨h,t,us,_,rfl,rfl,h1,iht (by omega) h2 hB⟩
 |_=>grind [Ty.flen]
theorem zD0 {τ:Ty}{T:Nat}(h:zC3 P τ (.inl T)=true):τ.isL=false:=by
 cases τ<;>first|rfl|grind [zC3]
theorem xJ1 {τ:Ty}{x:List Field×Nat}(h:zC3 P τ (.inr x)=true):τ.isL=true:=by
 cases τ<;>first|rfl|grind [zC3]
theorem zJ:∀ {τ:Ty}{x:Nat ⊕ (List Field×Nat)},zC3 P τ x=true→τ.plain=true:=by
 intro τ
 induction τ with
 |cons h t ihh iht =>
  intro x hx;rcases x with x|⟨fs,o⟩
  ·grind [zC3]
  ·cases fs<;>grind [zC3,Ty.plain,zD0,xJ1]
 |st f ih =>
  grind [Ty.plain,xJ1,zC3]
 |arr n t ih =>
  grind [Ty.plain,zD0,zC3]
 |sl t ih =>
  grind [Ty.plain,zD0,zC3]
 |ptr t ih =>
  grind [Ty.plain,zD0,zC3]
 |_=>intro x _;rfl
theorem yK8 {f:Ty}:∀ {k:Nat},f.plain=true→k<f.flen→(f.fty k).isL=false∧(f.fty k).plain=true:=by
 induction f with
 |cons h t _ iht =>
  intro k hp hk;simp[Ty.plain] at hp;cases k with
  |zero=>exact⟨hp.1.1.1,hp.1.1.2⟩
  |succ k=>simp only[Ty.flen] at hk;exact iht hp.2 (by omega)
 |_=>grind [Ty.flen]
theorem yW9 {G:Gh}{w:World}{f:Ty}:∀ {x:f.den}{vs:List Value},f.isL=true→f.plain=true→zB6 G.χ w f x vs→zA8 G w f (yR7 f x) vs:=by
 induction f with
 |cons h t _ iht =>
  intro x vs hl hp hc;simp[Ty.plain] at hp;obtain⟨us,ws,rfl,h1,h2⟩:=hc;exact⟨h,t,us,ws,rfl,rfl,⟨rfl,hp.1.1.1,h1⟩,iht hp.1.2 hp.2 h2⟩
 |nl=>grind [zB6,yR7,zA8]
 |_=>grind [Ty.isL]
theorem zD2 {a b:Ty}{x:a.den}{y:b.den}(h:Ty.cast b x=some y):∃ e:a=b,e ▸ x=y:=by
 grind [Ty.cast,Ty.eq_of_beq]
theorem zE1 {G:Gh}{w:World}{t:Ty}{l:List t.den}{T:Nat}{v:Value}(h:zG3 G w t l T false v):zB6 G.χ w (.sl t) l [v]:=by
 simp only[zB6];rcases (xL6 h).2 with ⟨rfl,rfl⟩ | ⟨cap,cur,e,us,rfl,h2,h3,h4,h5,h6,h7,h8⟩
 ·grind
 ·refine⟨_,cap,rfl,?_⟩;refine .inr ⟨G.γ T,0,us,rfl,h3,h6,fun j u hu=>?_⟩
  grind [World.cell?]
theorem zN5 {G:Gh}{w:World}:∀ {A:AVal}{τ:Ty}{x:τ.den}{vs:List Value},AVal.as τ A=some x→zA8 G w τ A vs→zB6 G.χ w τ x vs:=by
 intro A
 induction A with
 |val τ' y =>
  intro τ x vs h ht;simp[AVal.as,AVal.asT] at h;simp only[zA8] at ht;rw[ht.2.1,cond_false] at h;obtain⟨e,rfl⟩:=zD2 h
  grind
 |nil =>
  intro τ x vs h ht;simp only[zA8] at ht;cases τ with
  |sl t =>
   have h:(some []:Option (List t.den))=some x:=h
   grind [zB6]
  |_=>grind [Ty.isSl]
 |own t l T m =>
  intro τ x vs h ht;simp[AVal.as,AVal.asT] at h;obtain⟨rfl,v,rfl,ho⟩:=ht;cases m with
  |true=>grind
  |false =>
   obtain⟨e,rfl⟩:=zD2 h;exact zE1 ho
 |agg f c ih =>
  intro τ x vs h ht;obtain⟨rfl,ht⟩:=ht;simp[AVal.as,AVal.asT] at h;cases hb:Ty.beq (.st f) (.st f) with
  |false=>grind
  |true =>
   rw[hb,cond_true] at h;simp only[zB6];exact ih h ht
 |nl =>
  intro τ x vs h ht;obtain⟨rfl,rfl⟩:=ht
  grind [zB6]
 |cons a b iha ihb =>
  intro τ x vs h ht;obtain⟨h1,t1,us,ws,rfl,rfl,h2,h3⟩:=ht;simp[AVal.as,AVal.asT,xI3] at h;split at h
  ·rename_i y z hy hz;injection h with h
   subst h;exact⟨us,ws,rfl,iha hy h2,ihb hz h3⟩
  grind
 |junk=>grind [AVal.as,AVal.asT]
 |_=>grind [zA8]
theorem zT6 {G:Gh}{w:World}:∀ {p:zG4}{τ:Ty}{c:AVal}{vs:List Value},τ.plain=true→τ.isL=false→zE τ p→zA8 G w τ c vs →
  (zA8 G w (τ.pty p) (c.at p) (seg vs (τ.poff p) (τ.pty p).size)∧τ.poff p+(τ.pty p).size≤τ.size∧(τ.pty p).plain=true∧(τ.pty p).isL=false):=by
 intro p
 induction p with
 |nil=>intro τ c vs hp hl _ h;have:=zB2 h;grind [Ty.pty,AVal.at,Ty.poff,yS9]
 |cons x p ih =>
  intro τ c vs hp hl hk h;rcases x with k|i
  ·cases τ<;>simp only[zE] at hk;rename_i f;simp only[Ty.plain,Bool.and_eq_true] at hp;have hpf:=yK8 hp.2 hk.1;have hle:=yK7 hk.1;have hc:zA8 G w (f.fty k) (c.fld k) (seg vs (f.foff k) (f.fty k).size):=by
    cases c with
    |val τ' x=>simp only[zA8] at h;obtain⟨rfl,_,h⟩:=h;simp only[AVal.fld,zA8];simp only[zB6] at h;exact⟨trivial,hpf.1,yA8 hk.1 h⟩
    |agg f' a=>grind [zA8,AVal.fld,yT1]
    |nil=>grind [zA8,Ty.isSl]
    |junk=>simp[zA8,Ty.isSl] at h
    |_=>simp[zA8] at h
   grind [Ty.pty,AVal.at,Ty.poff,Ty.size,yK3]
  ·cases τ<;>simp only[zE] at hk;rename_i n t;simp only[Ty.plain,Bool.and_eq_true,Bool.not_eq_true'] at hp;cases c with
   |val τ' x =>
    simp only[zA8] at h;obtain⟨rfl,_,h⟩:=h;simp only[zB6] at h;obtain⟨h1,h2⟩:=h;have hi:i.toNat<List.length (α:=t.den) x:=by omega
    have hg:=yI1 (k:=t.size) (fun _ _ h=>zA1 h) t.dflt h2 hi;have hc:zA8 G w t (.val t (List.getD (α:=t.den) x i.toNat t.dflt)) (seg vs (i.toNat*t.size) t.size):=(by simp only[zA8];exact⟨trivial,hp.1,hg⟩);obtain⟨h3,h4,h5,h6⟩:=ih hp.2 hp.1 hk.2.2 hc;simp only[Ty.pty,AVal.at,Ty.poff,Ty.size,AVal.ix];rw[yK3 _ _ _ _ _ h4] at h3;refine⟨h3,?_,h5,h6⟩;have:i.toNat*t.size+t.size≤n*t.size:=by rw[← Nat.succ_mul];exact Nat.mul_le_mul_right _ (by omega)
    omega
   |nil=>simp[zA8,Ty.isSl] at h
   |junk=>simp[zA8,Ty.isSl] at h
   |_=>simp[zA8] at h
theorem zT7:∀ {A:AVal}{τ:Ty}{x:τ.den},AVal.as τ A=some x→A.fitsT τ=true:=by
 intro A
 induction A with
 |val τ' y =>
  intro τ x h;simp[AVal.as,AVal.asT] at h;cases hl:τ'.isL with
  |true=>simp_all
  |false =>
   simp[AVal.fitsT]
   grind [Ty.cast]
 |nil=>intro τ x h;cases τ<;>first|rfl|grind [AVal.as,AVal.asT,wO6]
 |own t l T m =>
  intro τ x h;simp[AVal.as,AVal.asT] at h;cases m with
  |true=>simp_all
  |false =>
   grind [AVal.fitsT,Ty.cast]
 |agg f c ih =>
  intro τ x h;simp only[AVal.as,AVal.asT] at h;cases hb:Ty.beq (.st f) τ with
  |false=>simp_all
  |true =>
   rw[hb,cond_true] at h;have:=Ty.eq_of_beq hb;subst this;simp[AVal.fitsT,hb];exact ih h
 |nl=>intro τ x h;cases τ<;>first|rfl|grind [AVal.as,AVal.asT,wT1]
 |cons a b iha ihb =>
  intro τ x h;cases τ with
  |cons h1 t1 =>
   simp only[AVal.as,AVal.asT,xI3] at h;split at h
   ·rename_i y z hy hz;simp[AVal.fitsT,zF5,Bool.and_eq_true];exact⟨iha hy,ihb hz⟩
   grind
  |_=>grind [AVal.as,AVal.asT,xI3]
 |_=>grind [AVal.as,AVal.asT]
theorem zR2:∀ {A:AVal}{τ:Ty},A.fitsT τ=true→A.laxT τ=true:=by
 intro A
 induction A with
 |agg f c ih=>grind [AVal.fitsT,AVal.laxT]
 |cons a b iha ihb =>
  intro τ h;cases τ<;>simp_all [AVal.fitsT,AVal.laxT,zF5]
 |val τ' y=>intro τ h;exact h
 |nil=>intro τ h;exact h
 |own t l T m=>intro τ h;exact h
 |nl=>intro τ h;exact h
 |_=>grind [AVal.fitsT]
theorem yP9 {G:Gh}{w:World}{f:Ty}:∀ {c B:AVal}{k:Nat}{vs:List Value},k<f.flen→zA8 G w f c vs→(c.setNth k B).laxT f=true→B.laxT (f.fty k)=true:=by
 induction f with
 |cons h t _ iht =>
  intro c B k vs hk hc hf;obtain⟨a,b,us,ws,rfl,rfl,h1,h2⟩:=zR1 hc;cases k with
  |zero=>simp[AVal.setNth,AVal.laxT,zF5] at hf;exact hf.1
  |succ k =>
   simp only[Ty.flen] at hk;simp[AVal.setNth,AVal.laxT,zF5] at hf;exact iht (by omega) h2 hf.2
 |_=>grind [Ty.flen]
theorem xJ2 {G:Gh}{w:World}:∀ {p:zG4}{τ:Ty}{c B:AVal}{vs ys:List Value},τ.plain=true→τ.isL=false→zE τ p→zA8 G w τ c vs→zA8 G w (τ.pty p) B ys →
  (AVal.put p c B).laxT τ=true→zA8 G w τ (AVal.put p c B) (spl vs (τ.poff p) ys):=by
 intro p
 induction p with
 |nil=>intro τ c B vs ys hp hl _ h hB _;simp only[Ty.pty] at hB;have:=zB2 h;have:=zB2 hB;simp only[AVal.put,Ty.poff];rw[wM3 _ _ (by omega)];exact hB
 |cons x p ih =>
  intro τ c B vs ys hp hl hk h hB hj;have hat:=zT6 hp hl hk h;rcases x with k|i
  ·cases τ<;>simp only[zE] at hk;rename_i f;simp only[Ty.plain,Bool.and_eq_true] at hp;have hpf:=yK8 hp.2 hk.1;have hle:=yK7 hk.1;have hyl:=zB2 hB;simp only[Ty.pty] at hyl hB hat;simp only[Ty.poff,Ty.size] at hat ⊢;have hvl:=zB2 h;simp only[Ty.size] at hvl;cases c with
   |val τ' x =>
    simp only[zA8] at h;obtain⟨rfl,_,h⟩:=h;simp only[zB6] at h;have hg:zA8 G w (f.fty k) (.val (f.fty k) (f.fget k x)) (seg vs (f.foff k) (f.fty k).size):=(by simp only[zA8];exact⟨trivial,hpf.1,yA8 hk.1 h⟩);have hat2:=zT6 hpf.2 hpf.1 hk.2 hg;simp only[AVal.put] at hj ⊢;have hC:=fun hn=>ih (B:=B) hpf.2 hpf.1 hk.2 hg hB hn;cases hy:AVal.as (f.fty k) (AVal.put p (.val (f.fty k) (f.fget k x)) B) with
    |some y =>
     simp only[hy] at hj ⊢;have:=xU2 hk.1 h (zN5 hy (hC (zR2 (zT7 hy))));rw[yK5 _ _ _ _ _ (by omega) (by omega)] at this;simp only[zA8];exact⟨trivial,rfl,by simpa only[zB6] using this⟩
    |none =>
     simp only[hy] at hj ⊢;have hex:=yW9 hp.1 hp.2 h;simp only[AVal.laxT,Bool.and_eq_true] at hj;have:=zX9 hk.1 hex (hC (yP9 hk.1 hex hj.2));rw[yK5 _ _ _ _ _ (by omega) (by omega)] at this;simp only[zA8];exact⟨trivial,this⟩
   |agg f' a =>
    simp only[zA8] at h;obtain⟨e,h⟩:=h;injection e with e;subst e
    have hg:=yT1 hk.1 h;have hat2:=zT6 hpf.2 hpf.1 hk.2 hg;simp only[AVal.put] at hj ⊢;simp only[AVal.laxT,Bool.and_eq_true] at hj;have:=zX9 hk.1 h (ih hpf.2 hpf.1 hk.2 hg hB (yP9 hk.1 h hj.2));rw[yK5 _ _ _ _ _ (by omega) (by omega)] at this;simp only[zA8];exact⟨trivial,this⟩
   |nil=>simp[zA8,Ty.isSl] at h
   |junk=>simp[zA8,Ty.isSl] at h
   |_=>simp[zA8] at h
  ·cases τ<;>simp only[zE] at hk;rename_i n t;simp only[Ty.plain,Bool.and_eq_true,Bool.not_eq_true'] at hp;have hyl:=zB2 hB;have hvl:=zB2 h;simp only[Ty.pty,Ty.size] at hyl hB hvl;cases c with
   |val τ' x =>
    simp only[zA8] at h;obtain⟨rfl,_,h⟩:=h;simp only[zB6] at h;obtain⟨h1,h2⟩:=h;have hi:i.toNat<List.length (α:=t.den) x:=by omega
    have hg:=yI1 (k:=t.size) (fun _ _ h=>zA1 h) t.dflt h2 hi;have hc:zA8 G w t (.val t (List.getD (α:=t.den) x i.toNat t.dflt)) (seg vs (i.toNat*t.size) t.size):=(by simp only[zA8];exact⟨trivial,hp.1,hg⟩);have hat2:=zT6 hp.2 hp.1 hk.2.2 hc;have hsz:i.toNat*t.size+t.size≤n*t.size:=by rw[← Nat.succ_mul];exact Nat.mul_le_mul_right _ (by omega)
    simp only[AVal.put] at hj ⊢;cases hy:AVal.as t (AVal.put p (.val t (List.getD (α:=t.den) x i.toNat t.dflt)) B) with
    |none=>simp only[hy,AVal.laxT] at hj;cases hj
    |some y =>
     simp only[hy] at hj ⊢;have hn:=zR2 (zT7 hy);have:=yT0 (R:=zB6 G.χ w t) (k:=t.size) (fun _ _ h=>zA1 h) (zN5 hy (ih hp.2 hp.1 hk.2.2 hc hB hn)) h2 hi;rw[yK5 _ _ _ _ _ (by omega) (by omega)] at this;simp only[zA8,Ty.poff];exact⟨trivial,rfl,by simp only[zB6];exact⟨(List.length_set (α:=t.den)).trans h1,this⟩⟩
   |nil=>simp[zA8,Ty.isSl] at h
   |junk=>simp[zA8,Ty.isSl] at h
   |_=>simp[zA8] at h
end Go.Am
namespace Go.Am
open Go Go.RowKit
variable {P:Program}{c:Ctx}{G:Gh}{w:World}{tm:Array Value}
theorem zB4 (hty:zM6 P c.tys=true){T:Nat}{τ:Ty}(h:c.is T τ=true):zC3 P τ (.inl T)=true:=by
 grind [Ctx.is,Ty.eq_of_beq,zI,wO7]
theorem VRep_int {χ:Nat→Nat→Nat}{k:IntKind}{n:Int}{v:Value}:zT2 χ w (.int k) n v↔v=.int k n:=by
 constructor
 ·rintro⟨vs,h1,h2⟩
  grind [zB6,Ty.isAgg]
 ·rintro rfl;exact⟨[.int k n],by grind [zB6],by simp[Ty.isAgg]⟩
theorem VRep_bool {χ:Nat→Nat→Nat}{b:Bool}{v:Value}:zT2 χ w .bool b v↔v=.bool b:=by
 constructor
 ·rintro⟨vs,h1,h2⟩
  grind [zB6,Ty.isAgg]
 ·rintro rfl;exact⟨[.bool b],by grind [zB6],by simp[Ty.isAgg]⟩
theorem VRep_str {χ:Nat→Nat→Nat}{s:List UInt8}{v:Value}:zT2 χ w .str s v↔v=.string ⟨s.toArray⟩:=by
 constructor
 ·rintro⟨vs,h1,h2⟩
  grind [zB6,Ty.isAgg]
 ·rintro rfl;exact⟨[.string ⟨s.toArray⟩],by grind [zB6],by simp[Ty.isAgg]⟩
theorem zC6 {χ:Nat→Nat→Nat}{τ:Ty}{x:τ.den}{v:Value}(h:τ.isAgg=false):zT2 χ w τ x v↔zB6 χ w τ x [v]:=by
 constructor
 ·rintro⟨vs,h1,h2⟩
  grind
 ·intro h1;exact⟨[v],h1,by grind⟩
theorem zI4 {χ:Nat→Nat→Nat}{τ:Ty}{x:τ.den}{v:Value}(h:τ.isAgg=true):zT2 χ w τ x v↔∃ vs,v=.agg vs.toArray∧zB6 χ w τ x vs:=by
 constructor
 ·rintro⟨vs,h1,h2⟩
  grind
 ·rintro⟨vs,h1,h2⟩;exact⟨vs,h2,by grind⟩
def zO5 (τ:Ty)(us:List Value)(u:Value):Prop:=bif τ.isAgg then u=.agg us.toArray else us=[u]
theorem yK9 {τ:Ty}{A:AVal}{us:List Value}{u:Value}(h:zA8 G w τ A us)(hl:τ.isL=false)(hu:zO5 τ us u):zA G w tm none A u:=by
 unfold zO5 at hu;cases A with
 |val τ' x=>obtain⟨rfl,h1,h2⟩:=h;exact⟨us,h2,hu⟩
 |nil=>obtain⟨h1,rfl⟩:=h;cases τ<;>simp[Ty.isSl] at h1;grind [Ty.isAgg,zA]
 |own t l T m=>grind [zA8,Ty.isAgg,zA]
 |agg f a=>grind [zA8,Ty.isAgg,zA]
 |nl=>grind [zA8,Ty.isL]
 |cons a b=>grind [zA8,Ty.isL]
 |junk=>grind [zA]
 |_=>grind [zA8]
theorem zT8 {τ:Ty}{A:AVal}{u:Value}(h:zA G w tm none A u)(hf:A.fitsT τ=true)(hl:τ.isL=false):∃ us,zA8 G w τ A us∧zO5 τ us u:=by
 unfold zO5;cases A with
 |val τ' x =>
  simp[AVal.fitsT] at hf;have e:=Ty.eq_of_beq hf.1;subst e;obtain⟨us,h1,h2⟩:=h;exact⟨us,by grind [zA8],h2⟩
 |nil =>
  subst h;simp only[AVal.fitsT] at hf;cases τ<;>simp[Ty.isSl] at hf;simp_all [zA8,Ty.isSl,Ty.isAgg]
 |own t l T m =>
  have e:=Ty.eq_of_beq hf;subst e;simp_all [zA,zA8,Ty.isAgg]
 |agg f a =>
  simp[AVal.fitsT] at hf;have e:=Ty.eq_of_beq hf.1;subst e;obtain⟨us,h1,h2⟩:=h
  grind [zA8,Ty.isAgg]
 |nl=>grind [AVal.fitsT,Ty.eq_of_beq,Ty.isL]
 |cons a b=>simp only[AVal.fitsT] at hf;cases τ<;>simp[zF5] at hf;grind [Ty.isL]
 |_=>grind [AVal.fitsT]
theorem zK5 {τ:Ty}{A:AVal}{x:τ.den}{u:Value}(h:AVal.as τ A=some x)(hl:τ.isL=false)(hr:zA G w tm none A u):zT2 G.χ w τ x u:=by
 obtain⟨us,h1,h2⟩:=zT8 hr (zT7 h) hl;exact⟨us,zN5 h h1,h2⟩
theorem xJ3 {τ:Ty}{T:Nat}(h:zC3 P τ (.inl T)=true)(ha:τ.isAgg=false):τ.size=1:=by
 cases τ<;>simp[Ty.isAgg,zC3] at h ha<;>rfl
theorem yL {T:Nat}{d:TypeDesc}(hu:P.underlying T=some d)(w:World):(isAgg T).run P w=.ok d.isRow w:=by
 unfold isAgg;rw[Sem.run_bind,run_underlying hu w];cases d<;>simp
theorem zI1 {τ:Ty}{T b o:Nat}{us:List Value}(hT:zC3 P τ (.inl T)=true)(hr:w.rangeAt b o us)(hl:us.length=τ.size) :
  ∃ u,(Instr.loadAt T (.pointer (some ⟨b,o,none⟩))).run P w=.ok u w∧zO5 τ us u:=by
 obtain⟨⟨i,z,hi,hs,_⟩,d,hu,hd⟩:=zG7 hT;unfold zO5;cases ha:τ.isAgg with
 |true=>grind [run_loadAt_mid]
 |false =>
  have h1:=xJ3 hT ha;obtain⟨u,rfl⟩:∃ u,us=[u]:=by
   cases us<;>simp_all
  have hc:=hr 0 u rfl;have hg:=yL hu w;simp_all [Instr.loadAt,Instr.sureAddr,loadVar]
theorem yL0 {χ:Nat→Nat→Nat}{b o:Nat}{us:List Value}(h:yK χ w b o us):w.rangeAt b o us:=fun j v hv=>(h j v hv).1
theorem xC8 {b:Nat}{cur:Array Value}{e:TypeId}{fr:Nat×Nat}(h:w.heap[b]?=some (.cells cur e fr))(o n:Nat):w.rangeAt b o (seg cur.toList o n):=by
 intro j v hv
 grind [seg_getElem?,World.cell?]
def zE2:AVal→Option Nat
 |.ref s _ _=>some s
 |.eref s _ _ _ _=>some s
 |.rref s=>some s
 |_=>none
theorem zG8 {s:Nat}{τ:Ty}{k:AVal}{u:Value}(h:zA G w tm (some s) (.box τ k) u):yK0 τ∧∃ cur e,w.heap[G.β s]?=some (.cells cur e (0,0))∧zA8 G w τ k cur.toList∧(∀ o,G.χ (G.β s) o=zD8 s):=by
 exact h.2
def wT2 (P:Program)(T:Nat):Bool:=
 match P.info? T,P.underlying T with
 |some i,some d=>Nat.beq i.size 1&&!d.isRow&&(match i.zero with|some z=>Nat.beq z.cells.size 1|none=>false)
 |_,_=>false
def yX (P:Program)(l:List Nat):Bool:=l.all (wT2 P)
theorem xC9 {l:List Nat}(h:yX P l=true){T:Nat}(hT:l.any (Nat.beq T)=true):∃ i d z u,P.info? T=some i∧P.underlying T=some d∧i.size=1∧d.isRow=false∧i.zero=some z∧z.cells=#[u]:=by
 obtain⟨T',hm,hb⟩:=List.any_eq_true.1 hT;have:=List.all_eq_true.1 h _ hm;unfold wT2 at this;split at this
 ·grind [Nat.eq_of_beq_eq_true,Array.size_eq_one_iff]
 grind
theorem wF3 {f:Nat}{caps:List (Option (Nat×Ty))}{v:Value}(hv:zA G w tm none (.fptr f caps) v):∀ r,zA G w tm none (wN7 f caps r) (.tuple (r.map (xJ G v)).toArray):=by
 intro r
 induction r with
 |nil=>simp[wN7,zA]
 |cons q r ih =>
  cases q<;>grind [wN7,zA,xJ,zE,Ty.poff]
theorem yL1 (hty:zM6 P c.tys=true)(hft:yX P c.fts=true){T:Nat}{x k A:AVal}{v:Value}{p:List Prop}(hx:zA G w tm none x v)(hk:∀ s,zE2 x=some s→∃ u,zA G w tm (some s) k u)
  (h:yG8 c T x k=some (p,A)) (hp:∀ q∈p,q):∃ u,(Instr.loadAt T v).run P w=.ok u w∧zA G w tm none A u:=by
 cases x with
 |fptr f caps =>
  simp only[yG8] at h;cases hb:c.fts.any (Nat.beq T) with
  |false=>grind
  |true =>
   simp[hb] at h;obtain⟨rfl,rfl⟩:=h;obtain⟨i,d,z,u,hi,hu,_,hrow,_,_⟩:=xC9 hft hb;have hv:=hx;obtain⟨b,rfl,_,hc⟩:=hx;refine⟨.func (.func f) #[] (caps.map (xJ G (.pointer (some ⟨b,0,none⟩)))).toArray,?_,?_⟩
   ·have hg:=yL hu w;simp_all [Instr.loadAt,Instr.sureAddr,loadVar]
   ·exact⟨_,rfl,wF3 hv caps⟩
 |val τ x =>
  cases τ with
  |ptr t =>
   simp only[yG8] at h;cases hi:c.is T t with
   |false=>grind
   |true =>
    simp[hi] at h;obtain⟨rfl,rfl⟩:=h;have hT:=zB4 hty hi;simp only[zA] at hx;rw[zC6 rfl] at hx;obtain⟨b,o,us,hv,h1,h2⟩:=hx;injection hv with hv _
    subst hv;obtain⟨u,h3,h4⟩:=zI1 hT (yL0 h2) (zA1 h1);exact⟨u,h3,by exact⟨us,h1,h4⟩⟩
  |_=>grind [yG8]
 |ptrs one l =>
  cases one with
  |false=>simp[yG8] at h
  |true =>
   cases l with
   |nil=>simp[yG8] at h
   |cons o r =>
    simp only[yG8] at h;split at h
    ·rename_i t ht;cases hi:c.is T (.ptr t) with
     |false=>simp[hi] at h
     |true =>
      simp only[hi,cond_true,Option.some.injEq,Prod.mk.injEq] at h;obtain⟨rfl,rfl⟩:=h;have hT:=zB4 hty hi;obtain⟨b,off,cap,rfl,h2,h3⟩:=hx;have h4:yK G.χ w b off [yH9 G o]:=fun j v hv=>h2 j v (by cases j with|zero=>simpa using hv|succ j=>simp at hv)
      obtain⟨u,h5,h6⟩:=zI1 hT (yL0 h4) rfl;refine⟨u,h5,?_⟩;simp only[zO5,Ty.isAgg,cond_false,List.cons.injEq,and_true] at h6;subst h6;cases o with
      |none=>simp[wO9,yH9,zA]
      |some q=>obtain⟨k,τ,p⟩:=q;exact⟨h3 k τ p (List.mem_cons_self ..),rfl⟩
    ·cases h
 |ref s τ q =>
  simp only[yG8] at h;cases k with
  |box τ' k =>
   cases hc:(Ty.beq τ' τ&&c.is T (τ.pty q)&&AVal.fits (τ.pty q) (k.at q)) with
   |false=>grind
   |true =>
    simp  at hc;have e:=Ty.eq_of_beq hc.1.1;subst e;have hT:=zB4 hty hc.1.2;obtain⟨u,hu⟩:=hk s rfl;obtain⟨⟨hpl,hnl⟩,cur,e,h1,h2,h3⟩:=zG8 hu;obtain⟨hx1,rfl⟩:=hx;obtain⟨h4,h5,h6,h7⟩:=zT6 hpl hnl hx1 h2;obtain⟨u,h8,h9⟩:=zI1 hT (xC8 h1 _ _) (zB2 h4)
    grind [yK9]
  |_=>grind
 |eref s U t i q =>
  simp only[yG8] at h;cases k with
  |ownh t' l U' j V m =>
   cases hc:(Ty.beq (.sl t') t&&Nat.beq U' U&&c.is T (.sl t')&&q.isEmpty&&!(Nat.beq U' V)) with
   |false=>simp_all
   |true =>
    simp[hc,cond_true,Option.some.injEq,Prod.mk.injEq] at h;obtain⟨rfl,rfl⟩:=h;simp only[Bool.and_eq_true] at hc;obtain⟨hc,hUV⟩:=hc;have e:=Ty.eq_of_beq hc.1.1.1;subst e;have e:=Nat.eq_of_beq_eq_true hc.1.1.2;subst e;have hq:q=[]:=List.isEmpty_iff.1 hc.2;subst hq;have hT:=zB4 hty hc.1.2;obtain⟨u,hu⟩:=hk s rfl;obtain⟨hx0,hx1,rfl⟩:=hx;obtain⟨hij,hi⟩:=hp _ (List.mem_singleton.2 rfl);have hi':i.toNat<List.length (α:=List t'.den) l:=by omega
    obtain⟨hv,⟨he,_⟩ | ⟨hne,⟨_,h0⟩ | ⟨cap,cur,e,h1,h2,h3,h4,h5,h6,h7⟩⟩⟩:=hu
    ·grind
    ·grind
    ·obtain⟨u1,hu1,hr⟩:=h7 i.toNat _ (List.getElem?_eq_getElem hi');have hr':w.rangeAt (G.γ U') (i.toNat*(Ty.sl t').size+(Ty.sl t').poff []) [u1]:=by
      intro k v hv
      grind [Ty.size,Ty.poff,World.cell?]
     obtain⟨u2,h13,h14⟩:=zI1 hT hr' rfl;refine⟨u2,h13,?_⟩;simp[zO5,Ty.isAgg] at h14;refine .inl ?_
     grind
  |own t' l U' m =>
   cases hc:(Ty.beq t' t&&Nat.beq U' U&&c.is T (t.pty q)&&AVal.fits (t.pty q) ((AVal.val t' (List.getD (α:=t'.den) l i.toNat t'.dflt)).at q)) with
   |false=>grind
   |true =>
    simp only[hc,cond_true,Option.some.injEq,Prod.mk.injEq] at h;obtain⟨rfl,rfl⟩:=h;simp only[Bool.and_eq_true] at hc;have e:=Ty.eq_of_beq hc.1.1.1;subst e;have e:=Nat.eq_of_beq_eq_true hc.1.1.2;subst e;have hT:=zB4 hty hc.1.2;obtain⟨u,hu⟩:=hk s rfl;obtain⟨hx0,hx1,rfl⟩:=hx;have hi:=hp _ (List.mem_singleton.2 rfl);have hi':i.toNat<l.length:=by omega
    obtain⟨⟨hpl,hnl⟩,hu⟩:=zB1 hu (xJ0 hx1 hT);rcases hu with ⟨_,rfl⟩ | ⟨cap,cur,e,us,_,h2,h3,h4,h5,h6,h7,h8⟩
    ·grind
    ·have hg:=yI1 (k:=t'.size) (fun _ _ h=>zA1 h) t'.dflt h6 hi';have hc2:zA8 G w t' (.val t' (List.getD (α:=t'.den) l i.toNat t'.dflt)) (seg us (i.toNat*t'.size) t'.size):=by simp_all [zA8]
     obtain⟨h9,h10,h11,h12⟩:=zT6 hpl hnl hx1 hc2;rw[yK3 _ _ _ _ _ h10] at h9;have hr:w.rangeAt (G.γ U') (i.toNat*t'.size+t'.poff q) (seg us (i.toNat*t'.size+t'.poff q) (t'.pty q).size):=by
      intro j v hv;rw[seg_getElem?] at hv;split at hv
      ·rw[← h7,List.getElem?_take] at hv;split at hv
       ·simp[World.cell?,h2];simpa using hv
       ·cases hv
      ·cases hv
     grind [zI1,zB2,yK9]
  |_=>grind
 |_=>grind [yG8]
end Go.Am
namespace Go.Am
open Go Go.RowKit
variable {P:Program}{c:Ctx}{G:Gh}{w:World}{tm:Array Value}
theorem zV1 {s:Option Nat}{t:Ty}{x:t.den}{b o:Nat}{us:List Value}(h1:zB6 G.χ w t x us)(h2:yK G.χ w b o us):zA G w tm s (.val (.ptr t) x) (.pointer (some ⟨b,o,none⟩)):=by
 refine (zC6 rfl).2 ?_;exact⟨b,o,us,rfl,h1,h2⟩
theorem zR3 {χ:Nat→Nat→Nat}{t:Ty}{l:List t.den}{us:List Value}{i:Nat}(h:zM5 (zB6 χ w t) l us)(hi:i<l.length):zB6 χ w t (l.getD i t.dflt) (seg us (i*t.size) t.size):=
 yI1 (R:=zB6 χ w t) (k:=t.size) (fun _ _ h=>zA1 h) t.dflt h hi
theorem xU3 (s:List UInt8)(n:Nat)(h:n<s.length):((⟨s.toArray⟩:ByteArray))[n]?=some (s.getD n 0):=by
 rw[List.getD_eq_getElem?_getD,List.getElem?_eq_getElem h];rw[getElem?_pos (c:=(⟨s.toArray⟩:ByteArray)) (i:=n) (by grind [ByteArray.size])];rfl
theorem zE3 {τ:Ty}{T:Nat}(h:zC3 P τ (.inl T)=true)(w:World):(sizeOf T).run P w=.ok τ.size w:=by
 obtain⟨⟨i,z,hi,hs,_⟩,_⟩:=zG7 h;simp_all [sizeOf,typeInfo]
theorem yA9 {χ:Nat→Nat→Nat}{b o:Nat}{us:List Value}(h:yK χ w b o us)(q n:Nat):yK χ w b (o+q) (seg us q n):=by
 intro j v hv;rw[seg_getElem?] at hv;split at hv
 ·have:=h _ _ hv
  grind
 grind
theorem zR4 {p:zG4}:∀ {τ:Ty}{x:Nat ⊕ Int},zE τ p→τ.poff (p++[x])=τ.poff p+(τ.pty p).poff [x]:=by
 induction p with
 |nil=>grind [Ty.poff,Ty.pty]
 |cons y p ih =>
  intro τ x h;rcases y with k|i
  ·cases τ<;>simp only[zE] at h;simp[Ty.pty,Ty.poff];rw[ih h.2];omega
  ·cases τ<;>simp only[zE] at h;simp[Ty.pty,Ty.poff];rw[ih h.2.2];omega
theorem zM8 {p:zG4}:∀ {τ:Ty}{x:Nat ⊕ Int},zE τ p→zE (τ.pty p) [x]→zE τ (p++[x]):=by
 induction p with
 |nil=>intro τ x _ h;exact h
 |cons y p ih =>
  intro τ x h hx;rcases y with k|i
  ·cases τ<;>simp only[zE] at h;exact⟨h.1,ih h.2 hx⟩
  ·cases τ<;>simp only[zE] at h;exact⟨h.1,h.2.1,ih h.2.2 hx⟩
theorem zY {f:Ty}{T b o k:Nat}(hT:zC3 P (.st f) (.inl T)=true)(hk:k<f.flen)(hs:0<(f.fty k).size)(w:World) :
  (Instr.fieldAt T (.pointer (some ⟨b,o,none⟩)) k).run P w=.ok (.pointer (some ⟨b,o+f.foff k,none⟩)) w:=by
 obtain⟨fs,h1,h2⟩:=zX8 hT;obtain⟨fd,h3,h4,h5,_⟩:=yD h2 hk;rw[Array.getElem?_toList] at h3;have h6:=zE3 h5 w;simp[Instr.fieldAt,run_underlying h1 w,h3,Instr.sureAddr,fieldPlace,h6];rw[if_neg (by omega)];simp[Addr.add_mid,h4]
theorem yH0 (hty:zM6 P c.tys=true){T k:Nat}{x A:AVal}{v:Value}{p:List Prop}(hx:zA G w tm none x v)(h:zI8 c T x k=some (p,A)) :
  ∃ u,(Instr.fieldAt T v k).run P w=.ok u w∧zA G w tm none A u:=by
 cases x with
 |val τ x =>
  cases τ with
  |ptr t =>
   cases t with
   |st f =>
    simp only[zI8] at h;cases hi:(c.is T (.st f)&&Nat.blt k f.flen&&Nat.blt 0 (f.fty k).size) with
    |false=>grind
    |true =>
     simp[hi] at h;obtain⟨rfl,rfl⟩:=h;simp only[Bool.and_eq_true] at hi;have hT:=zB4 hty hi.1.1;have hk:k<f.flen:=Nat.le_of_ble_eq_true hi.1.2;have hs:0<(f.fty k).size:=Nat.le_of_ble_eq_true hi.2;simp only[zA] at hx;rw[zC6 rfl] at hx;obtain⟨b,o,us,hv,h1,h2⟩:=hx;injection hv with hv _
     subst hv;refine⟨_,zY hT hk hs w,?_⟩;exact zV1 (yA8 hk h1) (yA9 h2 _ _)
   |_=>grind [zI8]
  |_=>grind [zI8]
 |ref s τ q =>
  simp only[zI8] at h;split at h
  ·rename_i f hf;cases hi:(c.is T (.st f)&&Nat.blt k f.flen&&Nat.blt 0 (f.fty k).size) with
   |false=>grind
   |true =>
    simp[hi] at h;obtain⟨rfl,rfl⟩:=h;simp only[Bool.and_eq_true] at hi;have hT:=zB4 hty hi.1.1;have hk:k<f.flen:=Nat.le_of_ble_eq_true hi.1.2;have hs:0<(f.fty k).size:=Nat.le_of_ble_eq_true hi.2;obtain⟨hq,rfl⟩:=hx;refine⟨_,zY hT hk hs w,?_⟩;refine⟨zM8 hq (by grind [zE]),?_⟩
    grind [zR4,Ty.poff]
  grind
 |eref s U t i q =>
  simp only[zI8] at h;split at h
  ·rename_i f hf;cases hi:(c.is T (.st f)&&Nat.blt k f.flen&&Nat.blt 0 (f.fty k).size) with
   |false=>grind
   |true =>
    simp[hi] at h;obtain⟨rfl,rfl⟩:=h;simp only[Bool.and_eq_true] at hi;have hT:=zB4 hty hi.1.1;have hk:k<f.flen:=Nat.le_of_ble_eq_true hi.1.2;have hs:0<(f.fty k).size:=Nat.le_of_ble_eq_true hi.2;obtain⟨h0,hq,rfl⟩:=hx;refine⟨_,zY hT hk hs w,?_⟩;refine⟨h0,zM8 hq (by grind [zE]),?_⟩
    grind [zR4,Ty.poff,Nat.add_assoc]
  grind
 |_=>grind [zI8]
theorem zG9 {ix:Operand}{i n:Int}(h:∀ q∈zP4 ix i n,q):0≤i∧i<n:=by
 unfold zP4 at h;split at h<;>exact h _ (List.mem_singleton.2 rfl)
theorem zF0 {t:Ty}{T:Nat}{k:IntKind}{i:Int}{a:Option Addr}{b o len cap:Nat}(hT:zC3 P (.sl t) (.inl T)=true)(ha:a=some ⟨b,o,none⟩)(hi:0≤i∧i<(len:Int))(w:World) :
  (Instr.indexAt T (.slice a len cap) (.int k i)).run P w=.ok (.pointer (some ⟨b,o+i.toNat*t.size,none⟩)) w:=by
 obtain⟨e,h1,h2⟩:=zF8 hT;have h3:=zE3 h2 w;simp[Instr.indexAt,asIntOf,run_underlying h1 w];simp_all [Addr.add_mid]
theorem zN6 {t:Ty}{T n:Nat}{k:IntKind}{i:Int}{b o:Nat}(hT:zC3 P (.arr n t) (.inl T)=true)(hi:0≤i∧i<(n:Int))(w:World) :
  (Instr.indexAt T (.pointer (some ⟨b,o,none⟩)) (.int k i)).run P w=.ok (.pointer (some ⟨b,o+i.toNat*t.size,none⟩)) w:=by
 obtain⟨e,h1,h2⟩:=zV0 hT;have h3:=zE3 h2 w;simp[Instr.indexAt,asIntOf,run_underlying h1 w,Instr.sureAddr];simp_all [Addr.add_mid]
theorem yH1 (hty:zM6 P c.tys=true){T s:Nat}{x y A:AVal}{v u:Value}{ix:Operand}{p:List Prop}(hx:zA G w tm none x v)(hy:zA G w tm none y u)
  (h:zU8 c T x s y ix=some (p,A)) (hp:∀ q∈p,q):∃ r,(Instr.indexAt T v u).run P w=.ok r w∧zA G w tm none A r:=by
 have hy':∀ k (i:Int),y=.val (.int k) i→u=.int k i:=by grind [zA,VRep_int]
 unfold zU8 at h;split at h
 ·rename_i t l k i;have:=hy' _ _ rfl;subst this;cases hi:c.is T (.sl t) with
  |false=>grind
  |true =>
   simp[hi] at h;obtain⟨rfl,rfl⟩:=h;have hb:=zG9 hp;have hT:=zB4 hty hi;simp only[zA] at hx;rw[zC6 rfl] at hx;obtain⟨a,cap,hv,hx⟩:=hx;injection hv with hv _
   subst hv;rcases hx with rfl|⟨b,o,us,ha,h1,h2,h3⟩
   ·grind
   ·refine⟨_,zF0 hT ha hb w,?_⟩;exact zV1 (zR3 h2 (by omega)) (yA9 h3 _ _)
 ·rename_i t l U m k i;have:=hy' _ _ rfl;subst this;cases hi:c.is T (.sl t) with
  |false=>grind
  |true =>
   simp[hi] at h;have hT:=zB4 hty hi;cases m with
   |true =>
    obtain⟨rfl,rfl⟩:=h;have hb:=zG9 hp;rcases (zB1 hx (yI hT)).2 with ⟨_,rfl⟩ | ⟨cap,cur,e,us,rfl,h2,h3,h4,h5,h6,h7,h8⟩
    ·grind
    ·refine⟨_,zF0 hT rfl hb w,?_⟩;exact⟨hb.1,trivial,by simp[Ty.poff]⟩
   |false =>
    obtain⟨rfl,rfl⟩:=h;have hb:=zG9 hp;have hx2:=zE1 hx;obtain⟨a,cap,hv,hx3⟩:=hx2;injection hv with hv _
    subst hv;rcases hx3 with he|⟨b,o,us,ha,h1,h2,h3⟩
    ·grind
    ·refine⟨_,zF0 hT ha hb w,?_⟩;exact zV1 (zR3 h2 (by omega)) (yA9 h3 _ _)
 ·rename_i t l U j V m k i;have:=hy' _ _ rfl;subst this;cases hi:(c.is T (.sl (.sl t))&&(m||!(Nat.beq U V))) with
  |false=>grind
  |true =>
   simp[hi] at h;obtain⟨rfl,rfl⟩:=h;simp  at hi;obtain⟨hi,hUV⟩:=hi;have hT:=zB4 hty hi;have hb:=zG9 hp;obtain⟨_,⟨he,⟨rfl,_⟩ | ⟨_,⟨_,rfl⟩ | ⟨cap,cur,e,rfl,_⟩⟩⟩ | ⟨_,⟨_,rfl⟩ | ⟨cap,cur,e,rfl,_⟩⟩⟩:=hx
   ·simp_all
   ·grind
   ·refine⟨_,zF0 hT rfl hb w,?_⟩;exact⟨hb.1,trivial,by simp[Ty.poff]⟩
   ·grind
   ·refine⟨_,zF0 hT rfl hb w,?_⟩;exact⟨hb.1,trivial,by simp[Ty.poff]⟩
 ·rename_i n t l k i;have:=hy' _ _ rfl;subst this;cases hi:c.is T (.arr n t) with
  |false=>grind
  |true =>
   simp[hi] at h;obtain⟨rfl,rfl⟩:=h;have hb:=zG9 hp;have hT:=zB4 hty hi;simp only[zA] at hx;rw[zC6 rfl] at hx;obtain⟨b,o,us,hv,⟨h1,h2⟩,h3⟩:=hx;injection hv with hv _
   subst hv;refine⟨_,zN6 hT hb w,?_⟩;exact zV1 (zR3 h2 (by omega)) (yA9 h3 _ _)
 ·rename_i l k i;have:=hy' _ _ rfl;subst this;split at h
  ·rename_i t hf;cases hi:c.is T (.sl (.ptr t)) with
   |false=>simp[hi] at h
   |true =>
    simp only[hi,cond_true,Option.some.injEq,Prod.mk.injEq] at h;obtain⟨rfl,rfl⟩:=h;have hb:=zG9 hp;have hT:=zB4 hty hi;obtain⟨b,o,cap,hv,h2,h3⟩:=hx;simp only[cond_false] at hv;subst hv;have hl:i.toNat<l.length:=by omega
    refine⟨_,zF0 hT rfl hb w,b,o+i.toNat,0,?_,fun j v hv=>?_,fun k' τ p hm=>?_⟩
    ·simp[Ty.size]
    ·have h4:=h2 i.toNat;cases j with
     |zero =>
      simp only[List.map_cons,List.getElem?_cons_zero,Option.some.injEq] at hv;refine h4 v ?_;rw[List.getElem?_map,← hv,List.getD_eq_getElem?_getD,List.getElem?_eq_getElem hl];rfl
     |succ j=>simp at hv
    ·simp only[List.mem_singleton] at hm;refine h3 k' τ p ?_;rw[hm,List.getD_eq_getElem?_getD,List.getElem?_eq_getElem hl];exact List.getElem_mem hl
  ·cases h
 ·have:=hy' _ _ rfl;subst this;split at h
  ·rename_i n t hf;cases hi:c.is T (.arr n t) with
   |false=>grind
   |true =>
    simp[hi] at h;obtain⟨rfl,rfl⟩:=h;have hb:=zG9 hp;have hT:=zB4 hty hi;obtain⟨hq,rfl⟩:=hx;refine⟨_,zN6 hT hb w,?_⟩;refine⟨zM8 hq (by grind [zE]),?_⟩
    grind [zR4,Ty.poff]
  grind
 ·have:=hy' _ _ rfl;subst this;split at h
  ·rename_i n t hf;cases hi:c.is T (.arr n t) with
   |false=>grind
   |true =>
    simp[hi] at h;obtain⟨rfl,rfl⟩:=h;have hb:=zG9 hp;have hT:=zB4 hty hi;obtain⟨h0,hq,rfl⟩:=hx;refine⟨_,zN6 hT hb w,?_⟩;refine⟨h0,zM8 hq (by grind [zE]),?_⟩
    grind [zR4,Ty.poff,Nat.add_assoc]
  grind
 grind
theorem zR5 {τ:Ty}{T o:Nat}{us:List Value}(hT:zC3 P τ (.inl T)=true)(ho:o+τ.size≤us.length)(w:World) :
  ∃ u,(part T us.toArray o).run P w=.ok u w∧zO5 τ (seg us o τ.size) u:=by
 obtain⟨⟨i,z,hi,hs,_⟩,d,hu,hd⟩:=zG7 hT;unfold part zO5;rw[Sem.run_bind,yL hu w,hd];cases ha:τ.isAgg with
 |true =>
  simp[zE3 hT w,seg]
 |false =>
  have h1:=xJ3 hT ha;have hlt:o<us.length:=by omega
  refine⟨us[o],?_,?_⟩
  ·simp_all
  ·apply List.ext_getElem?
   grind [seg_getElem?,List.getElem?_eq_getElem]
theorem yX0 (hty:zM6 P c.tys=true){T:Nat}{x y A:AVal}{v u:Value}{ix:Operand}{p:List Prop}(hx:zA G w tm none x v)(hy:zA G w tm none y u)
  (h:xS4 c T x y ix=some (p,A)) (hp:∀ q∈p,q):∃ r,(Instr.index T v u).run P w=.ok r w∧zA G w tm none A r:=by
 have hy':∀ k (i:Int),y=.val (.int k) i→u=.int k i:=by grind [zA,VRep_int]
 unfold xS4 at h;split at h
 ·rename_i s k i;cases hi:c.is T .str with
  |false=>grind
  |true =>
   simp[hi] at h;obtain⟨rfl,rfl⟩:=h;have hb:=zG9 hp;have hT:=zM7 (zB4 hty hi);have hv:=VRep_str.1 hx;have hlt:i.toNat<List.length (α:=UInt8) s:=by omega
   have hg:=xU3 s i.toNat hlt;refine⟨.int .u8 ((List.getD (α:=UInt8) s i.toNat 0).toNat:Int),?_,?_⟩
   ·simp_all [Instr.index,asIntOf,run_underlying]
   ·exact VRep_int.2 rfl
 ·rename_i n t l k i;have:=hy' _ _ rfl;subst this;cases hi:c.is T (.arr n t) with
  |false=>grind
  |true =>
   simp[hi,cond_true,Option.some.injEq,Prod.mk.injEq] at h;obtain⟨rfl,rfl⟩:=h;have hb:=zG9 hp;have hT:=zB4 hty hi;obtain⟨e,h1,h2⟩:=zV0 hT;obtain⟨vs,rfl,hx2⟩:=(zI4 rfl).1 hx;simp only[zB6] at hx2;have hlen:=zD1 (k:=t.size) (fun _ _ h=>zA1 h) hx2.2;have hlt:i.toNat<List.length (α:=t.den) l:=by omega
   have hle:i.toNat*t.size+t.size≤vs.length:=by rw[hlen,← Nat.succ_mul];exact Nat.mul_le_mul_right _ (by omega)
   obtain⟨r,h3,h4⟩:=zR5 h2 hle w;refine⟨r,?_,?_⟩
   ·simp[Instr.index,asIntOf,run_underlying h1 w]
    grind [Sem.run_bind,Result.andThen_ok,zE3]
   ·exact⟨_,zR3 hx2.2 hlt,h4⟩
 grind
theorem yX1 (hty:zM6 P c.tys=true){T k:Nat}{x A:AVal}{v:Value}{p:List Prop}(hx:zA G w tm none x v)(h:xS5 c T x k=some (p,A)) :
  ∃ u,(Instr.field T v k).run P w=.ok u w∧zA G w tm none A u:=by
 unfold xS5 at h;split at h
 ·rename_i f x;cases hi:(c.is T (.st f)&&Nat.blt k f.flen) with
  |false=>grind
  |true =>
   simp[hi] at h;obtain⟨rfl,rfl⟩:=h;simp only[Bool.and_eq_true] at hi;have hT:=zB4 hty hi.1;have hk:k<f.flen:=Nat.le_of_ble_eq_true hi.2;obtain⟨fs,h1,h2⟩:=zX8 hT;obtain⟨fd,h3,h4,h5,_⟩:=yD h2 hk;obtain⟨vs,rfl,hx2⟩:=(zI4 rfl).1 hx;simp only[zB6] at hx2;have hle:=yK7 hk;have hvl:=zA1 hx2;obtain⟨u,h6,h7⟩:=zR5 h5 (o:=f.foff k) (us:=vs) (by omega) w;refine⟨u,?_,?_⟩
   ·simp_all [Instr.field,run_underlying,asAgg]
   ·exact⟨_,yA8 hk hx2,h7⟩
 ·rename_i f a;cases hi:(c.is T (.st f)&&Nat.blt k f.flen) with
  |false=>grind
  |true =>
   simp[hi] at h;obtain⟨rfl,rfl⟩:=h;simp only[Bool.and_eq_true] at hi;have hT:=zB4 hty hi.1;have hk:k<f.flen:=Nat.le_of_ble_eq_true hi.2;obtain⟨fs,h1,h2⟩:=zX8 hT;obtain⟨fd,h3,h4,h5,_⟩:=yD h2 hk;obtain⟨vs,rfl,hx⟩:=hx;have hle:=yK7 hk;have hvl:=zB2 hx;obtain⟨u,h6,h7⟩:=zR5 h5 (o:=f.foff k) (us:=vs) (by omega) w;refine⟨u,?_,yK9 (yT1 hk hx) (zD0 h5) h7⟩;simp_all [Instr.field,run_underlying,asAgg]
 grind
end Go.Am
namespace Go.Am
open Go Go.RowKit
variable {P:Program}{c:Ctx}{G:Gh}{w:World}{tm:Array Value}
theorem zX1 {xs us ws:List Value}{o n:Nat}(h:seg xs o n=us++ws)(hn:us.length+ws.length=n):seg xs o us.length=us∧seg xs (o+us.length) ws.length=ws:=by
 constructor
 ·grind [yK3,yI0]
 ·have:=yK3 xs o n us.length ws.length (by omega);have h2:=yA7 us ws 0 ws.length
  grind [yS9]
theorem yO4:∀ {τ:Ty},
  (∀ {T d:Nat}{x y:Value}{a b:τ.den},zC3 P τ (.inl T)=true→τ.cmp=true→τ.ht≤d→zT2 G.χ w τ a x→zT2 G.χ w τ b y→(Op.equalIn (d+1) T x y).run P w=.ok (τ.eqb a b) w) ∧
  (∀ {fs:List Field}{o d:Nat}{xs ys:List Value}{a b:τ.den},zC3 P τ (.inr (fs,o))=true→τ.cmp=true→τ.ht≤d→o+τ.size≤xs.length→o+τ.size≤ys.length →
   zB6 G.χ w τ a (seg xs o τ.size)→zB6 G.χ w τ b (seg ys o τ.size)→(Op.eqFields (d+1) xs.toArray ys.toArray fs).run P w=.ok (τ.eqb a b) w):=by
 intro τ
 induction τ with
 |int k =>
  refine⟨?_,fun h=>by grind [zC3]⟩;intro T d x y a b hT _ _ hx hy;rw[VRep_int.1 hx,VRep_int.1 hy];exact run_equalIn_int w d T k k a b (yA6 hT)
 |bool =>
  refine⟨?_,fun h=>by grind [zC3]⟩;intro T d x y a b hT _ _ hx hy;rw[VRep_bool.1 hx,VRep_bool.1 hy];exact run_equalIn_bool w d T a b (yW6 hT)
 |str =>
  grind [zC3,VRep_str,run_equalIn_string,zM7,ByteArray.toList_eq,Ty.eqb]
 |nl =>
  refine⟨fun h=>by grind [zC3],?_⟩;intro fs o d xs ys a b hT _ _ _ _ _ _;cases fs<;>simp_all [Op.eqFields,Ty.eqb,zC3]
 |cons h t ihh iht =>
  refine⟨fun h=>by grind [zC3],?_⟩;intro fs o d xs ys a b hT hc hd hlx hly hx hy;cases fs with
  |nil=>grind [zC3]
  |cons fd r =>
   simp only[zC3,Bool.and_eq_true] at hT;obtain⟨⟨⟨h1,h2⟩,h3⟩,h4⟩:=hT;have h1:=Nat.eq_of_beq_eq_true h1;simp only[Ty.cmp,Bool.and_eq_true] at hc;simp only[Ty.ht] at hd;simp only[Ty.size] at hlx hly hx hy;simp only[zB6] at hx hy;obtain⟨us,ws,e1,hu,hw⟩:=hx;obtain⟨us',ws',e2,hu',hw'⟩:=hy;have l1:=zA1 hu;have l2:=zA1 hw;have l3:=zA1 hu';have l4:=zA1 hw';obtain⟨s1,s2⟩:=zX1 e1 (by omega);obtain⟨s3,s4⟩:=zX1 e2 (by omega);obtain⟨p1,q1,q2⟩:=zR5 h3 (o:=o) (us:=xs) (by omega) w;obtain⟨p2,q3,q4⟩:=zR5 h3 (o:=o) (us:=ys) (by omega) w;have hn:fd.name≠"_":=by grind
   obtain⟨ihh1,_⟩:=ihh;obtain⟨_,iht2⟩:=iht;have he:=ihh1 (d:=d) (x:=p1) (y:=p2) (a:=a.1) (b:=b.1) h3 hc.1 (by omega) ⟨us,hu,by rw[← s1,l1];exact q2⟩ ⟨us',hu',by rw[← s3,l3];exact q4⟩;have hr:=iht2 (fs:=r) (o:=o+h.size) (d:=d) (xs:=xs) (ys:=ys) (a:=a.2) (b:=b.2) h4 hc.2 (by omega) (by omega) (by omega) (by grind) (by grind);simp only[Op.eqFields,hn,ne_eq,not_false_eq_true,if_true,h1,Sem.run_bind,q1,q3,Result.andThen_ok,he,Ty.eqb];cases hb:h.eqb a.1 b.1 with
   |true=>grind
   |false=>simp
 |st f ih =>
  refine⟨?_,fun h=>by grind [zC3]⟩;intro T d x y a b hT hc hd hx hy;obtain⟨fs,h1,h2⟩:=zX8 hT;obtain⟨xs,rfl,hx'⟩:=(zI4 rfl).1 hx;obtain⟨ys,rfl,hy'⟩:=(zI4 rfl).1 hy;have hx:=hx';have hy:=hy';clear hx' hy';simp only[zB6] at hx hy;have l1:=zA1 hx;have l2:=zA1 hy;simp only[Ty.ht] at hd;have hfo:P.fieldsOf T=fs:=by grind [Program.fieldsOf]
  have hu:P.underlying T=some (.struct (P.fieldsOf T)):=by grind
  rw[run_equalIn_struct w d T _ _ hu (xL9 hT),hfo];obtain⟨d',rfl⟩:∃ d',d=d'+1:=⟨d-1,by omega⟩;obtain⟨_,ih2⟩:=ih;exact ih2 (d:=d') h2 hc (by omega) (by omega) (by omega) (by grind [yS9]) (by grind [yS9])
 |arr n t ih =>
  refine⟨?_,fun h=>by grind [zC3]⟩;intro T d x y a b hT hc hd hx hy;obtain⟨e,h1,h2⟩:=zV0 hT;obtain⟨xs,rfl,hx'⟩:=(zI4 rfl).1 hx;obtain⟨ys,rfl,hy'⟩:=(zI4 rfl).1 hy;have hx:=hx';have hy:=hy';simp only[zB6] at hx hy;simp only[Ty.ht] at hd;obtain⟨⟨i,z,hi,hs,_⟩,_⟩:=zG7 h2;rw[run_equalIn_array w d _ _ h1 hi];obtain⟨d',rfl⟩:∃ d',d=d'+1:=⟨d-1,by omega⟩;have hce:P.cellsOf e=t.size:=by grind [Program.cellsOf]
  rw[hce];have l1:=zD1 (k:=t.size) (fun _ _ h=>zA1 h) hx.2;have l2:=zD1 (k:=t.size) (fun _ _ h=>zA1 h) hy.2;obtain⟨ih1,_⟩:=ih;have key:∀ is:List Nat,(∀ j∈is,j<n)→(Op.eqItems (d'+1) e t.size xs.toArray ys.toArray is).run P w=.ok (is.all fun i=>t.eqb (List.getD (α:=t.den) a i t.dflt) (List.getD (α:=t.den) b i t.dflt)) w:=by
   intro is
   induction is with
   |nil=>simp_all [Op.eqItems]
   |cons j is ihl =>
    intro hj;have hjn:j<n:=hj j (by simp);have hle:j*t.size+t.size≤n*t.size:=by rw[← Nat.succ_mul];exact Nat.mul_le_mul_right _ (by omega)
    obtain⟨p1,q1,q2⟩:=zR5 h2 (o:=j*t.size) (us:=xs) (by grind) w;obtain⟨p2,q3,q4⟩:=zR5 h2 (o:=j*t.size) (us:=ys) (by grind) w;have he:=ih1 (d:=d') (x:=p1) (y:=p2) (a:=List.getD (α:=t.den) a j t.dflt) (b:=List.getD (α:=t.den) b j t.dflt) h2 hc (by omega)
     ⟨_,zR3 hx.2 (by grind),q2⟩ ⟨_,zR3 hy.2 (by grind),q4⟩
    have hr:=ihl (fun k hk=>hj k (by simp[hk]));simp only[Op.eqItems,Sem.run_bind,q1,q3,Result.andThen_ok,he];rw[List.all_cons];cases hb:t.eqb (List.getD (α:=t.den) a j t.dflt) (List.getD (α:=t.den) b j t.dflt) with
    |true=>simpa using hr
    |false=>simp
  exact key (List.range n) (fun j hj=>by simpa using hj)
 |sl t _=>grind [Ty.cmp,zC3]
 |ptr t _=>exact⟨fun _ h=>by simp[Ty.cmp] at h,fun h=>by simp[zC3] at h⟩
end Go.Am
namespace Go.Am
open Go Go.RowKit
variable {P:Program}{c:Ctx}{G:Gh}{w:World}{tm:Array Value}
theorem zK6 {wr:Bool}{k:IntKind}{r:Int}(h:∀ q∈(yI9 wr k r).1,q):zA G w tm none (yI9 wr k r).2 (.int k (k.wrap r)):=by
 unfold yI9 at h ⊢;cases hc:(!wr&&wL4 k) with
 |true =>
  simp only[hc] at h ⊢;have hk:k=.i64:=by grind [wL4]
  have hr:=h _ (List.mem_singleton.2 rfl);subst hk;rw[IntWalk.i64_in r hr];exact VRep_int.2 rfl
 |false =>
  exact VRep_int.2 rfl
theorem yL2 {a:Act}{y:Operand}{n:Int}{k:IntKind}{b:Int}(h:yV6 y=some n)(hy:a.eval y=.int k b):n=b:=by
 unfold yV6 at h
 grind [Act.eval,Value.int.injEq]
theorem yB {a:Act}{y:Operand}{k:IntKind}{b:Int}(hy:a.eval y=.int k b)(h:∀ q∈yS y b,q):b≠0:=by
 unfold yS at h;split at h
 ·rename_i n hn;have:=yL2 hn hy;subst this;intro he;simp_all
 ·exact h _ (List.mem_singleton.2 rfl)
theorem yF1 {a:Act}{y:Operand}{k:IntKind}{b:Int}(hy:a.eval y=.int k b)(h:∀ q∈xI4 y b,q):0≤b:=by
 unfold xI4 at h;split at h
 ·rename_i n hn;have:=yL2 hn hy;subst this;by_cases he:0≤n
  all_goals simp_all
 ·exact h _ (List.mem_singleton.2 rfl)
theorem zN7 {op:BinOp}{T:Nat}{x y:Operand}{k k':IntKind}{a b:Int}(w:World):(eqGuard op T x y (.int k a) (.int k' b)).run P w=.ok () w:=by
 simp_all [eqGuard]
theorem yL3 {op:BinOp}{T:Nat}{x y:Operand}{a b:ByteArray}(w:World):(eqGuard op T x y (.string a) (.string b)).run P w=.ok () w:=by
 simp_all [eqGuard]
theorem yH2 {op:BinOp}{T:Nat}{x y:Operand}{a b:Bool}(w:World):(eqGuard op T x y (.bool a) (.bool b)).run P w=.ok () w:=by
 simp_all [eqGuard]
theorem zD5 {s:Option Nat}{k:IntKind}{n:Int}:zA G w tm s (.val (.int k) n) (.int k n):=by exact VRep_int.2 rfl
theorem zC2 {s:Option Nat}{b:Bool}:zA G w tm s (.val .bool b) (.bool b):=by exact VRep_bool.2 rfl
theorem yI2 {s:Option Nat}{b:List UInt8}:zA G w tm s (.val .str b) (.string ⟨b.toArray⟩):=by exact VRep_str.2 rfl
theorem xD {α β:Type}{x:α×β}{p:α}{A:β}(h:x=(p,A)):x.1=p∧x.2=A:=by grind
theorem yX2 {ac:Act}{wr:Bool}{op:BinOp}{k:IntKind}{a b:Int}{oy:Operand}{p:List Prop}{A:AVal}{T:Nat}(hoy:ac.eval oy=.int k b)(hs:xC2 op=false)
  (h:xS1 wr op k a b oy=some (p,A)) (hp:∀ q∈p,q):∃ r,(binOp op T (.int k a) (.int k b)).run P w=.ok r w∧zA G w tm none A r:=by
 cases op<;>simp[xS1,Option.some.injEq] at h
 case add=>obtain⟨rfl,rfl⟩:=xD h;exact⟨_,by simp[binOp,Op.intArith],zK6 hp⟩
 case sub=>obtain⟨rfl,rfl⟩:=xD h;exact⟨_,by simp[binOp,Op.intArith],zK6 hp⟩
 case mul=>obtain⟨rfl,rfl⟩:=xD h;exact⟨_,by simp[binOp,Op.intArith],zK6 hp⟩
 case quo =>
  obtain⟨rfl,rfl⟩:=h;have hb:=yB hoy (fun q hq=>hp q (List.mem_append_left _ hq));exact⟨_,by simp[binOp,Op.intDiv,hb],zK6 (fun q hq=>hp q (List.mem_append_right _ hq))⟩
 case rem =>
  obtain⟨rfl,rfl⟩:=h;have hb:=yB hoy hp;exact⟨_,by simp[binOp,Op.intDiv,hb],zD5⟩
 case and=>obtain⟨rfl,rfl⟩:=h;exact⟨_,by simp only[binOp];rw[if_neg (by simp)];rfl,zD5⟩
 case or=>obtain⟨rfl,rfl⟩:=h;exact⟨_,by simp only[binOp];rw[if_neg (by simp)];rfl,zD5⟩
 case xor=>obtain⟨rfl,rfl⟩:=h;exact⟨_,by simp only[binOp];rw[if_neg (by simp)];rfl,zD5⟩
 case andNot=>obtain⟨rfl,rfl⟩:=h;exact⟨_,by simp only[binOp];rw[if_neg (by simp)];rfl,zD5⟩
 case eql=>obtain⟨rfl,rfl⟩:=h;exact⟨_,by simp[binOp,Op.intCmp],zC2⟩
 case neq=>obtain⟨rfl,rfl⟩:=h;exact⟨_,by simp[binOp,Op.intCmp],zC2⟩
 case lss=>obtain⟨rfl,rfl⟩:=h;exact⟨_,by simp[binOp,Op.intCmp],zC2⟩
 case leq=>obtain⟨rfl,rfl⟩:=h;exact⟨_,by simp[binOp,Op.intCmp],zC2⟩
 case gtr=>obtain⟨rfl,rfl⟩:=h;exact⟨_,by simp[binOp,Op.intCmp],zC2⟩
 case geq=>obtain⟨rfl,rfl⟩:=h;exact⟨_,by simp[binOp,Op.intCmp],zC2⟩
 all_goals grind
theorem yO5 {ac:Act}{wr:Bool}{op:BinOp}{k k':IntKind}{a b:Int}{oy:Operand}{p:List Prop}{A:AVal}{T:Nat}(hoy:ac.eval oy=.int k' b)
  (h:yS0 wr op k a b oy=some (p,A)) (hp:∀ q∈p,q):∃ r,(binOp op T (.int k a) (.int k' b)).run P w=.ok r w∧zA G w tm none A r:=by
 cases op<;>simp[yS0] at h
 case shl =>
  obtain⟨rfl,rfl⟩:=h;have hb:=yF1 hoy (fun q hq=>hp q (List.mem_append_left _ hq));exact⟨_,by simp[binOp,Op.shift,Int.not_lt.2 hb],zK6 (fun q hq=>hp q (List.mem_append_right _ hq))⟩
 case shr =>
  obtain⟨rfl,rfl⟩:=h;have hb:=yF1 hoy hp;exact⟨_,by simp[binOp,Op.shift,Int.not_lt.2 hb],zD5⟩
 all_goals grind
theorem yX3 {op:BinOp}{a b:List UInt8}{p:List Prop}{A:AVal}{T:Nat}
  (h:xS2 op a b=some (p,A)) (hp:∀ q∈p,q):∃ r,(binOp op T (.string ⟨a.toArray⟩) (.string ⟨b.toArray⟩)).run P w=.ok r w∧zA G w tm none A r:=by
 cases op<;>simp[xS2,Option.some.injEq,Prod.mk.injEq] at h
 case add =>
  obtain⟨rfl,rfl⟩:=h;have hb:=hp _ (List.mem_singleton.2 rfl);refine⟨.string ⟨(a++b).toArray⟩,?_,yI2⟩;have e:(⟨a.toArray⟩++⟨b.toArray⟩:ByteArray)=⟨(a++b).toArray⟩:=by
   apply ByteArray.ext;simp_all
  simp_all [ByteArray.size,binOp,Op.stringOp]
 case eql=>obtain⟨rfl,rfl⟩:=h;exact⟨_,by simp_all [binOp,Op.stringOp],zC2⟩
 case neq=>obtain⟨rfl,rfl⟩:=h;exact⟨_,by simp_all [binOp,Op.stringOp],zC2⟩
 case lss=>obtain⟨rfl,rfl⟩:=h;exact⟨_,by simp_all [binOp,Op.stringOp],zC2⟩
 case leq=>obtain⟨rfl,rfl⟩:=h;exact⟨_,by simp_all [binOp,Op.stringOp],zC2⟩
 case gtr=>obtain⟨rfl,rfl⟩:=h;exact⟨_,by simp_all [binOp,Op.stringOp],zC2⟩
 case geq=>obtain⟨rfl,rfl⟩:=h;exact⟨_,by simp_all [binOp,Op.stringOp],zC2⟩
 all_goals grind
theorem xU4 {χ:Nat→Nat→Nat}{τ:Ty}{a b:τ.den}{x y:Value}(h:τ.eqs=true)(hx:zT2 χ w τ a x)(hy:zT2 χ w τ b y):(∃ p q,x=.bool p∧y=.bool q)∨(∃ p q,x=.agg p∧y=.agg q):=by
 cases τ with
 |bool=>grind [VRep_bool]
 |st f=>obtain⟨xs,rfl,_⟩:=(zI4 rfl).1 hx;obtain⟨ys,rfl,_⟩:=(zI4 rfl).1 hy;simp_all
 |arr n t=>obtain⟨xs,rfl,_⟩:=(zI4 rfl).1 hx;obtain⟨ys,rfl,_⟩:=(zI4 rfl).1 hy;simp_all
 |_=>grind [Ty.eqs]
theorem xD0 (hty:zM6 P c.tys=true){op:BinOp}{T:Nat}{x y A:AVal}{v u:Value}{ox oy:Operand}{p:List Prop}(hx:zA G w tm none x v)(hy:zA G w tm none y u)
  (h:wL5 op (c.ty T) x y=some (p,A)):∃ r,(do eqGuard op T ox oy v u;binOp op T v u:Sem Value).run P w=.ok r w∧zA G w tm none A r:=by
 unfold wL5 at h;split at h
 ·rename_i a b hc ha hb;simp  at hc;have hT:=zI hty T (by grind [Ty.eqs]);have hl:=zD0 hT;have hvx:=zK5 ha hl hx;have hvy:=zK5 hb hl hy;have he:(Op.equal T v u).run P w=.ok ((c.ty T).eqb a b) w:=(yO4 (G:=G) (P:=P) (w:=w)).1 (d:=9999) hT hc.1 (by grind [wM2]) hvx hvy;have hshape:=xU4 hc.2 hvx hvy;have hg:(eqGuard op T ox oy v u).run P w=.ok () w:=by
   grind [yH2,run_eqGuard_agg,xL8]
  have hb2:∀ o:BinOp,o=.eql∨o=.neq→(binOp o T v u).run P w=.ok (.bool (if o=.eql then (c.ty T).eqb a b else !((c.ty T).eqb a b))) w:=by
   intro o ho;rcases hshape with ⟨p,q,rfl,rfl⟩ | ⟨p,q,rfl,rfl⟩<;>rcases ho with rfl|rfl<;>simp[binOp,he]
  split at h
  ·obtain⟨rfl,rfl⟩:=h;exact⟨_,by rw[Sem.run_bind,hg,Result.andThen_ok,hb2 .eql (.inl rfl)];rfl,zC2⟩
  ·obtain⟨rfl,rfl⟩:=h;exact⟨_,by rw[Sem.run_bind,hg,Result.andThen_ok,hb2 .neq (.inr rfl)];rfl,zC2⟩
  grind
 grind
theorem xD1 (hty:zM6 P c.tys=true){op:BinOp}{T:Nat}{x A:AVal}{v u:Value}{ox oy:Operand}{p:List Prop}(hx:zA G w tm none x v)(hu:u=.slice none 0 0)
  (h:wL6 c op T x=some (p,A)) (hp:∀ q∈p,q):∃ r,(do eqGuard op T ox oy v u;binOp op T v u:Sem Value).run P w=.ok r w∧zA G w tm none A r:=by
 subst hu;unfold wL6 at h;split at h
 ·rename_i t0 hT;have hT':=zI hty T (by grind);rw[hT] at hT';obtain⟨e,hu,_⟩:=zF8 hT';have key:∀ (a:Option Addr) n cap (b:Bool) q,b=a.isNone→zO4 op q b=some (p,A)→v=.slice a n cap→∃ r,(do eqGuard op T ox oy v (.slice none 0 0);binOp op T v (.slice none 0 0):Sem Value).run P w=.ok r w∧zA G w tm none A r:=by
   intro a n cap b q hb hr hv;have hg:(eqGuard op T ox oy (.slice a n cap) (.slice none 0 0)).run P w=.ok () w:=by simp_all [eqGuard]
   have he:(Op.equal T (.slice a n cap) (.slice none 0 0)).run P w=.ok b w:=by
    subst hb;have hd:∀ d:Nat,(Op.equalIn (d+1) T (.slice a n cap) (.slice none 0 0)).run P w=.ok a.isNone w:=by
     cases a<;>simp[Op.equalIn,run_underlying hu w]
    exact hd 9999
   unfold zO4 at hr;split at hr
   ·obtain⟨rfl,rfl⟩:=hr;exact⟨_,by simp_all [binOp],zC2⟩
   ·obtain⟨rfl,rfl⟩:=hr;exact⟨_,by simp_all [binOp],zC2⟩
   grind
  have hq:∀ q b,zO4 op [q] b=some (p,A)→q:=by
   intro q b hr;unfold zO4 at hr;split at hr
   ·obtain⟨rfl,_⟩:=hr;exact hp _ (List.mem_singleton.2 rfl)
   ·obtain⟨rfl,_⟩:=hr;exact hp _ (List.mem_singleton.2 rfl)
   grind
  split at h
  ·exact key none 0 0 true _ rfl h hx
  ·obtain⟨a,cap,rfl,hb⟩:=hx;exact key a 0 cap _ _ hb.symm h rfl
  ·simp only[zA] at hx;rw[zC6 rfl] at hx
   grind [zB6]
  ·rename_i t l T' m;cases htl:t.isL with
   |true=>grind
   |false =>
   simp[htl] at h;rcases (zB1 hx htl).2 with ⟨_,hl⟩ | ⟨cap,cur,e,us,h1,_⟩
   ·grind
   ·exact key _ _ cap false _ rfl h h1
  grind
 grind
theorem yX4 (hty:zM6 P c.tys=true){op:BinOp}{T:Nat}{x A:AVal}{v u:Value}{ox oy:Operand}{p:List Prop}(hx:zA G w tm none x v)(hu:u=.pointer none)
  (h:xS3 c op T x=some (p,A)):∃ r,(do eqGuard op T ox oy v u;binOp op T v u:Sem Value).run P w=.ok r w∧zA G w tm none A r:=by
 subst hu;unfold xS3 at h;split at h
 ·rename_i t0 hT;have hT':=zI hty T (by grind);rw[hT] at hT';obtain⟨e,hu,_⟩:=wF2 hT';have key:∀ (a:Option Addr) (b:Bool),b=a.isNone→zO4 op [] b=some (p,A)→v=.pointer a→∃ r,(do eqGuard op T ox oy v (.pointer none);binOp op T v (.pointer none):Sem Value).run P w=.ok r w∧zA G w tm none A r:=by
   intro a b hb hr hv;have hg:(eqGuard op T ox oy (.pointer a) (.pointer none)).run P w=.ok () w:=by simp_all [eqGuard]
   have he:(Op.equal T (.pointer a) (.pointer none)).run P w=.ok b w:=by
    subst hb;have hd:∀ d:Nat,(Op.equalIn (d+1) T (.pointer a) (.pointer none)).run P w=.ok a.isNone w:=by
     cases a<;>simp[Op.equalIn,run_underlying hu w]
    exact hd 9999
   unfold zO4 at hr;split at hr
   ·obtain⟨rfl,rfl⟩:=hr;exact⟨_,by simp_all [binOp],zC2⟩
   ·obtain⟨rfl,rfl⟩:=hr;exact⟨_,by simp_all [binOp],zC2⟩
   grind
  split at h
  ·exact key none true rfl h hx
  ·rename_i b s τ;exact key _ b (by cases b<;>rfl) h hx
  ·exact key _ false rfl h hx.2
  ·obtain⟨vs,⟨b,o,us,rfl,_⟩,hv⟩:=hx;have hv:[Value.pointer (some ⟨b,o,none⟩)]=[v]:=hv;injection hv with hv
   exact key _ false rfl h hv.symm
  grind
 grind
theorem xM0 (hty:zM6 P c.tys=true){ac:Act}{op:BinOp}{T:Nat}{x y A:AVal}{v:Value}{ox oy:Operand}{p:List Prop}(hx:zA G w tm none x v)(hy:zA G w tm none y (ac.eval oy))
  (h:wS c op T x y oy=some (p,A)) (hp:∀ q∈p,q):∃ r,(do eqGuard op T ox oy v (ac.eval oy);binOp op T v (ac.eval oy):Sem Value).run P w=.ok r w∧zA G w tm none A r:=by
 unfold wS at h;split at h
 ·rename_i k a k' b;have hv:=VRep_int.1 hx;have hu:=VRep_int.1 hy;cases hs:xC2 op with
  |true =>
   simp[hs] at h;obtain⟨r,h1,h2⟩:=yO5 (P:=P) (w:=w) (G:=G) (tm:=tm) (T:=T) hu h hp
   grind [Sem.run_bind,zN7,Result.andThen_ok]
  |false =>
   simp[hs] at h;cases hk:Nat.beq (zJ1 k) (zJ1 k') with
   |false=>grind
   |true =>
    simp[hk] at h;have:=zI7 (Nat.eq_of_beq_eq_true hk);subst this;obtain⟨r,h1,h2⟩:=yX2 (P:=P) (w:=w) (G:=G) (tm:=tm) (T:=T) hu hs h hp
    grind [Sem.run_bind,zN7,Result.andThen_ok]
 ·have hv:=VRep_str.1 hx;have hu:=VRep_str.1 hy;obtain⟨r,h1,h2⟩:=yX3 (P:=P) (w:=w) (G:=G) (tm:=tm) (T:=T) h hp
  grind [Sem.run_bind,yL3,Result.andThen_ok]
 ·exact xD1 hty hx hy h hp
 ·exact yX4 hty hx hy h
 ·exact xD0 hty hx hy h
theorem xU5 {op:UnOp}{x A:AVal}{v:Value}{p:List Prop}(hx:zA G w tm none x v)(h:unA c op x=some (p,A))(hp:∀ q∈p,q) :
  ∃ r,(Op.unary op v).run P w=.ok r w∧zA G w tm none A r:=by
 unfold unA at h;split at h
 ·obtain⟨rfl,rfl⟩:=h;rw[VRep_bool.1 hx];exact⟨_,by simp[Op.unary],zC2⟩
 ·simp  at h;rw[VRep_int.1 hx];have h1:=congrArg Prod.fst h;have h2:=congrArg Prod.snd h;subst h1;subst h2;exact⟨_,rfl,zK6 hp⟩
 ·obtain⟨rfl,rfl⟩:=h;rw[VRep_int.1 hx];exact⟨_,rfl,zD5⟩
 grind
theorem xM1 (hty:zM6 P c.tys=true){ats:Array TypeId}{ty:TypeId}{x A:AVal}{v:Value}{p:List Prop}(hx:zA G w tm none x v)(h:wS0 c ats.toList x=some (p,A)) :
  ∃ r,(Builtin.len_ ats ty #[v]).run P w=.ok r w∧zA G w tm none A r:=by
 unfold wS0 at h;split at h
 ·rename_i T r e;have ha:ats[0]?=some T:=by rw[← Array.getElem?_toList,e];rfl
  split at h
  ·rename_i s;cases hi:c.is T .str with
   |false=>simp[hi] at h
   |true =>
    simp only[hi,cond_true,Option.some.injEq,Prod.mk.injEq] at h;obtain⟨rfl,rfl⟩:=h;simp only[zA] at hx;rw[VRep_str.1 hx];exact⟨.int .i64 (List.length (α:=UInt8) s:Int),by simp[Builtin.len_,ha,run_underlying (zM7 (zB4 hty hi)),goInt];rfl,zD5⟩
  ·rename_i t l;cases hi:c.is T (.sl t) with
   |false=>simp[hi] at h
   |true =>
    simp only[hi,cond_true,Option.some.injEq,Prod.mk.injEq] at h;obtain⟨rfl,rfl⟩:=h;obtain⟨e',h1,h2⟩:=zF8 (zB4 hty hi);simp only[zA] at hx;have hx2:=(zC6 rfl).1 hx;simp only[zB6] at hx2;obtain⟨a,cap,hv,_⟩:=hx2;injection hv with hv _
    rw[hv];exact⟨_,by simp[Builtin.len_,ha,run_underlying h1,goInt],zD5⟩
  ·rename_i t l U m;cases hi:c.is T (.sl t) with
   |false=>simp[hi] at h
   |true =>
    simp only[hi,cond_true,Option.some.injEq,Prod.mk.injEq] at h;obtain⟨rfl,rfl⟩:=h;obtain⟨e',h1,h2⟩:=zF8 (zB4 hty hi);simp only[zA] at hx;rcases (zB1 hx (yI (zB4 hty hi))).2 with ⟨hv,hl⟩ | ⟨cap,cur,e,us,hv,_⟩
    ·rw[hv,hl];exact⟨_,by simp[Builtin.len_,ha,run_underlying h1,goInt],zD5⟩
    ·rw[hv];exact⟨_,by simp[Builtin.len_,ha,run_underlying h1,goInt],zD5⟩
  ·rename_i t l U j V m;cases hi:(c.is T (.sl (.sl t))&&!(Nat.beq U V)) with
   |false=>simp[hi] at h
   |true =>
    simp only[hi,cond_true,Option.some.injEq,Prod.mk.injEq] at h;obtain⟨rfl,rfl⟩:=h;simp only[Bool.and_eq_true] at hi;obtain⟨hi,hUV⟩:=hi;obtain⟨e',h1,h2⟩:=zF8 (zB4 hty hi);simp only[zA] at hx;obtain⟨_,⟨he,_⟩ | ⟨_,⟨hv,hl⟩ | ⟨cap,cur,e,hv,_⟩⟩⟩:=hx
    ·subst he;simp at hUV
    ·rw[hv,hl];exact⟨_,by simp[Builtin.len_,ha,run_underlying h1,goInt],zD5⟩
    ·rw[hv];exact⟨_,by simp[Builtin.len_,ha,run_underlying h1,goInt],zD5⟩
  ·rename_i l;split at h
   ·rename_i t ht;cases hi:c.is T (.sl (.ptr t)) with
    |false=>simp[hi] at h
    |true =>
     simp only[hi,cond_true,Option.some.injEq,Prod.mk.injEq] at h;obtain⟨rfl,rfl⟩:=h;obtain⟨e',h1,h2⟩:=zF8 (zB4 hty hi);obtain⟨b,o,cap,hv,_⟩:=hx;simp only[cond_false] at hv;rw[hv];exact⟨_,by simp[Builtin.len_,ha,run_underlying h1,goInt],zD5⟩
   ·cases h
  ·cases hi:(c.is T (c.ty T)&&(c.ty T).isSl) with
   |false=>simp[hi] at h
   |true =>
    simp only[hi,cond_true,Option.some.injEq,Prod.mk.injEq] at h;obtain⟨rfl,rfl⟩:=h;simp only[Bool.and_eq_true] at hi;have hT:=zB4 hty hi.1;obtain⟨t,ht⟩:∃ t,c.ty T=.sl t:=by revert hi;cases c.ty T<;>simp[Ty.isSl]
    rw[ht] at hT;obtain⟨e',h1,h2⟩:=zF8 hT;simp only[zA] at hx;rw[hx];exact⟨_,by simp[Builtin.len_,ha,run_underlying h1,goInt],zD5⟩
  ·cases h
 ·cases h
end Go.Am
namespace Go.Am
open Go Go.RowKit
variable {P:Program}{c:Ctx}{G:Gh}{w:World}{tm:Array Value}
theorem zL3 {k:IntKind}{i:Int}{y:Nat}{code:BoundsCode}(h:0≤i∧i≤(y:Int))(w:World):(Instr.sliceBound (.int k i) y code).run P w=.ok i.toNat w:=by
 simp[Instr.sliceBound,asIntOf,h]
theorem zJ5 {b:Bool}{n m:Nat}{lo hi:Option AVal}{vlo vhi:Option Value}{a h:Option Int}(hn:n≤m)
  (h1:zP5 lo=some a) (h2:zP5 hi=some h)
  (hlo:∀ A,lo=some A→∃ v,vlo=some v∧zA G w tm none A v) (hlo':lo=none→vlo=none)
  (hhi:∀ A,hi=some A→∃ v,vhi=some v∧zA G w tm none A v) (hhi':hi=none→vhi=none)
  {α:Type}{l:List α}(hl:l.length=n) (hp:∀ q∈(yV5 l a h).1,q) :
  ∃ x y,x≤y∧y≤n∧(Instr.sliceBounds b n m vlo vhi none).run P w=.ok (x,y,m) w∧(yV5 l a h).2=(l.take y).drop x:=by
 have opt:∀ (lo:Option AVal) (a:Option Int) (vlo:Option Value),zP5 lo=some a→(∀ A,lo=some A→∃ v,vlo=some v∧zA G w tm none A v)→(lo=none→vlo=none) →
   (a=none∧vlo=none)∨∃ k i,a=some i∧vlo=some (.int k i):=by
  intro lo a vlo h1 hlo hlo';cases lo with
  |none=>simp_all [zP5]
  |some A =>
   obtain⟨v,hv,hA⟩:=hlo A rfl;cases A with
   |val τ x =>
    cases τ with
    |int k=>simp[zP5] at h1;rw[VRep_int.1 hA] at hv;exact .inr ⟨k,x,h1.symm,hv⟩
    |_=>simp[zP5] at h1
   |_=>simp[zP5] at h1
 subst hl;rcases opt lo a vlo h1 hlo hlo' with ⟨rfl,rfl⟩ | ⟨k,i,rfl,rfl⟩<;>rcases opt hi h vhi h2 hhi hhi' with ⟨rfl,rfl⟩ | ⟨k',j,rfl,rfl⟩
 ·exact⟨0,l.length,by omega,by omega,by simp[Instr.sliceBounds],by simp[yV5]⟩
 ·have hb:=hp _ (List.mem_singleton.2 rfl);refine⟨0,j.toNat,by omega,by omega,?_,by simp[yV5]⟩;have:=zL3 (P:=P) (k:=k') (i:=j) (y:=m) (code:=if b then .sliceAcap else .sliceAlen) ⟨hb.1,by omega⟩ w;simp[Instr.sliceBounds,this]
 ·have hb:=hp _ (List.mem_singleton.2 rfl);refine⟨i.toNat,l.length,by omega,by omega,?_,by simp[yV5]⟩;have:=zL3 (P:=P) (k:=k) (i:=i) (y:=l.length) (code:=.sliceB) hb w;simp[Instr.sliceBounds,this]
 ·have hb:=hp _ (List.mem_singleton.2 rfl);refine⟨i.toNat,j.toNat,by omega,by omega,?_,by simp[yV5]⟩;have h3:=zL3 (P:=P) (k:=k') (i:=j) (y:=m) (code:=if b then .sliceAcap else .sliceAlen) ⟨by omega,by omega⟩ w;have h4:=zL3 (P:=P) (k:=k) (i:=i) (y:=j.toNat) (code:=.sliceB) ⟨hb.1,by omega⟩ w;simp[Instr.sliceBounds,h3,h4]
theorem yT2 (s:List UInt8)(x y:Nat):(⟨s.toArray⟩:ByteArray).extract x y=⟨((s.take y).drop x).toArray⟩:=by
 apply ByteArray.ext;simp[List.drop_take]
theorem yX5 {t:Ty}{T x y cap:Nat}{a:Option Addr}{l:List t.den}{lo hi:Option Value}(hT:zC3 P (.sl t) (.inl T)=true)(hxy:x≤y)(hy:y≤l.length)
  (hr:zB6 G.χ w (.sl t) l [.slice a l.length cap]) (hcap:l.length≤cap) (hb:(Instr.sliceBounds true l.length cap lo hi none).run P w=.ok (x,y,cap) w) :
  ∃ r,(Instr.sliceAt T (.slice a l.length cap) lo hi none).run P w=.ok r w∧zB6 G.χ w (.sl t) ((l.take y).drop x) [r]:=by
 obtain⟨e,h1,h2⟩:=zF8 hT;refine⟨.slice (if cap=x then a else a.map (·.add (x*t.size))) (y-x) (cap-x),?_,?_⟩
 ·simp[Instr.sliceAt,run_underlying h1 w,Instr.slice,hb,zE3 h2 w]
 ·obtain⟨a',cap',hv,hr⟩:=hr;obtain⟨rfl,rfl⟩:=hv;have hlen:List.length (α:=t.den) ((l.take y).drop x)=y-x:=by grind
  refine⟨_,cap-x,by rw[hlen],?_⟩;rcases hr with rfl|⟨b,o,us,ha,h3,h4,h5⟩
  ·grind
  ·by_cases hz:y=x
   ·grind
   ·right;rw[if_neg (by omega)];subst ha;refine⟨b,o+x*t.size,((us.take (y*t.size)).drop (x*t.size)),by simp[Addr.add_mid],by omega,?_,?_⟩
    ·grind [yW8,zA1,yW7]
    ·intro j v hv;rw[List.getElem?_drop,List.getElem?_take] at hv;split at hv
     ·have:=h5 _ _ hv
      grind
     grind
theorem xD2 {χ:Nat→Nat→Nat}{t:Ty}{l:List t.den}{v:Value}(h:zB6 χ w (.sl t) l [v]):∃ a cap,v=.slice a l.length cap∧l.length≤cap:=by
 grind [zB6]
theorem zP2 {s:Option Nat}{t:Ty}{l:List t.den}{v:Value}(h:zB6 G.χ w (.sl t) l [v]):zA G w tm s (.val (.sl t) l) v:=by
 exact (zC6 rfl).2 h
theorem yX6 {T:Nat}{t:Ty}{l:List t.den}{v:Value}{lo hi:Option AVal}{vlo vhi:Option Value}{a b:Option Int}(hT:zC3 P (.sl t) (.inl T)=true)(hx:zB6 G.χ w (.sl t) l [v])
  (ea:zP5 lo=some a) (eb:zP5 hi=some b)
  (hlo:∀ A,lo=some A→∃ v,vlo=some v∧zA G w tm none A v) (hlo':lo=none→vlo=none)
  (hhi:∀ A,hi=some A→∃ v,vhi=some v∧zA G w tm none A v) (hhi':hi=none→vhi=none)
  (hp:∀ q∈(yV5 l a b).1,q):∃ r,(Instr.sliceAt T v vlo vhi none).run P w=.ok r w∧zA G w tm none (.val (.sl t) (yV5 l a b).2) r:=by
 obtain⟨ad,cap,rfl,hcap⟩:=xD2 hx;obtain⟨x,y,h1,h2,h3,h4⟩:=zJ5 (P:=P) (G:=G) (w:=w) (tm:=tm) (b:=true) (n:=l.length) (m:=cap) hcap ea eb hlo hlo' hhi hhi' (l:=l) rfl hp
 grind [yX5,zP2]
theorem xM2 {T U:Nat}{t:Ty}{l:List t.den}{v:Value}{lo hi:Option AVal}{vlo vhi:Option Value}{a b:Option Int}(hT:zC3 P (.sl t) (.inl T)=true)(hx:zG3 G w t l U true v)
  (ea:zP5 lo=some a) (eb:zP5 hi=some b)
  (hlo:∀ A,lo=some A→∃ v,vlo=some v∧zA G w tm none A v) (hlo':lo=none→vlo=none)
  (hhi:∀ A,hi=some A→∃ v,vhi=some v∧zA G w tm none A v) (hhi':hi=none→vhi=none)
  (hp:∀ q∈(yV5 l a b).1,q):∃ r,(Instr.sliceAt T v vlo vhi none).run P w=.ok r w∧zA G w tm none (.ownh t [(yV5 l a b).2] U 0 U false) r:=by
 obtain⟨hvt,hs⟩:=zB1 hx (yI hT);obtain⟨e,h1,h2⟩:=zF8 hT;simp only[zA];rcases hs with ⟨rfl,rfl⟩ | ⟨cap,cur,e',us,rfl,g2,g3,g4,g5,g6,g7,g8⟩
 ·obtain⟨x,y,q1,q2,q3,q4⟩:=zJ5 (P:=P) (G:=G) (w:=w) (tm:=tm) (b:=true) (n:=0) (m:=0) (Nat.le_refl _) ea eb hlo hlo' hhi hhi' (l:=([]:List t.den)) rfl hp;have hxy:x=0∧y=0:=by omega
  obtain⟨rfl,rfl⟩:=hxy;have q4':(yV5 ([]:List t.den) a b).2=([]:List t.den):=by rw[q4];simp
  rw[q4'];have q3':(Instr.sliceBounds true (List.length (α:=t.den) []) 0 vlo vhi none).run P w=.ok (0,0,0) w:=q3;refine⟨.slice none 0 0,?_,hvt,.inl ⟨rfl,.inl ⟨rfl,[],none,0,rfl,rfl,.inl rfl⟩⟩⟩;simp only[Instr.sliceAt,Sem.run_bind,run_underlying h1 w,Result.andThen_ok,Instr.slice,q3,zE3 h2 w,Sem.run_pure];simp
 ·obtain⟨x,y,q1,q2,q3,q4⟩:=zJ5 (P:=P) (G:=G) (w:=w) (tm:=tm) (b:=true) (n:=l.length) (m:=cap) g3 ea eb hlo hlo' hhi hhi' (l:=l) rfl hp;have hlen:List.length (α:=t.den) ((l.take y).drop x)=y-x:=by simp;omega
  refine⟨.slice (if cap=x then some ⟨G.γ U,0,none⟩ else (some (⟨G.γ U,0,none⟩:Addr)).map (·.add (x*t.size))) (y-x) (cap-x),by simp only[Instr.sliceAt,Sem.run_bind,run_underlying h1 w,Result.andThen_ok,Instr.slice,q3,zE3 h2 w,Sem.run_pure],hvt,.inl ⟨rfl,.inl ⟨rfl,(l.take y).drop x,_,_,by rw[q4],by rw[hlen],?_⟩⟩⟩;by_cases hz:y=x
  ·left;subst hz;apply List.eq_nil_of_length_eq_zero;omega
  ·right;rw[if_neg (by omega)];refine⟨0+x*t.size,(us.take (y*t.size)).drop (x*t.size),cur,e',by simp[Addr.add_mid],by omega,g2,?_,?_,fun o=>by rw[g8,if_neg (by simp)]⟩
   ·exact yW8 (k:=t.size) (fun _ _ h=>zA1 h) x (yW7 (k:=t.size) (fun _ _ h=>zA1 h) y g6)
   ·intro j u hu;rw[List.getElem?_drop,List.getElem?_take] at hu;split at hu
    ·rw[← g7,List.getElem?_take] at hu;split at hu
     ·rw[Nat.zero_add];exact hu
     ·cases hu
    ·cases hu
theorem zO6 (hty:zM6 P c.tys=true){T:Nat}{x A:AVal}{v:Value}{lo hi:Option AVal}{vlo vhi:Option Value}{p:List Prop}(hx:zA G w tm none x v)
  (hlo:∀ A,lo=some A→∃ v,vlo=some v∧zA G w tm none A v) (hlo':lo=none→vlo=none)
  (hhi:∀ A,hi=some A→∃ v,vhi=some v∧zA G w tm none A v) (hhi':hi=none→vhi=none)
  (h:xS8 c T x lo hi=some (p,A)) (hp:∀ q∈p,q):∃ r,(Instr.sliceAt T v vlo vhi none).run P w=.ok r w∧zA G w tm none A r:=by
 unfold xS8 at h;split at h
 ·rename_i a b ea eb;split at h
  ·rename_i s;cases hi':c.is T .str with
   |false=>grind
   |true =>
    simp[hi'] at h;obtain⟨rfl,rfl⟩:=h;have hT:=zM7 (zB4 hty hi');rw[VRep_str.1 hx];obtain⟨x,y,h1,h2,h3,h4⟩:=zJ5 (P:=P) (G:=G) (w:=w) (tm:=tm) (b:=false) (m:=List.length (α:=UInt8) s) (Nat.le_refl _) ea eb hlo hlo' hhi hhi' (l:=s) rfl hp;refine⟨.string ⟨(((List.take y s).drop x)).toArray⟩,?_,?_⟩
    ·have hsz:(⟨List.toArray s⟩:ByteArray).size=List.length (α:=UInt8) s:=by simp[ByteArray.size]
     simp[Instr.sliceAt,run_underlying hT w,Instr.slice,hsz,h3,yT2]
    grind [yI2]
  ·rename_i t l;cases hi':c.is T (.sl t) with
   |false=>grind
   |true =>
    simp[hi'] at h;obtain⟨rfl,rfl⟩:=h;have hT:=zB4 hty hi';exact yX6 hT ((zC6 rfl).1 hx) ea eb hlo hlo' hhi hhi' hp
  ·rename_i t l U m;cases hi':c.is T (.sl t) with
   |false=>grind
   |true =>
    simp[hi'] at h;obtain⟨rfl,rfl⟩:=h;have hT:=zB4 hty hi';cases m with
    |true=>exact xM2 hT hx ea eb hlo hlo' hhi hhi' hp
    |false=>exact yX6 hT (zE1 hx) ea eb hlo hlo' hhi hhi' hp
  grind
 grind
theorem xU6:∀ {a:AVal}{vs:List Value}{k:Nat},zA G w tm none a (.tuple vs.toArray)→k<a.clen→∃ u,vs[k]?=some u∧zA G w tm none (a.nth k) u:=by
 intro a
 induction a with
 |cons h t _ iht =>
  intro vs k hr hk;obtain⟨x,xs,e,h1,h2⟩:=hr;simp only[Value.tuple.injEq] at e;have e:vs=x::xs:=by grind
  subst e;cases k with
  |zero=>exact⟨x,rfl,h1⟩
  |succ k=>simp only[AVal.clen] at hk;obtain⟨u,h3,h4⟩:=iht (k:=k) h2 (by omega);exact⟨u,by grind,h4⟩
 |_=>grind [AVal.clen]
theorem xM3 {a:AVal}{v:Value}(h:zA G w tm none a v)(hc:0<a.clen):∃ vs:List Value,v=.tuple vs.toArray:=by
 cases a<;>grind [zA,AVal.clen]
theorem yO6 {x A:AVal}{v:Value}{k:Nat}{p:List Prop}(hx:zA G w tm none x v)(h:yS2 x k=some (p,A)) :
  ∃ r,(Instr.extract v k).run P w=.ok r w∧zA G w tm none A r:=by
 unfold yS2 at h;split at h
 ·rename_i a;cases hk:Nat.blt k a.clen with
  |false=>grind
  |true =>
   have hk:k<a.clen:=Nat.le_of_ble_eq_true hk;simp only[zA] at hx;obtain⟨vs,rfl⟩:=xM3 hx (by omega);obtain⟨u,h1,h2⟩:=xU6 hx hk;simp_all [Instr.extract]
 grind
def zH8 {α β:Type}(R:α→β→Prop):List α→List β→Prop
 |[],[]=>True
 |a::r,b::s=>R a b∧zH8 R r s
 |_,_=>False
theorem xD3 {f:Int→Int→Int}{g:Value→Value→Sem Value}(hg:∀ k a b (w:World),(g (.int k a) (.int k b)).run P w=.ok (.int k (f a b)) w) :
  ∀ {r:List AVal}{vs:List Value}{A B:AVal}{v:Value},yV8 A=true→zA G w tm none A v→zH8 (zA G w tm none) r vs→yV7 f A r=some B →
   ∃ u,(vs.foldlM g v).run P w=.ok u w∧zA G w tm none B u:=by
 intro r
 induction r with
 |nil=>intro vs A B v hi ha hr h;cases vs<;>simp_all [zH8,yV7]
 |cons x r ih =>
  intro vs A B v hi ha hr h;cases vs with
  |nil=>grind [zH8]
  |cons u us =>
   obtain⟨hx,hr⟩:=hr;cases A with
   |val τ a =>
    cases τ with
    |int k =>
     cases x with
     |val τ' b =>
      cases τ' with
      |int k' =>
       simp only[yV7] at h;cases hk:Nat.beq (zJ1 k) (zJ1 k') with
       |false=>grind
       |true =>
        simp[hk] at h;have:=zI7 (Nat.eq_of_beq_eq_true hk);subst this;have e1:=VRep_int.1 ha;have e2:=VRep_int.1 hx;subst e2;obtain⟨z,h1,h2⟩:=ih (v:=.int k (f a b)) rfl zD5 hr h;simp_all
      |_=>grind [yV7]
     |_=>simp[yV7] at h
    |_=>grind [yV8]
   |_=>simp[yV8] at hi
theorem yQ {f:Int→Int→Int}{g:Value→Value→Sem Value}(hg:∀ k a b (w:World),(g (.int k a) (.int k b)).run P w=.ok (.int k (f a b)) w)
  {xs:List AVal}{vs:List Value}{A:AVal}{p:List Prop}(hx:zH8 (zA G w tm none) xs vs) (h:wP0 f xs=some (p,A)) :
  ∃ v r,vs=v::r∧∃ u,(r.foldlM g v).run P w=.ok u w∧zA G w tm none A u:=by
 cases xs with
 |nil=>grind [wP0]
 |cons x r =>
  cases vs with
  |nil=>grind [zH8]
  |cons v us =>
  obtain⟨hx,hr⟩:=hx;simp only[wP0] at h;cases hi:yV8 x with
  |false=>grind
  |true =>
   simp[hi] at h;cases hf:yV7 f x r with
   |none=>grind
   |some B =>
    simp[hf] at h;obtain⟨rfl,rfl⟩:=h;obtain⟨u,h1,h2⟩:=xD3 hg hi hx hr hf;exact⟨v,us,rfl,u,h1,h2⟩
theorem wF4 (k:IntKind)(a b:Int)(w:World):(Builtin.max2 (.int k a) (.int k b)).run P w=.ok (.int k (wS1 a b)) w:=by simp[Builtin.max2,wS1]
theorem wF5 (k:IntKind)(a b:Int)(w:World):(Builtin.min2 (.int k a) (.int k b)).run P w=.ok (.int k (wS2 a b)) w:=by simp[Builtin.min2,wS2]
end Go.Am
