/- The abstract machine, part 5: a typed interpreter for the program's code, and that it is sound. No condition. -/
import Derived.Test.YtmmpcldfjocfmaaGreatDoorMach4
import Derived.ChangeSame
namespace Go.Am
open Go Go.RowKit Go.ChangeShapes
variable {gtab:GlobTab}{P:Program}{w:World}
def enumSh:Nat→List Ty→List (Nat×Sh)
 |_,[]=>[]
 |i,τ::r=>(i,.val τ)::enumSh (i+1) r
def mkA:(i:Nat)→(τs:List Ty)→zB3 (enumSh i τs)→List AVal
 |_,[],_=>[]
 |i,τ::r,x=>.val τ x.1::mkA (i+1) r x.2
def wfL:(i:Nat)→(τs:List Ty)→zB3 (enumSh i τs)→Prop
 |_,[],_=>True
 |i,τ::r,x=>τ.wf x.1∧wfL (i+1) r x.2
def yE6 (P:Program):List Ty→List TypeId→Bool
 |[],[]=>true
 |τ::r,T::s=>zC2 P τ (.inl T)&&τ.deep&&yE6 P r s
 |_,_=>false
theorem beq_refl:∀ τ:Ty,Ty.beq τ τ=true:=by
 intro τ
 induction τ<;>simp_all [Ty.beq]
theorem yX8 {τ:Ty}{x:τ.den}:Ty.cast τ x=some x:=by
 grind [Ty.cast,beq_refl]
theorem xV9:∀ {τs:List Ty}{i:Nat}{x:zB3 (enumSh i τs)}{S:St},(∀ k,(mkA i τs x)[k]?=none∨(mkA i τs x)[k]?=some (S.get (i+k)))→(∀ τ∈τs,τ.isL=false)→zC7 (enumSh i τs) S=some x:=by
 intro τs
 induction τs with
 |nil=>intro i x S _ _;rfl
 |cons τ r ih =>
  intro i x S h hl;simp[enumSh,zC7];have h0:=h 0;simp only[mkA,Nat.add_zero] at h0;rcases h0 with h0|h0
  ·grind
  ·injection h0 with h0
   rw[← h0];have hx:(Sh.val τ).parse (.val τ x.1)=some x.1:=by
    simp_all [Sh.parse,AVal.as,AVal.asT,yX8]
   have hr:=ih (i:=i+1) (x:=x.2) (S:=S) (fun k=>by
    have:=h (k+1)
    grind [mkA,List.getElem?_cons_succ]) fun τ hτ=>hl τ (List.mem_cons_of_mem _ hτ)
   rw[hx,hr];rfl
theorem xM4:∀ {τs:List Ty}{i:Nat}{x:zB3 (enumSh i τs)},(mkA i τs x).length=τs.length∧(enumSh i τs).length=τs.length:=by
 intro τs
 induction τs with
 |nil=>exact⟨rfl,rfl⟩
 |cons τ r ih=>intro i x;simp[mkA,enumSh,(ih (i:=i+1) (x:=x.2)).1,(ih (i:=i+1) (x:=x.2)).2]
theorem xD5:∀ {τs:List Ty}{Ts:List TypeId},yE6 P τs Ts=true→∀ τ∈τs,τ.isL=false:=by
 intro τs
 induction τs with
 |nil=>grind
 |cons σ r ih =>
  intro Ts h τ hτ;cases Ts<;>grind [yE6,zC4]
section
variable {H:Type}{enc:TypeId×Value→H}
theorem wF3 {τ:Ty}{T:TypeId}{v:Value}(hT:zC2 P τ (.inl T)=true)(ha:τ.isAgg=false)(hd:τ.deep=true){base:Nat}(h:Value.okWide P w .any base T v):∀ cs,v≠.agg cs:=by
 intro cs e;unfold Value.okWide at h;cases τ with
 |st f=>grind [Ty.isAgg]
 |arr n t=>grind [Ty.isAgg]
 |ptr t=>grind [Ty.deep]
 |nl=>grind [zC2]
 |cons a b=>grind [zC2]
 |int k =>
  have hu:P.underlying T=some (.int k):=by
   simp[zC2] at hT;cases hu:P.underlying T with
   |none=>grind
   |some d=>rw[hu] at hT;cases d<;>simp at hT;grind [zH9]
  simp_all [Cell.okWide,Cell.ok]
 |bool =>
  have hu:P.underlying T=some .bool:=by
   grind [zC2]
  simp_all [Cell.okWide,Cell.ok]
 |str =>
  have hu:=zN4 hT;simp_all [Cell.okWide,Cell.ok]
 |sl t =>
  obtain⟨e,hu,_⟩:=zG hT;simp_all [Cell.okWide,Cell.ok]
theorem wI {τ:Ty}{T:TypeId}{v:Value}(hT:zC2 P τ (.inl T)=true)(ha:τ.isAgg=true){base:Nat}(h:Value.okWide P w .any base T v):∃ cs,v=.agg cs:=by
 unfold Value.okWide at h;cases τ<;>grind [zX1,zU2,Ty.isAgg]
theorem xW {G:Gh}(hχ:∀ b o,b<w.heap.size→G.χ b o=0):∀ {τs:List Ty}{Ts:List TypeId}{vs:List Value}{ds:List (DataW H)}{ps:List MemPlace}{i base:Nat},yE6 P τs Ts=true →
  DataW.TrodAll enc P w 0 (fun _=>true) true Ts vs ds ps→(∀ (j:Nat) t v,Ts[j]?=some t→vs[j]?=some v→Value.okWide P w .any base t v) →
  ∃ x:zB3 (enumSh i τs),vs.length=τs.length∧wfL i τs x∧∀ (k:Nat) A v,(mkA i τs x)[k]?=some A→vs[k]?=some v→zA G w #[] (some (i+k)) A v:=by
 intro τs
 induction τs with
 |nil =>
  intro Ts vs ds ps i base ht h _;cases Ts with
  |cons T s=>grind [yE6]
  |nil =>
   cases vs with
   |nil=>exact⟨(),rfl,trivial,fun k A v h=>by grind⟩
   |cons v vs=>grind [DataW.TrodAll]
 |cons τ r ih =>
  intro Ts vs ds ps i base ht h hok;cases Ts with
  |nil=>grind [yE6]
  |cons T s =>
   cases vs with
   |nil=>grind [DataW.TrodAll]
   |cons v vs =>
    cases ds with
    |nil=>grind [DataW.TrodAll]
    |cons d ds =>
     simp[yE6] at ht;obtain⟨⟨h1,h2⟩,h3⟩:=ht;obtain⟨p,q,⟨fl,hd⟩,hr,_⟩:=h;obtain⟨x,hx,hwf⟩:=(wC4 hχ τ).1 T fl _ d p h1 h2 hd;obtain⟨y,hy1,hy2,hy3⟩:=ih (i:=i+1) h3 hr fun j t v ht hv=>hok (j+1) t v (by grind) (by simpa using hv);refine⟨(x,y),by simp[hy1],⟨hwf,hy2⟩,fun k A u hA hu=>?_⟩;cases k with
     |zero =>
      simp[mkA] at hA hu;subst hA;subst hu;refine⟨_,hx,?_⟩;have hv:=hok 0 T v rfl rfl;cases ha:τ.isAgg with
      |true =>
       obtain⟨cs,rfl⟩:=wI h1 ha hv;simp[Value.cells]
      |false =>
       have:=wF3 h1 ha h2 hv;cases v with
       |agg cs=>exact absurd rfl (this cs)
       |_=>rfl
     |succ k =>
      have:=hy3 k A u hA hu
      rwa [show i+1+k=i+(k+1) by omega] at this
theorem law_calls {τs:List Ty}{Ts:List TypeId}{f:Nat}{ok:zB3 (enumSh 0 τs)→Prop}{F:zB3 (enumSh 0 τs)→Bool}{o:zB3 (enumSh 0 τs)→zT8 []}(hs:SpecOk P f (fnSpec (enumSh 0 τs) (.val .bool) [] ok F o))
  (hty:yE6 P τs Ts=true) (hn:Nat.ble τs.length zA7=true) (hlaw:∀ x,wfL 0 τs x→ok x∧F x=true){args:Array Value}{ds:List (DataW H)}{ps:List MemPlace}{base:Nat}(hA:DataW.TrodAll enc P w 0 (fun _=>true) true Ts args.toList ds ps)
  (hok:∀ (j:Nat) t v,Ts[j]?=some t→args.toList[j]?=some v→Value.okWide P w .any base t v) (hglob:GlobOk (fun b _=>if b<w.heap.size then 0 else 2) w) :
  Calls P f args w fun e w'=>e=.returned (.bool true)∧Below w.heap.size w w':=by
 let G:Gh:=⟨fun b _=>if b<w.heap.size then 0 else 2,fun _=>0,fun _=>0⟩
 have hχ:∀ b o,b<w.heap.size→G.χ b o=0:=fun b o hb=>by grind
 obtain⟨x,h1,h2,h3⟩:=xW (G:=G) hχ (i:=0) hty hA hok;obtain⟨hokx,hFx⟩:=hlaw x h2;have hlen:=xM4 (τs:=τs) (i:=0) (x:=x);have hn:τs.length≤zA7:=Nat.le_of_ble_eq_true hn;have hpar:zC7 (enumSh 0 τs) (zW3 0 (mkA 0 τs x))=some x:=xV9 (fun k=>by
  by_cases hk:k<τs.length
  ·have:=yL0 (s:=k) (args:=mkA 0 τs x) (i:=0) (by omega) (by omega) (by omega);simp_all
  grind) (xD5 hty)
 have hsp:fnSpec (enumSh 0 τs) (.val .bool) [] ok F o (mkA 0 τs x)=some ⟨[ok x],.val .bool (F x),[],[]⟩:=by
  unfold fnSpec;rw[hlen.1,hlen.2,Nat.beq_refl,cond_true,hpar];rfl
 have hcall:=hs.2 _ _ hsp (fun q hq=>by grind) G w args.toList (by rw[h1,hlen.1]) hglob (fun i A v hA hv=>by
  have:=h3 i A v hA hv
  rwa [Nat.zero_add] at this)
 refine hcall.mono ?_;rintro e w' ⟨v,G',rfl,hfr,hres,_⟩;have hv:=(zC rfl).1 hres;simp[zB5] at hv;rw[hv,hFx];refine⟨rfl,hfr.os,hfr.tape,hfr.output,hfr.size,fun k hk=>hfr.block k hk fun o=>?_⟩
 grind
end
theorem below_trods {H:Type}{enc:TypeId×Value→H}(hl:laidOutB P=true):∀ {Ts:List TypeId}{vs:List Value}{ds:List (DataW H)}{ps:List MemPlace}{W W':World}{sp:Nat→Bool},Ts.all (fun t=>P.readableRec t&&Nat.blt t P.types.size)=true →
  DataW.TrodAll enc P W 0 (fun _=>true) true Ts vs ds ps→Below W.heap.size W W'→(∀ x∈ps,x.block<W.heap.size)→(∀ p∈ps,sp p.block=true)→DataW.TrodAll enc P W' 0 sp true Ts vs ds ps:=by
 intro Ts
 induction Ts with
 |nil=>grind [DataW.TrodAll]
 |cons T s ih =>
  intro vs ds ps W W' sp ht h hb hlt hsp;cases vs with
  |nil=>grind [DataW.TrodAll]
  |cons v vs =>
   cases ds with
   |nil=>grind [DataW.TrodAll]
   |cons d ds =>
    simp only[List.all_cons,Bool.and_eq_true] at ht;obtain⟨p,q,h1,h2,rfl⟩:=h;refine⟨p,q,WideElems.Trod_stays hl ht.1.1 (Nat.blt_eq.mp ht.1.2) h1 (fun x hx=>hb.same (hlt x (List.mem_append_left _ hx))) (fun x hx=>hsp x (List.mem_append_left _ hx)),?_,rfl⟩
    grind
theorem trod_len1 {H:Type}{enc:TypeId×Value→H}{T0:TypeId}{vs:List Value}{ds:List (DataW H)}{ps:List MemPlace}{sp:Nat→Bool}{hd:Bool}(h:DataW.TrodAll enc P w 0 sp hd [T0] vs ds ps):∃ d0,ds=[d0]:=by
 match vs,ds,h with
 |[_],[d0],_=>simp_all
 |[],[],h=>grind [DataW.TrodAll]
 |[],_::_,h=>grind [DataW.TrodAll]
 |_::_,[],h=>grind [DataW.TrodAll]
 |[_],_::_::_,h=>grind [DataW.TrodAll]
 |_::_::_,_::_,h=>grind [DataW.TrodAll]
theorem post_law {H:Type}{enc:TypeId×Value→H}{f:Func}{s:ChangeSpec}{W W':World}{args:Array Value}{v:Value}{ds gs:List (DataW H)}{before pa pv:List MemPlace}
  (hW:DataW.Whole enc P f.params.toList s.vars false W args.toList ds gs before)
  (hres:∀ (b:Nat) (sp:Nat→Bool) (hd:Bool),DataW.TrodAll enc P W' b sp hd f.resultTypes.toList (v.resultList f.resultTypes.size) (s.fn H (ds++gs)).results [])
  (hargs:∀ sp:Nat→Bool,(∀ p∈before,sp p.block=true)→DataW.TrodAll enc P W' 0 sp true f.params.toList args.toList (s.fn H (ds++gs)).args pa)
  (hvars:∀ sp:Nat→Bool,(∀ p∈before,sp p.block=true)→DataW.TrodVars enc P W' sp s.vars (s.fn H (ds++gs)).vars pv)
  (hps:before=pa++pv) (hk:W.keptBut W' (·∈before)):s.post enc P f false true false false W args v W':=by
 have hold:∀ p∈before,(fun b=>decide (b<W.heap.size)) p.block=true:=fun p hp=>by simpa using hW.lt p hp
 refine⟨ds,gs,before,[],pa,pv,hW,hres _ _ _,hargs _ hold,hvars _ hold,World.keptBut_mono (fun p hp=>⟨hp,?_⟩) hk,fun h=>by grind⟩
 grind
def zeroV (P:Program)(T:TypeId):Value:=((P.info? T).bind (·.zero)).getD undef
def wK9:DataW Unit→Value
 |.lit (.int k n)=>.int k n
 |_=>undef
def flat1:DataW Unit→List Value
 |.agg l=>l.map wK9
 |.lit (.int k n)=>[.int k n]
 |_=>[]
def flat2:DataW Unit→List Value
 |.agg l=>l.flatMap flat1
 |_=>[]
def putG (h:Array Obj)(g:Nat)(cs:List Value):Array Obj:=h.modify g fun
 |.cells _ t frozen=>.cells cs.toArray t frozen
 |o=>o
def rangeLen:DataW Unit→Nat
 |.ptr (.agg (.slice l _::_))=>l.length
 |_=>0
def rangeLatin:DataW Unit→Value
 |.ptr (.agg [_,_,d])=>wK9 d
 |_=>undef
def rangeCells:DataW Unit→List Value
 |.ptr (.agg (.slice l _::_))=>l.flatMap flat1
 |_=>[]
end Go.Am
namespace Go.Am
open Go
end Go.Am
namespace Go.Am
open Go Go.RowKit
variable {gtab:GlobTab}{P:Program}
theorem wI0 {f:Nat}{t:Ty}{rs:Sh}{o0:zB3 [(0,Sh.nn true)]→zT8 []}{o1:zB3 [(0,Sh.nn false)]→zT8 []}{o2:zB3 [(0,Sh.val (.sl t))]→zT8 []}{ok0:zB3 [(0,Sh.nn true)]→Prop}{ok1:zB3 [(0,Sh.nn false)]→Prop}{ok2:zB3 [(0,Sh.val (.sl t))]→Prop}
  {F0:zB3 [(0,Sh.nn true)]→rs.den}{F1:zB3 [(0,Sh.nn false)]→rs.den}{F2:zB3 [(0,Sh.val (.sl t))]→rs.den}(h0:SpecOk P f (fnSpec [(0,.nn true)] rs [] ok0 F0 o0)) (h1:SpecOk P f (fnSpec [(0,.nn false)] rs [] ok1 F1 o1))
  (h2:SpecOk P f (fnSpec [(0,.val (.sl t))] rs [] ok2 F2 o2)){F:List t.den→rs.den}{ok:List t.den→Prop}{o:zB3 [(0,Sh.val (.sl t))]→zT8 []}(hok0:ok0 ((),())) (hok1:ok1 ((),())) (hok2:∀ l:List t.den,ok l→0<l.length→ok2 (l,()))
  (e0:F []=F0 ((),())) (e1:F []=F1 ((),())) (e2:∀ l:List t.den,F l=F2 (l,())) :
  SpecOk P f (fnSpec [(0,.val (.sl t))] rs [] (fun x=>ok x.1) (fun x=>F x.1) o):=by
 refine⟨h0.1,fun args co hsp hok G w vals hlen hglob hreps=>?_⟩;unfold fnSpec at hsp;generalize hal:Nat.beq args.length _=b at hsp;cases b with
 |false=>cases hsp
 |true =>
  simp only[cond_true] at hsp;split at hsp
  ·rename_i x hx;injection hsp with hsp
   subst hsp;have hl:args.length=1:=Nat.eq_of_beq_eq_true hal;obtain⟨A,rfl⟩:∃ A,args=[A]:=by
    match args,hl with
    |[A],_=>exact⟨A,rfl⟩
   obtain⟨v,rfl⟩:∃ v,vals=[v]:=by
    match vals,hlen with
    |[v],_=>exact⟨v,rfl⟩
   obtain⟨l,_⟩:=x;have hp:(Sh.val (.sl t)).parse A=some l:=by
    simp only[zC7,zW3,St.get] at hx;split at hx
    ·rename_i y z hy _;simp only[Option.some.injEq,Prod.mk.injEq] at hx;rw[← hx.1];simpa using hy
    ·cases hx
   have hokl:ok l:=hok _ (List.mem_singleton.2 rfl);have hA:=zE5 hp (hreps 0 A v rfl rfl);simp only[Sh.mk,zA] at hA;rw[zC rfl] at hA;have hC:=hA;simp only[zB5] at hA;obtain⟨a,cap,hv,hA⟩:=hA;injection hv with hv _
   have run:∀ {s:Sh}{y:s.den}{ok':zB3 [(0,s)]→Prop}{F':zB3 [(0,s)]→rs.den}{o':zB3 [(0,s)]→zT8 []},SpecOk P f (fnSpec [(0,s)] rs [] ok' F' o')→(∀ S:St,s.parse (s.mk y)=some y)→ok' (y,())→F l=F' (y,())→zA G w #[] (some 0) (s.mk y) v →
     Calls P f [v].toArray w fun e w'=>∃ v' G',e=.returned v'∧Frame0 G.χ w G'.χ w'∧zA G' w' #[] none (rs.mk (F l)) v' ∧
      (∀ (i:Nat) k A' u,(i,k)∈mkO [] (o (l,()))→[A][i]?=some A'→[v][i]?=some u→(∀ τ k0,A'=.box τ k0→zA G' w' #[] (some i) (.box τ k) u∧G'.β i=G.β i)∧(zG0 A'=false→zA G' w' #[] none k u))∧∀ k B,(k,B)∈xU5 [] (o (l,()))→zA G' w' #[] (some k) B undef:=by
    intro s y ok' F' o' hs hpar hok' hF' hrep;have hsp:fnSpec [(0,s)] rs [] ok' F' o' [s.mk y]=some ⟨[ok' (y,())],rs.mk (F' (y,())),mkO [] (o' (y,())),[]⟩:=by
     have:zC7 [(0,s)] (zW3 0 [s.mk y])=some (y,()):=by simp[zC7,zW3,St.get,hpar []]
     unfold fnSpec;rw[this];rfl
    refine (hs.2 _ _ hsp (fun q hq=>by simp only[List.mem_singleton] at hq;subst hq;exact hok') G w [v] rfl hglob (fun i A' v' h1 h2=>?_)).mono ?_
    ·match i,h1,h2 with
     |0,h1,h2=>simp only[List.getElem?_cons_zero,Option.some.injEq] at h1 h2;subst h1;subst h2;exact hrep
     |i+1,h1,_=>simp at h1
    ·rintro e w' ⟨v',G',rfl,q1,q2,_⟩;exact⟨v',G',rfl,q1,by rw[hF'];exact q2,(fun i k A' u h=>by cases h),fun k B h=>by cases h⟩
   rcases hA with hA | ⟨b,o2',us,ha,_⟩
   ·have hl0:l=[]:=hA;subst hl0;cases a with
    |none=>exact run (s:=.nn true) (y:=()) h0 (fun _=>rfl) hok0 e0 (by simp only[Sh.mk,zA];exact⟨none,cap,hv,rfl⟩)
    |some ad=>exact run (s:=.nn false) (y:=()) h1 (fun _=>rfl) hok1 e1 (by simp only[Sh.mk,zA];exact⟨some ad,cap,hv,rfl⟩)
   ·have hpos:0<List.length (α:=t.den) l∨l=[]:=by
     cases l with
     |nil=>exact .inr rfl
     |cons _ _=>exact .inl (by simp)
    rcases hpos with hpos|hl0
    ·refine run (s:=.val (.sl t)) (y:=l) h2 (fun _=>?_) (hok2 l hokl hpos) (e2 l) (by simp only[Sh.mk,zA];exact (zC rfl).2 hC);simp only[Sh.parse,Sh.mk,Ty.isL,cond_false,AVal.as,AVal.asT];exact yX8
    ·subst hl0;subst ha;exact run (s:=.nn false) (y:=()) h1 (fun _=>rfl) hok1 e1 (by simp only[Sh.mk,zA];exact⟨_,cap,hv,rfl⟩)
  ·cases hsp
end Go.Am
namespace Go.Am
open Go Go.RowKit
variable {gtab:GlobTab}{P:Program}{w:World}{χ:Nat→Nat→Nat}
section
variable {H:Type}{enc:TypeId×Value→H}{sp:Nat→Bool}{held:Bool}
end
end Go.Am
namespace Go.Am
open Go Go.RowKit
variable {gtab:GlobTab}{P:Program}
theorem xD6 {χ:Nat→Nat→Nat}{w:World}:Frame0 χ w χ w:=⟨rfl,rfl,rfl,Nat.le_refl _,fun _ _ _=>rfl,fun _ _ _ _=>⟨rfl,rfl⟩⟩
theorem xM5 {f:Nat}{τ:Ty}{rs:Sh}{ok:τ.den→Prop}{F:τ.den→rs.den}{o:zB3 [(0,Sh.val τ)]→zT8 []}(hfn:∃ fn,P.funcs[f]?=some fn∧fn.body.isSome=true∧fn.name≠"runtime.NumGoroutine")
  (H:∀ x,ok x→∀ (G:Gh) (w:World) (v:Value),GlobOk G.χ w→zS1 G.χ w τ x v→Calls P f #[v] w fun e w'=>∃ u G',e=.returned u∧Frame0 G.χ w G'.χ w'∧zA G' w' #[] none (rs.mk (F x)) u) :
  SpecOk P f (fnSpec [(0,.val τ)] rs [] (fun x=>ok x.1) (fun x=>F x.1) o):=by
 refine⟨hfn,fun args co hsp hok G w vals hlen hglob hreps=>?_⟩;unfold fnSpec at hsp;generalize hal:Nat.beq args.length _=b at hsp;cases b with
 |false=>cases hsp
 |true =>
  simp only[cond_true] at hsp;split at hsp
  ·rename_i x hx;injection hsp with hsp
   subst hsp;have hl:args.length=1:=Nat.eq_of_beq_eq_true hal;obtain⟨A,rfl⟩:∃ A,args=[A]:=by
    match args,hl with
    |[A],_=>exact⟨A,rfl⟩
   obtain⟨v,rfl⟩:∃ v,vals=[v]:=by
    match vals,hlen with
    |[v],_=>exact⟨v,rfl⟩
   obtain⟨l,_⟩:=x;have hp:(Sh.val τ).parse A=some l:=by
    simp only[zC7,zW3,St.get] at hx;split at hx
    ·rename_i y z hy _;simp only[Option.some.injEq,Prod.mk.injEq] at hx;rw[← hx.1];simpa using hy
    ·cases hx
   have hA:=zE5 hp (hreps 0 A v rfl rfl);simp only[Sh.mk,zA] at hA;refine (H l (hok _ (List.mem_singleton.2 rfl)) G w v hglob hA).mono ?_;rintro e w' ⟨u,G',rfl,q1,q2⟩;exact⟨u,G',rfl,q1,q2,(fun i k A' u h=>by cases h),fun k B h=>by cases h⟩
  ·cases hsp
theorem xM6 {f:Nat}{τ σ:Ty}{rs:Sh}{ok:τ.den→σ.den→Prop}{F:τ.den→σ.den→rs.den}{o:zB3 [(0,Sh.val τ),(1,Sh.val σ)]→zT8 []}(hfn:∃ fn,P.funcs[f]?=some fn∧fn.body.isSome=true∧fn.name≠"runtime.NumGoroutine")
  (H:∀ x y,ok x y→∀ (G:Gh) (w:World) (v u:Value),GlobOk G.χ w→zS1 G.χ w τ x v→zS1 G.χ w σ y u→Calls P f #[v,u] w fun e w'=>∃ r G',e=.returned r∧Frame0 G.χ w G'.χ w'∧zA G' w' #[] none (rs.mk (F x y)) r) :
  SpecOk P f (fnSpec [(0,.val τ),(1,.val σ)] rs [] (fun x=>ok x.1 x.2.1) (fun x=>F x.1 x.2.1) o):=by
 refine⟨hfn,fun args co hsp hok G w vals hlen hglob hreps=>?_⟩;unfold fnSpec at hsp;generalize hal:Nat.beq args.length _=b at hsp;cases b with
 |false=>cases hsp
 |true =>
  simp only[cond_true] at hsp;split at hsp
  ·rename_i x hx;injection hsp with hsp
   subst hsp;have hl:args.length=2:=Nat.eq_of_beq_eq_true hal;obtain⟨A,B,rfl⟩:∃ A B,args=[A,B]:=by
    match args,hl with
    |[A,B],_=>exact⟨A,B,rfl⟩
   obtain⟨v,u,rfl⟩:∃ v u,vals=[v,u]:=by
    match vals,hlen with
    |[v,u],_=>exact⟨v,u,rfl⟩
   obtain⟨l,m,_⟩:=x;have hp:(Sh.val τ).parse A=some l∧(Sh.val σ).parse B=some m:=by
    simp only[zC7,zW3,St.get] at hx;split at hx
    ·rename_i y z hy hz;simp only[Option.some.injEq,Prod.mk.injEq] at hx;split at hz
     ·rename_i y' z' hy' _;simp only[Option.some.injEq] at hz;rw[← hz] at hx;simp only[Prod.mk.injEq] at hx;rw[← hx.1,← hx.2.1];exact⟨by simpa using hy,by simpa[Nat.beq,zA7] using hy'⟩
     ·cases hz
    ·cases hx
   have hA:=zE5 hp.1 (hreps 0 A v rfl rfl);have hB:=zE5 hp.2 (hreps 1 B u rfl rfl);simp only[Sh.mk,zA] at hA hB;refine (H l m (hok _ (List.mem_singleton.2 rfl)) G w v u hglob hA hB).mono ?_;rintro e w' ⟨r,G',rfl,q1,q2⟩;exact⟨r,G',rfl,q1,q2,(fun i k A' u h=>by cases h),fun k B h=>by cases h⟩
  ·cases hsp
theorem wI1 {f:Nat}{F:List UInt8→List UInt8→Int}{o:zB3 [(0,Sh.val .str),(1,Sh.val .str)]→zT8 []}(hfn:∃ fn,P.funcs[f]?=some fn∧fn.body.isSome=true∧fn.name≠"runtime.NumGoroutine")
  (H:∀ (s:ByteArray) (c:UInt8) (w:World),Calls P f #[.string s,.string ⟨#[c]⟩] w fun e w'=>e=.returned (.int .i64 (F s.data.toList [c]))∧w'=w) :
  SpecOk P f (fnSpec [(0,.val .str),(1,.val .str)] (.val (.int .i64)) [] (fun x=>List.length x.2.1=1) (fun x=>F x.1 x.2.1) o):=by
 refine xM6 (τ:=.str) (σ:=.str) (rs:=.val (.int .i64)) (ok:=fun _ y=>List.length y=1) (F:=F) hfn fun x y hy G w v u _ hv hu=>?_;rw[zC rfl] at hv hu;simp only[zB5] at hv hu;injection hv with hv _
 injection hu with hu _
 match y,hy with
 |[c],_ =>
  subst hv hu;refine (H ⟨List.toArray x⟩ c w).mono ?_;rintro e w' ⟨rfl,rfl⟩;refine⟨_,G,rfl,xD6,?_⟩;simp only[Sh.mk,zA];rw[zC rfl];simp[zB5]
theorem xW0 {χ:Nat→Nat→Nat}{w:World}:∀ {l:List (List UInt8)},zL6 (zB5 χ w .str) l (l.map fun x=>Value.string ⟨x.toArray⟩):=by
 intro l
 induction l with
 |nil=>simp[zL6]
 |cons x l ih=>exact⟨[.string ⟨x.toArray⟩],_,rfl,by simp only[zB5],ih⟩
theorem xW1 {χ:Nat→Nat→Nat}{w:World}{k:IntKind}:∀ {l:List Int}{vs:List Value},zL6 (zB5 χ w (.int k)) l vs→vs=l.map (Value.int k):=by
 intro l
 induction l with
 |nil=>intro vs h;simpa[zL6] using h
 |cons x l ih =>
  rintro vs ⟨us,ws,rfl,h1,h2⟩;simp only[zB5] at h1;rw[h1,ih h2];rfl
theorem wJ2 {χ:Nat→Nat→Nat}{w:World}(h:GlobOk χ w){g n:Nat}{k:IntKind}{l:List Int}(hm:(g,(⟨.arr n (.int k),l⟩:(τ:Ty)×τ.den))∈GlobTab.tab)(c:Nat)(hc:c<n):w.cell? ⟨g,c,none⟩=some (.int k (l.getD c 0)):=by
 obtain⟨vs,h1,h2⟩:=h g (.arr n (.int k)) l hm;unfold zB5 at h1;obtain⟨h1,h3⟩:=h1;have e:=xW1 h3;subst e;have hlen:List.length (α:=Int) l=n:=h1;have:=(h2 c (.int k (l.getD c 0)) (by
  rw[List.getElem?_map,List.getElem?_eq_getElem (by omega),List.getD_eq_getElem?_getD,List.getElem?_eq_getElem (by omega)];rfl)).1
 simpa using this
theorem wI2 {f:Nat}{F:List UInt8→List (List UInt8)}{e:TypeId}{ok:List UInt8→Prop}{o:zB3 [(0,Sh.val .str)]→zT8 []}(hfn:∃ fn,P.funcs[f]?=some fn∧fn.body.isSome=true∧fn.name≠"runtime.NumGoroutine")
  (H:∀ (s:ByteArray) (w:World) (χ:Nat→Nat→Nat),ok s.data.toList→GlobOk χ w→Calls P f #[.string s] w fun e' w'=>e'=.returned (.slice (some ⟨w.heap.size,0,none⟩) (F s.data.toList).length (F s.data.toList).length) ∧
   w'=w.alloc (.cells ((F s.data.toList).map fun l=>Value.string ⟨l.toArray⟩).toArray e)) :
  SpecOk P f (fnSpec [(0,.val .str)] (.val (.sl .str)) [] (fun x=>ok x.1) (fun x=>F x.1) o):=by
 refine xM5 (τ:=.str) (rs:=.val (.sl .str)) (ok:=ok) (F:=F) hfn fun x hx G w v hglob hv=>?_;rw[zC rfl] at hv;simp only[zB5] at hv;injection hv with hv _
 subst hv;refine (H ⟨List.toArray x⟩ w G.χ (by simpa using hx) hglob).mono ?_;rintro e' w' ⟨rfl,rfl⟩
 let G':Gh:={ G with χ:=fun b o=>if b=w.heap.size then 0 else G.χ b o }
 refine⟨_,G',rfl,⟨rfl,rfl,rfl,by simp,fun b hb _=>Below.heap_alloc _ _ _ hb,fun b o hb _=>⟨if_neg (by omega),World.cell?_alloc_old _ _ _ (by simp only;omega)⟩⟩,?_⟩;simp only[Sh.mk,zA];rw[zC rfl];unfold zB5;refine⟨_,_,rfl,.inr ⟨w.heap.size,0,_,rfl,Nat.le_refl _,xW0,fun j v hv=>⟨?_,if_pos rfl⟩⟩⟩;simp only[World.cell?,World.alloc_heap_new,Nat.zero_add];simpa using hv
end Go.Am
namespace Go.Am
open Go Go.RowKit
variable {gtab:GlobTab}{P:Program}{c:Ctx}
def xW2:Code→Option Code
 |.seq a b=>match xW2 a with|some x=>some x|none=>xW2 b
 |.block _ a=>xW2 a
 |.rangeFunc _ _ _ b=>some b
 |_=>none
def wD3 [GlobTab] (c:Ctx)(code:Code)(S:St):Bool:=match eval c code S with
 |some o=>o.comps.all fun x=>Nat.beq x.kind 0
 |none=>false
def wF4 [GlobTab] (P:Program)(c:Ctx)(code:Code)(ps os:List (Nat×Sh))(ok:zB3 ps→Prop)(o:zB3 ps→zT8 os):Prop:=
 ∀ x,ok x→∀ (rd:Option Nat) (χ0:Nat→Nat→Nat) (w0:World) (a:Act) (w:World) (G:Gh),Rel c.n χ0 w0 (zB7 ps x) a w G →
  code.wpIn (fz rd) 0 P (fun e a' w'=>e=.normal∧(∀ i∈c.keep,a'.tmps.getD i undef=a.tmps.getD i undef) ∧
   ∃ G' d,Rel c.n χ0 w0 (d++zB7 ps x) a' w' G'∧zO os (d++zB7 ps x)=some (o x)) a w
theorem wI3 (hc:CtxOk P c)(hm:P.follows .mixedOrders=true){code:Code}{bs:List Code}(hbs:zG9 code=bs)(hL:zO0 P c bs)(hw:zC8 c.keep code=true){ps os:List (Nat×Sh)}{ok:zB3 ps→Prop}{rs:Sh}{F:zB3 ps→rs.den}{o:zB3 ps→zT8 os}
  (hon:∀ x,wD3 c code (zB7 ps x)=true) (hsum:∀ x,xD2 c code [] ps rs os x=some (ok x,F x,o x)):wF4 P c code ps os ok o:=by
 intro x hx rd χ0 w0 a w G hR;have h:=hsum x;have hon:=hon x;unfold xD2 at h;unfold wD3 at hon;split at h
 ·cases h
 ·rename_i out ho;rw[ho] at hon;simp only at hon;split at h
  ·cases h
  ·rename_i d hd;split at h
   ·rename_i r z hr hz;split at h
    ·rename_i v hv;simp only[Option.some.injEq,Prod.mk.injEq] at h;obtain⟨e1,_,rfl⟩:=h;refine wpIn_mono (zV9 hc hm (yL1 hbs hL) hw ho (AllP_iff.1 (by rw[e1];exact hx)) rd χ0 w0 (fun i=>a.tmps.getD i undef) a w G hR (fun i _=>rfl)) ?_;rintro e a' w' ⟨hP,hk⟩;obtain⟨_,G',hR'⟩:=yR7 hd hP;refine⟨?_,hk,G',d,hR',hz⟩;obtain⟨k,cp,G2,h1,h2,_⟩:=hP;have:=List.all_eq_true.1 hon cp (yX5 h2);rw[zP6 h2] at this;have:=Nat.eq_of_beq_eq_true this;subst this;cases e with
     |normal=>rfl
     |ret=>simp[zB] at h1
     |exit id=>simp[zB] at h1
     |_=>simp[zB] at h1
    ·cases h
   ·cases h
end Go.Am
namespace Go.Am
open Go Go.RowKit
variable {gtab:GlobTab}{P:Program}{c:Ctx}
def xW3 {α β:Type}(ok:β→α→Prop)(next:β→α→β):List α→β→Prop
 |[],_=>True
 |x::r,l=>ok l x∧xW3 ok next r (next l x)
def xW4 {α β:Type}{ok:β→α→Prop}{next:β→α→β}(h:∀ l x,Decidable (ok l x)):(xs:List α)→(l:β)→Decidable (xW3 ok next xs l)
 |[],_=>isTrue trivial
 |x::r,l=>@instDecidableAnd _ _ (h l x) (xW4 h r (next l x))
theorem wI4 {α β:Type}{ok:β→α→Prop}{next:β→α→β}:∀ {pre:List α}{x:α}{rest:List α}{l:β},xW3 ok next (pre++x::rest) l→ok (pre.foldl next l) x:=by
 intro pre
 induction pre with
 |nil=>intro x rest l h;exact h.1
 |cons y pre ih=>intro x rest l h;exact ih h.2
theorem xW5:∀ (A:AVal) (s:Option Nat),¬ A.names (·=1) (fun _=>False) s:=by
 intro A
 induction A with
 |own t l T m=>intro s;simp only[AVal.names,zB0];omega
 |ownh t l T i U m=>intro s;simp only[AVal.names,zB0];omega
 |opt _ _ _ A ih=>intro s;simp only[AVal.names];exact ih none
 |box τ b ih =>
  intro s;cases s with
  |none=>simp only[AVal.names];exact ih none
  |some s=>simp only[AVal.names,not_or];exact⟨by simp only[zE1];omega,ih none⟩
 |may m τ b ih =>
  intro s;cases s with
  |none=>simp only[AVal.names];exact ih none
  |some s=>simp only[AVal.names,not_or];exact⟨by simp only[zE1];omega,ih none⟩
 |cons x y ihx ihy=>intro s;simp only[AVal.names,not_or];exact⟨ihx none,ihy none⟩
 |agg f b ih=>intro s;simp only[AVal.names];exact ih none
 |tup b ih=>intro s;simp only[AVal.names];exact ih none
 |fn f b ih=>intro s;simp only[AVal.names];exact ih none
 |raw =>
  intro s;cases s with
  |none=>simp[AVal.names]
  |some s=>simp only[AVal.names,zE1];omega
 |_=>intro s;simp[AVal.names]
theorem xD7 {G:Gh}{W W':World}{b:Nat}(hχ:∀ o,G.χ b o=1)(h:∀ k,k≠b→W'.heap[k]?=W.heap[k]?)(hs:W.heap.size≤W'.heap.size):Ext (·=1) (fun _=>False) G W G W':=by
 refine⟨fun b' o _ h0=>⟨h0,?_⟩,fun b' _ hn=>⟨h b' ?_,fun _=>rfl⟩,hs,fun _ _=>rfl,fun _ _=>rfl,fun _ h=>h.elim⟩
 ·have hne:b'≠b:=by intro e;subst e;rw[hχ o] at h0;cases h0
  simp only[World.cell?,h b' hne]
 ·intro e;subst e;exact hn 0 (hχ 0)
theorem Frame0.trans {χ0 χ1 χ2:Nat→Nat→Nat}{w0 w1 w2:World}(h:Frame0 χ0 w0 χ1 w1)(k:Frame0 χ1 w1 χ2 w2):Frame0 χ0 w0 χ2 w2:=by
 refine⟨k.os.trans h.os,k.tape.trans h.tape,k.output.trans h.output,Nat.le_trans h.size k.size,fun b hb hc=>?_,fun b o hb hc=>?_⟩
 ·rw[k.block b (Nat.lt_of_lt_of_le hb h.size) (fun o=>by rw[(h.cell b o hb (hc o)).1];exact hc o)];exact h.block b hb hc
 ·have h1:=h.cell b o hb hc;have h2:=k.cell b o (Nat.lt_of_lt_of_le hb h.size) (by rw[h1.1];exact hc);exact⟨h2.1.trans h1.1,h2.2.trans h1.2⟩
theorem Frame0.beyond {χ0 χ:Nat→Nat→Nat}{w0 W W':World}{b:Nat}(h:Frame0 χ0 w0 χ W)(hb:w0.heap.size≤b)(hW:∀ k,k≠b→W'.heap[k]?=W.heap[k]?)(hs:W'.heap.size=W.heap.size)(hst:W'.os=W.os∧W'.tape=W.tape∧W'.output=W.output) :
  Frame0 χ0 w0 χ W':=by
 refine⟨hst.1.trans h.os,hst.2.1.trans h.tape,hst.2.2.trans h.output,by rw[hs];exact h.size,fun k hk hc=>?_,fun k o hk hc=>?_⟩
 ·rw[hW k (by omega)];exact h.block k hk hc
 ·have h1:=h.cell k o hk hc;refine⟨h1.1,?_⟩;rw[← h1.2];simp only[World.cell?,hW k (show k≠b by omega)]
structure JB [GlobTab] (χ0:Nat→Nat→Nat) (w0:World) (lo hi:Nat) (E:List (Nat×Nat×AVal)) (G:Gh) (W:World):Prop where
 frame:Frame0 χ0 w0 G.χ W
 glob:GlobOk G.χ W
 reps:∀ e∈E,zA G W #[] (some e.1) e.2.2 (.pointer (some ⟨e.2.1,0,none⟩))
 own:∀ b,lo≤b→b≤hi→∀ o,G.χ b o=1
 size:hi<W.heap.size
 low:w0.heap.size≤lo
theorem JB.foreign {χ0:Nat→Nat→Nat}{w0:World}{lo hi:Nat}{E:List (Nat×Nat×AVal)}{G:Gh}{W W':World}{b:Nat}(h:JB χ0 w0 lo hi E G W)(hl:lo≤b)(hh:b≤hi)(hW:∀ k,k≠b→W'.heap[k]?=W.heap[k]?)(hs:W'.heap.size=W.heap.size)
  (hst:W'.os=W.os∧W'.tape=W.tape∧W'.output=W.output):JB χ0 w0 lo hi E G W':=by
 have hx:=xD7 (h.own b hl hh) hW (Nat.le_of_eq hs.symm);have hlow:=h.low;refine⟨h.frame.beyond (Nat.le_trans hlow hl) hW hs hst,zH7 hx.prot h.glob,fun e he=>zU1 hx (by decide) _ (xW5 _ _) (h.reps e he),h.own,by rw[hs];exact h.size,hlow⟩
theorem JB.setCell {χ0:Nat→Nat→Nat}{w0:World}{lo hi:Nat}{E:List (Nat×Nat×AVal)}{G:Gh}{W:World}{b:Nat}(h:JB χ0 w0 lo hi E G W)(hl:lo≤b)(hh:b≤hi)(v:Value):JB χ0 w0 lo hi E G (W.setCell ⟨b,0,none⟩ v):=
 h.foreign hl hh (fun k hk=>Below.heap_setCell W ⟨b,0,none⟩ v k hk) (by simp[World.setCell]) ⟨rfl,rfl,rfl⟩
theorem JB.putObj {χ0:Nat→Nat→Nat}{w0:World}{lo hi:Nat}{E:List (Nat×Nat×AVal)}{G:Gh}{W:World}{b:Nat}(h:JB χ0 w0 lo hi E G W)(hl:lo≤b)(hh:b≤hi)(o:Obj):JB χ0 w0 lo hi E G (W.putObj b o):=
 h.foreign hl hh (fun k hk=>World.putObj_heap_other hk) (by simp[World.putObj]) ⟨rfl,rfl,rfl⟩
theorem JB.step {χ0:Nat→Nat→Nat}{w0:World}{lo hi:Nat}{E E':List (Nat×Nat×AVal)}{G G':Gh}{W W':World}(h:JB χ0 w0 lo hi E G W)(hf:Frame0 G.χ W G'.χ W')(hg:GlobOk G'.χ W')(hr:∀ e∈E',zA G' W' #[] (some e.1) e.2.2 (.pointer (some ⟨e.2.1,0,none⟩))) :
  JB χ0 w0 lo hi E' G' W'∧∀ b,lo≤b→b≤hi→W'.heap[b]?=W.heap[b]?:=by
 have hsz:=h.size;refine⟨⟨h.frame.trans hf,hg,hr,fun b hl hh o=>?_,Nat.lt_of_lt_of_le hsz hf.size,h.low⟩,fun b hl hh=>hf.block b (by omega) (fun o=>by rw[h.own b hl hh o];exact Nat.le_refl _)⟩;rw[(hf.cell b o (by omega) (by rw[h.own b hl hh o];exact Nat.le_refl _)).1];exact h.own b hl hh o
theorem wG2 {f:Nat}{τ σ υ ω:Ty}{rs:Sh}{ok:τ.den→σ.den→υ.den→ω.den→Prop}{F:τ.den→σ.den→υ.den→ω.den→rs.den}{o:zB3 [(0,Sh.val τ),(1,Sh.val σ),(2,Sh.val υ),(3,Sh.val ω)]→zT8 []}(hfn:∃ fn,P.funcs[f]?=some fn∧fn.body.isSome=true∧fn.name≠"runtime.NumGoroutine")
  (H:∀ x y z u,ok x y z u→∀ (G:Gh) (w:World) (v1 v2 v3 v4:Value),GlobOk G.χ w→zS1 G.χ w τ x v1→zS1 G.χ w σ y v2→zS1 G.χ w υ z v3→zS1 G.χ w ω u v4→Calls P f #[v1,v2,v3,v4] w fun e w'=>∃ r G',e=.returned r∧Frame0 G.χ w G'.χ w'∧zA G' w' #[] none (rs.mk (F x y z u)) r) :
  SpecOk P f (fnSpec [(0,.val τ),(1,.val σ),(2,.val υ),(3,.val ω)] rs [] (fun x=>ok x.1 x.2.1 x.2.2.1 x.2.2.2.1) (fun x=>F x.1 x.2.1 x.2.2.1 x.2.2.2.1) o):=by
 refine⟨hfn,fun args co hsp hok G w vals hlen hglob hreps=>?_⟩;unfold fnSpec at hsp;generalize hal:Nat.beq args.length _=b at hsp;cases b with
 |false=>cases hsp
 |true =>
  simp only[cond_true] at hsp;split at hsp
  ·rename_i x hx;injection hsp with hsp
   subst hsp;have hl:args.length=4:=Nat.eq_of_beq_eq_true hal;obtain⟨A,B,C,D,rfl⟩:∃ A B C D,args=[A,B,C,D]:=by
    match args,hl with
    |[A,B,C,D],_=>exact⟨A,B,C,D,rfl⟩
   obtain⟨v1,v2,v3,v4,rfl⟩:∃ v1 v2 v3 v4,vals=[v1,v2,v3,v4]:=by
    match vals,hlen with
    |[v1,v2,v3,v4],_=>exact⟨v1,v2,v3,v4,rfl⟩
   have hp:∀ (k:Nat) (i:Nat) (s:Sh),[(0,Sh.val τ),(1,Sh.val σ),(2,Sh.val υ),(3,Sh.val ω)][k]?=some (i,s)→∃ y,s.parse (St.get (zW3 0 [A,B,C,D]) i)=some y:=fun k i s h=>yO5 hx h;obtain⟨x1,x2,x3,x4,_⟩:=x;simp only[zC7] at hx;have hg:∀ i,St.get (zW3 0 [A,B,C,D]) i=[A,B,C,D].getD i .junk:=by
    intro i;simp only[zW3,St.get]
    match i with
    |0=>simp
    |1=>simp[zA7,Nat.beq]
    |2=>simp[zA7,Nat.beq]
    |3=>simp[zA7,Nat.beq]
    |k+4=>simp[zA7,Nat.beq]
   simp only[hg,List.getD_cons_zero,List.getD_cons_succ] at hx;generalize h1:(Sh.val τ).parse A=o1 at hx;generalize h2:(Sh.val σ).parse B=o2 at hx;generalize h3:(Sh.val υ).parse C=o3 at hx;generalize h4:(Sh.val ω).parse D=o4 at hx;cases o1<;>cases o2<;>cases o3<;>cases o4<;>simp at hx;obtain⟨rfl,rfl,rfl,rfl⟩:=hx;have hA:=zE5 h1 (hreps 0 A v1 rfl rfl);have hB:=zE5 h2 (hreps 1 B v2 rfl rfl);have hC:=zE5 h3 (hreps 2 C v3 rfl rfl);have hD:=zE5 h4 (hreps 3 D v4 rfl rfl);simp only[Sh.mk,zA] at hA hB hC hD;refine (H _ _ _ _ (hok _ (List.mem_singleton.2 rfl)) G w v1 v2 v3 v4 hglob hA hB hC hD).mono ?_;rintro e w' ⟨r,G',rfl,q1,q2⟩;exact⟨r,G',rfl,q1,q2,(fun i k A' u h=>by cases h),fun k B h=>by cases h⟩
  ·cases hsp
end Go.Am
namespace Go.Am
open Go Go.RowKit
variable {gtab:GlobTab}{P:Program}
end Go.Am
