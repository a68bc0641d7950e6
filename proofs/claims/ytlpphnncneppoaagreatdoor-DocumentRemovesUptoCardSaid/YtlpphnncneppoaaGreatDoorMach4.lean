/- The abstract machine, part 4: a typed interpreter for the program's code, and that it is sound. No condition. -/
import Derived.Test.YtlpphnncneppoaaGreatDoorMach3
import Derived.Lib.Bytealg
import Derived.ProofKit
import Derived.Carry
import Derived.ChangeSame
namespace Go.Am
open Go Go.RowKit
open Go.Value (okWide string)
open _root_.Int (toNat)
open _root_.List (length map mapM_cons mem_append_left mem_cons mem_range range toArray)
open _root_.Nat (ble blt le_trans)
open _root_.Option (bind_eq_bind bind_eq_some_iff getD_some map_eq_some_iff map_some pure_def)
variable {gtab:GlobTab}{P:Program}{c:Ctx}
def SM (H:St):List Comp->List (List (Nat×Sh))->Option (List Comp)
 |[],[]=>some []
 |cp::r,l::s=>match Er l (cp.d++H),SM H r s with
  |some z,some q=>some (⟨cp.kind,cp.g,Lg l z++ND⟩::q)
  |_,_=>none
 |_,_=>none
def j7 (H:St)(l:List Comp)(ls:List (List (Nat×Sh))):Option (List Comp):=
 match SM H l ls with
 |some [q]=>some [⟨q.kind,none,q.d⟩]
 |r=>r
def NF [GlobTab] (c:Ctx)(body:Code)(ly lx:List (Nat×Sh))(les:List (List (Nat×Sh)))(y:AI ly)(x:AI lx):Option (Prop×Bool×AI ly×AI lx×List Comp):=
 match eval c body (Ez ly lx y x) with
 |none=>none
 |some o=>match B5 0 o.comps with
  |none=>none
  |some m=>match Er ly (m.d++Ez ly lx y x),Er lx (m.d++Ez ly lx y x),j7 (Ez ly lx y x) (Ey 0 o.comps) les with
   |some y',some x',some es=>some (JU o.ok,tk m.g,y',x',es)
   |_,_,_=>none
def Iu (ly lx:List (Nat×Sh))(g:AI ly->AI lx->Bool)(next:AI ly->AI lx->AI lx)(ok:AI ly->AI lx->Prop)(es:AI ly->AI lx->List Comp)(S:St):Option Out:=
 match Er ly S,Er lx S with
 |some y,some x=>some ⟨[AB (g y) (next y) (ok y) x],es y (A3 (g y) (next y) x)⟩
 |_,_=>none
variable {k:Nat}
theorem yX8{H:St}:∀{l:List Comp}{ls:List (List (Nat×Sh))}{es:List Comp},SM H l ls=some es->(B5 k es=none/\B5 k l=none)\/∃cp cp',B5 k l=some cp/\B5 k es=some cp'/\cp'.g=cp.g/\St.hasCut cp'.d/\Weaker cp'.d (cp.d++H):=by intro l;induction l with|nil=>intro ls es h;cases ls<;>simp[SM] at h;subst h;exact .inl ⟨rfl,rfl⟩|cons cp r o=>intro ls es h;cases ls with|nil=>grind [SM]|cons s ls=>simp only[SM] at h;split at h;rename_i z q j C;injection h with h;subst h;simp only[B5];(cases Nat.beq cp.kind k with|true=>exact .inr ⟨cp,_,rfl,rfl,rfl,WG rfl,SJ j jX⟩|false=>grind);grind
variable {les:List (List (Nat×Sh))}
theorem xP{H:St}{l:List Comp}{es:List Comp}(h:j7 H l les=some es):(B5 k es=none/\B5 k l=none)\/∃cp cp',B5 k l=some cp/\B5 k es=some cp'/\(cp'.g=cp.g\/(cp'.g=none/\∀j C,B5 j l=some C->j=k))/\St.hasCut cp'.d/\Weaker cp'.d (cp.d++H):=by unfold j7 at h;split at h;rename_i q R;(have kQ:∀j,B5 j [q]=none->B5 j l=none:=λj h'=>by grind [yX8]);rcases yX8 (k:=k) R with ⟨I,J⟩ | ⟨cp,cp',I,J,h3,h4,h5⟩;grind [B5];right;have o:=J;simp only[B5] at o;(cases hb:Nat.beq q.kind k with|false=>grind|true=>simp[hb] at o;subst o;refine⟨cp,⟨q.kind,none,q.d⟩,I,by grind [B5],.inr ⟨rfl,λj C hf=>?_⟩,h4,h5⟩;cases kE:Nat.beq q.kind j<;>simp_all [B5]);grind [yX8]
variable {body:Code}{lx ly:List (Nat×Sh)}
theorem xU1(hc:CtxOk P c)(hm:P.follows .mixedOrders)(hL:HR P c body)(hw:ES c.keep body){g:AI ly->AI lx->Bool}{next:AI ly->AI lx->AI lx}{ok:AI ly->AI lx->Prop}{es:AI ly->AI lx->List Comp}(kx:∀y x,NF c body ly lx les y x=some (ok y x,g y x,y,next y x,es y x)):∀S out,Iu ly lx g next ok es S=some out->WI P c (.loop body) S out:=by intro S out h kg rd χ0 w0 vs a w G hR hk;unfold Iu at h;split at h;rename_i y x hy hx;injection h with h;subst h;(have qb:∀y x,∃o m,eval c body (Ez ly lx y x)=some o/\B5 0 o.comps=some m/\JU o.ok=ok y x/\tk m.g=g y x/\Er ly (m.d++Ez ly lx y x)=some y/\Er lx (m.d++Ez ly lx y x)=some (next y x)/\j7 (Ez ly lx y x) (Ey 0 o.comps) les=some (es y x):=by intro y x;have:=kx y x;unfold NF at this;split at this;cases this;rename_i o ho;split at this;cases this;rename_i m hm;split at this;rename_i y' x' es' j h2 h3;simp only[jA,jG] at this;obtain⟨e1,e2,rfl,rfl,rfl⟩:=this;exact⟨o,m,ho,hm,e1,e2,j,h2,h3⟩;cases this);let O:AI ly->AI lx->Out:=λy x=>(eval c body (Ez ly lx y x)).getD ⟨[],[]⟩;(have hO:∀y x,eval c body (Ez ly lx y x)=some (O y x):=by intro y x;obtain⟨o,m,j,_⟩:=qb y x;simp only[O,j,getD_some]);(have I:j6 ly lx g next ok (λy x=>(O y x).comps) S=some ⟨[AB (g y) (next y) (ok y) x],Po (Ez ly lx y (A3 (g y) (next y) x)) (O y (A3 (g y) (next y) x)).comps⟩:=by unfold j6;rw[hy,hx]);have hsnd:=xF9 hc hm hL hw (g:=g) (next:=next) (ok:=ok) (comps:=λy x=>(O y x).comps) (oks:=λy x=>(O y x).ok) hO (λy x hx=>by obtain⟨o,m,j,h2,h3,_⟩:=qb y x;have:=hO y x;rw[j] at this;injection this with this;rw[<-this,h3];exact hx) (λy x=>by obtain⟨o,m,j,h2,h3,h4,h5,h6,h7⟩:=qb y x;have:=hO y x;rw[j] at this;injection this with this;exact⟨m,by rw[<-this];exact h2,h4,h5,h6⟩) S _ I kg rd χ0 w0 vs a w G hR hk;refine wpIn_mono hsnd λe a' w' hP=>⟨?_,hP.2⟩;obtain⟨k,cp,G',q1,J,q3,q4,q5⟩:=hP.1;obtain⟨o,m,j,h2,h3,h4,h5,h6,h7⟩:=qb y (A3 (g y) (next y) x);have C:=hO y (A3 (g y) (next y) x);rw[j] at C;injection C with C;(have ku:∀R,B5 R (Po (Ez ly lx y (A3 (g y) (next y) x)) (O y (A3 (g y) (next y) x)).comps)=(B5 R (Ey 0 o.comps)).map λcp=>⟨cp.kind,cp.g,cp.d++Ez ly lx y (A3 (g y) (next y) x)⟩:=by intro R;unfold Po;rw[fR (f:=λcp=>⟨cp.kind,cp.g,cp.d++Ez ly lx y (A3 (g y) (next y) x)⟩) (λ_=>rfl),C]);rw[ku] at J;rcases xP (k:=k) h7 with ⟨_,e2⟩ | ⟨c1,c2,e1,e2,e3,e4,e5⟩;rw[e2] at J;cases J;rw[e1] at J;simp only[map_some,jA] at J;subst J;(have htk:tk c2.g:=by rcases e3 with e3|⟨e3,_⟩;rw[e3];exact q3;rw[e3];rfl);refine⟨k,c2,G',q1,e2,htk,λR c' hf ht=>?_,?_⟩;rcases xP (k:=R) h7 with ⟨f1,_⟩ | ⟨d1,d2,f1,f2,f3,_,_⟩;rw[f1] at hf;cases hf;rw[f2] at hf;injection hf with hf;subst hf;rcases f3 with f3|⟨_,f3⟩;refine q4 R ⟨d1.kind,d1.g,d1.d++Ez ly lx y (A3 (g y) (next y) x)⟩ (by rw[ku,f1];rfl) ?_;rw[f3] at ht;exact ht;exact (f3 k c1 e1).symm;have r1:Rel c.n χ0 w0 (c1.d++Ez ly lx y (A3 (g y) (next y) x)) a' w' G':=fK (λs=>(yX4 (WG xA7)).symm) q5;exact fK (λs=>yX4 e4) (e5.rel r1);cases h
def Iv [GlobTab] (c:Ctx)(code:Code)(rv:List ResultVar)(ps:List (Nat×Sh))(rs:Sh)(os:List (Nat×Sh))(x:AI ps):Option (Prop×rs.den×Eh os):=
 match eval c code (Ei ps x) with
 |none=>none
 |some o=>match Pp (Ei ps x) o.comps with
  |none=>none
  |some d=>match JY c (d++Ei ps x) rv,JZ os (d++Ei ps x) with
   |some r,some z=>(match rs.parse r with|some v=>some (JU o.ok,v,z)|none=>none)
   |_,_=>none
variable {f:Nat}{fn:Func}{code:Code}{ps os:List (Nat×Sh)}{rs:Sh}{rv:List ResultVar}
theorem xU2(hc:CtxOk P c)(hm:P.follows .mixedOrders)(hf:P.funcs[f]?=some fn)(hb:fn.body=some code)(kY:fn.name≠"runtime.NumGoroutine") (hn:fn.ntmps=c.n) (hL:HR P c code) (hw:ES c.keep code){ok:AI ps->Prop}{F:AI ps->rs.den}{o:AI ps->Eh os}(iD:(Pr 0 ps&&WJ ps c.keep os&&ble ps.length c.n))(hrv:fn.results.toList=rv) (kx:∀x,Iv c code rv ps rs os x=some (ok x,F x,o x)):SpecOk P f (fnSpec ps rs os ok F o):=by (have qb:∀x,∃out d r,eval c code (Ei ps x)=some out/\Pp (Ei ps x) out.comps=some d/\JY c (d++Ei ps x) fn.results.toList=some r/\rs.parse r=some (F x)/\JZ os (d++Ei ps x)=some (o x)/\JU out.ok=ok x:=by intro x;have:=kx x;unfold Iv at this;grind);let O:AI ps->Out:=λx=>(eval c code (Ei ps x)).getD ⟨[],[]⟩;let D:AI ps->St:=λx=>(Pp (Ei ps x) (O x).comps).getD [];let R:AI ps->AVal:=λx=>(JY c (D x++Ei ps x) fn.results.toList).getD .junk;(have hO:∀x,eval c code (Ei ps x)=some (O x)/\Pp (Ei ps x) (O x).comps=some (D x)/\JY c (D x++Ei ps x) fn.results.toList=some (R x)/\rs.parse (R x)=some (F x)/\JZ os (D x++Ei ps x)=some (o x)/\JU (O x).ok=ok x:=by intro x;obtain⟨out,d,r,h1,h2,h3,h4,h5,h6⟩:=qb x;grind);exact xG0 hc hm hf hb kY hn hL hw (oks:=λx=>(O x).ok) (comps:=λx=>(O x).comps) (d:=D) (res:=R) iD (λx=>(hO x).1) (λx hx=>by grind) (λx=>(hO x).2.1) (λx=>(hO x).2.2.1) (λx=>(hO x).2.2.2.1) (λx=>(hO x).2.2.2.2.1)
variable {gtab:GlobTab}{P:Program}{c:Ctx}
def zG:Code->List Code
 |.seq a b=>zG a++zG b
 |.cond _ a b=>zG a++zG b
 |.block _ a=>zG a
 |.loop a=>[a]
 |_=>[]
def SN (cd:Code)(i:Nat):Code:=(zG cd).getD i .skip
def yY [GlobTab] (P:Program)(c:Ctx)(b:Code):Prop:=∀S out,look (λ_=>none) c.loops (Ij b) S=some out->WI P c (.loop b) S out
def GS [GlobTab] (P:Program)(c:Ctx):List Code->Prop
 |[]=>True
 |b::r=>yY P c b/\GS P c r
theorem zX5:∀{l r:List Code},GS P c (l++r)->GS P c l/\GS P c r:=by intro l;induction l with|nil=>intro r h;exact⟨trivial,h⟩|cons b l j=>intro r h;have:=j h.2;exact⟨⟨h.1,this.1⟩,this.2⟩
theorem yH5:∀{code:Code}{bs:List Code},zG code=bs->GS P c bs->HR P c code:=by intro code;induction code with|seq a b gA gq=>intro bs he h;subst he;simp only[zG] at h;have:=zX5 h;exact⟨gA rfl this.1,gq rfl this.2⟩|cond x a b gA gq=>intro bs he h;subst he;simp only[zG] at h;have:=zX5 h;exact⟨gA rfl this.1,gq rfl this.2⟩|block id a j=>intro bs he h;subst he;simp only[zG] at h;exact j rfl h|loop a _=>intro bs he h;subst he;simp only[zG] at h;exact h.1|_=>intro bs _ _;trivial
def NG [GlobTab] (P:Program):List (Nat×Spec)->Prop
 |[]=>True
 |(f,sp)::r=>SpecOk P f sp/\NG P r
theorem yN9:∀{l:List (Nat×Spec)},NG P l->∀f sp,(f,sp)∈l->SpecOk P f sp:=by intro l;induction l with|nil=>intro _ f sp h;cases h|cons e r j=>intro h f sp hm;obtain⟨g,s⟩:=e;rcases mem_cons.1 hm with e|hm;simp only[jG] at e;obtain⟨rfl,rfl⟩:=e;exact h.1;exact j h.2 f sp hm
def xP0 [GlobTab] (P:Program):List (Nat×(List AVal->Option (List Prop×AVal)))->Prop
 |[]=>True
 |(f,e)::r=>Pg P f e/\xP0 P r
theorem xP1:∀{l:List (Nat×(List AVal->Option (List Prop×AVal)))},xP0 P l->∀f e,(f,e)∈l->Pg P f e:=by intro l;induction l with|nil=>intro _ f e h;cases h|cons q r j=>intro h f e hm;obtain⟨g,C⟩:=q;rcases mem_cons.1 hm with hm|hm;injection hm with e1 o;subst e1;subst o;exact h.1;exact j h.2 f e hm
theorem xZ9 (ht:E3 P c.tys)(ia:(Jq P c.maps&&Jp P c.fts))(j:NG P c.fns)(he:xP0 P c.exts)(o:ble c.n BO)(kt:c.clones=[]:=by rfl):CtxOk P c:=⟨ht,yN9 j,xP1 he,((jB _ _).mp ia).1,((jB _ _).mp ia).2,jR o,λf k h=>by rw[kt] at h;cases h⟩
theorem j8 (ht:E3 P c.tys)(ia:(Jq P c.maps&&Jp P c.fts))(j:NG P c.fns)(he:c.exts=[])(o:ble c.n BO)(kt:c.clones=[]:=by rfl):CtxOk P c:=⟨ht,yN9 j,(λf e h=>by rw[he] at h;cases h),((jB _ _).mp ia).1,((jB _ _).mp ia).2,jR o,λf k h=>by rw[kt] at h;cases h⟩
theorem wA(ht:E3 P c.tys)(ia:(Jq P c.maps&&Jp P c.fts))(j:NG P c.fns)(he:c.exts=[])(o:ble c.n BO)(kt:c.clones=[(f,k)])(C:xJ8 P f k):CtxOk P c:=⟨ht,yN9 j,(λf e h=>by rw[he] at h;cases h),((jB _ _).mp ia).1,((jB _ _).mp ia).2,jR o,λI J h=>by rw[kt,jH] at h;cases h;exact C⟩
variable {bs:List Code}
theorem xU3(j:CtxOk P c)(hm:P.follows .mixedOrders)(hb:zG body=bs)(o:GS P c bs)(hw:ES c.keep body){g:AI ly->AI lx->Bool}{next:AI ly->AI lx->AI lx}{ok:AI ly->AI lx->Prop}{es:AI ly->AI lx->List Comp}(C:look (λ_=>none) c.loops (Ij body)=Iu ly lx g next ok es)(kx:∀y x,NF c body ly lx les y x=some (ok y x,g y x,y,next y x,es y x)):yY P c body:=by intro S out h;rw[C] at h;exact xU1 j hm (yH5 hb o) hw kx S out h
theorem xU4(hc:CtxOk P c)(hm:P.follows .mixedOrders)(hf:P.funcs[f]?=some fn)(hb:fn.body=some code)(kY:fn.name≠"runtime.NumGoroutine") (hn:fn.ntmps=c.n)(iF:zG code=bs) (hL:GS P c bs) (hw:ES c.keep code){ok:AI ps->Prop}{F:AI ps->rs.den}{o:AI ps->Eh os}(iD:(Pr 0 ps&&WJ ps c.keep os&&ble ps.length c.n))(hrv:fn.results.toList=rv) (kx:∀x,Iv c code rv ps rs os x=some (ok x,F x,o x)):SpecOk P f (fnSpec ps rs os ok F o):=xU2 hc hm hf hb kY hn (yH5 iF hL) hw iD hrv kx
theorem xY5(hf:P.funcs[f]?=some fn)(hb:fn.body.isSome)(kY:fn.name≠"runtime.NumGoroutine"){F:AI ps->rs.den}{o:AI ps->Eh os}:SpecOk P f (fnSpec ps rs os (λ_=>False) F o):=by refine⟨⟨fn,hf,hb,kY⟩,λargs co hsp kg=>?_⟩;unfold fnSpec at hsp;generalize Nat.beq args.length ps.length=b at hsp;cases b with|false=>cases hsp|true=>simp only[jE] at hsp;split at hsp;injection hsp with hsp;subst hsp;exact (kg _ (jQ ..)).elim;cases hsp
theorem wA0{R:Nat->AI ps->Prop×rs.den×Eh os}(h:∀k,SpecOk P f (fnSpec ps rs os (λx=>(R k x).1) (λx=>(R k x).2.1) (λx=>(R k x).2.2)))(m:AI ps->Nat):SpecOk P f (fnSpec ps rs os (λx=>(R (m x) x).1) (λx=>(R (m x) x).2.1) (λx=>(R (m x) x).2.2)):=by refine⟨(h 0).1,λargs co j kg=>?_⟩;unfold fnSpec at j;generalize hb:Nat.beq args.length ps.length=b at j;cases b with|false=>cases j|true=>simp only[jE] at j;split at j;rename_i x o;refine (h (m x)).2 args co ?_ kg;unfold fnSpec;rw[hb,jE,o];exact j;cases j
@[reducible] def vI:Sh:=.val (.int .i64)
@[reducible] def vB:Sh:=.val .bool
@[reducible] def vS:Sh:=.val .str
def ex (k:Nat)(g:Option Bool)(l:List (Nat×Sh))(v:AI l):Comp:=⟨k,g,Lg l v++ND⟩
@[reducible] def Cx (tys:List (Nat×Ty)) (fns:List (Nat×Spec)) (loops:List (Nat×(St->Option Out))) (gh:List (Nat×List (Nat×Nat×Nat×Nat))) (wrap:Bool) (n:Nat) (keep wr:List Nat):Ctx:=
 {tys,fns,loops,gh,wrap,n,keep,wr }
theorem j9(j:CtxOk P c)(hm:P.follows .mixedOrders){sp:St->Option Out}{g:AI ly->AI lx->Bool}{next:AI ly->AI lx->AI lx}{ok:AI ly->AI lx->Prop}{es:AI ly->AI lx->List Comp}(o:sp=Iu ly lx g next ok es)(les:List (List (Nat×Sh)))(hb:zG body=bs)(C:GS P c bs)(hw:ES c.keep body)(I:look (λ_=>none) c.loops (Ij body)=sp)(kx:∀y x,NF c body ly lx les y x=some (ok y x,g y x,y,next y x,es y x)):yY P c body:=by subst o;exact xU3 j hm hb C hw I kx
def Ps (fn:Func)(c:Ctx)(ps:List (Nat×Sh))(os:List (Nat×Sh)):Bool:=
 fn.body.isSome&&(!(fn.name=="runtime.NumGoroutine")&&(Nat.beq fn.ntmps c.n&&(ES c.keep (fn.body.getD .skip)&&(Pr 0 ps&&WJ ps c.keep os&&ble ps.length c.n))))
theorem WK(I:CtxOk P c)(hm:P.follows .mixedOrders)(J:P.funcs[f]?=some fn){ok:AI ps->Prop}{F:AI ps->rs.den}{o:AI ps->Eh os}(j:Ps fn c ps os)(iF:zG (fn.body.getD .skip)=bs)(R:GS P c bs)(kx:∀x,Iv c (fn.body.getD .skip) fn.results.toList ps rs os x=some (ok x,F x,o x)):SpecOk P f (fnSpec ps rs os ok F o):=by simp only[Ps,jB,jK,beq_eq_false_iff_ne,ne_eq] at j;obtain⟨h1,h2,h3,C,h5⟩:=j;obtain⟨code,hb⟩:=Option.isSome_iff_exists.1 h1;rw[hb,getD_some] at C iF kx;exact xU4 I hm J hb h2 (jC h3) iF R C (by simpa only[jB] using h5) rfl kx
theorem zU9:∀{l r:List Code},GS P c l->GS P c r->GS P c (l++r) |[],_,_,h=>h|_::_,_,⟨j,o⟩,h=>⟨j,zU9 o h⟩
structure Li where
 ly:List (Nat×Sh)
 lx:List (Nat×Sh)
 g:AI ly->AI lx->Bool
 next:AI ly->AI lx->AI lx
 ok:AI ly->AI lx->Prop
 es:AI ly->AI lx->List Comp
 les:List (List (Nat×Sh))
def Li.sp (l:Li):St->Option Out:=Iu l.ly l.lx l.g l.next l.ok l.es
def Lj:Code->List Code
 |.seq a b=>Lj a++Lj b
 |.cond _ a b=>Lj a++Lj b
 |.block _ a=>Lj a
 |.loop a=>a::Lj a
 |_=>[]
abbrev wC8:Type:=Option (Σ l:Li,Bool×(St->Option Out)×(AI l.ly->AI l.lx->Option (Prop×Bool×AI l.ly×AI l.lx×List Comp)))
def SO [GlobTab] (c:Ctx):List Code->List (Nat×Li)->List wC8
 |b::bs,(_,l)::ls=>some ⟨l,ES c.keep b,look (λ_=>none) c.loops (Ij b),λy x=>NF c b l.ly l.lx l.les y x⟩::SO c bs ls
 |_::_,[]=>[none]
 |[],_=>[]
def SP:List (Nat×Li)->List wC8
 |[]=>[]
 |(_,l)::ls=>some ⟨l,true,l.sp,λy x=>some (l.ok y x,l.g y x,y,l.next y x,l.es y x)⟩::SP ls
def wC9 [GlobTab] (c:Ctx)(b:Code):Prop:=∃l:Li,ES c.keep b/\look (λ_=>none) c.loops (Ij b)=l.sp/\∀y x,NF c b l.ly l.lx l.les y x=some (l.ok y x,l.g y x,y,l.next y x,l.es y x)
theorem xA9:∀{bs:List Code}{ls:List (Nat×Li)},SO c bs ls=SP ls->∀b∈bs,wC9 c b |[],_,_,_,h=>nomatch h|_::_,[],h,_,_=>by cases h|b::bs,(_,l)::ls,h,j,hb=>by simp only[SO,SP,List.cons.injEq,jA,Sigma.mk.injEq,heq_eq_eq,jG,true_and] at h;obtain⟨⟨o,C,I⟩,J⟩:=h;rcases mem_cons.1 hb with rfl|hb;exact⟨l,o,C,λy x=>congrFun (congrFun I y) x⟩;exact xA9 J j hb
theorem xP2 (C:CtxOk P c)(hm:P.follows .mixedOrders):∀{code:Code},(∀b∈Lj code,wC9 c b)->GS P c (zG code):=by intro code;induction code with|seq a b gA gq=>intro h;exact zU9 (gA λx j=>h x (mem_append_left _ j)) (gq λx j=>h x (List.mem_append_right _ j))|cond x a b gA gq=>intro h;exact zU9 (gA λx j=>h x (mem_append_left _ j)) (gq λx j=>h x (List.mem_append_right _ j))|block id a o=>intro h;exact o h|loop a o=>intro h;obtain⟨l,I,J,R⟩:=h a (jQ ..);exact⟨j9 C hm rfl l.les rfl (o λx j=>h x (jP _ j)) I J R,trivial⟩|_=>intro _;trivial
structure Fb [GlobTab] (P:Program) where
 n:Nat
 s:Spec
 h:SpecOk P n s
def Fb.l [GlobTab]{P:Program}:List (Fb P)->List (Nat×Spec)
 |[]=>[]
 |b::r=>(b.n,b.s)::Fb.l r
theorem Fb.all:∀l:List (Fb P),NG P (Fb.l l) |[]=>trivial|b::r=>⟨b.h,Fb.all r⟩
def Li.l:List (Nat×Li)->List (Nat×(St->Option Out))
 |[]=>[]
 |(k,l)::r=>(k,l.sp)::Li.l r
theorem wD6(j:CtxOk P c)(hm:P.follows .mixedOrders)(C:P.funcs[f]?=some fn){ok:AI ps->Prop}{F:AI ps->rs.den}{o:AI ps->Eh os}(I:Ps fn c ps os){ls:List (Nat×Li)}(J:SO c (Lj (fn.body.getD .skip)) ls=SP ls)(kx:∀x,Iv c (fn.body.getD .skip) fn.results.toList ps rs os x=some (ok x,F x,o x)):SpecOk P f (fnSpec ps rs os ok F o):=WK j hm C I rfl (xP2 j hm (xA9 J)) kx
def F5 (k:IntKind)(a b:Int):Int:=OS k (λx y=>x &&& y) a b
def ior (k:IntKind)(a b:Int):Int:=OS k (λx y=>x ||| y) a b
def EW (a b:Int)(n:Nat):Int:=a.fdiv (2 ^ (min b.toNat n))
def nth {α:Type}(l:List α)(i:Int)(d:α):α:=l.getD i.toNat d
def A7 (i n:Int):Prop:=0<=i/\i<n
def len {α:Type}(l:List α):Int:=(l.length:Int)
def wD (s:List UInt8)(i:Int):Int:=((s.getD i.toNat 0).toNat:Int)
variable {gtab:GlobTab}{P:Program}
def xB:List AVal->Option (List Prop×AVal)
 |[.val (.int .u64) x,.val (.int .u64) y,.val (.int .u64) c] =>
  some ([0<=c/\c<=1],.tup (.cons (.val (.int .u64) (((toNat x+toNat y+toNat c) % 18446744073709551616:Nat):Int)) (.cons (.val (.int .u64) (((toNat x+toNat y+toNat c) / 18446744073709551616:Nat):Int)) .nl)))
 |_=>none
def k7:List AVal->Option (List Prop×AVal)
 |[.val .str s,.val (.int .u8) c]=>some ([],.val (.int .i64) (Lib.indexByte s (toNat c).toUInt8))
 |_=>none
variable {G:Gh}{tm:Array Value}{B A:AVal}{vals:List Value}
theorem xU7{w:World}(h:C2 (zA G w tm none) [A,B] vals):∃u v,vals=[u,v]/\zA G w tm none A u/\zA G w tm none B v:=by match vals,h with |[u,v],h=>simp only[C2] at h;exact⟨u,v,rfl,h.1,h.2.1⟩|[],h=>simp[C2] at h|[_],h=>simp[C2] at h|_::_::_::_,h=>simp[C2] at h
theorem xG2{w:World}{C:AVal}(h:C2 (zA G w tm none) [A,B,C] vals):∃u v x,vals=[u,v,x]/\zA G w tm none A u/\zA G w tm none B v/\zA G w tm none C x:=by match vals,h with |[u,v,x],h=>simp only[C2] at h;exact⟨u,v,x,rfl,h.1,h.2.1,h.2.2.1⟩|[],h=>simp[C2] at h|[_],h=>simp[C2] at h|[_,_],h=>simp[C2] at h|_::_::_::_::_,h=>simp[C2] at h
theorem xV4(hf:P.funcs[f]?=some fn)(kY:(fn.name=="runtime.NumGoroutine")=false) (hb:fn.body.isNone=true) (hn:(Extern.findNext fn).isNone=true) (he:Extern.find fn=some Extern.BytealgIndexByte.indexByte):Pg P f k7:=by intro args p A h _ G w tm vals hv;unfold k7 at h;split at h;simp only[jA,jG] at h;obtain⟨rfl,rfl⟩:=h;obtain⟨u,v,rfl,h1,h2⟩:=xU7 hv;simp only[zA] at h1 h2;rw[VRep_str] at h1;rw[VRep_int] at h2;subst h1;subst h2;refine⟨_,?_,zD⟩;rw[run_callFunc_extern hf kY hb (Option.isNone_iff_eq_none.1 hn) he,Lib.run_indexByteString];rfl;cases h
theorem wB7(hf:P.funcs[f]?=some fn)(kY:(fn.name=="runtime.NumGoroutine")=false) (hb:fn.body.isNone=true) (hn:(Extern.findNext fn).isNone=true) (he:Extern.find fn=some add64Entry):Pg P f xB:=by intro args p A h hp G w tm vals hv;unfold xB at h;split at h;rename_i x y c;simp only[jA,jG] at h;obtain⟨rfl,rfl⟩:=h;have hc:(0:Int)<=c/\(c:Int)<=1:=hp _ (jQ ..);obtain⟨u,v,q,rfl,h1,h2,h3⟩:=xG2 hv;simp only[zA] at h1 h2 h3;rw[VRep_int] at h1 h2 h3;subst h1;subst h2;subst h3;refine⟨Extern.MathBitsCarry.pair ((toNat x+toNat y+toNat c) % Extern.MathBitsCarry.m64) ((toNat x+toNat y+toNat c) / Extern.MathBitsCarry.m64),?_,?_⟩;rw[run_callFunc_extern hf kY hb (Option.isNone_iff_eq_none.1 hn) he];(have key:∀k:Nat,k<=1->(add64Entry #[.int .u64 x,.int .u64 y,.int .u64 (k:Int)]).run P w=.ok (Extern.MathBitsCarry.pair ((toNat x+toNat y+k) % Extern.MathBitsCarry.m64) ((toNat x+toNat y+k) / Extern.MathBitsCarry.m64)) w:=by intro k hk;(have:k=0\/k=1:=by omega);rcases this with rfl|rfl<;>rfl);obtain⟨k,hk⟩:=Int.eq_ofNat_of_zero_le hc.1;have h0:c=((k:Nat):Int):=hk;(have nf:k<=1:=by have h1:=hc.2;rw[h0] at h1;exact Int.ofNat_le.1 h1);rw[h0];show ((add64Entry #[.int .u64 x,.int .u64 y,.int .u64 (k:Int)]).run P w).andThen _=_;rw[key k nf];rfl;simp only[zA,Extern.MathBitsCarry.pair,Extern.MathBitsCarry.m64];exact⟨_,[_],rfl,zD (s:=none) (tm:=tm),_,[],rfl,zD (s:=none) (tm:=tm),rfl⟩;cases h
open Go
instance (r:Int):Decidable (A6 r):=inferInstanceAs (Decidable (_/\_))
instance (i n:Int):Decidable (A7 i n):=inferInstanceAs (Decidable (_/\_))
def WL {X:Type}(g:X->Bool)(next:X->X)(okb:X->Bool):Nat->X->Bool
 |0,_=>false
 |k+1,x=>okb x&&(cond (g x) (WL g next okb k (next x)) true)
theorem xU8{X:Type}{g:X->Bool}{next:X->X}{ok:X->Prop}{okb:X->Bool}(h:∀x,okb x=true↔ok x):∀{F:Nat}{x:X},WL g next okb F x=true↔∃k,k<F/\Runs g next ok k x:=by intro F;induction F with|zero=>intro x;simp[WL]|succ F I=>intro x;simp only[WL,jB,h];cases o:g x with|false=>simp only[jD,and_true];constructor;intro C;exact⟨0,by omega,C,o⟩;rintro⟨k,_,j⟩;(cases k with|zero=>exact j.1|succ k=>exact j.1)|true=>simp only[jE,I];constructor;rintro⟨C,k,J,j⟩;exact⟨k+1,by omega,C,o,j⟩;rintro⟨k,J,j⟩;cases k with|zero=>rw[j.2] at o;cases o|succ k=>exact⟨j.1,k,by omega,j.2.2⟩
instance {X:Type}{g:X->Bool}{next:X->X}{ok:X->Prop}[inst:∀x,Decidable (ok x)] (x:X):Decidable (AB g next ok x):=decidable_of_iff (WL g next (λx=>decide (ok x)) AW x=true) (xU8 λx=>by simp)
variable {gtab:GlobTab}{P:Program}{w:World}{χ:Nat->Nat->Nat}
def Ty.deep:Ty->Bool
 |.ptr _=>false|.cons h t=>h.deep&&t.deep|.st f=>f.deep|.arr _ t=>t.deep|.sl t=>blt 0 t.size&&t.deep|_=>true
def Ty.wf:(τ:Ty)->τ.den->Prop
 |.int k,x=>k.min<=x/\x<=k.max
 |.bool,_=>True
 |.str,s=>length (α:=UInt8) s<=maxLen
 |.nl,_=>True
 |.cons h t,x=>h.wf x.1/\t.wf x.2
 |.st f,x=>f.wf x
 |.arr n t,l=>length (α:=t.den) l=n/\∀y∈(l:List t.den),t.wf y
 |.sl t,l=>length (α:=t.den) l<=maxLen/\∀y∈(l:List t.den),t.wf y
 |.ptr t,x=>t.wf x
theorem xG3{f:Nat->Value}(sz:Nat):∀n,(range n).flatMap (λi=>(range sz).map λk=>f (i*sz+k))=(range (n*sz)).map f:=by intro n;induction n<;>simp_all [Nat.succ_mul,List.range_add]
variable {cs:List Value}
theorem xP4(sz:Nat):∀n,(range n).flatMap (λi=>(cs.drop (i*sz)).take sz)=cs.take (n*sz):=by intro n;induction n<;>simp_all [List.range_succ,Nat.succ_mul,List.take_add]
theorem WM{τ:Ty}{T:Nat}(h:AY P τ (.inl T)):P.cellsOf T=τ.size:=by obtain⟨⟨i,z,j,o,_⟩,_⟩:=GP h;grind [Program.cellsOf]
variable {a:Addr}
theorem cells?_is{n:Nat}(h:w.cells? 0 a n=some cs):cs=(range n).map (λk=>(w.cell? (a.add k)).getD undef)/\∀k,k<n->∃v,w.cell? (a.add k)=some v:=by simp[World.cells?] at h;generalize j:(λi=>w.cell? (a.add i))=f at h;(have key:∀(l:List Nat) (cs:List Value),l.mapM f=some cs->cs=l.map (λk=>(f k).getD undef)/\∀k∈l,∃v,f k=some v:=by intro l;induction l<;>simp_all [bind_eq_some_iff]);have:=key _ _ h;subst j;simp_all
theorem xP5 (a:Addr)(m k:Nat):(a.add m).add k=a.add (m+k):=by grind [Addr.add,Nat.add_assoc]
theorem yS6{v:Value}(h:w.cell? a=some v):a.spot=none/\a.block<w.heap.size:=by unfold World.cell? at h;split at h;rename_i c _ _ hb;split at h;grind;refine⟨by simp_all,zE hb⟩;grind
section
variable {H:Type}{enc:TypeId×Value->H}{sp:Nat->Bool}{held:Bool}
end
open Go Go.RowKit Go.ChangeShapes
variable {gtab:GlobTab}{P:Program}{w:World}
def enumSh:Nat->List Ty->List (Nat×Sh)
 |_,[]=>[]
 |i,τ::r=>(i,.val τ)::enumSh (i+1) r
def Jv:(i:Nat)->(τs:List Ty)->AI (enumSh i τs)->List AVal
 |_,[],_=>[]
 |i,τ::r,x=>.val τ x.1::Jv (i+1) r x.2
def k8:(i:Nat)->(τs:List Ty)->AI (enumSh i τs)->Prop
 |_,[],_=>True
 |i,τ::r,x=>τ.wf x.1/\k8 (i+1) r x.2
def yB (P:Program):List Ty->List TypeId->Bool
 |[],[]=>true
 |τ::r,T::s=>AY P τ (.inl T)&&τ.deep&&yB P r s
 |_,_=>false
theorem beq_refl:∀τ:Ty,Ty.beq τ τ:=by intro τ;induction τ<;>simp_all [Ty.beq]
theorem yS7{τ:Ty}{x:τ.den}:Ty.cast τ x=some x:=by grind [Ty.cast,beq_refl]
theorem xP6:∀{τs:List Ty}{i:Nat}{x:AI (enumSh i τs)}{S:St},(∀k,(Jv i τs x)[k]?=none\/(Jv i τs x)[k]?=some (S.get (i+k)))->(∀τ∈τs,τ.isL=false)->Er (enumSh i τs) S=some x:=by intro τs;induction τs with|nil=>intro i x S _ _;rfl|cons τ r o=>intro i x S h C;simp[enumSh,Er];have j:=h 0;simp only[Jv,Nat.add_zero] at j;rcases j with j|j;grind;injection j with j;rw[<-j];(have I:(Sh.val τ).parse (.val τ x.1)=some x.1:=by simp_all [Sh.parse,AVal.as,AVal.asT,yS7]);have J:=o (i:=i+1) (x:=x.2) (S:=S) (λk=>by have:=h (k+1);grind [Jv,List.getElem?_cons_succ]) λτ hτ=>C τ (jP _ hτ);rw[I,J];rfl
theorem xG4:∀{τs:List Ty}{i:Nat}{x:AI (enumSh i τs)},(Jv i τs x).length=τs.length/\(enumSh i τs).length=τs.length:=by intro τs;induction τs with|nil=>exact⟨rfl,rfl⟩|cons τ r j=>intro i x;simp[Jv,enumSh,(j (i:=i+1) (x:=x.2)).1,(j (i:=i+1) (x:=x.2)).2]
theorem yY0:∀{τs:List Ty}{Ts:List TypeId},yB P τs Ts->∀τ∈τs,τ.isL=false:=by intro τs;induction τs with|nil=>grind|cons σ r j=>intro Ts h τ hτ;cases Ts<;>grind [yB,FV]
section
variable {H:Type}{enc:TypeId×Value->H}
variable {τ:Ty}{T:TypeId}{v:Value}{base:Nat}
theorem xX6(j:AY P τ (.inl T))(o:τ.isAgg=false)(C:τ.deep)(h:okWide P w .any base T v):∀cs,v≠.agg cs:=by intro cs e;unfold okWide at h;cases τ with|st f=>grind [Ty.isAgg]|arr n t=>grind [Ty.isAgg]|ptr t=>grind [Ty.deep]|nl=>grind [AY]|cons a b=>grind [AY]|int k=>(have hu:P.underlying T=some (.int k):=by simp[AY] at j;cases hu:P.underlying T with|none=>grind|some d=>rw[hu] at j;cases d<;>simp at j;grind [Ni]);simp_all [Cell.okWide,Cell.ok]|bool=>(have hu:P.underlying T=some .bool:=by grind [AY]);simp_all [Cell.okWide,Cell.ok]|str=>have hu:=Nw j;simp_all [Cell.okWide,Cell.ok]|sl t=>obtain⟨e,hu,_⟩:=GQ j;simp_all [Cell.okWide,Cell.ok]
theorem wA1(j:AY P τ (.inl T))(o:τ.isAgg)(h:okWide P w .any base T v):∃cs,v=.agg cs:=by unfold okWide at h;cases τ<;>grind [OY,zS,Ty.isAgg]
end
theorem below_trods{H:Type}{enc:TypeId×Value->H}(I:laidOutB P):∀{Ts:List TypeId}{vs:List Value}{ds:List (DataW H)}{ps:List MemPlace}{W W':World}{sp:Nat->Bool},Ts.all (λt=>P.readableRec t&&blt t P.types.size)->DataW.TrodAll enc P W 0 (λ_=>true) true Ts vs ds ps->Below W.heap.size W W'->(∀x∈ps,x.block<W.heap.size)->(∀p∈ps,sp p.block=true)->DataW.TrodAll enc P W' 0 sp true Ts vs ds ps:=by intro Ts;induction Ts with|nil=>grind [DataW.TrodAll]|cons T s R=>intro vs ds ps W W' sp ht h hb j o;cases vs with|nil=>grind [DataW.TrodAll]|cons v vs=>cases ds with|nil=>grind [DataW.TrodAll]|cons d ds=>simp only[List.all_cons,jB] at ht;obtain⟨p,q,J,h2,rfl⟩:=h;refine⟨p,q,WideElems.Trod_stays I ht.1.1 (Nat.blt_eq.mp ht.1.2) J (λx C=>hb.same (j x (mem_append_left _ C))) (λx C=>o x (mem_append_left _ C)),?_,rfl⟩;grind
theorem trod_len2{H:Type}{enc:TypeId×Value->H}{T0 T1:TypeId}{vs:List Value}{ds:List (DataW H)}{ps:List MemPlace}{sp:Nat->Bool}{o:Bool}(h:DataW.TrodAll enc P w 0 sp o [T0,T1] vs ds ps):∃d0 d1,ds=[d0,d1]:=by obtain⟨v,vs1,d,ds1,a,b,rfl,rfl,rfl,C,j⟩:=trodAll_cons h;obtain⟨v,vs1,I,ds1,a,b,rfl,rfl,rfl,C,j⟩:=trodAll_cons j;obtain⟨rfl,rfl,rfl⟩:=trodAll_nil j;simp_all
theorem post_law{H:Type}{enc:TypeId×Value->H}{f:Func}{s:ChangeSpec}{W W':World}{args:Array Value}{v:Value}{ds gs:List (DataW H)}{before pa pv:List MemPlace}(C:DataW.Whole enc P f.params.toList s.vars false W args.toList ds gs before)(kO:∀(b:Nat)(sp:Nat->Bool)(I:Bool),DataW.TrodAll enc P W' b sp I f.resultTypes.toList (v.resultList f.resultTypes.size) (s.fn H (ds++gs)).results [])(ke:∀sp:Nat->Bool,(∀p∈before,sp p.block=true)->DataW.TrodAll enc P W' 0 sp true f.params.toList args.toList (s.fn H (ds++gs)).args pa)(j:∀sp:Nat->Bool,(∀p∈before,sp p.block=true)->DataW.TrodVars enc P W' sp s.vars (s.fn H (ds++gs)).vars pv)(iD:before=pa++pv)(J:W.keptBut W' (· ∈before)):s.post enc P f false true false false W args v W':=by (have hold:∀p∈before,(λb=>decide (b<W.heap.size)) p.block=true:=λp o=>by simpa using C.lt p o);refine⟨ds,gs,before,[],pa,pv,C,kO _ _ _,ke _ hold,j _ hold,World.keptBut_mono (λp o=>⟨o,?_⟩) J,λh=>by grind⟩;grind
def zeroV (P:Program)(T:TypeId):Value:=((P.info? T).bind (·.zero)).getD undef
def wD0:DataW Unit->Value
 |.lit (.int k n)=>.int k n
 |_=>undef
def flat1:DataW Unit->List Value
 |.agg l=>l.map wD0
 |.lit (.int k n)=>[.int k n]
 |_=>[]
def flat2:DataW Unit->List Value
 |.agg l=>l.flatMap flat1
 |_=>[]
def putG (h:Array Obj)(g:Nat)(cs:List Value):Array Obj:=h.modify g fun
 |.cells _ t frozen=>.cells cs.toArray t frozen
 |o=>o
def rangeLen:DataW Unit->Nat
 |.ptr (.agg (.slice l _::_))=>l.length
 |_=>0
def rangeLatin:DataW Unit->Value
 |.ptr (.agg [_,_,d])=>wD0 d
 |_=>undef
def rangeCells:DataW Unit->List Value
 |.ptr (.agg (.slice l _::_))=>l.flatMap flat1
 |_=>[]
variable {X:Type}
theorem l5{g:X->Bool}{next:X->X}{x:X}(h:g x=false):∀F,loopN g next F x=x:=by intro F;cases F with|zero=>rfl|succ F=>simp[loopN,h]
theorem F7{g:X->Bool}{next:X->X}(inv:X->Prop)(m:X->Nat)(kr:∀x,inv x->g x->inv (next x)/\m (next x)<m x):∀{x:X},inv x->m x<AW->inv (A3 g next x)/\g (A3 g next x)=false:=by (have key:∀(F:Nat) (x:X),inv x->m x<F->inv (loopN g next F x)/\g (loopN g next F x)=false:=by intro F;induction F with|zero=>intro x _ h;omega|succ F C=>intro x j hm;simp only[loopN];cases o:g x with|false=>simp only[jD];exact⟨j,o⟩|true=>simp only[jE];have:=kr x j o;exact C _ this.1 (by omega));intro x j hm;exact key AW x j hm
theorem Fg{g:X->Bool}{next:X->X}{ok:X->Prop}(inv:X->Prop)(m:X->Nat)(kg:∀x,inv x->ok x)(kr:∀x,inv x->g x->inv (next x)/\m (next x)<m x):∀{x:X},inv x->m x<AW->AB g next ok x:=by (have key:∀(F:Nat) (x:X),inv x->m x<F->∃k,k<F/\Runs g next ok k x:=by intro F;induction F with|zero=>intro x _ h;omega|succ F C=>intro x j hm;cases o:g x with|false=>exact⟨0,by omega,kg x j,o⟩|true=>have:=kr x j o;obtain⟨k,J,I⟩:=C _ this.1 (by omega);exact⟨k+1,by omega,kg x j,o,I⟩);intro x j hm;exact key AW x j hm
variable {g:Int×Unit->Bool}{next:Int×Unit->Int×Unit}{n:Int}
theorem SQ{c:Int->Bool}(gu:0<=n)(hn:n<9223372036854775808)(R:∀x,g x=(decide (x.1<n)&&!(c x.1)))(hx:∀x,next x=(x.1+1,())):∃j,0<=j/\j<=n/\A3 g next (0,())=(j,())/\(∀k,0<=k->k<j->c k=false)/\(j<n->c j):=by have h:=F7 (g:=g) (next:=next) (λx=>0<=x.1/\x.1<=n/\∀k,0<=k->k<x.1->c k=false) (λx=>(n-x.1).toNat) (λx hi kR=>by rw[R] at kR;simp only[jB,decide_eq_true_eq,jK] at kR;rw[hx];refine⟨⟨by omega,by omega,λk I C=>?_⟩,by simp only;omega⟩;by_cases e:k=x.1;rw[e];exact kR.2;exact hi.2.2 k I (by simp only at C;omega)) (x:=(0,())) ⟨by simp,gu,λk I C=>by simp only at C;omega⟩ (by simp only[AW];omega);generalize hj:A3 g next (0,())=e at h;obtain⟨⟨I,C,h3⟩,o⟩:=h;refine⟨e.1,I,C,rfl,h3,λJ=>?_⟩;rw[R] at o;simp only[Bool.and_eq_false_iff,decide_eq_false_iff_not,Bool.not_eq_false'] at o;rcases o with o|o;exact absurd J o;exact o
theorem DF{ok:Int×Unit->Prop}(gu:0<=n)(C:n<9223372036854775808)(j:∀x,g x->x.1<n)(o:∀x,next x=(x.1+1,()))(kg:∀x:Int×Unit,0<=x.1->x.1<=n->ok x):AB g next ok (0,()):=Fg (λx=>0<=x.1/\x.1<=n) (λx=>(n-x.1).toNat) (λx h=>kg x h.1 h.2) (λx I kR=>by have:=j x kR;rw[o];refine⟨⟨by simp only;omega,by simp only;omega⟩,by simp only;omega⟩) ⟨by simp,gu⟩ (by simp only[AW];omega)
def CC (n:Int)(c:Int->Bool):Bool:=(range n.toNat).any λi=>c (i:Int)
theorem GU{c:Int->Bool}(gu:0<=n)(I:n<9223372036854775808)(J:∀x,g x=(decide (x.1<n)&&!(c x.1)))(R:∀x,next x=(x.1+1,())):(decide ((A3 g next (0,())).1<n)&&c (A3 g next (0,())).1)=CC n c:=by obtain⟨j,h1,h2,h3,h4,h5⟩:=SQ gu I J R;rw[h3];rw[Bool.eq_iff_iff];simp only[jB,decide_eq_true_eq,CC,List.any_eq_true,mem_range];constructor;rintro⟨h,h'⟩;exact⟨j.toNat,by omega,by rw[Int.toNat_of_nonneg h1];exact h'⟩;rintro⟨i,hi,o⟩;by_cases C:j<n;exact⟨C,h5 C⟩;have:=h4 (i:Int) (by omega) (by omega);rw[this] at o;cases o
theorem xY6{m:Int}{c d:Int->Bool}(h:n=m)(C:∀i,0<=i->i<n->c i=d i):CC n c=CC m d:=by subst h;unfold CC;rw[Bool.eq_iff_iff];simp only[List.any_eq_true,mem_range];constructor;rintro⟨i,j,o⟩;exact⟨i,j,by rw[<-C i (by omega) (by omega)];exact o⟩;rintro⟨i,j,o⟩;exact⟨i,j,by rw[C i (by omega) (by omega)];exact o⟩
variable {α:Type}
theorem AP(l:List α):0<=len l:=by simp[len]
def CF {A:Type}(step:A->Int->A):Nat->A->A
 |0,a=>a
 |k+1,a=>step (CF step k a) (k:Int)
variable {A:Type}
theorem Ka{g:A×Int×Unit->Bool}{next:A×Int×Unit->A×Int×Unit}{step:A->Int->A}(gu:0<=n)(hn:n<9223372036854775808)(o:∀x,g x=decide (x.2.1<n))(J:∀x,next x=(step x.1 x.2.1,x.2.1+1,()))(a:A):A3 g next (a,0,())=(CF step n.toNat a,n,()):=by have h:=F7 (g:=g) (next:=next) (λx=>0<=x.2.1/\x.2.1<=n/\x.1=CF step x.2.1.toNat a) (λx=>(n-x.2.1).toNat) (λx C kR=>by rw[o] at kR;have kR:=jF kR;rw[J];refine⟨⟨by simp only;omega,by simp only;omega,?_⟩,by simp only;omega⟩;simp only;(have e:(x.2.1+1).toNat=x.2.1.toNat+1:=by omega);rw[e,CF,<-C.2.2,Int.toNat_of_nonneg C.1]) (x:=(a,0,())) ⟨by simp,gu,rfl⟩ (by simp only[AW];omega);generalize A3 g next (a,0,())=e at h;obtain⟨⟨R,h2,I⟩,j⟩:=h;rw[o] at j;have j:=of_decide_eq_false j;obtain⟨e1,e2,e3⟩:=e;simp only at R h2 I j;(have:e2=n:=by omega);subst this;rw[I]
theorem Kb{g:A×Int×Unit->Bool}{next:A×Int×Unit->A×Int×Unit}{ok:A×Int×Unit->Prop}{step:A->Int->A}(gu:0<=n)(I:n<9223372036854775808)(o:∀x,g x=decide (x.2.1<n))(C:∀x,next x=(step x.1 x.2.1,x.2.1+1,()))(a:A)(kg:∀i:Int,0<=i->i<=n->ok (CF step i.toNat a,i,())):AB g next ok (a,0,()):=Fg (λx=>0<=x.2.1/\x.2.1<=n/\x.1=CF step x.2.1.toNat a) (λx=>(n-x.2.1).toNat) (λx h=>by have:=kg x.2.1 h.1 h.2.1;rw[<-h.2.2] at this;exact this) (λx j kR=>by rw[o] at kR;have kR:=jF kR;rw[C];refine⟨⟨by simp only;omega,by simp only;omega,?_⟩,by simp only;omega⟩;simp only;(have e:(x.2.1+1).toNat=x.2.1.toNat+1:=by omega);rw[e,CF,<-j.2.2,Int.toNat_of_nonneg j.1]) ⟨by simp,gu,rfl⟩ (by simp only[AW];omega)
variable {gtab:GlobTab}{P:Program}
theorem Pt{f:Nat}{t:Ty}{rs:Sh}{o0:AI [(0,Sh.nn true)]->Eh []}{o1:AI [(0,Sh.nn false)]->Eh []}{o2:AI [(0,Sh.val (.sl t))]->Eh []}{ok0:AI [(0,Sh.nn true)]->Prop}{ok1:AI [(0,Sh.nn false)]->Prop}{ok2:AI [(0,Sh.val (.sl t))]->Prop}{F0:AI [(0,Sh.nn true)]->rs.den}{F1:AI [(0,Sh.nn false)]->rs.den}{F2:AI [(0,Sh.val (.sl t))]->rs.den}(h0:SpecOk P f (fnSpec [(0,.nn true)] rs [] ok0 F0 o0))(C:SpecOk P f (fnSpec [(0,.nn false)] rs [] ok1 F1 o1))(h2:SpecOk P f (fnSpec [(0,.val (.sl t))] rs [] ok2 F2 o2)){F:List t.den->rs.den}{ok:List t.den->Prop}{o:AI [(0,Sh.val (.sl t))]->Eh []}(hok0:ok0 ((),()))(iu:ok1 ((),()))(hok2:∀l:List t.den,ok l->0<l.length->ok2 (l,()))(e0:F []=F0 ((),()))(e1:F []=F1 ((),()))(e2:∀l:List t.den,F l=F2 (l,())):SpecOk P f (fnSpec [(0,.val (.sl t))] rs [] (λx=>ok x.1) (λx=>F x.1) o):=by refine⟨h0.1,λargs co j kg G w vals hlen J kn=>?_⟩;unfold fnSpec at j;generalize qo:Nat.beq args.length _=b at j;cases b with|false=>cases j|true=>simp only[jE] at j;split at j;rename_i x hx;injection j with j;subst j;have hl:args.length=1:=jC qo;(obtain⟨A,rfl⟩:∃A,args=[A]:=by match args,hl with |[A],_=>exact⟨A,rfl⟩);(obtain⟨v,rfl⟩:∃v,vals=[v]:=by match vals,hlen with |[v],_=>exact⟨v,rfl⟩);obtain⟨l,_⟩:=x;(have hp:(Sh.val (.sl t)).parse A=some l:=by simp only[Er,FZ,St.get] at hx;split at hx;rename_i y z hy _;simp only[jA,jG] at hx;rw[<-hx.1];simpa using hy;cases hx);have hokl:ok l:=kg _ (jH.2 rfl);have I:=F4 hp (kn 0 A v rfl rfl);simp only[Sh.mk,zA] at I;rw[zC rfl] at I;have hC:=I;simp only[AN] at I;obtain⟨a,cap,hv,I⟩:=I;injection hv with hv _;(have run:∀{s:Sh}{y:s.den}{ok':AI [(0,s)]->Prop}{F':AI [(0,s)]->rs.den}{o':AI [(0,s)]->Eh []},SpecOk P f (fnSpec [(0,s)] rs [] ok' F' o')->(∀S:St,s.parse (s.mk y)=some y)->ok' (y,())->F l=F' (y,())->zA G w #[] (some 0) (s.mk y) v->Calls P f [v].toArray w λe w'=>∃v' G',e=.returned v'/\Frame0 G.χ w G'.χ w'/\zA G' w' #[] none (rs.mk (F l)) v'/\(∀(i:Nat) k A' u,(i,k)∈Pq [] (o (l,()))->[A][i]?=some A'->[v][i]?=some u->(∀τ k0,A'=.box τ k0->zA G' w' #[] (some i) (.box τ k) u/\G'.β i=G.β i)/\(Ff A'=false->zA G' w' #[] none k u)):=by intro s y ok' F' o' hs gS mz hF' qj;(have j:fnSpec [(0,s)] rs [] ok' F' o' [s.mk y]=some ⟨[ok' (y,())],rs.mk (F' (y,())),Pq [] (o' (y,())),[]⟩:=by (have:Er [(0,s)] (FZ 0 [s.mk y])=some (y,()):=by simp[Er,FZ,St.get,gS []]);unfold fnSpec;rw[this];rfl);refine (hs.2 _ _ j (λq hq=>by simp only[jH] at hq;subst hq;exact mz) G w [v] rfl J (λi A' v' C h2=>?_)).mono ?_;(match i,C,h2 with |0,C,h2=>simp only[List.getElem?_cons_zero,jA] at C h2;subst C;subst h2;exact qj|i+1,C,_=>simp at C);rintro e w' ⟨v',G',rfl,q1,q2,_⟩;exact⟨v',G',rfl,q1,by rw[hF'];exact q2,λi k A' u h=>by cases h⟩);rcases I with I | ⟨b,o2',us,ha,_⟩;have R:l=[]:=I;subst R;(cases a with|none=>exact run (s:=.nn true) (y:=()) h0 (λ_=>rfl) hok0 e0 (by simp only[Sh.mk,zA];exact⟨none,cap,hv,rfl⟩)|some ad=>exact run (s:=.nn false) (y:=()) C (λ_=>rfl) iu e1 (by simp only[Sh.mk,zA];exact⟨some ad,cap,hv,rfl⟩));(have gp:0<length (α:=t.den) l\/l=[]:=by cases l with|nil=>exact .inr rfl|cons _ _=>exact .inl (by simp));rcases gp with gp|R;refine run (s:=.val (.sl t)) (y:=l) h2 (λ_=>?_) (hok2 l hokl gp) (e2 l) (by simp only[Sh.mk,zA];exact (zC rfl).2 hC);simp only[Sh.parse,Sh.mk,Ty.isL,jD,AVal.as,AVal.asT];exact yS7;subst R;subst ha;exact run (s:=.nn false) (y:=()) C (λ_=>rfl) iu e1 (by simp only[Sh.mk,zA];exact⟨_,cap,hv,rfl⟩);cases j
variable {gtab:GlobTab}{P:Program}{w:World}{χ:Nat->Nat->Nat}
def Ty.bulk:(τ:Ty)->τ.den->Nat
 |.int _,_=>1
 |.bool,_=>1
 |.str,s=>length (α:=UInt8) s+1
 |.nl,_=>0
 |.cons h t,x=>h.bulk x.1+t.bulk x.2
 |.st f,x=>f.bulk x+1
 |.arr _ t,l=>(map t.bulk l).sum+1
 |.sl t,l=>(map t.bulk l).sum+1
 |.ptr _,_=>0
structure BulkFn (H:Type) where
 B:DataW H->Nat
 BA:List (DataW H)->Nat
 str:∀s,s.length+1<=B (.lit (.string s))
 lit:∀l,1<=B (.lit l)
 slice:∀e s,BA e+1<=B (.slice e s)
 agg:∀p,BA p+1<=B (.agg p)
 nil':1<=B .nil
 cons:∀d r,B d+BA r<=BA (d::r)
theorem yS8{H:Type}{K:BulkFn H}{f:α->Option (DataW H×List MemPlace)}{R:X->List Value->Prop}{g:α->List Value}{wf:X->Prop}{bk:X->Nat}:∀{l:List α}{ys:List (DataW H×List MemPlace)},l.mapM f=some ys->(∀x y,x∈l->f x=some y->∃z,R z (g x)/\wf z/\bk z<=K.B y.1)->∃zs:List X,zs.length=l.length/\C6 R zs (l.flatMap g)/\(∀z∈zs,wf z)/\(zs.map bk).sum<=K.BA (ys.map (·.1)):=by intro l;induction l with|nil=>intro ys _ _;exact⟨[],rfl,rfl,λz h=>(by grind),by simp⟩|cons x l o=>intro ys h j;simp only[mapM_cons,bind_eq_bind,bind_eq_some_iff,pure_def,jA] at h;obtain⟨y,C,ys',gf,rfl⟩:=h;obtain⟨z,I,h2,h6⟩:=j x y (jQ ..) C;obtain⟨zs,h3,J,h5,h7⟩:=o gf λx y hx=>j x y (jP _ hx);refine⟨z::zs,by grind,⟨g x,l.flatMap g,rfl,I,J⟩,λz' hz=>?_,?_⟩;(·all_goals grind);(·simp;have:=K.cons y.1 (ys'.map (·.1));omega)
section
variable {H:Type}{enc:TypeId×Value->H}{sp:Nat->Bool}{held:Bool}
theorem xP7 (K:BulkFn H)(hχ:∀b o,b<w.heap.size->χ b o=0):∀τ:Ty,(∀(T AW:Nat) (cs:List Value) (d:DataW H) (ps:List MemPlace),AY P τ (.inl T)->τ.deep->DataW.trod enc P w 0 sp held AW T cs=some (d,ps)->∃x,AN χ w τ x cs/\τ.wf x/\τ.bulk x<=K.B d)/\(∀(fs:List Field) (o:Nat) (cs:List Value) (AW:Nat) (xs:List (DataW H×List MemPlace)),AY P τ (.inr (fs,o))->τ.deep->fs.mapM (λf=>DataW.trod enc P w 0 sp held AW f.type ((cs.drop f.offset).take (P.cellsOf f.type)))=some xs->cs.length=o+τ.size->∃x,AN χ w τ x (cs.drop o)/\τ.wf x/\τ.bulk x<=K.BA (xs.map (·.1))):=by intro τ;induction τ with|int k=>refine⟨λT AW cs d ps C _ h=>?_,λfs o cs AW xs C=>by simp[AY] at C⟩;(have hu:P.underlying T=some (.int k):=by simp only[AY,jB] at C;cases hu:P.underlying T with|none=>simp[hu] at C|some d=>rw[hu] at C;cases d<;>simp at C;rw[Ni C.1]);(cases AW with|zero=>simp[DataW.trod] at h|succ AW=>unfold DataW.trod at h;rw[hu] at h;match cs,h with |[.int k' n],h=>simp only at h;split at h;rename_i hc;obtain⟨rfl,hw⟩:=hc;simp only[Lit.wf,jB,decide_eq_true_eq] at hw;simp only[jA,jG] at h;exact⟨n,by simp only[AN],hw,by rw[<-h.1];exact K.lit _⟩;cases h)|bool=>refine⟨λT AW cs d ps C _ h=>?_,λfs o cs AW xs C=>by simp[AY] at C⟩;(have hu:P.underlying T=some .bool:=by simp only[AY,jB] at C;cases hu:P.underlying T with|none=>simp[hu] at C|some d=>rw[hu] at C;cases d<;>simp at C;rfl);(cases AW with|zero=>simp[DataW.trod] at h|succ AW=>unfold DataW.trod at h;rw[hu] at h;match cs,h with |[.bool b],h=>simp only[jA,jG] at h;exact⟨b,by simp only[AN],trivial,by rw[<-h.1];exact K.lit _⟩)|str=>refine⟨λT AW cs d ps C _ h=>?_,λfs o cs AW xs C=>by simp[AY] at C⟩;have hu:=Nw C;(cases AW with|zero=>simp[DataW.trod] at h|succ AW=>unfold DataW.trod at h;rw[hu] at h;match cs,h with |[.string b],h=>simp only at h;split at h;rename_i hs;simp only[jA,jG] at h;refine⟨b.data.toList,by simp only[AN],?_,by rw[<-h.1];exact K.str _⟩;show b.data.toList.length<=maxLen;rw[jN];exact hs;cases h)|nl=>refine⟨λT AW cs d ps C=>by simp[AY] at C,λfs o cs AW xs C _ h hl=>?_⟩;refine⟨(),?_,trivial,Nat.zero_le _⟩;simp only[AN,Ty.size,Nat.add_zero] at hl ⊢;simp[hl]|cons a b gA gq=>refine⟨λT AW cs d ps C=>by simp[AY] at C,λfs o cs AW xs C I h hl=>?_⟩;(cases fs with|nil=>simp[AY] at C|cons fd r=>simp only[AY,jB] at C;obtain⟨⟨⟨h1,_⟩,h2⟩,h3⟩:=C;have ho:=jC h1;simp only[Ty.deep,jB] at I;simp only[Ty.size] at hl;simp only[mapM_cons,bind_eq_bind,bind_eq_some_iff,pure_def,jA] at h;obtain⟨y,J,ys,gf,rfl⟩:=h;obtain⟨x,q1,q2,q5⟩:=gA.1 _ _ _ _ _ h2 I.1 (show _=some (y.1,y.2) from J);rw[WM h2,ho] at q1;obtain⟨z,q3,q4,q6⟩:=gq.2 r (o+a.size) cs AW ys h3 I.2 gf (by omega);refine⟨(x,z),?_,⟨q2,q4⟩,by simp only[Ty.bulk,List.map_cons];have:=K.cons y.1 (ys.map (·.1));omega⟩;simp only[AN];refine⟨_,_,?_,q1,q3⟩;rw[<-List.drop_drop,List.take_append_drop])|st f ih=>refine⟨λT AW cs d ps C I h=>?_,λfs o cs AW xs C=>by simp[AY] at C⟩;obtain⟨fs,hu,hf⟩:=OY C;have kN:=WM C;(cases AW with|zero=>simp[DataW.trod] at h|succ AW=>unfold DataW.trod at h;rw[hu] at h;simp only at h;split at h;rename_i hl;simp only[map_eq_some_iff] at h;obtain⟨xs,tr,he⟩:=h;obtain⟨x,h1,h2,h3⟩:=ih.2 fs.toList 0 cs AW xs hf (by simpa only[Ty.deep] using I) tr (by rw[hl,kN];simp[Ty.size]);simp only[jG] at he;exact⟨x,by simpa only[AN,List.drop_zero] using h1,h2,by rw[<-he.1];have:=K.agg (xs.map (·.1));simp only[Ty.bulk];omega⟩;cases h)|arr n t ih=>refine⟨λT AW cs d ps C I h=>?_,λfs o cs AW xs C=>by simp[AY] at C⟩;obtain⟨e,hu,hf⟩:=zS C;have kN:=WM C;have gV:=WM hf;(cases AW with|zero=>simp[DataW.trod] at h|succ AW=>unfold DataW.trod at h;rw[hu] at h;simp only at h;split at h;rename_i hl;simp only[map_eq_some_iff] at h;obtain⟨xs,tr,he⟩:=h;obtain⟨zs,h1,h2,h3,h4⟩:=yS8 (K:=K) (R:=AN χ w t) (g:=λi=>(cs.drop (i*t.size)).take t.size) (wf:=t.wf) (bk:=t.bulk) tr (λi y _ J=>by rw[gV] at J;exact ih.1 _ _ _ _ _ hf (by simpa only[Ty.deep] using I) (show _=some (y.1,y.2) from J));rw[xP4] at h2;simp only[List.length_range] at h1;rw[List.take_of_length_le (by rw[hl,kN];simp[Ty.size])] at h2;simp only[jG] at he;exact⟨zs,by simp only[AN];exact⟨h1,h2⟩,⟨h1,h3⟩,by rw[<-he.1];have:=K.agg (xs.map (·.1));simp only[Ty.bulk];omega⟩;cases h)|sl t ih=>refine⟨λT AW cs d ps C I h=>?_,λfs o cs AW xs C=>by simp[AY] at C⟩;obtain⟨e,hu,hf⟩:=GQ C;have gV:=WM hf;(cases AW with|zero=>simp[DataW.trod] at h|succ AW=>unfold DataW.trod at h;rw[hu] at h;match cs,h with |[.slice none 0 0],h=>simp only[jA,jG] at h;exact⟨[],by simp only[AN];exact⟨none,0,rfl,.inl trivial⟩,by simp[Ty.wf],by rw[<-h.1];simpa[Ty.bulk] using K.nil'⟩|[.slice (some a) ln cap],h=>simp only at h;split at h;rename_i hc;simp only[bind_eq_some_iff] at h;obtain⟨els,hels,qt⟩:=h;simp only[map_eq_some_iff] at qt;obtain⟨rest,_,he⟩:=qt;simp only[jG] at he;rw[gV] at hels;obtain⟨zs,h1,h2,h3,hbk⟩:=yS8 (K:=K) (R:=AN χ w t) (g:=λi=>(range t.size).map λk=>(w.cell? (a.add (i*t.size+k))).getD undef) (wf:=t.wf) (bk:=t.bulk) hels (λi y _ J=>by simp only[bind_eq_some_iff] at J;obtain⟨cs',kl,J⟩:=J;obtain⟨z,q1,q2,q3⟩:=ih.1 _ _ _ _ _ hf (by simp only[Ty.deep,jB] at I;exact I.2) (show _=some (y.1,y.2) from J);refine⟨z,?_,q2,q3⟩;have:=(cells?_is kl).1;rw[this] at q1;simpa only[xP5] using q1);rw[xG3 (f:=λj=>(w.cell? (a.add j)).getD undef)] at h2;simp only[List.length_range] at h1;refine⟨zs,?_,by simp only[Ty.wf];exact⟨by omega,h3⟩,by rw[<-he.1];have:=K.slice (els.map (·.1)) (rest.map (·.1));simp only[Ty.bulk];omega⟩;simp only[AN];refine⟨some a,cap,by rw[h1],?_⟩;by_cases hz:zs=[];exact .inl hz;(have kF:∀j,j<ln*t.size->∃v,w.cell? (a.add j)=some v:=by intro j hj;(have gp:0<t.size:=by rcases Nat.eq_zero_or_pos t.size with h0|h0;rw[h0] at hj;simp at hj;exact h0);have hi:j / t.size<ln:=Nat.div_lt_of_lt_mul (by rw[Nat.mul_comm];exact hj);(have gC:∀i,i<ln->∃y,(w.cells? 0 (a.add (i*t.size)) t.size).bind (DataW.trod enc P w 0 sp held AW e)=some y:=by intro i hi;(have key:∀(l:List Nat) els,l.mapM (λi=>(w.cells? 0 (a.add (i*t.size)) t.size).bind (DataW.trod enc P w 0 sp held AW e))=some els->∀i∈l,∃y,(w.cells? 0 (a.add (i*t.size)) t.size).bind (DataW.trod enc P w 0 sp held AW e)=some y:=by intro l;induction l with|nil=>intro els _ i h;cases h|cons x l ihl=>intro els h i hi;simp only[mapM_cons,bind_eq_bind,bind_eq_some_iff,pure_def,jA] at h;obtain⟨y,J,ys,gf,rfl⟩:=h;rcases mem_cons.1 hi with rfl|hi;exact⟨y,by simpa only[bind_eq_some_iff] using J⟩;exact ihl ys gf i hi);exact key _ _ hels i (mem_range.2 hi));obtain⟨y,J⟩:=gC _ hi;simp only[bind_eq_some_iff] at J;obtain⟨cs',kl,_⟩:=J;obtain⟨v,hv⟩:=(cells?_is kl).2 (j % t.size) (Nat.mod_lt _ gp);refine⟨v,?_⟩;(have e1:(a.add (j / t.size*t.size)).add (j % t.size)=a.add j:=by rw[xP5,Nat.div_add_mod']);rwa [e1] at hv);obtain⟨b,o,s⟩:=a;simp only[Ty.deep,jB] at I;have hs1:0<t.size:=jR I.1;by_cases tt:ln=0;exact .inl (List.length_eq_zero_iff.1 (by omega));have gp:0<ln*t.size:=Nat.mul_pos (by omega) (by omega);obtain⟨v,hv⟩:=kF 0 gp;have hsp:=(yS6 hv).1;(have hsp:s=none:=by simpa[Addr.add] using hsp);subst hsp;refine .inr ⟨b,o,_,rfl,by omega,h2,λj v hj=>?_⟩;rw[List.getElem?_map] at hj;(have iv:j<ln*t.size:=by rcases Nat.lt_or_ge j (ln*t.size) with h' | h';exact h';rw[List.getElem?_eq_none (by simpa using h')] at hj;simp at hj);obtain⟨v',gP⟩:=kF j iv;rw[List.getElem?_range iv] at hj;simp only[map_some,jA] at hj;rw[gP] at hj;simp only[getD_some] at hj;subst hj;(have e2:(⟨b,o,none⟩:Addr).add j=⟨b,o+j,none⟩:=by by_cases hj0:j=0;subst hj0;simp[Addr.add];simp[Addr.add,hj0]);rw[e2] at gP;exact⟨gP,hχ b (o+j) (yS6 gP).2⟩;cases h)|ptr t _=>exact⟨λT AW cs d ps _ I=>by simp[Ty.deep] at I,λfs o cs AW xs _ I=>by simp[Ty.deep] at I⟩
def SR:(i:Nat)->(τs:List Ty)->AI (enumSh i τs)->Nat
 |_,[],_=>0
 |i,τ::r,x=>τ.bulk x.1+SR (i+1) r x.2
theorem xP9(K:BulkFn H){G:Gh}(hχ:∀b o,b<w.heap.size->G.χ b o=0):∀{τs:List Ty}{Ts:List TypeId}{vs:List Value}{ds:List (DataW H)}{ps:List MemPlace}{i base:Nat},yB P τs Ts->DataW.TrodAll enc P w 0 (λ_=>true) true Ts vs ds ps->(∀(j:Nat) t v,Ts[j]?=some t->vs[j]?=some v->okWide P w .any base t v)->∃x:AI (enumSh i τs),vs.length=τs.length/\k8 i τs x/\SR i τs x<=K.BA ds/\∀(k:Nat) A v,(Jv i τs x)[k]?=some A->vs[k]?=some v->zA G w #[] (some (i+k)) A v:=by intro τs;induction τs with|nil=>intro Ts vs ds ps i base ht h _;(cases Ts with|cons T s=>grind [yB]|nil=>cases vs with|nil=>exact⟨(),rfl,trivial,by simp[SR],λk A v h=>by grind⟩|cons v vs=>grind [DataW.TrodAll])|cons τ r ih=>intro Ts vs ds ps i base ht h kg;cases Ts with|nil=>grind [yB]|cons T s=>cases vs with|nil=>grind [DataW.TrodAll]|cons v vs=>cases ds with|nil=>grind [DataW.TrodAll]|cons d ds=>simp[yB,jB] at ht;obtain⟨⟨C,h2⟩,h3⟩:=ht;obtain⟨p,q,⟨fl,hd⟩,hr,_⟩:=h;obtain⟨x,hx,I,hbk⟩:=(xP7 K hχ τ).1 T fl _ d p C h2 hd;obtain⟨y,hy1,J,hy4,R⟩:=ih (i:=i+1) h3 hr λj t v ht hv=>kg (j+1) t v (by simpa using ht) (by grind);refine⟨(x,y),by grind,⟨I,J⟩,by simp only[SR];have:=K.cons d ds;omega,λk A u hA hu=>?_⟩;cases k with|zero=>simp[Jv] at hA hu;subst hA;subst hu;refine⟨_,hx,?_⟩;have hv:=kg 0 T v rfl rfl;(cases ha:τ.isAgg with|true=>obtain⟨cs,rfl⟩:=wA1 C ha hv;simp[Value.cells]|false=>have:=xX6 C ha h2 hv;cases v with|agg cs=>exact absurd rfl (this cs)|_=>rfl)|succ k=>have:=R k A u hA hu;rwa [show i+1+k=i+(k+1) by omega] at this
theorem law_callsU(K:BulkFn H){N:Nat}{τs:List Ty}{Ts:List TypeId}{f:Nat}{ok:AI (enumSh 0 τs)->Prop}{F:AI (enumSh 0 τs)->Bool}{o:AI (enumSh 0 τs)->Eh []}(hs:SpecOk P f (fnSpec (enumSh 0 τs) (.val .bool) [] ok F o))(km:yB P τs Ts)(hn:ble τs.length BO)(R:∀x,k8 0 τs x->SR 0 τs x<=N->ok x/\F x){args:Array Value}{ds:List (DataW H)}{ps:List MemPlace}{base:Nat}(hA:DataW.TrodAll enc P w 0 (λ_=>true) true Ts args.toList ds ps)(kg:∀(j:Nat) t v,Ts[j]?=some t->args.toList[j]?=some v->okWide P w .any base t v)(hN:K.BA ds<=N)(I:GlobOk (λb _=>if b<w.heap.size then 0 else 2) w):Calls P f args w λe w'=>e=.returned (.bool true)/\Below w.heap.size w w':=by let G:Gh:=⟨λb _=>if b<w.heap.size then 0 else 2,λ_=>0,λ_=>0⟩;(have hχ:∀b o,b<w.heap.size->G.χ b o=0:=λb o hb=>by grind);obtain⟨x,h1,h2,h4,h3⟩:=xP9 K (G:=G) hχ (i:=0) km hA kg;obtain⟨nv,hFx⟩:=R x h2 (le_trans h4 hN);have hlen:=xG4 (τs:=τs) (i:=0) (x:=x);have hn:τs.length<=BO:=jR hn;have gS:Er (enumSh 0 τs) (FZ 0 (Jv 0 τs x))=some x:=xP6 (λk=>by by_cases hk:k<τs.length;have:=yH4 (s:=k) (args:=Jv 0 τs x) (i:=0) (by omega) (by omega) (by omega);simp_all;grind) (yY0 km);(have hsp:fnSpec (enumSh 0 τs) (.val .bool) [] ok F o (Jv 0 τs x)=some ⟨[ok x],.val .bool (F x),[],[]⟩:=by unfold fnSpec;rw[hlen.1,hlen.2,Nat.beq_refl,jE,gS];rfl);have J:=hs.2 _ _ hsp (λq hq=>by grind) G w args.toList (by rw[h1,hlen.1]) I (λi A v hA hv=>by have:=h3 i A v hA hv;rwa [Nat.zero_add] at this);refine J.mono ?_;rintro e w' ⟨v,G',rfl,C,kO,_⟩;have hv:=(zC rfl).1 kO;simp[AN] at hv;rw[hv,hFx];refine⟨rfl,C.os,C.tape,C.output,C.size,λk hk=>C.block k hk λo=>?_⟩;grind
end
variable {gtab:GlobTab}{P:Program}
variable {χ0:Nat->Nat->Nat}
theorem yY2{w:World}:Frame0 χ0 w χ0 w:=⟨rfl,rfl,rfl,jI _,λ_ _ _=>rfl,λ_ _ _ _=>⟨rfl,rfl⟩⟩
variable {f:Nat}{τ:Ty}{rs:Sh}
theorem xG5{ok:τ.den->Prop}{F:τ.den->rs.den}{o:AI [(0,Sh.val τ)]->Eh []}(hfn:∃fn,P.funcs[f]?=some fn/\fn.body.isSome/\fn.name≠"runtime.NumGoroutine") (H:∀x,ok x->∀(G:Gh) (w:World) (v:Value),GlobOk G.χ w->DO G.χ w τ x v->Calls P f #[v] w λe w'=>∃u G',e=.returned u/\Frame0 G.χ w G'.χ w'/\zA G' w' #[] none (rs.mk (F x)) u):SpecOk P f (fnSpec [(0,.val τ)] rs [] (λx=>ok x.1) (λx=>F x.1) o):=by refine⟨hfn,λargs co hsp kg G w vals hlen hglob kn=>?_⟩;unfold fnSpec at hsp;generalize qo:Nat.beq args.length _=b at hsp;cases b with|false=>cases hsp|true=>simp only[jE] at hsp;split at hsp;rename_i x hx;injection hsp with hsp;subst hsp;have hl:args.length=1:=jC qo;(obtain⟨A,rfl⟩:∃A,args=[A]:=by match args,hl with |[A],_=>exact⟨A,rfl⟩);(obtain⟨v,rfl⟩:∃v,vals=[v]:=by match vals,hlen with |[v],_=>exact⟨v,rfl⟩);obtain⟨l,_⟩:=x;(have hp:(Sh.val τ).parse A=some l:=by simp only[Er,FZ,St.get] at hx;split at hx;rename_i y z hy _;simp only[jA,jG] at hx;rw[<-hx.1];simpa using hy;cases hx);have hA:=F4 hp (kn 0 A v rfl rfl);simp only[Sh.mk,zA] at hA;refine (H l (kg _ (jH.2 rfl)) G w v hglob hA).mono ?_;rintro e w' ⟨u,G',rfl,q1,q2⟩;exact⟨u,G',rfl,q1,q2,λi k A' u h=>by cases h⟩;cases hsp
variable {σ:Ty}
theorem xG6{ok:τ.den->σ.den->Prop}{F:τ.den->σ.den->rs.den}{o:AI [(0,Sh.val τ),(1,Sh.val σ)]->Eh []}(hfn:∃fn,P.funcs[f]?=some fn/\fn.body.isSome/\fn.name≠"runtime.NumGoroutine") (H:∀x y,ok x y->∀(G:Gh) (w:World) (v u:Value),GlobOk G.χ w->DO G.χ w τ x v->DO G.χ w σ y u->Calls P f #[v,u] w λe w'=>∃r G',e=.returned r/\Frame0 G.χ w G'.χ w'/\zA G' w' #[] none (rs.mk (F x y)) r):SpecOk P f (fnSpec [(0,.val τ),(1,.val σ)] rs [] (λx=>ok x.1 x.2.1) (λx=>F x.1 x.2.1) o):=by refine⟨hfn,λargs co hsp kg G w vals hlen hglob kn=>?_⟩;unfold fnSpec at hsp;generalize qo:Nat.beq args.length _=b at hsp;cases b with|false=>cases hsp|true=>simp only[jE] at hsp;split at hsp;rename_i x hx;injection hsp with hsp;subst hsp;have hl:args.length=2:=jC qo;(obtain⟨A,B,rfl⟩:∃A B,args=[A,B]:=by match args,hl with |[A,B],_=>exact⟨A,B,rfl⟩);(obtain⟨v,u,rfl⟩:∃v u,vals=[v,u]:=by match vals,hlen with |[v,u],_=>exact⟨v,u,rfl⟩);obtain⟨l,m,_⟩:=x;(have hp:(Sh.val τ).parse A=some l/\(Sh.val σ).parse B=some m:=by simp only[Er,FZ,St.get] at hx;split at hx;rename_i y z hy hz;simp only[jA,jG] at hx;split at hz;rename_i y' z' hy' _;simp only[jA] at hz;rw[<-hz] at hx;simp only[jG] at hx;rw[<-hx.1,<-hx.2.1];exact⟨by simpa using hy,by simpa[Nat.beq,BO] using hy'⟩;cases hz;cases hx);have hA:=F4 hp.1 (kn 0 A v rfl rfl);have hB:=F4 hp.2 (kn 1 B u rfl rfl);simp only[Sh.mk,zA] at hA hB;refine (H l m (kg _ (jH.2 rfl)) G w v u hglob hA hB).mono ?_;rintro e w' ⟨r,G',rfl,q1,q2⟩;exact⟨r,G',rfl,q1,q2,λi k A' u h=>by cases h⟩;cases hsp
theorem wA8{F:List UInt8->List UInt8->Int}{o:AI [(0,Sh.val .str),(1,Sh.val .str)]->Eh []}(hfn:∃fn,P.funcs[f]?=some fn/\fn.body.isSome/\fn.name≠"runtime.NumGoroutine") (H:∀(s:ByteArray) (c:UInt8) (w:World),Calls P f #[.string s,.string ⟨#[c]⟩] w λe w'=>e=.returned (.int .i64 (F s.data.toList [c]))/\w'=w):SpecOk P f (fnSpec [(0,.val .str),(1,.val .str)] (.val (.int .i64)) [] (λx=>length x.2.1=1) (λx=>F x.1 x.2.1) o):=by refine xG6 (τ:=.str) (σ:=.str) (rs:=.val (.int .i64)) (ok:=λ_ y=>length y=1) (F:=F) hfn λx y hy G w v u _ hv hu=>?_;rw[zC rfl] at hv hu;simp only[AN] at hv hu;injection hv with hv _;injection hu with hu _;match y,hy with |[c],_=>subst hv hu;refine (H ⟨toArray x⟩ c w).mono ?_;rintro e w' ⟨rfl,rfl⟩;refine⟨_,G,rfl,yY2,?_⟩;simp only[Sh.mk,zA];rw[zC rfl];simp[AN]
theorem xQ{w:World}:∀{l:List (List UInt8)},C6 (AN χ0 w .str) l (l.map λx=>string ⟨x.toArray⟩):=by intro l;induction l with|nil=>simp[C6]|cons x l j=>exact⟨[.string ⟨x.toArray⟩],_,rfl,by simp only[AN],j⟩
variable {k:IntKind}
theorem xQ0{w:World}:∀{l:List Int}{vs:List Value},C6 (AN χ0 w (.int k)) l vs->vs=l.map (Value.int k):=by intro l;induction l with|nil=>intro vs h;simpa[C6] using h|cons x l o=>rintro vs ⟨us,ws,rfl,j,C⟩;simp only[AN] at j;rw[j,o C];rfl
theorem wB9{w:World}(h:GlobOk χ0 w){g n:Nat}{l:List Int}(hm:(g,(⟨.arr n (.int k),l⟩:(τ:Ty)×τ.den))∈GlobTab.tab)(c:Nat)(I:c<n):w.cell? ⟨g,c,none⟩=some (.int k (l.getD c 0)):=by obtain⟨vs,j,o⟩:=h g (.arr n (.int k)) l hm;unfold AN at j;obtain⟨j,C⟩:=j;have e:=xQ0 C;subst e;have hlen:length (α:=Int) l=n:=j;have:=(o c (.int k (l.getD c 0)) (by rw[List.getElem?_map,jL (by omega),jM,jL (by omega)];rfl)).1;simpa using this
theorem wA9{F:List UInt8->List (List UInt8)}{e:TypeId}{ok:List UInt8->Prop}{o:AI [(0,Sh.val .str)]->Eh []}(hfn:∃fn,P.funcs[f]?=some fn/\fn.body.isSome/\fn.name≠"runtime.NumGoroutine") (H:∀(s:ByteArray) (w:World) (χ:Nat->Nat->Nat),ok s.data.toList->GlobOk χ w->Calls P f #[.string s] w λe' w'=>e'=.returned (.slice (some ⟨w.heap.size,0,none⟩) (F s.data.toList).length (F s.data.toList).length)/\w'=w.alloc (.cells ((F s.data.toList).map λl=>string ⟨l.toArray⟩).toArray e)):SpecOk P f (fnSpec [(0,.val .str)] (.val (.sl .str)) [] (λx=>ok x.1) (λx=>F x.1) o):=by refine xG5 (τ:=.str) (rs:=.val (.sl .str)) (ok:=ok) (F:=F) hfn λx hx G w v hglob hv=>?_;rw[zC rfl] at hv;simp only[AN] at hv;injection hv with hv _;subst hv;refine (H ⟨toArray x⟩ w G.χ (by simpa using hx) hglob).mono ?_;rintro e' w' ⟨rfl,rfl⟩;let G':Gh:={ G with χ:=λb o=>if b=w.heap.size then 0 else G.χ b o };refine⟨_,G',rfl,⟨rfl,rfl,rfl,by simp,λb hb _=>Below.heap_alloc _ _ _ hb,λb o hb _=>⟨if_neg (by omega),World.cell?_alloc_old _ _ _ (by simp only;omega)⟩⟩,?_⟩;simp only[Sh.mk,zA];rw[zC rfl];unfold AN;refine⟨_,_,rfl,.inr ⟨w.heap.size,0,_,rfl,jI _,xQ,λj v hv=>⟨?_,if_pos rfl⟩⟩⟩;simp only[World.cell?,World.alloc_heap_new,Nat.zero_add];simpa using hv
variable {gtab:GlobTab}{P:Program}{c:Ctx}
def l6:Code->Option Code
 |.seq a b=>match l6 a with|some x=>some x|none=>l6 b
 |.block _ a=>l6 a
 |.rangeFunc _ _ _ b=>some b
 |_=>none
def xV5 [GlobTab] (c:Ctx)(code:Code)(S:St):Bool:=match eval c code S with
 |some o=>o.comps.all λx=>Nat.beq x.kind 0
 |none=>false
def xX7 [GlobTab] (P:Program)(c:Ctx)(code:Code)(ps os:List (Nat×Sh))(ok:AI ps->Prop)(o:AI ps->Eh os):Prop:=
 ∀x,ok x->∀(rd:Option Nat) (χ0:Nat->Nat->Nat) (w0:World) (a:Act) (w:World) (G:Gh),Rel c.n χ0 w0 (Ei ps x) a w G ->
  code.wpIn (fz rd) 0 P (λe a' w'=>e=.normal/\(∀i∈c.keep,a'.tmps.getD i undef=a.tmps.getD i undef) /\
   ∃G' d,Rel c.n χ0 w0 (d++Ei ps x) a' w' G'/\JZ os (d++Ei ps x)=some (o x)) a w
theorem wB(hc:CtxOk P c)(hm:P.follows .mixedOrders){code:Code}{bs:List Code}(iF:zG code=bs)(hL:GS P c bs)(hw:ES c.keep code){ps os:List (Nat×Sh)}{ok:AI ps->Prop}{F:AI ps->rs.den}{o:AI ps->Eh os}(kM:∀x,xV5 c code (Ei ps x))(kx:∀x,Iv c code [] ps rs os x=some (ok x,F x,o x)):xX7 P c code ps os ok o:=by intro x hx rd χ0 w0 a w G hR;have h:=kx x;have kM:=kM x;unfold Iv at h;unfold xV5 at kM;split at h;cases h;rename_i out I;rw[I] at kM;simp only at kM;split at h;cases h;rename_i d hd;split at h;rename_i r z hr hz;split at h;rename_i v hv;simp only[jA,jG] at h;obtain⟨e1,_,rfl⟩:=h;refine wpIn_mono (zZ hc hm (yH5 iF hL) hw I (AllP_iff.1 (by rw[e1];exact hx)) rd χ0 w0 (λi=>a.tmps.getD i undef) a w G hR (λi _=>rfl)) ?_;rintro e a' w' ⟨J,hk⟩;obtain⟨_,G',j⟩:=xA8 hd J;refine⟨?_,hk,G',d,j,hz⟩;obtain⟨k,cp,G2,C,R,_⟩:=J;have:=List.all_eq_true.1 kM cp (yS5 R);rw[WC R] at this;have:=jC this;subst this;(cases e with|normal=>rfl|ret=>simp[EP] at C|exit id=>simp[EP] at C|_=>simp[EP] at C);cases h;cases h
variable {gtab:GlobTab}{P:Program}{c:Ctx}
def l7 {α β:Type}(ok:β->α->Prop)(next:β->α->β):List α->β->Prop
 |[],_=>True
 |x::r,l=>ok l x/\l7 ok next r (next l x)
theorem wB0{α β:Type}{ok:β->α->Prop}{next:β->α->β}:∀{pre:List α}{x:α}{rest:List α}{l:β},l7 ok next (pre++x::rest) l->ok (pre.foldl next l) x:=by intro pre;induction pre with|nil=>intro x rest l h;exact h.1|cons y pre j=>intro x rest l h;exact j h.2
theorem xQ2:∀(A:AVal) (s:Option Nat),¬A.names (· =1) (λ_=>False) s:=by intro A;induction A with|own t l T m=>intro s;simp only[AVal.names,AL];omega|ownh t l T i U m=>intro s;simp only[AVal.names,AL];omega|opt _ _ _ A j=>intro s;simp only[AVal.names];exact j none|box τ b j=>intro s;(cases s with|none=>simp only[AVal.names];exact j none|some s=>simp only[AVal.names,not_or];exact⟨by simp only[BL];omega,j none⟩)|cons x y kP kK=>intro s;simp only[AVal.names,not_or];exact⟨kP none,kK none⟩|agg f b j=>intro s;simp only[AVal.names];exact j none|tup b j=>intro s;simp only[AVal.names];exact j none|fn f b j=>intro s;simp only[AVal.names];exact j none|raw=>intro s;(cases s with|none=>simp[AVal.names]|some s=>simp only[AVal.names,BL];omega)|_=>intro s;simp[AVal.names]
variable {G:Gh}{W' W:World}{b:Nat}
theorem yY3(hχ:∀o,G.χ b o=1)(h:∀k,k≠b->W'.heap[k]?=W.heap[k]?)(I:W.heap.size<=W'.heap.size):Ext (· =1) (λ_=>False) G W G W':=by refine⟨λj o _ C=>⟨C,?_⟩,λj _ J=>⟨h j ?_,λ_=>rfl⟩,I,λ_ _=>rfl,λ_ _=>rfl,λ_ h=>h.elim⟩;(have kj:j≠b:=by intro e;subst e;rw[hχ o] at C;cases C);simp only[World.cell?,h j kj];intro e;subst e;exact J 0 (hχ 0)
theorem Frame0.trans {χ0 χ1 χ2:Nat->Nat->Nat}{w0 I J:World}(h:Frame0 χ0 w0 χ1 I)(k:Frame0 χ1 I χ2 J):Frame0 χ0 w0 χ2 J:=by refine⟨k.os.trans h.os,k.tape.trans h.tape,k.output.trans h.output,le_trans h.size k.size,λb hb j=>?_,λb o hb j=>?_⟩;rw[k.block b (Nat.lt_of_lt_of_le hb h.size) (λo=>by rw[(h.cell b o hb (j o)).1];exact j o)];exact h.block b hb j;have C:=h.cell b o hb j;have R:=k.cell b o (Nat.lt_of_lt_of_le hb h.size) (by rw[C.1];exact j);exact⟨R.1.trans C.1,R.2.trans C.2⟩
variable {w0:World}
theorem Frame0.beyond{χ:Nat->Nat->Nat}(h:Frame0 χ0 w0 χ W)(hb:w0.heap.size<=b)(I:∀k,k≠b->W'.heap[k]?=W.heap[k]?)(R:W'.heap.size=W.heap.size)(kZ:W'.os=W.os/\W'.tape=W.tape/\W'.output=W.output):Frame0 χ0 w0 χ W':=by refine⟨kZ.1.trans h.os,kZ.2.1.trans h.tape,kZ.2.2.trans h.output,by rw[R];exact h.size,λk j C=>?_,λk o j C=>?_⟩;rw[I k (by omega)];exact h.block k j C;have J:=h.cell k o j C;refine⟨J.1,?_⟩;rw[<-J.2];simp only[World.cell?,I k (show k≠b by omega)]
structure JB [GlobTab] (χ0:Nat->Nat->Nat) (w0:World) (lo hi:Nat) (E:List (Nat×Nat×AVal)) (G:Gh) (W:World):Prop where
 frame:Frame0 χ0 w0 G.χ W
 glob:GlobOk G.χ W
 reps:∀e∈E,zA G W #[] (some e.1) e.2.2 (.pointer (some ⟨e.2.1,0,none⟩))
 own:∀b,lo<=b->b<=hi->∀o,G.χ b o=1
 size:hi<W.heap.size
 low:w0.heap.size<=lo
theorem JB.foreign{o:Nat}{E:List (Nat×Nat×AVal)}(h:JB χ0 w0 f o E G W)(I:f<=b)(hh:b<=o)(J:∀k,k≠b->W'.heap[k]?=W.heap[k]?)(C:W'.heap.size=W.heap.size)(kZ:W'.os=W.os/\W'.tape=W.tape/\W'.output=W.output):JB χ0 w0 f o E G W':=by have R:=yY3 (h.own b I hh) J (Nat.le_of_eq C.symm);have j:=h.low;refine⟨h.frame.beyond (le_trans j I) J C kZ,Nv R.prot h.glob,λe he=>dZ R (by decide) _ (xQ2 _ _) (h.reps e he),h.own,by rw[C];exact h.size,j⟩
theorem JB.setCell {χ0:Nat->Nat->Nat}{w0:World}{lo j:Nat}{E:List (Nat×Nat×AVal)}{G:Gh}{W:World}{b:Nat}(h:JB χ0 w0 lo j E G W)(o:lo<=b)(C:b<=j)(v:Value):JB χ0 w0 lo j E G (W.setCell ⟨b,0,none⟩ v):=h.foreign o C (λk I=>Below.heap_setCell W ⟨b,0,none⟩ v k I) (by simp[World.setCell]) ⟨rfl,rfl,rfl⟩
theorem JB.putObj {χ0:Nat->Nat->Nat}{w0:World}{lo j:Nat}{E:List (Nat×Nat×AVal)}{G:Gh}{W:World}{b:Nat}(h:JB χ0 w0 lo j E G W)(C:lo<=b)(I:b<=j)(o:Obj):JB χ0 w0 lo j E G (W.putObj b o):=h.foreign C I (λk J=>World.putObj_heap_other J) (by simp[World.putObj]) ⟨rfl,rfl,rfl⟩
theorem JB.step {χ0:Nat->Nat->Nat}{w0:World}{lo J:Nat}{E E':List (Nat×Nat×AVal)}{G G':Gh}{W W':World}(h:JB χ0 w0 lo J E G W)(j:Frame0 G.χ W G'.χ W')(R:GlobOk G'.χ W')(hr:∀e∈E',zA G' W' #[] (some e.1) e.2.2 (.pointer (some ⟨e.2.1,0,none⟩))):JB χ0 w0 lo J E' G' W'/\∀b,lo<=b->b<=J->W'.heap[b]?=W.heap[b]?:=by have kN:=h.size;refine⟨⟨h.frame.trans j,R,hr,λb C I o=>?_,Nat.lt_of_lt_of_le kN j.size,h.low⟩,λb C I=>j.block b (by omega) (λo=>by rw[h.own b C I o];exact jI _)⟩;rw[(j.cell b o (by omega) (by rw[h.own b C I o];exact jI _)).1];exact h.own b C I o
theorem xY8{υ ω:Ty}{ok:τ.den->σ.den->υ.den->ω.den->Prop}{F:τ.den->σ.den->υ.den->ω.den->rs.den}{o:AI [(0,Sh.val τ),(1,Sh.val σ),(2,Sh.val υ),(3,Sh.val ω)]->Eh []}(hfn:∃fn,P.funcs[f]?=some fn/\fn.body.isSome/\fn.name≠"runtime.NumGoroutine") (H:∀x y z u,ok x y z u->∀(G:Gh) (w:World) (v1 v2 v3 v4:Value),GlobOk G.χ w->DO G.χ w τ x v1->DO G.χ w σ y v2->DO G.χ w υ z v3->DO G.χ w ω u v4->Calls P f #[v1,v2,v3,v4] w λe w'=>∃r G',e=.returned r/\Frame0 G.χ w G'.χ w'/\zA G' w' #[] none (rs.mk (F x y z u)) r):SpecOk P f (fnSpec [(0,.val τ),(1,.val σ),(2,.val υ),(3,.val ω)] rs [] (λx=>ok x.1 x.2.1 x.2.2.1 x.2.2.2.1) (λx=>F x.1 x.2.1 x.2.2.1 x.2.2.2.1) o):=by refine⟨hfn,λargs co hsp kg G w vals hlen hglob kn=>?_⟩;unfold fnSpec at hsp;generalize qo:Nat.beq args.length _=b at hsp;cases b with|false=>cases hsp|true=>simp only[jE] at hsp;split at hsp;rename_i x hx;injection hsp with hsp;subst hsp;have hl:args.length=4:=jC qo;(obtain⟨A,B,C,D,rfl⟩:∃A B C D,args=[A,B,C,D]:=by match args,hl with |[A,B,C,D],_=>exact⟨A,B,C,D,rfl⟩);(obtain⟨v1,v2,v3,v4,rfl⟩:∃v1 v2 v3 v4,vals=[v1,v2,v3,v4]:=by match vals,hlen with |[v1,v2,v3,v4],_=>exact⟨v1,v2,v3,v4,rfl⟩);have hp:∀(k:Nat) (i:Nat) (s:Sh),[(0,Sh.val τ),(1,Sh.val σ),(2,Sh.val υ),(3,Sh.val ω)][k]?=some (i,s)->∃y,s.parse (St.get (FZ 0 [A,B,C,D]) i)=some y:=λk i s h=>yK4 hx h;obtain⟨x1,x2,x3,x4,_⟩:=x;simp only[Er] at hx;(have hg:∀i,St.get (FZ 0 [A,B,C,D]) i=[A,B,C,D].getD i .junk:=by intro i;simp only[FZ,St.get];match i with |0=>simp|1=>simp[BO,Nat.beq]|2=>simp[BO,Nat.beq]|3=>simp[BO,Nat.beq]|k+4=>simp[BO,Nat.beq]);simp only[hg,List.getD_cons_zero,List.getD_cons_succ] at hx;generalize h1:(Sh.val τ).parse A=o1 at hx;generalize h2:(Sh.val σ).parse B=o2 at hx;generalize h3:(Sh.val υ).parse C=o3 at hx;generalize h4:(Sh.val ω).parse D=o4 at hx;cases o1<;>cases o2<;>cases o3<;>cases o4<;>simp at hx;obtain⟨rfl,rfl,rfl,rfl⟩:=hx;have hA:=F4 h1 (kn 0 A v1 rfl rfl);have hB:=F4 h2 (kn 1 B v2 rfl rfl);have hC:=F4 h3 (kn 2 C v3 rfl rfl);have hD:=F4 h4 (kn 3 D v4 rfl rfl);simp only[Sh.mk,zA] at hA hB hC hD;refine (H _ _ _ _ (kg _ (jH.2 rfl)) G w v1 v2 v3 v4 hglob hA hB hC hD).mono ?_;rintro e w' ⟨r,G',rfl,q1,q2⟩;exact⟨r,G',rfl,q1,q2,λi k A' u h=>by cases h⟩;cases hsp
variable {gtab:GlobTab}{P:Program}
end Go.Am
