/- The abstract machine, part 4: a typed interpreter for the program's code, and that it is sound. No condition. -/
import Derived.Test.YtgjdonlgingdeaaGreatDoorMach3
import Derived.Lib.Bytealg
import Derived.ProofKit
import Derived.Carry
import Derived.ChangeSame
namespace Go.Am
open Go Go.RowKit
open Go.Value (okWide string)
open _root_.Int (toNat)
open _root_.List (all_eq_true any_eq_true length map mapM_cons mem_append_left mem_cons mem_range range toArray)
open _root_.Nat (ble blt le_trans zero_add)
open _root_.Option (bind_eq_bind bind_eq_some_iff getD_some map_eq_some_iff map_some pure_def)
variable {gtab:GlobTab}{P:Program}{c:Ctx}{G:Gh}{w:World}{tm:Array Value}{n:Nat}{χ0:Nat->Nat->Nat}{w0:World}{S:St}{a:Act}
def Ii [GlobTab] (c:Ctx)(S:St):ResultVar->Option AVal
 |.tmp t=>some (arg S (.tmp t))
 |.cell r T=>match LF c T (arg S (.tmp r)) (C1 S (arg S (.tmp r))) with|some ([],A)=>some A | _=>none
def JF [GlobTab] (c:Ctx)(S:St):List ResultVar->Option AVal
 |[]=>some (.tup .nl)
 |[r]=>Ii c S r
 |[r,s]=>match Ii c S r,Ii c S s with|some A,some B=>some (.tup (.cons A (.cons B .nl)))|_,_=>none
 |[r,s,t]=>match Ii c S r,Ii c S s,Ii c S t with|some A,some B,some C=>some (.tup (.cons A (.cons B (.cons C .nl))))|_,_,_=>none
 |[r,s,t,u]=>match Ii c S r,Ii c S s,Ii c S t,Ii c S u with|some A,some B,some C,some D=>some (.tup (.cons A (.cons B (.cons C (.cons D .nl)))))|_,_,_,_=>none
 |_=>none
def xO3 (tmps:Array Value):ResultVar->Sem Value
 |.tmp t=>pure (tmps.getD t undef)
 |.cell a t=>do loadVar t (<-asAddr (tmps.getD a undef))
variable {A:AVal}
theorem KY(o:CtxOk P c)(j:Rel n χ0 w0 S a w G){r:ResultVar}(h:Ii c S r=some A):∃v,(xO3 a.tmps r).run P w=.ok v w/\zA G w a.tmps none A v:=by cases r with|tmp t=>simp[Ii] at h;subst h;exact⟨_,rfl,IZ j (.tmp t)⟩|cell r T=>simp only[Ii] at h;split at h;rename_i A' I;have J:=IZ j (.tmp r);obtain⟨u,h1,h2⟩:=yF1 o.tys o.fts J (λs C=>⟨_,by have:=j.reps s;cases R:arg S (.tmp r)<;>simp[R,EF] at C<;>(subst C;simpa[C1] using this)⟩) I (λq hq=>by grind);simp only[xO3];have hv:a.eval (.tmp r)=a.tmps.getD r undef:=rfl;(cases hvv:a.tmps.getD r undef with|pointer p=>cases p<;>simp_all [Instr.loadAt,Instr.sureAddr,asAddr]|_=>simp_all [Instr.loadAt,Instr.sureAddr]);grind
variable {fn:Func}
theorem yS3(I:CtxOk P c)(J:Rel n χ0 w0 S a w G)(h:JF c S fn.results.toList=some A):∃v,(results fn a.tmps).run P w=.ok v w/\zA G w a.tmps none A v:=by
 have hfn:fn.results=fn.results.toList.toArray:=by simp
 generalize fn.results.toList=l at h hfn;have hsem:results fn a.tmps=(do let vs <-fn.results.mapM (xO3 a.tmps);pure (if h:vs.size=1 then vs[0] else .tuple vs)):=by
  congr 1
 match l,h with
 |[],h=>simp[JF] at h;subst h;simp_all [zA]
 |[r],h =>
  obtain⟨v,h1,R⟩:=KY I J h;simp_all
 |[r,s],h =>
  simp only[JF] at h;split at h
  ·rename_i A' B hA hB;injection h with h;subst h
   obtain⟨v,h1,R⟩:=KY I J hA;obtain⟨v',h1',j⟩:=KY I J hB;exact⟨.tuple #[v,v'],by simp_all,by exact⟨v,[v'],rfl,R,v',[],rfl,j,rfl⟩⟩
  grind
 |[r,s,t],h =>
  simp only[JF] at h;split at h
  ·rename_i A' B C hA hB hC;injection h with h;subst h
   obtain⟨v,h1,R⟩:=KY I J hA;obtain⟨v',h1',j⟩:=KY I J hB;obtain⟨v'',h1'',o⟩:=KY I J hC;exact⟨.tuple #[v,v',v''],by simp_all,by exact⟨v,[v',v''],rfl,R,v',[v''],rfl,j,v'',[],rfl,o,rfl⟩⟩
  grind
 |[r,s,t,u],h =>
  simp only[JF] at h;split at h
  ·rename_i A' B C D hA hB hC hD;injection h with h;subst h
   obtain⟨v,h1,R⟩:=KY I J hA;obtain⟨v',h1',j⟩:=KY I J hB;obtain⟨v'',h1'',o⟩:=KY I J hC;obtain⟨v3,h13,h23⟩:=KY I J hD;exact⟨.tuple #[v,v',v'',v3],by simp_all,by exact⟨v,[v',v'',v3],rfl,R,v',[v'',v3],rfl,j,v'',[v3],rfl,o,v3,[],rfl,h23,rfl⟩⟩
  grind
 |_::_::_::_::_::_,h=>grind [JF]
def Pg (S:St)(l:List Comp):Option St:=
 bif l.all (λx=>ble x.kind 1) then
  match B7 0 l,B7 1 l with
  |none,some r=>some r.d
  |some m,none=>some m.d
  |some m,some r=>some (H7 (tk r.g) r.d m.d S)
  |none,none=>none
 else none
variable {k:Nat}
theorem yS4{x:Comp}:∀{l:List Comp},B7 k l=some x->x∈l:=by intro l;induction l<;>grind [B7]
theorem xA7{l:List Comp}{d:St}{e:Exit}(h:Pg S l=some d)(C:EP n χ0 w0 S l e a w):(e=.normal\/e=.ret)/\∃G,Rel n χ0 w0 (d++S) a w G:=by obtain⟨k,cp,G,I,o,J,R,h5⟩:=C;unfold Pg at h;generalize j:l.all (λx=>ble x.kind 1)=b at h;cases b with|false=>grind|true=>(have hk:k<=1:=by have:=all_eq_true.1 j cp (yS4 o);rw[WE o] at this;simp_all);(have he:e=.normal\/e=.ret:=by cases e<;>grind [id,EO,jA]);refine⟨he,G,?_⟩;(obtain rfl|rfl:k=0\/k=1:=by omega);all_goals grind [tk,eL,eJ]
def FQ:Nat->List AVal->St
 |_,[]=>[]
 |i,A::r=>(i,A)::FQ (i+1) r
@[reducible] def Eb:List (Nat×Sh)->Type
 |[]=>Unit
 |(_,s)::r=>s.den×Eb r
def Ph:(s:Sh)->s.den->AVal
 |.box _ s,x=>s.mk x
 |s,x=>s.mk x
def LR:(l:List (Nat×Sh))->Eb l->List (Nat×AVal)
 |[],_=>[]
 |(i,s)::r,x=>(i,Ph s x.1)::LR r x.2
def Ij:(l:List (Nat×Sh))->St->Option (Eb l)
 |[],_=>some ()
 |(i,s)::r,S=>match s.parse (S.get i),Ij r S with|some x,some y=>some (x,y)|_,_=>none
def xO4:Sh->Bool
 |.box _ _=>true|_=>false
def fnSpec (ps:List (Nat×Sh))(rs:Sh)(os:List (Nat×Sh))(ok:AH ps->Prop)(f:AH ps->rs.den)(o:AH ps->Eb os):Spec:=λargs =>
 bif Nat.beq args.length ps.length then
  match Et ps (FQ 0 args) with
  |some x=>some ⟨[ok x],rs.mk (f x),LR os (o x),[]⟩
  |none=>none
 else none
def Pj:Nat->List (Nat×Sh)->Bool
 |_,[]=>true
 |i,(k,_)::r=>Nat.beq k i&&Pj (i+1) r
def WK (ps:List (Nat×Sh))(keep:List Nat)(os:List (Nat×Sh)):Bool:=
 os.all λe=>keep.any (Nat.beq e.1)&&(match ps[e.1]? with
  |some (_,.box τ _)=>(match e.2 with|.box τ' _=>Ty.beq τ' τ | _=>false)
  |some (_,.any)=>false
  |some _=>!xO4 e.2
  |none=>false)
variable {s:Nat}
theorem yH4:∀{args:List AVal}{i:Nat},i<=s->s<i+args.length->i+args.length<=BN->some ((FQ i args).get s)=args[s-i]?:=by intro args;induction args with|nil=>grind|cons A r j=>intro i o C I;simp[FQ,St.get];by_cases e:i=s;simp_all;grind [Nat.beq,absurd,jC]
theorem xO5:∀{args:List AVal}{i:Nat},i+args.length<=s\/s<i->(FQ i args).get s=.junk:=by intro args;induction args<;>grind [FQ,St.get,Nat.beq,jC]
theorem yK3{S:St}:∀{ps:List (Nat×Sh)}{x:AH ps}{k:Nat}{i:Nat}{s:Sh},Et ps S=some x->ps[k]?=some (i,s)->∃y,s.parse (S.get i)=some y:=by intro ps;induction ps<;>grind [Et]
theorem xX3:∀{ps:List (Nat×Sh)}{i k j:Nat}{s:Sh},Pj i ps->ps[k]?=some (j,s)->j=i+k:=by intro ps;induction ps with|nil=>grind|cons e r o=>intro i k j s h C;simp[Pj] at h;grind
theorem xO6{S:St}{i:Nat}{k:AVal}:∀{os:List (Nat×Sh)}{x:Eb os},Ij os S=some x->(i,k)∈LR os x->∃s y,(i,s)∈os/\k=Ph s y/\s.parse (S.get i)=some y:=by intro os;induction os with|nil=>intro x _ h;cases h|cons e r C=>intro x j o;simp only[Ij] at j;split at j;(·rcases mem_cons.1 o with h|h;all_goals grind);grind
variable {τ:Ty}{B:AVal}
theorem xO7{s:Sh}{x:s.den}(h:s.parse A=some x)(o:A=.box τ B):s=.any\/∃j,s=.box τ j:=by cases s with|box τ' j=>simp[Sh.parse,xO] at h;(cases hb:Ty.beq τ' τ with|true=>have:=Ty.eq_of_beq hb;simp_all|false=>grind)|any=>simp_all|val τ'=>grind [Sh.parse,AVal.as,AVal.asT]|own t T m=>grind [Sh.parse,N1]|nl=>grind [Sh.parse,eW]|cons a b=>grind [Sh.parse,SM]|agg f s=>grind [Sh.parse,SL]|ref s τ'=>grind [Sh.parse,SJ]|tup s=>grind [Sh.parse,eY]|fn f s=>grind [Sh.parse,eX]|nil=>grind [Sh.parse,eR]|nn b=>grind [Sh.parse,eU]|fptr f caps=>grind [Sh.parse,eV]|ownh t T U m=>grind [Sh.parse,yK]
def Ec (ps:List (Nat×Sh))(x:AH ps):St:=xU ps x++N2
theorem xF9:∀{ps:List (Nat×Sh)}{x:AH ps},∀e∈Ec ps x,e.2.hasOpt=false:=by intro ps;induction ps with|nil=>intro x e he;simp[Ec,xU,N2] at he;subst he;rfl|cons q r j=>intro x e he;rcases mem_cons.1 he with h|h;grind [eZ];exact j e h
variable {f:Nat}{code:Code}{ps os:List (Nat×Sh)}{rs:Sh}
theorem xG(hc:CtxOk P c)(hm:P.follows .mixedOrders)(hf:P.funcs[f]?=some fn)(hb:fn.body=some code)(kY:fn.name≠"runtime.NumGoroutine") (hn:fn.ntmps=c.n) (hL:HD P c code) (hw:ER c.keep code){ok:AH ps->Prop}{F:AH ps->rs.den}{o:AH ps->Eb os}{oks:AH ps->List Prop}{comps:AH ps->List Comp}{d:AH ps->St}{res:AH ps->AVal}(iG:(Pj 0 ps&&WK ps c.keep os&&ble ps.length c.n)=true) (heval:∀x,eval c code (Ec ps x)=some ⟨oks x,comps x⟩) (qy:∀x,ok x->JA (oks x)) (kG:∀x,Pg (Ec ps x) (comps x)=some (d x)) (kJ:∀x,JF c (d x++Ec ps x) fn.results.toList=some (res x)) (gT:∀x,rs.parse (res x)=some (F x)) (gR:∀x,Ij os (d x++Ec ps x)=some (o x)):SpecOk P f (fnSpec ps rs os ok F o):=by simp only[jB] at iG;obtain⟨⟨hps1,hps2⟩,hps3⟩:=iG;have hps3:ps.length<=c.n:=jR hps3;refine⟨⟨fn,hf,by rw[hb];rfl,kY⟩,λargs co hsp kh G w vals hlen hglob kt=>?_⟩;unfold fnSpec at hsp;generalize qz:Nat.beq args.length ps.length=b at hsp;cases b with|false=>cases hsp|true=>have qz:=jC qz;simp only[jE] at hsp;split at hsp;rename_i x hx;injection hsp with hsp;subst hsp;have nx:ok x:=kh _ (jQ ..);refine callsIn_wide.1 (callsIn_of_wp (n:=0) hf hb trivial ?_);generalize hact:({ tmps:=vals.toArray++Array.replicate (fn.ntmps-vals.toArray.size) undef,defers:=[] }:Act)=act;(have kP:∀s,s<vals.length->act.tmps.getD s undef=vals.getD s undef:=by intro s hs;rw[<-hact];simp[Array.getElem?_append,hs]);have hcn:=hc.n;(have iL:Rel c.n G.χ w (Ec ps x) act w G:=by refine⟨?_,by rw[<-hact],λs=>?_,⟨rfl,rfl,rfl,jI _,λ_ _ _=>rfl,λ_ _ _ _=>⟨rfl,rfl⟩⟩,hglob⟩;rw[<-hact];simp;omega;(have key:zA G w #[] (some s) ((Ec ps x).get s) (act.tmps.getD s undef):=by refine SN hx fA s G w #[] _ ?_;by_cases hs:s<args.length;have h1:=yH4 (s:=s) (args:=args) (i:=0) (by omega) (by omega) (by omega);simp only[Nat.sub_zero] at h1;(have h2:vals[s]?=some (vals.getD s undef):=by simp[jL (show s<vals.length by omega)]);rw[kP s (by omega)];exact kt s _ _ h1.symm h2;rw[xO5 (.inl (by omega))];simp only[zA]);refine zO (λk hk=>?_) key;have:=zU6 (q:=λA=>A.hasOpt=false) rfl (S:=Ec ps x) (s:=s) xF9;rw[Pb this] at hk;cases hk);refine wpIn_mono (zZ hc hm hL hw (heval x) (AllP_iff.1 (qy x nx)) none G.χ w (λi=>act.tmps.getD i undef) act w G iL (λi _=>rfl)) λe a' w' hP=>?_;obtain⟨hP,hk⟩:=hP;obtain⟨he,G',hR⟩:=xA7 (kG x) hP;obtain⟨v,hv1,te⟩:=yS3 hc hR (kJ x);(have uw:a'.defers=[]/\∃v,(results fn a'.tmps).run P w'=.ok v w'/\∃v' G',Ending.returned v=.returned v'/\Frame0 G.χ w G'.χ w'/\zA G' w' #[] none (rs.mk (F x)) v'/\(∀(i:Nat) k A u,(i,k)∈LR os (o x)->args[i]?=some A->vals[i]?=some u->(∀τ k0,A=.box τ k0->zA G' w' #[] (some i) (.box τ k) u/\G'.β i=G.β i)/\(Fe A=false->zA G' w' #[] none k u)):=by refine⟨hR.defers,v,hv1,v,G',rfl,hR.frame,?_,?_⟩;refine zO (λk hk=>?_) (Fy (gT x) te);rw[Pb eZ] at hk;cases hk;intro i k A u hi ha hu;obtain⟨s',y,h1,rfl,h3⟩:=xO6 (gR x) hi;simp only[WK,all_eq_true,jB] at hps2;have h4:=hps2 _ h1;simp only at h4;have qi:=Fy h3 (hR.reps i);have hilt:i<args.length:=(List.getElem?_eq_some_iff.1 ha).1;(have ux:a'.tmps.getD i undef=u:=by obtain⟨j,hj,hjb⟩:=any_eq_true.1 h4.1;have:=jC hjb;subst this;rw[hk i hj];show act.tmps.getD i undef=u;rw[kP i (by omega)];simp[hu]);rw[ux] at qi;have qi:zA G' w' #[] (some i) (s'.mk y) u:=zO (λk hk=>by rw[Pb eZ] at hk;cases hk) qi;(obtain⟨p,hpi⟩:∃p,ps[i]?=some (i,p)/\∃z,p.parse A=some z:=by (have qo:i<ps.length:=by omega);obtain⟨⟨j,p⟩,hpi⟩:∃q,ps[i]?=some q:=⟨_,jL qo⟩;have hj:=xX3 hps1 hpi;simp only[zero_add] at hj;subst hj;obtain⟨z,hz⟩:=yK3 hx hpi;have h1:=yH4 (s:=j) (args:=args) (i:=0) (by omega) (by omega) (by omega);simp only[Nat.sub_zero,ha,jA] at h1;rw[h1] at hz;exact⟨p,hpi,z,hz⟩);obtain⟨hpi,z,hz⟩:=hpi;rw[hpi] at h4;constructor;rintro τ k0 rfl;rcases xO7 hz rfl with rfl|⟨s2,rfl⟩;simp at h4;simp only at h4;(cases s' with|box τ' s3=>have:=Ty.eq_of_beq h4.2;subst this;refine⟨qi,?_⟩;have h0:=kt i _ _ ha hu;simp only[Sh.mk,zA] at h0 qi;have:=h0.1.symm.trans qi.1;simp only[Value.pointer.injEq,jA,Addr.mk.injEq] at this;exact this.1.symm|_=>simp at h4);intro hA;cases s' with|box τ' s3=>exfalso;split at h4;rename_i j τ2 s2 e;simp only[jA,jG] at e;obtain⟨rfl,rfl⟩:=e;simp only[Sh.parse] at hz;cases A<;>simp[xO,Fe] at hz hA;simp at h4;simp[xO4] at h4;simp at h4|_=>exact S6 (by simpa only[Ph] using qi) (by intro τ c e;simp only[Ph,Sh.mk] at e;cases e) (by intro e;simp only[Ph,Sh.mk] at e;cases e));rcases he with rfl|rfl;exact uw;exact uw;cases hsp
variable {gtab:GlobTab}{P:Program}{c:Ctx}
def SO (H:St):List Comp->List (List (Nat×Sh))->Option (List Comp)
 |[],[]=>some []
 |cp::r,l::s=>match Et l (cp.d++H),SO H r s with
  |some z,some q=>some (⟨cp.kind,cp.g,xU l z++N2⟩::q)
  |_,_=>none
 |_,_=>none
def fG (H:St)(l:List Comp)(ls:List (List (Nat×Sh))):Option (List Comp):=
 match SO H l ls with
 |some [q]=>some [⟨q.kind,none,q.d⟩]
 |r=>r
def N3 [GlobTab] (c:Ctx)(body:Code)(ly lx:List (Nat×Sh))(les:List (List (Nat×Sh)))(y:AH ly)(x:AH lx):Option (Prop×Bool×AH ly×AH lx×List Comp):=
 match eval c body (Ey ly lx y x) with
 |none=>none
 |some o=>match B7 0 o.comps with
  |none=>none
  |some m=>match Et ly (m.d++Ey ly lx y x),Et lx (m.d++Ey ly lx y x),fG (Ey ly lx y x) (Ex 0 o.comps) les with
   |some y',some x',some es=>some (JA o.ok,tk m.g,y',x',es)
   |_,_,_=>none
def Ik (ly lx:List (Nat×Sh))(g:AH ly->AH lx->Bool)(next:AH ly->AH lx->AH lx)(ok:AH ly->AH lx->Prop)(es:AH ly->AH lx->List Comp)(S:St):Option Out:=
 match Et ly S,Et lx S with
 |some y,some x=>some ⟨[AA (g y) (next y) (ok y) x],es y (A3 (g y) (next y) x)⟩
 |_,_=>none
theorem yX7{H:St}:∀{l:List Comp}{ls:List (List (Nat×Sh))}{es:List Comp},SO H l ls=some es->(B7 k es=none/\B7 k l=none)\/∃cp cp',B7 k l=some cp/\B7 k es=some cp'/\cp'.g=cp.g/\St.hasCut cp'.d/\Weaker cp'.d (cp.d++H):=by intro l;induction l with|nil=>intro ls es h;cases ls<;>simp[SO] at h;subst h;exact .inl ⟨rfl,rfl⟩|cons cp r o=>intro ls es h;cases ls with|nil=>grind [SO]|cons s ls=>simp only[SO] at h;split at h;rename_i z q j C;injection h with h;subst h;simp only[B7];(cases Nat.beq cp.kind k with|true=>exact .inr ⟨cp,_,rfl,rfl,rfl,WH rfl,SN j fA⟩|false=>grind);grind
variable {les:List (List (Nat×Sh))}
theorem xO9{H:St}{l:List Comp}{es:List Comp}(h:fG H l les=some es):(B7 k es=none/\B7 k l=none)\/∃cp cp',B7 k l=some cp/\B7 k es=some cp'/\(cp'.g=cp.g\/(cp'.g=none/\∀j C,B7 j l=some C->j=k))/\St.hasCut cp'.d/\Weaker cp'.d (cp.d++H):=by unfold fG at h;split at h;rename_i q R;(have kL:∀j,B7 j [q]=none->B7 j l=none:=λj h'=>by grind [yX7]);rcases yX7 (k:=k) R with ⟨I,J⟩ | ⟨cp,cp',I,J,h3,h4,h5⟩;grind [B7];right;have o:=J;simp only[B7] at o;(cases hb:Nat.beq q.kind k with|false=>grind|true=>simp[hb] at o;subst o;refine⟨cp,⟨q.kind,none,q.d⟩,I,by grind [B7],.inr ⟨rfl,λj C hf=>?_⟩,h4,h5⟩;cases hb':Nat.beq q.kind j<;>simp_all [B7]);grind [yX7]
variable {body:Code}{lx ly:List (Nat×Sh)}
theorem xU0(hc:CtxOk P c)(hm:P.follows .mixedOrders)(hL:HD P c body)(hw:ER c.keep body){g:AH ly->AH lx->Bool}{next:AH ly->AH lx->AH lx}{ok:AH ly->AH lx->Prop}{es:AH ly->AH lx->List Comp}(hsum:∀y x,N3 c body ly lx les y x=some (ok y x,g y x,y,next y x,es y x)):∀S out,Ik ly lx g next ok es S=some out->WJ P c (.loop body) S out:=by intro S out h kh rd χ0 w0 vs a w G hR hk;unfold Ik at h;split at h;rename_i y x hy hx;injection h with h;subst h;(have gZ:∀y x,∃o m,eval c body (Ey ly lx y x)=some o/\B7 0 o.comps=some m/\JA o.ok=ok y x/\tk m.g=g y x/\Et ly (m.d++Ey ly lx y x)=some y/\Et lx (m.d++Ey ly lx y x)=some (next y x)/\fG (Ey ly lx y x) (Ex 0 o.comps) les=some (es y x):=by intro y x;have:=hsum y x;unfold N3 at this;split at this;cases this;rename_i o ho;split at this;cases this;rename_i m hm;split at this;rename_i y' x' es' j h2 h3;simp only[jA,jG] at this;obtain⟨e1,e2,rfl,rfl,rfl⟩:=this;exact⟨o,m,ho,hm,e1,e2,j,h2,h3⟩;cases this);let O:AH ly->AH lx->Out:=λy x=>(eval c body (Ey ly lx y x)).getD ⟨[],[]⟩;(have hO:∀y x,eval c body (Ey ly lx y x)=some (O y x):=by intro y x;obtain⟨o,m,j,_⟩:=gZ y x;simp only[O,j,getD_some]);(have I:fF ly lx g next ok (λy x=>(O y x).comps) S=some ⟨[AA (g y) (next y) (ok y) x],Pf (Ey ly lx y (A3 (g y) (next y) x)) (O y (A3 (g y) (next y) x)).comps⟩:=by unfold fF;rw[hy,hx]);have hsnd:=xF8 hc hm hL hw (g:=g) (next:=next) (ok:=ok) (comps:=λy x=>(O y x).comps) (oks:=λy x=>(O y x).ok) hO (λy x hx=>by obtain⟨o,m,j,h2,h3,_⟩:=gZ y x;have:=hO y x;rw[j] at this;injection this with this;rw[<-this,h3];exact hx) (λy x=>by obtain⟨o,m,j,h2,h3,h4,h5,h6,h7⟩:=gZ y x;have:=hO y x;rw[j] at this;injection this with this;exact⟨m,by rw[<-this];exact h2,h4,h5,h6⟩) S _ I kh rd χ0 w0 vs a w G hR hk;refine wpIn_mono hsnd λe a' w' hP=>⟨?_,hP.2⟩;obtain⟨k,cp,G',q1,J,q3,q4,q5⟩:=hP.1;obtain⟨o,m,j,h2,h3,h4,h5,h6,h7⟩:=gZ y (A3 (g y) (next y) x);have C:=hO y (A3 (g y) (next y) x);rw[j] at C;injection C with C;(have kx:∀R,B7 R (Pf (Ey ly lx y (A3 (g y) (next y) x)) (O y (A3 (g y) (next y) x)).comps)=(B7 R (Ex 0 o.comps)).map λcp=>⟨cp.kind,cp.g,cp.d++Ey ly lx y (A3 (g y) (next y) x)⟩:=by intro R;unfold Pf;rw[eM (f:=λcp=>⟨cp.kind,cp.g,cp.d++Ey ly lx y (A3 (g y) (next y) x)⟩) (λ_=>rfl),C]);rw[kx] at J;rcases xO9 (k:=k) h7 with ⟨_,e2⟩ | ⟨c1,c2,e1,e2,e3,e4,e5⟩;rw[e2] at J;cases J;rw[e1] at J;simp only[map_some,jA] at J;subst J;(have htk:tk c2.g:=by rcases e3 with e3|⟨e3,_⟩;rw[e3];exact q3;rw[e3];rfl);refine⟨k,c2,G',q1,e2,htk,λR c' hf ht=>?_,?_⟩;rcases xO9 (k:=R) h7 with ⟨f1,_⟩ | ⟨d1,d2,f1,f2,f3,_,_⟩;rw[f1] at hf;cases hf;rw[f2] at hf;injection hf with hf;subst hf;rcases f3 with f3|⟨_,f3⟩;refine q4 R ⟨d1.kind,d1.g,d1.d++Ey ly lx y (A3 (g y) (next y) x)⟩ (by rw[kx,f1];rfl) ?_;rw[f3] at ht;exact ht;exact (f3 k c1 e1).symm;have r1:Rel c.n χ0 w0 (c1.d++Ey ly lx y (A3 (g y) (next y) x)) a' w' G':=eD (λs=>(yX3 (WH xA6)).symm) q5;exact eD (λs=>yX3 e4) (e5.rel r1);cases h
def Il [GlobTab] (c:Ctx)(code:Code)(rv:List ResultVar)(ps:List (Nat×Sh))(rs:Sh)(os:List (Nat×Sh))(x:AH ps):Option (Prop×rs.den×Eb os):=
 match eval c code (Ec ps x) with
 |none=>none
 |some o=>match Pg (Ec ps x) o.comps with
  |none=>none
  |some d=>match JF c (d++Ec ps x) rv,Ij os (d++Ec ps x) with
   |some r,some z=>(match rs.parse r with|some v=>some (JA o.ok,v,z)|none=>none)
   |_,_=>none
variable {rv:List ResultVar}
theorem xU1(hc:CtxOk P c)(hm:P.follows .mixedOrders)(hf:P.funcs[f]?=some fn)(hb:fn.body=some code)(kY:fn.name≠"runtime.NumGoroutine") (hn:fn.ntmps=c.n) (hL:HD P c code) (hw:ER c.keep code){ok:AH ps->Prop}{F:AH ps->rs.den}{o:AH ps->Eb os}(iG:(Pj 0 ps&&WK ps c.keep os&&ble ps.length c.n))(hrv:fn.results.toList=rv) (hsum:∀x,Il c code rv ps rs os x=some (ok x,F x,o x)):SpecOk P f (fnSpec ps rs os ok F o):=by (have gZ:∀x,∃out d r,eval c code (Ec ps x)=some out/\Pg (Ec ps x) out.comps=some d/\JF c (d++Ec ps x) fn.results.toList=some r/\rs.parse r=some (F x)/\Ij os (d++Ec ps x)=some (o x)/\JA out.ok=ok x:=by intro x;have:=hsum x;unfold Il at this;grind);let O:AH ps->Out:=λx=>(eval c code (Ec ps x)).getD ⟨[],[]⟩;let D:AH ps->St:=λx=>(Pg (Ec ps x) (O x).comps).getD [];let R:AH ps->AVal:=λx=>(JF c (D x++Ec ps x) fn.results.toList).getD .junk;(have hO:∀x,eval c code (Ec ps x)=some (O x)/\Pg (Ec ps x) (O x).comps=some (D x)/\JF c (D x++Ec ps x) fn.results.toList=some (R x)/\rs.parse (R x)=some (F x)/\Ij os (D x++Ec ps x)=some (o x)/\JA (O x).ok=ok x:=by intro x;obtain⟨out,d,r,h1,h2,h3,h4,h5,h6⟩:=gZ x;grind);exact xG hc hm hf hb kY hn hL hw (oks:=λx=>(O x).ok) (comps:=λx=>(O x).comps) (d:=D) (res:=R) iG (λx=>(hO x).1) (λx hx=>by grind) (λx=>(hO x).2.1) (λx=>(hO x).2.2.1) (λx=>(hO x).2.2.2.1) (λx=>(hO x).2.2.2.2.1)
variable {gtab:GlobTab}{P:Program}{c:Ctx}
def zG:Code->List Code
 |.seq a b=>zG a++zG b
 |.cond _ a b=>zG a++zG b
 |.block _ a=>zG a
 |.loop a=>[a]
 |_=>[]
def SP (cd:Code)(i:Nat):Code:=(zG cd).getD i .skip
def JG [GlobTab] (P:Program)(c:Ctx)(b:Code):Prop:=∀S out,look (λ_=>none) c.loops (HY b) S=some out->WJ P c (.loop b) S out
def GK [GlobTab] (P:Program)(c:Ctx):List Code->Prop
 |[]=>True
 |b::r=>JG P c b/\GK P c r
theorem zX5:∀{l r:List Code},GK P c (l++r)->GK P c l/\GK P c r:=by intro l;induction l with|nil=>intro r h;exact⟨trivial,h⟩|cons b l j=>intro r h;have:=j h.2;exact⟨⟨h.1,this.1⟩,this.2⟩
theorem yH5:∀{code:Code}{bs:List Code},zG code=bs->GK P c bs->HD P c code:=by intro code;induction code with|seq a b gz gu=>intro bs he h;subst he;simp only[zG] at h;have:=zX5 h;exact⟨gz rfl this.1,gu rfl this.2⟩|cond x a b gz gu=>intro bs he h;subst he;simp only[zG] at h;have:=zX5 h;exact⟨gz rfl this.1,gu rfl this.2⟩|block id a j=>intro bs he h;subst he;simp only[zG] at h;exact j rfl h|loop a _=>intro bs he h;subst he;simp only[zG] at h;exact h.1|_=>intro bs _ _;trivial
def N4 [GlobTab] (P:Program):List (Nat×Spec)->Prop
 |[]=>True
 |(f,sp)::r=>SpecOk P f sp/\N4 P r
theorem yN8:∀{l:List (Nat×Spec)},N4 P l->∀f sp,(f,sp)∈l->SpecOk P f sp:=by intro l;induction l with|nil=>intro _ f sp h;cases h|cons e r j=>intro h f sp hm;obtain⟨g,s⟩:=e;rcases mem_cons.1 hm with e|hm;simp only[jG] at e;obtain⟨rfl,rfl⟩:=e;exact h.1;exact j h.2 f sp hm
def xP [GlobTab] (P:Program):List (Nat×(List AVal->Option (List Prop×AVal)))->Prop
 |[]=>True
 |(f,e)::r=>OX P f e/\xP P r
theorem xP0:∀{l:List (Nat×(List AVal->Option (List Prop×AVal)))},xP P l->∀f e,(f,e)∈l->OX P f e:=by intro l;induction l with|nil=>intro _ f e h;cases h|cons q r j=>intro h f e hm;obtain⟨g,C⟩:=q;rcases mem_cons.1 hm with hm|hm;injection hm with e1 o;subst e1;subst o;exact h.1;exact j h.2 f e hm
theorem xZ8 (ht:E1 P c.tys)(ia:(IY P c.maps&&yP P c.fts))(j:N4 P c.fns)(he:xP P c.exts)(o:ble c.n BN)(ko:c.clones=[]:=by rfl):CtxOk P c:=⟨ht,yN8 j,xP0 he,((jB _ _).mp ia).1,((jB _ _).mp ia).2,jR o,λf k h=>by rw[ko] at h;cases h⟩
theorem fH (ht:E1 P c.tys)(ia:(IY P c.maps&&yP P c.fts))(j:N4 P c.fns)(he:c.exts=[])(o:ble c.n BN)(ko:c.clones=[]:=by rfl):CtxOk P c:=⟨ht,yN8 j,(λf e h=>by rw[he] at h;cases h),((jB _ _).mp ia).1,((jB _ _).mp ia).2,jR o,λf k h=>by rw[ko] at h;cases h⟩
theorem xZ9(ht:E1 P c.tys)(ia:(IY P c.maps&&yP P c.fts))(j:N4 P c.fns)(he:c.exts=[])(o:ble c.n BN)(ko:c.clones=[(f,k)])(C:xJ7 P f k):CtxOk P c:=⟨ht,yN8 j,(λf e h=>by rw[he] at h;cases h),((jB _ _).mp ia).1,((jB _ _).mp ia).2,jR o,λI J h=>by rw[ko,jH] at h;cases h;exact C⟩
variable {bs:List Code}
theorem xU2(o:CtxOk P c)(hm:P.follows .mixedOrders)(hb:zG body=bs)(C:GK P c bs)(hw:ER c.keep body){g:AH ly->AH lx->Bool}{next:AH ly->AH lx->AH lx}{ok:AH ly->AH lx->Prop}{es:AH ly->AH lx->List Comp}(I:look (λ_=>none) c.loops (HY body)=Ik ly lx g next ok es)(j:∀y x,N3 c body ly lx les y x=some (ok y x,g y x,y,next y x,es y x)):JG P c body:=by intro S out h;rw[I] at h;exact xU0 o hm (yH5 hb C) hw j S out h
theorem xU3(hc:CtxOk P c)(hm:P.follows .mixedOrders)(hf:P.funcs[f]?=some fn)(hb:fn.body=some code)(kY:fn.name≠"runtime.NumGoroutine") (hn:fn.ntmps=c.n)(iQ:zG code=bs) (hL:GK P c bs) (hw:ER c.keep code){ok:AH ps->Prop}{F:AH ps->rs.den}{o:AH ps->Eb os}(iG:(Pj 0 ps&&WK ps c.keep os&&ble ps.length c.n))(hrv:fn.results.toList=rv) (hsum:∀x,Il c code rv ps rs os x=some (ok x,F x,o x)):SpecOk P f (fnSpec ps rs os ok F o):=xU1 hc hm hf hb kY hn (yH5 iQ hL) hw iG hrv hsum
theorem xY4(hf:P.funcs[f]?=some fn)(hb:fn.body.isSome)(kY:fn.name≠"runtime.NumGoroutine"){F:AH ps->rs.den}{o:AH ps->Eb os}:SpecOk P f (fnSpec ps rs os (λ_=>False) F o):=by refine⟨⟨fn,hf,hb,kY⟩,λargs co hsp kh=>?_⟩;unfold fnSpec at hsp;generalize Nat.beq args.length ps.length=b at hsp;cases b with|false=>cases hsp|true=>simp only[jE] at hsp;split at hsp;injection hsp with hsp;subst hsp;exact (kh _ (jQ ..)).elim;cases hsp
theorem wA{R:Nat->AH ps->Prop×rs.den×Eb os}(h:∀k,SpecOk P f (fnSpec ps rs os (λx=>(R k x).1) (λx=>(R k x).2.1) (λx=>(R k x).2.2)))(m:AH ps->Nat):SpecOk P f (fnSpec ps rs os (λx=>(R (m x) x).1) (λx=>(R (m x) x).2.1) (λx=>(R (m x) x).2.2)):=by refine⟨(h 0).1,λargs co j kh=>?_⟩;unfold fnSpec at j;generalize hb:Nat.beq args.length ps.length=b at j;cases b with|false=>cases j|true=>simp only[jE] at j;split at j;rename_i x o;refine (h (m x)).2 args co ?_ kh;unfold fnSpec;rw[hb,jE,o];exact j;cases j
@[reducible] def vI:Sh:=.val (.int .i64)
@[reducible] def vB:Sh:=.val .bool
@[reducible] def vS:Sh:=.val .str
def ex (k:Nat)(g:Option Bool)(l:List (Nat×Sh))(v:AH l):Comp:=⟨k,g,xU l v++N2⟩
@[reducible] def Cx (tys:List (Nat×Ty)) (fns:List (Nat×Spec)) (loops:List (Nat×(St->Option Out))) (gh:List (Nat×List (Nat×Nat×Nat×Nat))) (wrap:Bool) (n:Nat) (keep wr:List Nat):Ctx:=
 {tys,fns,loops,gh,wrap,n,keep,wr }
theorem fI(o:CtxOk P c)(hm:P.follows .mixedOrders){sp:St->Option Out}{g:AH ly->AH lx->Bool}{next:AH ly->AH lx->AH lx}{ok:AH ly->AH lx->Prop}{es:AH ly->AH lx->List Comp}(C:sp=Ik ly lx g next ok es)(les:List (List (Nat×Sh)))(hb:zG body=bs)(I:GK P c bs)(hw:ER c.keep body)(J:look (λ_=>none) c.loops (HY body)=sp)(j:∀y x,N3 c body ly lx les y x=some (ok y x,g y x,y,next y x,es y x)):JG P c body:=by subst C;exact xU2 o hm hb I hw J j
def Pk (fn:Func)(c:Ctx)(ps:List (Nat×Sh))(os:List (Nat×Sh)):Bool:=
 fn.body.isSome&&(!(fn.name=="runtime.NumGoroutine")&&(Nat.beq fn.ntmps c.n&&(ER c.keep (fn.body.getD .skip)&&(Pj 0 ps&&WK ps c.keep os&&ble ps.length c.n))))
theorem WL(J:CtxOk P c)(hm:P.follows .mixedOrders)(R:P.funcs[f]?=some fn){ok:AH ps->Prop}{F:AH ps->rs.den}{o:AH ps->Eb os}(C:Pk fn c ps os)(iQ:zG (fn.body.getD .skip)=bs)(hL:GK P c bs)(j:∀x,Il c (fn.body.getD .skip) fn.results.toList ps rs os x=some (ok x,F x,o x)):SpecOk P f (fnSpec ps rs os ok F o):=by simp only[Pk,jB,jK,beq_eq_false_iff_ne,ne_eq] at C;obtain⟨h1,h2,h3,I,h5⟩:=C;obtain⟨code,hb⟩:=Option.isSome_iff_exists.1 h1;rw[hb,getD_some] at I iQ j;exact xU3 J hm R hb h2 (jC h3) iQ hL I (by simpa only[jB] using h5) rfl j
theorem zU9:∀{l r:List Code},GK P c l->GK P c r->GK P c (l++r) |[],_,_,h=>h|_::_,_,⟨j,o⟩,h=>⟨j,zU9 o h⟩
structure Li where
 ly:List (Nat×Sh)
 lx:List (Nat×Sh)
 g:AH ly->AH lx->Bool
 next:AH ly->AH lx->AH lx
 ok:AH ly->AH lx->Prop
 es:AH ly->AH lx->List Comp
 les:List (List (Nat×Sh))
def Li.sp (l:Li):St->Option Out:=Ik l.ly l.lx l.g l.next l.ok l.es
def KZ:Code->List Code
 |.seq a b=>KZ a++KZ b
 |.cond _ a b=>KZ a++KZ b
 |.block _ a=>KZ a
 |.loop a=>a::KZ a
 |_=>[]
abbrev wC7:Type:=Option (Σ l:Li,Bool×(St->Option Out)×(AH l.ly->AH l.lx->Option (Prop×Bool×AH l.ly×AH l.lx×List Comp)))
def SQ [GlobTab] (c:Ctx):List Code->List (Nat×Li)->List wC7
 |b::bs,(_,l)::ls=>some ⟨l,ER c.keep b,look (λ_=>none) c.loops (HY b),λy x=>N3 c b l.ly l.lx l.les y x⟩::SQ c bs ls
 |_::_,[]=>[none]
 |[],_=>[]
def SR:List (Nat×Li)->List wC7
 |[]=>[]
 |(_,l)::ls=>some ⟨l,true,l.sp,λy x=>some (l.ok y x,l.g y x,y,l.next y x,l.es y x)⟩::SR ls
def wC8 [GlobTab] (c:Ctx)(b:Code):Prop:=∃l:Li,ER c.keep b/\look (λ_=>none) c.loops (HY b)=l.sp/\∀y x,N3 c b l.ly l.lx l.les y x=some (l.ok y x,l.g y x,y,l.next y x,l.es y x)
theorem xA8:∀{bs:List Code}{ls:List (Nat×Li)},SQ c bs ls=SR ls->∀b∈bs,wC8 c b |[],_,_,_,h=>nomatch h|_::_,[],h,_,_=>by cases h|b::bs,(_,l)::ls,h,j,hb=>by simp only[SQ,SR,List.cons.injEq,jA,Sigma.mk.injEq,heq_eq_eq,jG,true_and] at h;obtain⟨⟨o,C,I⟩,J⟩:=h;rcases mem_cons.1 hb with rfl|hb;exact⟨l,o,C,λy x=>congrFun (congrFun I y) x⟩;exact xA8 J j hb
theorem xP1 (C:CtxOk P c)(hm:P.follows .mixedOrders):∀{code:Code},(∀b∈KZ code,wC8 c b)->GK P c (zG code):=by intro code;induction code with|seq a b gz gu=>intro h;exact zU9 (gz λx j=>h x (mem_append_left _ j)) (gu λx j=>h x (List.mem_append_right _ j))|cond x a b gz gu=>intro h;exact zU9 (gz λx j=>h x (mem_append_left _ j)) (gu λx j=>h x (List.mem_append_right _ j))|block id a o=>intro h;exact o h|loop a o=>intro h;obtain⟨l,I,J,R⟩:=h a (jQ ..);exact⟨fI C hm rfl l.les rfl (o λx j=>h x (jP _ j)) I J R,trivial⟩|_=>intro _;trivial
structure Fb [GlobTab] (P:Program) where
 n:Nat
 s:Spec
 h:SpecOk P n s
def Fb.l [GlobTab]{P:Program}:List (Fb P)->List (Nat×Spec)
 |[]=>[]
 |b::r=>(b.n,b.s)::Fb.l r
theorem Fb.all:∀l:List (Fb P),N4 P (Fb.l l) |[]=>trivial|b::r=>⟨b.h,Fb.all r⟩
def Li.l:List (Nat×Li)->List (Nat×(St->Option Out))
 |[]=>[]
 |(k,l)::r=>(k,l.sp)::Li.l r
theorem wD5(C:CtxOk P c)(hm:P.follows .mixedOrders)(I:P.funcs[f]?=some fn){ok:AH ps->Prop}{F:AH ps->rs.den}{o:AH ps->Eb os}(J:Pk fn c ps os){ls:List (Nat×Li)}(R:SQ c (KZ (fn.body.getD .skip)) ls=SR ls)(j:∀x,Il c (fn.body.getD .skip) fn.results.toList ps rs os x=some (ok x,F x,o x)):SpecOk P f (fnSpec ps rs os ok F o):=WL C hm I J rfl (xP1 C hm (xA8 R)) j
def Fz (k:IntKind)(a b:Int):Int:=OK k (λx y=>x &&& y) a b
def ior (k:IntKind)(a b:Int):Int:=OK k (λx y=>x ||| y) a b
def EW (a b:Int)(n:Nat):Int:=a.fdiv (2 ^ (min b.toNat n))
def nth {α:Type}(l:List α)(i:Int)(d:α):α:=l.getD i.toNat d
def A6 (i n:Int):Prop:=0<=i/\i<n
def len {α:Type}(l:List α):Int:=(l.length:Int)
def BP (s:List UInt8)(i:Int):Int:=((s.getD i.toNat 0).toNat:Int)
variable {gtab:GlobTab}{P:Program}
def fJ:List AVal->Option (List Prop×AVal)
 |[.val (.int .u64) x,.val (.int .u64) y,.val (.int .u64) c] =>
  some ([0<=c/\c<=1],.tup (.cons (.val (.int .u64) (((toNat x+toNat y+toNat c) % 18446744073709551616:Nat):Int)) (.cons (.val (.int .u64) (((toNat x+toNat y+toNat c) / 18446744073709551616:Nat):Int)) .nl)))
 |_=>none
def fK:List AVal->Option (List Prop×AVal)
 |[.val .str s,.val (.int .u8) c]=>some ([],.val (.int .i64) (Lib.indexByte s (toNat c).toUInt8))
 |_=>none
variable {vals:List Value}
theorem xU6{G:Gh}{w:World}{tm:Array Value}(h:C2 (zA G w tm none) [A,B] vals):∃u v,vals=[u,v]/\zA G w tm none A u/\zA G w tm none B v:=by match vals,h with |[u,v],h=>simp only[C2] at h;exact⟨u,v,rfl,h.1,h.2.1⟩|[],h=>simp[C2] at h|[_],h=>simp[C2] at h|_::_::_::_,h=>simp[C2] at h
theorem xG1{G:Gh}{w:World}{tm:Array Value}{C:AVal}(h:C2 (zA G w tm none) [A,B,C] vals):∃u v x,vals=[u,v,x]/\zA G w tm none A u/\zA G w tm none B v/\zA G w tm none C x:=by match vals,h with |[u,v,x],h=>simp only[C2] at h;exact⟨u,v,x,rfl,h.1,h.2.1,h.2.2.1⟩|[],h=>simp[C2] at h|[_],h=>simp[C2] at h|[_,_],h=>simp[C2] at h|_::_::_::_::_,h=>simp[C2] at h
theorem xV3(hf:P.funcs[f]?=some fn)(kY:(fn.name=="runtime.NumGoroutine")=false) (hb:fn.body.isNone=true) (hn:(Extern.findNext fn).isNone=true) (he:Extern.find fn=some Extern.BytealgIndexByte.indexByte):OX P f fK:=by intro args p A h _ G w tm vals hv;unfold fK at h;split at h;simp only[jA,jG] at h;obtain⟨rfl,rfl⟩:=h;obtain⟨u,v,rfl,h1,h2⟩:=xU6 hv;simp only[zA] at h1 h2;rw[VRep_str] at h1;rw[VRep_int] at h2;subst h1;subst h2;refine⟨_,?_,zD⟩;rw[run_callFunc_extern hf kY hb (Option.isNone_iff_eq_none.1 hn) he,Lib.run_indexByteString];rfl;cases h
theorem wB6(hf:P.funcs[f]?=some fn)(kY:(fn.name=="runtime.NumGoroutine")=false) (hb:fn.body.isNone=true) (hn:(Extern.findNext fn).isNone=true) (he:Extern.find fn=some add64Entry):OX P f fJ:=by intro args p A h hp G w tm vals hv;unfold fJ at h;split at h;rename_i x y c;simp only[jA,jG] at h;obtain⟨rfl,rfl⟩:=h;have hc:(0:Int)<=c/\(c:Int)<=1:=hp _ (jQ ..);obtain⟨u,v,q,rfl,h1,h2,h3⟩:=xG1 hv;simp only[zA] at h1 h2 h3;rw[VRep_int] at h1 h2 h3;subst h1;subst h2;subst h3;refine⟨Extern.MathBitsCarry.pair ((toNat x+toNat y+toNat c) % Extern.MathBitsCarry.m64) ((toNat x+toNat y+toNat c) / Extern.MathBitsCarry.m64),?_,?_⟩;rw[run_callFunc_extern hf kY hb (Option.isNone_iff_eq_none.1 hn) he];(have key:∀k:Nat,k<=1->(add64Entry #[.int .u64 x,.int .u64 y,.int .u64 (k:Int)]).run P w=.ok (Extern.MathBitsCarry.pair ((toNat x+toNat y+k) % Extern.MathBitsCarry.m64) ((toNat x+toNat y+k) / Extern.MathBitsCarry.m64)) w:=by intro k hk;(have:k=0\/k=1:=by omega);rcases this with rfl|rfl<;>rfl);obtain⟨k,hk⟩:=Int.eq_ofNat_of_zero_le hc.1;have h0:c=((k:Nat):Int):=hk;(have nh:k<=1:=by have h1:=hc.2;rw[h0] at h1;exact Int.ofNat_le.1 h1);rw[h0];show ((add64Entry #[.int .u64 x,.int .u64 y,.int .u64 (k:Int)]).run P w).andThen _=_;rw[key k nh];rfl;simp only[zA,Extern.MathBitsCarry.pair,Extern.MathBitsCarry.m64];exact⟨_,[_],rfl,zD (s:=none) (tm:=tm),_,[],rfl,zD (s:=none) (tm:=tm),rfl⟩;cases h
open Go
instance (r:Int):Decidable (A5 r):=inferInstanceAs (Decidable (_/\_))
instance (i n:Int):Decidable (A6 i n):=inferInstanceAs (Decidable (_/\_))
def WM {X:Type}(g:X->Bool)(next:X->X)(okb:X->Bool):Nat->X->Bool
 |0,_=>false
 |k+1,x=>okb x&&(cond (g x) (WM g next okb k (next x)) true)
theorem xU7{X:Type}{g:X->Bool}{next:X->X}{ok:X->Prop}{okb:X->Bool}(h:∀x,okb x=true↔ok x):∀{F:Nat}{x:X},WM g next okb F x=true↔∃k,k<F/\Runs g next ok k x:=by intro F;induction F with|zero=>intro x;simp[WM]|succ F I=>intro x;simp only[WM,jB,h];cases o:g x with|false=>simp only[jD,and_true];constructor;intro C;exact⟨0,by omega,C,o⟩;rintro⟨k,_,j⟩;(cases k with|zero=>exact j.1|succ k=>exact j.1)|true=>simp only[jE,I];constructor;rintro⟨C,k,J,j⟩;exact⟨k+1,by omega,C,o,j⟩;rintro⟨k,J,j⟩;cases k with|zero=>rw[j.2] at o;cases o|succ k=>exact⟨j.1,k,by omega,j.2.2⟩
instance {X:Type}{g:X->Bool}{next:X->X}{ok:X->Prop}[inst:∀x,Decidable (ok x)] (x:X):Decidable (AA g next ok x):=decidable_of_iff (WM g next (λx=>decide (ok x)) AV x=true) (xU7 λx=>by simp)
variable {gtab:GlobTab}{P:Program}{w:World}{χ:Nat->Nat->Nat}
def Ty.deep:Ty->Bool
 |.ptr _=>false|.cons h t=>h.deep&&t.deep|.st f=>f.deep|.arr _ t=>t.deep|.sl t=>blt 0 t.size&&t.deep|_=>true
def Ty.wf:(τ:Ty)->τ.den->Prop
 |.int k,x=>k.min<=x/\x<=k.max
 |.bool,_=>True
 |.str,s=>length (α:=UInt8) s<=maxLen
 |.nl,_=>True
 |.cons h t,x=>h.wf x.1/\t.wf x.2
 |.st f,x=>f.wf x
 |.arr n t,l=>length (α:=t.den) l=n/\∀y∈(l:List t.den),t.wf y
 |.sl t,l=>length (α:=t.den) l<=maxLen/\∀y∈(l:List t.den),t.wf y
 |.ptr t,x=>t.wf x
theorem xG2{f:Nat->Value}(sz:Nat):∀n,(range n).flatMap (λi=>(range sz).map λk=>f (i*sz+k))=(range (n*sz)).map f:=by intro n;induction n<;>simp_all [Nat.succ_mul,List.range_add]
variable {cs:List Value}
theorem xP3(sz:Nat):∀n,(range n).flatMap (λi=>(cs.drop (i*sz)).take sz)=cs.take (n*sz):=by intro n;induction n<;>simp_all [List.range_succ,Nat.succ_mul,List.take_add]
theorem WN{T:Nat}(h:B0 P τ (.inl T)):P.cellsOf T=τ.size:=by obtain⟨⟨i,z,j,o,_⟩,_⟩:=GH h;grind [Program.cellsOf]
theorem cells?_is{a:Addr}{n:Nat}(h:w.cells? 0 a n=some cs):cs=(range n).map (λk=>(w.cell? (a.add k)).getD undef)/\∀k,k<n->∃v,w.cell? (a.add k)=some v:=by simp[World.cells?] at h;generalize j:(λi=>w.cell? (a.add i))=f at h;(have key:∀(l:List Nat) (cs:List Value),l.mapM f=some cs->cs=l.map (λk=>(f k).getD undef)/\∀k∈l,∃v,f k=some v:=by intro l;induction l<;>simp_all [bind_eq_some_iff]);have:=key _ _ h;subst j;simp_all
theorem xP4 (a:Addr)(m k:Nat):(a.add m).add k=a.add (m+k):=by grind [Addr.add,Nat.add_assoc]
theorem yS5{a:Addr}{v:Value}(h:w.cell? a=some v):a.spot=none/\a.block<w.heap.size:=by unfold World.cell? at h;split at h;rename_i c _ _ hb;split at h;grind;refine⟨by simp_all,EN hb⟩;grind
section
variable {H:Type}{enc:TypeId×Value->H}{sp:Nat->Bool}{held:Bool}
end
open Go Go.RowKit Go.ChangeShapes
variable {gtab:GlobTab}{P:Program}{w:World}
def enumSh:Nat->List Ty->List (Nat×Sh)
 |_,[]=>[]
 |i,τ::r=>(i,.val τ)::enumSh (i+1) r
def Jc:(i:Nat)->(τs:List Ty)->AH (enumSh i τs)->List AVal
 |_,[],_=>[]
 |i,τ::r,x=>.val τ x.1::Jc (i+1) r x.2
def fM:(i:Nat)->(τs:List Ty)->AH (enumSh i τs)->Prop
 |_,[],_=>True
 |i,τ::r,x=>τ.wf x.1/\fM (i+1) r x.2
def yB (P:Program):List Ty->List TypeId->Bool
 |[],[]=>true
 |τ::r,T::s=>B0 P τ (.inl T)&&τ.deep&&yB P r s
 |_,_=>false
theorem beq_refl:∀τ:Ty,Ty.beq τ τ:=by intro τ;induction τ<;>simp_all [Ty.beq]
theorem yS6{τ:Ty}{x:τ.den}:Ty.cast τ x=some x:=by grind [Ty.cast,beq_refl]
theorem xP5:∀{τs:List Ty}{i:Nat}{x:AH (enumSh i τs)}{S:St},(∀k,(Jc i τs x)[k]?=none\/(Jc i τs x)[k]?=some (S.get (i+k)))->(∀τ∈τs,τ.isL=false)->Et (enumSh i τs) S=some x:=by intro τs;induction τs with|nil=>intro i x S _ _;rfl|cons τ r o=>intro i x S h C;simp[enumSh,Et];have j:=h 0;simp only[Jc,Nat.add_zero] at j;rcases j with j|j;grind;injection j with j;rw[<-j];(have I:(Sh.val τ).parse (.val τ x.1)=some x.1:=by simp_all [Sh.parse,AVal.as,AVal.asT,yS6]);have J:=o (i:=i+1) (x:=x.2) (S:=S) (λk=>by have:=h (k+1);grind [Jc,List.getElem?_cons_succ]) λτ hτ=>C τ (jP _ hτ);rw[I,J];rfl
theorem xG3:∀{τs:List Ty}{i:Nat}{x:AH (enumSh i τs)},(Jc i τs x).length=τs.length/\(enumSh i τs).length=τs.length:=by intro τs;induction τs with|nil=>exact⟨rfl,rfl⟩|cons τ r j=>intro i x;simp[Jc,enumSh,(j (i:=i+1) (x:=x.2)).1,(j (i:=i+1) (x:=x.2)).2]
theorem yY:∀{τs:List Ty}{Ts:List TypeId},yB P τs Ts->∀τ∈τs,τ.isL=false:=by intro τs;induction τs with|nil=>grind|cons σ r j=>intro Ts h τ hτ;cases Ts<;>grind [yB,FN]
section
variable {H:Type}{enc:TypeId×Value->H}
variable {τ:Ty}{T:TypeId}{v:Value}{base:Nat}
theorem xX5(j:B0 P τ (.inl T))(o:τ.isAgg=false)(C:τ.deep)(h:okWide P w .any base T v):∀cs,v≠.agg cs:=by intro cs e;unfold okWide at h;cases τ with|st f=>grind [Ty.isAgg]|arr n t=>grind [Ty.isAgg]|ptr t=>grind [Ty.deep]|nl=>grind [B0]|cons a b=>grind [B0]|int k=>(have hu:P.underlying T=some (.int k):=by simp[B0] at j;cases hu:P.underlying T with|none=>grind|some d=>rw[hu] at j;cases d<;>simp at j;grind [MX]);simp_all [Cell.okWide,Cell.ok]|bool=>(have hu:P.underlying T=some .bool:=by grind [B0]);simp_all [Cell.okWide,Cell.ok]|str=>have hu:=Nj j;simp_all [Cell.okWide,Cell.ok]|sl t=>obtain⟨e,hu,_⟩:=GI j;simp_all [Cell.okWide,Cell.ok]
theorem wA0(j:B0 P τ (.inl T))(o:τ.isAgg)(h:okWide P w .any base T v):∃cs,v=.agg cs:=by unfold okWide at h;cases τ<;>grind [OP,zS,Ty.isAgg]
end
theorem below_trods{H:Type}{enc:TypeId×Value->H}(I:laidOutB P):∀{Ts:List TypeId}{vs:List Value}{ds:List (DataW H)}{ps:List MemPlace}{W W':World}{sp:Nat->Bool},Ts.all (λt=>P.readableRec t&&blt t P.types.size)->DataW.TrodAll enc P W 0 (λ_=>true) true Ts vs ds ps->Below W.heap.size W W'->(∀x∈ps,x.block<W.heap.size)->(∀p∈ps,sp p.block=true)->DataW.TrodAll enc P W' 0 sp true Ts vs ds ps:=by intro Ts;induction Ts with|nil=>grind [DataW.TrodAll]|cons T s R=>intro vs ds ps W W' sp ht h hb j o;cases vs with|nil=>grind [DataW.TrodAll]|cons v vs=>cases ds with|nil=>grind [DataW.TrodAll]|cons d ds=>simp only[List.all_cons,jB] at ht;obtain⟨p,q,J,h2,rfl⟩:=h;refine⟨p,q,WideElems.Trod_stays I ht.1.1 (Nat.blt_eq.mp ht.1.2) J (λx C=>hb.same (j x (mem_append_left _ C))) (λx C=>o x (mem_append_left _ C)),?_,rfl⟩;grind
theorem trod_len2{H:Type}{enc:TypeId×Value->H}{T0 T1:TypeId}{vs:List Value}{ds:List (DataW H)}{ps:List MemPlace}{sp:Nat->Bool}{o:Bool}(h:DataW.TrodAll enc P w 0 sp o [T0,T1] vs ds ps):∃d0 d1,ds=[d0,d1]:=by obtain⟨v,vs1,d,ds1,a,b,rfl,rfl,rfl,C,j⟩:=trodAll_cons h;obtain⟨v,vs1,I,ds1,a,b,rfl,rfl,rfl,C,j⟩:=trodAll_cons j;obtain⟨rfl,rfl,rfl⟩:=trodAll_nil j;simp_all
theorem post_law{H:Type}{enc:TypeId×Value->H}{f:Func}{s:ChangeSpec}{W W':World}{args:Array Value}{v:Value}{ds gs:List (DataW H)}{before pa pv:List MemPlace}(C:DataW.Whole enc P f.params.toList s.vars false W args.toList ds gs before)(kJ:∀(b:Nat)(sp:Nat->Bool)(I:Bool),DataW.TrodAll enc P W' b sp I f.resultTypes.toList (v.resultList f.resultTypes.size) (s.fn H (ds++gs)).results [])(kf:∀sp:Nat->Bool,(∀p∈before,sp p.block=true)->DataW.TrodAll enc P W' 0 sp true f.params.toList args.toList (s.fn H (ds++gs)).args pa)(j:∀sp:Nat->Bool,(∀p∈before,sp p.block=true)->DataW.TrodVars enc P W' sp s.vars (s.fn H (ds++gs)).vars pv)(iG:before=pa++pv)(J:W.keptBut W' (· ∈before)):s.post enc P f false true false false W args v W':=by (have hold:∀p∈before,(λb=>decide (b<W.heap.size)) p.block=true:=λp o=>by simpa using C.lt p o);refine⟨ds,gs,before,[],pa,pv,C,kJ _ _ _,kf _ hold,j _ hold,World.keptBut_mono (λp o=>⟨o,?_⟩) J,λh=>by grind⟩;grind
def zeroV (P:Program)(T:TypeId):Value:=((P.info? T).bind (·.zero)).getD undef
def wD:DataW Unit->Value
 |.lit (.int k n)=>.int k n
 |_=>undef
def flat1:DataW Unit->List Value
 |.agg l=>l.map wD
 |.lit (.int k n)=>[.int k n]
 |_=>[]
def flat2:DataW Unit->List Value
 |.agg l=>l.flatMap flat1
 |_=>[]
def putG (h:Array Obj)(g:Nat)(cs:List Value):Array Obj:=h.modify g fun
 |.cells _ t frozen=>.cells cs.toArray t frozen
 |o=>o
def rangeLen:DataW Unit->Nat
 |.ptr (.agg (.slice l _::_))=>l.length
 |_=>0
def rangeLatin:DataW Unit->Value
 |.ptr (.agg [_,_,d])=>wD d
 |_=>undef
def rangeCells:DataW Unit->List Value
 |.ptr (.agg (.slice l _::_))=>l.flatMap flat1
 |_=>[]
variable {X:Type}
theorem fN{g:X->Bool}{next:X->X}{x:X}(h:g x=false):∀F,loopN g next F x=x:=by intro F;cases F with|zero=>rfl|succ F=>simp[loopN,h]
theorem xB{g:X->Bool}{next:X->X}(inv:X->Prop)(m:X->Nat)(ku:∀x,inv x->g x->inv (next x)/\m (next x)<m x):∀{x:X},inv x->m x<AV->inv (A3 g next x)/\g (A3 g next x)=false:=by (have key:∀(F:Nat) (x:X),inv x->m x<F->inv (loopN g next F x)/\g (loopN g next F x)=false:=by intro F;induction F with|zero=>intro x _ h;omega|succ F C=>intro x j hm;simp only[loopN];cases o:g x with|false=>simp only[jD];exact⟨j,o⟩|true=>simp only[jE];have:=ku x j o;exact C _ this.1 (by omega));intro x j hm;exact key AV x j hm
theorem Fq{g:X->Bool}{next:X->X}{ok:X->Prop}(inv:X->Prop)(m:X->Nat)(kh:∀x,inv x->ok x)(ku:∀x,inv x->g x->inv (next x)/\m (next x)<m x):∀{x:X},inv x->m x<AV->AA g next ok x:=by (have key:∀(F:Nat) (x:X),inv x->m x<F->∃k,k<F/\Runs g next ok k x:=by intro F;induction F with|zero=>intro x _ h;omega|succ F C=>intro x j hm;cases o:g x with|false=>exact⟨0,by omega,kh x j,o⟩|true=>have:=ku x j o;obtain⟨k,J,I⟩:=C _ this.1 (by omega);exact⟨k+1,by omega,kh x j,o,I⟩);intro x j hm;exact key AV x j hm
variable {g:Int×Unit->Bool}{next:Int×Unit->Int×Unit}
theorem WO{n:Int}{c:Int->Bool}(gI:0<=n)(hn:n<9223372036854775808)(R:∀x,g x=(decide (x.1<n)&&!(c x.1)))(hx:∀x,next x=(x.1+1,())):∃j,0<=j/\j<=n/\A3 g next (0,())=(j,())/\(∀k,0<=k->k<j->c k=false)/\(j<n->c j):=by have h:=xB (g:=g) (next:=next) (λx=>0<=x.1/\x.1<=n/\∀k,0<=k->k<x.1->c k=false) (λx=>(n-x.1).toNat) (λx hi kN=>by rw[R] at kN;simp only[jB,decide_eq_true_eq,jK] at kN;rw[hx];refine⟨⟨by omega,by omega,λk I C=>?_⟩,by simp only;omega⟩;by_cases e:k=x.1;rw[e];exact kN.2;exact hi.2.2 k I (by simp only at C;omega)) (x:=(0,())) ⟨by simp,gI,λk I C=>by simp only at C;omega⟩ (by simp only[AV];omega);generalize hj:A3 g next (0,())=e at h;obtain⟨⟨I,C,h3⟩,o⟩:=h;refine⟨e.1,I,C,rfl,h3,λJ=>?_⟩;rw[R] at o;simp only[Bool.and_eq_false_iff,decide_eq_false_iff_not,Bool.not_eq_false'] at o;rcases o with o|o;exact absurd J o;exact o
theorem DC{ok:Int×Unit->Prop}{n:Int}(gI:0<=n)(C:n<9223372036854775808)(j:∀x,g x->x.1<n)(o:∀x,next x=(x.1+1,()))(kh:∀x:Int×Unit,0<=x.1->x.1<=n->ok x):AA g next ok (0,()):=Fq (λx=>0<=x.1/\x.1<=n) (λx=>(n-x.1).toNat) (λx h=>kh x h.1 h.2) (λx I kN=>by have:=j x kN;rw[o];refine⟨⟨by simp only;omega,by simp only;omega⟩,by simp only;omega⟩) ⟨by simp,gI⟩ (by simp only[AV];omega)
def CT (n:Int)(c:Int->Bool):Bool:=(range n.toNat).any λi=>c (i:Int)
theorem GL{n:Int}{c:Int->Bool}(gI:0<=n)(I:n<9223372036854775808)(J:∀x,g x=(decide (x.1<n)&&!(c x.1)))(R:∀x,next x=(x.1+1,())):(decide ((A3 g next (0,())).1<n)&&c (A3 g next (0,())).1)=CT n c:=by obtain⟨j,h1,h2,h3,h4,h5⟩:=WO gI I J R;rw[h3];rw[Bool.eq_iff_iff];simp only[jB,decide_eq_true_eq,CT,any_eq_true,mem_range];constructor;rintro⟨h,h'⟩;exact⟨j.toNat,by omega,by rw[Int.toNat_of_nonneg h1];exact h'⟩;rintro⟨i,hi,o⟩;by_cases C:j<n;exact⟨C,h5 C⟩;have:=h4 (i:Int) (by omega) (by omega);rw[this] at o;cases o
theorem xY5{n m:Int}{c d:Int->Bool}(h:n=m)(C:∀i,0<=i->i<n->c i=d i):CT n c=CT m d:=by subst h;unfold CT;rw[Bool.eq_iff_iff];simp only[any_eq_true,mem_range];constructor;rintro⟨i,j,o⟩;exact⟨i,j,by rw[<-C i (by omega) (by omega)];exact o⟩;rintro⟨i,j,o⟩;exact⟨i,j,by rw[C i (by omega) (by omega)];exact o⟩
variable {α:Type}
theorem AP(l:List α):0<=len l:=by simp[len]
def CD {A:Type}(step:A->Int->A):Nat->A->A
 |0,a=>a
 |k+1,a=>step (CD step k a) (k:Int)
variable {A:Type}
theorem JH{g:A×Int×Unit->Bool}{next:A×Int×Unit->A×Int×Unit}{n:Int}{step:A->Int->A}(gI:0<=n)(hn:n<9223372036854775808)(o:∀x,g x=decide (x.2.1<n))(J:∀x,next x=(step x.1 x.2.1,x.2.1+1,()))(a:A):A3 g next (a,0,())=(CD step n.toNat a,n,()):=by have h:=xB (g:=g) (next:=next) (λx=>0<=x.2.1/\x.2.1<=n/\x.1=CD step x.2.1.toNat a) (λx=>(n-x.2.1).toNat) (λx C kN=>by rw[o] at kN;have kN:=jF kN;rw[J];refine⟨⟨by simp only;omega,by simp only;omega,?_⟩,by simp only;omega⟩;simp only;(have e:(x.2.1+1).toNat=x.2.1.toNat+1:=by omega);rw[e,CD,<-C.2.2,Int.toNat_of_nonneg C.1]) (x:=(a,0,())) ⟨by simp,gI,rfl⟩ (by simp only[AV];omega);generalize A3 g next (a,0,())=e at h;obtain⟨⟨R,h2,I⟩,j⟩:=h;rw[o] at j;have j:=of_decide_eq_false j;obtain⟨e1,e2,e3⟩:=e;simp only at R h2 I j;(have:e2=n:=by omega);subst this;rw[I]
theorem JI{g:A×Int×Unit->Bool}{next:A×Int×Unit->A×Int×Unit}{ok:A×Int×Unit->Prop}{n:Int}{step:A->Int->A}(gI:0<=n)(I:n<9223372036854775808)(o:∀x,g x=decide (x.2.1<n))(C:∀x,next x=(step x.1 x.2.1,x.2.1+1,()))(a:A)(kh:∀i:Int,0<=i->i<=n->ok (CD step i.toNat a,i,())):AA g next ok (a,0,()):=Fq (λx=>0<=x.2.1/\x.2.1<=n/\x.1=CD step x.2.1.toNat a) (λx=>(n-x.2.1).toNat) (λx h=>by have:=kh x.2.1 h.1 h.2.1;rw[<-h.2.2] at this;exact this) (λx j kN=>by rw[o] at kN;have kN:=jF kN;rw[C];refine⟨⟨by simp only;omega,by simp only;omega,?_⟩,by simp only;omega⟩;simp only;(have e:(x.2.1+1).toNat=x.2.1.toNat+1:=by omega);rw[e,CD,<-j.2.2,Int.toNat_of_nonneg j.1]) ⟨by simp,gI,rfl⟩ (by simp only[AV];omega)
variable {gtab:GlobTab}{P:Program}
theorem Pl{f:Nat}{t:Ty}{rs:Sh}{o0:AH [(0,Sh.nn true)]->Eb []}{o1:AH [(0,Sh.nn false)]->Eb []}{o2:AH [(0,Sh.val (.sl t))]->Eb []}{ok0:AH [(0,Sh.nn true)]->Prop}{ok1:AH [(0,Sh.nn false)]->Prop}{ok2:AH [(0,Sh.val (.sl t))]->Prop}{F0:AH [(0,Sh.nn true)]->rs.den}{F1:AH [(0,Sh.nn false)]->rs.den}{F2:AH [(0,Sh.val (.sl t))]->rs.den}(h0:SpecOk P f (fnSpec [(0,.nn true)] rs [] ok0 F0 o0))(C:SpecOk P f (fnSpec [(0,.nn false)] rs [] ok1 F1 o1))(h2:SpecOk P f (fnSpec [(0,.val (.sl t))] rs [] ok2 F2 o2)){F:List t.den->rs.den}{ok:List t.den->Prop}{o:AH [(0,Sh.val (.sl t))]->Eb []}(hok0:ok0 ((),()))(iu:ok1 ((),()))(hok2:∀l:List t.den,ok l->0<l.length->ok2 (l,()))(e0:F []=F0 ((),()))(e1:F []=F1 ((),()))(e2:∀l:List t.den,F l=F2 (l,())):SpecOk P f (fnSpec [(0,.val (.sl t))] rs [] (λx=>ok x.1) (λx=>F x.1) o):=by refine⟨h0.1,λargs co j kh G w vals hlen J kt=>?_⟩;unfold fnSpec at j;generalize qz:Nat.beq args.length _=b at j;cases b with|false=>cases j|true=>simp only[jE] at j;split at j;rename_i x hx;injection j with j;subst j;have hl:args.length=1:=jC qz;(obtain⟨A,rfl⟩:∃A,args=[A]:=by match args,hl with |[A],_=>exact⟨A,rfl⟩);(obtain⟨v,rfl⟩:∃v,vals=[v]:=by match vals,hlen with |[v],_=>exact⟨v,rfl⟩);obtain⟨l,_⟩:=x;(have hp:(Sh.val (.sl t)).parse A=some l:=by simp only[Et,FQ,St.get] at hx;split at hx;rename_i y z hy _;simp only[jA,jG] at hx;rw[<-hx.1];simpa using hy;cases hx);have hokl:ok l:=kh _ (jH.2 rfl);have I:=Fy hp (kt 0 A v rfl rfl);simp only[Sh.mk,zA] at I;rw[zC rfl] at I;have hC:=I;simp only[AL] at I;obtain⟨a,cap,hv,I⟩:=I;injection hv with hv _;(have run:∀{s:Sh}{y:s.den}{ok':AH [(0,s)]->Prop}{F':AH [(0,s)]->rs.den}{o':AH [(0,s)]->Eb []},SpecOk P f (fnSpec [(0,s)] rs [] ok' F' o')->(∀S:St,s.parse (s.mk y)=some y)->ok' (y,())->F l=F' (y,())->zA G w #[] (some 0) (s.mk y) v->Calls P f [v].toArray w λe w'=>∃v' G',e=.returned v'/\Frame0 G.χ w G'.χ w'/\zA G' w' #[] none (rs.mk (F l)) v'/\(∀(i:Nat) k A' u,(i,k)∈LR [] (o (l,()))->[A][i]?=some A'->[v][i]?=some u->(∀τ k0,A'=.box τ k0->zA G' w' #[] (some i) (.box τ k) u/\G'.β i=G.β i)/\(Fe A'=false->zA G' w' #[] none k u)):=by intro s y ok' F' o' hs gT hok' hF' qi;(have j:fnSpec [(0,s)] rs [] ok' F' o' [s.mk y]=some ⟨[ok' (y,())],rs.mk (F' (y,())),LR [] (o' (y,())),[]⟩:=by (have:Et [(0,s)] (FQ 0 [s.mk y])=some (y,()):=by simp[Et,FQ,St.get,gT []]);unfold fnSpec;rw[this];rfl);refine (hs.2 _ _ j (λq hq=>by simp only[jH] at hq;subst hq;exact hok') G w [v] rfl J (λi A' v' C h2=>?_)).mono ?_;(match i,C,h2 with |0,C,h2=>simp only[List.getElem?_cons_zero,jA] at C h2;subst C;subst h2;exact qi|i+1,C,_=>simp at C);rintro e w' ⟨v',G',rfl,q1,q2,_⟩;exact⟨v',G',rfl,q1,by rw[hF'];exact q2,λi k A' u h=>by cases h⟩);rcases I with I | ⟨b,o2',us,ha,_⟩;have R:l=[]:=I;subst R;(cases a with|none=>exact run (s:=.nn true) (y:=()) h0 (λ_=>rfl) hok0 e0 (by simp only[Sh.mk,zA];exact⟨none,cap,hv,rfl⟩)|some ad=>exact run (s:=.nn false) (y:=()) C (λ_=>rfl) iu e1 (by simp only[Sh.mk,zA];exact⟨some ad,cap,hv,rfl⟩));(have gi:0<length (α:=t.den) l\/l=[]:=by cases l with|nil=>exact .inr rfl|cons _ _=>exact .inl (by simp));rcases gi with gi|R;refine run (s:=.val (.sl t)) (y:=l) h2 (λ_=>?_) (hok2 l hokl gi) (e2 l) (by simp only[Sh.mk,zA];exact (zC rfl).2 hC);simp only[Sh.parse,Sh.mk,Ty.isL,jD,AVal.as,AVal.asT];exact yS6;subst R;subst ha;exact run (s:=.nn false) (y:=()) C (λ_=>rfl) iu e1 (by simp only[Sh.mk,zA];exact⟨_,cap,hv,rfl⟩);cases j
variable {gtab:GlobTab}{P:Program}{w:World}{χ:Nat->Nat->Nat}
def Ty.bulk:(τ:Ty)->τ.den->Nat
 |.int _,_=>1
 |.bool,_=>1
 |.str,s=>length (α:=UInt8) s+1
 |.nl,_=>0
 |.cons h t,x=>h.bulk x.1+t.bulk x.2
 |.st f,x=>f.bulk x+1
 |.arr _ t,l=>(map t.bulk l).sum+1
 |.sl t,l=>(map t.bulk l).sum+1
 |.ptr _,_=>0
structure BulkFn (H:Type) where
 B:DataW H->Nat
 BA:List (DataW H)->Nat
 str:∀s,s.length+1<=B (.lit (.string s))
 lit:∀l,1<=B (.lit l)
 slice:∀e s,BA e+1<=B (.slice e s)
 agg:∀p,BA p+1<=B (.agg p)
 nil':1<=B .nil
 cons:∀d r,B d+BA r<=BA (d::r)
theorem yS7{H:Type}{K:BulkFn H}{f:α->Option (DataW H×List MemPlace)}{R:X->List Value->Prop}{g:α->List Value}{wf:X->Prop}{bk:X->Nat}:∀{l:List α}{ys:List (DataW H×List MemPlace)},l.mapM f=some ys->(∀x y,x∈l->f x=some y->∃z,R z (g x)/\wf z/\bk z<=K.B y.1)->∃zs:List X,zs.length=l.length/\C7 R zs (l.flatMap g)/\(∀z∈zs,wf z)/\(zs.map bk).sum<=K.BA (ys.map (·.1)):=by intro l;induction l with|nil=>intro ys _ _;exact⟨[],rfl,rfl,λz h=>(by grind),by simp⟩|cons x l o=>intro ys h j;simp only[mapM_cons,bind_eq_bind,bind_eq_some_iff,pure_def,jA] at h;obtain⟨y,C,ys',gf,rfl⟩:=h;obtain⟨z,I,h2,h6⟩:=j x y (jQ ..) C;obtain⟨zs,h3,J,h5,h7⟩:=o gf λx y hx=>j x y (jP _ hx);refine⟨z::zs,by grind,⟨g x,l.flatMap g,rfl,I,J⟩,λz' hz=>?_,?_⟩;(·all_goals grind);(·simp;have:=K.cons y.1 (ys'.map (·.1));omega)
section
variable {H:Type}{enc:TypeId×Value->H}{sp:Nat->Bool}{held:Bool}
theorem xP6 (K:BulkFn H)(hχ:∀b o,b<w.heap.size->χ b o=0):∀τ:Ty,(∀(T AV:Nat) (cs:List Value) (d:DataW H) (ps:List MemPlace),B0 P τ (.inl T)->τ.deep->DataW.trod enc P w 0 sp held AV T cs=some (d,ps)->∃x,AL χ w τ x cs/\τ.wf x/\τ.bulk x<=K.B d)/\(∀(fs:List Field) (o:Nat) (cs:List Value) (AV:Nat) (xs:List (DataW H×List MemPlace)),B0 P τ (.inr (fs,o))->τ.deep->fs.mapM (λf=>DataW.trod enc P w 0 sp held AV f.type ((cs.drop f.offset).take (P.cellsOf f.type)))=some xs->cs.length=o+τ.size->∃x,AL χ w τ x (cs.drop o)/\τ.wf x/\τ.bulk x<=K.BA (xs.map (·.1))):=by intro τ;induction τ with|int k=>refine⟨λT AV cs d ps C _ h=>?_,λfs o cs AV xs C=>by simp[B0] at C⟩;(have hu:P.underlying T=some (.int k):=by simp only[B0,jB] at C;cases hu:P.underlying T with|none=>simp[hu] at C|some d=>rw[hu] at C;cases d<;>simp at C;rw[MX C.1]);(cases AV with|zero=>simp[DataW.trod] at h|succ AV=>unfold DataW.trod at h;rw[hu] at h;match cs,h with |[.int k' n],h=>simp only at h;split at h;rename_i hc;obtain⟨rfl,hw⟩:=hc;simp only[Lit.wf,jB,decide_eq_true_eq] at hw;simp only[jA,jG] at h;exact⟨n,by simp only[AL],hw,by rw[<-h.1];exact K.lit _⟩;cases h)|bool=>refine⟨λT AV cs d ps C _ h=>?_,λfs o cs AV xs C=>by simp[B0] at C⟩;(have hu:P.underlying T=some .bool:=by simp only[B0,jB] at C;cases hu:P.underlying T with|none=>simp[hu] at C|some d=>rw[hu] at C;cases d<;>simp at C;rfl);(cases AV with|zero=>simp[DataW.trod] at h|succ AV=>unfold DataW.trod at h;rw[hu] at h;match cs,h with |[.bool b],h=>simp only[jA,jG] at h;exact⟨b,by simp only[AL],trivial,by rw[<-h.1];exact K.lit _⟩)|str=>refine⟨λT AV cs d ps C _ h=>?_,λfs o cs AV xs C=>by simp[B0] at C⟩;have hu:=Nj C;(cases AV with|zero=>simp[DataW.trod] at h|succ AV=>unfold DataW.trod at h;rw[hu] at h;match cs,h with |[.string b],h=>simp only at h;split at h;rename_i hs;simp only[jA,jG] at h;refine⟨b.data.toList,by simp only[AL],?_,by rw[<-h.1];exact K.str _⟩;show b.data.toList.length<=maxLen;rw[jN];exact hs;cases h)|nl=>refine⟨λT AV cs d ps C=>by simp[B0] at C,λfs o cs AV xs C _ h hl=>?_⟩;refine⟨(),?_,trivial,Nat.zero_le _⟩;simp only[AL,Ty.size,Nat.add_zero] at hl ⊢;simp[hl]|cons a b gz gu=>refine⟨λT AV cs d ps C=>by simp[B0] at C,λfs o cs AV xs C I h hl=>?_⟩;(cases fs with|nil=>simp[B0] at C|cons fd r=>simp only[B0,jB] at C;obtain⟨⟨⟨h1,_⟩,h2⟩,h3⟩:=C;have ho:=jC h1;simp only[Ty.deep,jB] at I;simp only[Ty.size] at hl;simp only[mapM_cons,bind_eq_bind,bind_eq_some_iff,pure_def,jA] at h;obtain⟨y,J,ys,gf,rfl⟩:=h;obtain⟨x,q1,q2,q5⟩:=gz.1 _ _ _ _ _ h2 I.1 (show _=some (y.1,y.2) from J);rw[WN h2,ho] at q1;obtain⟨z,q3,q4,q6⟩:=gu.2 r (o+a.size) cs AV ys h3 I.2 gf (by omega);refine⟨(x,z),?_,⟨q2,q4⟩,by simp only[Ty.bulk,List.map_cons];have:=K.cons y.1 (ys.map (·.1));omega⟩;simp only[AL];refine⟨_,_,?_,q1,q3⟩;rw[<-List.drop_drop,List.take_append_drop])|st f ih=>refine⟨λT AV cs d ps C I h=>?_,λfs o cs AV xs C=>by simp[B0] at C⟩;obtain⟨fs,hu,hf⟩:=OP C;have kK:=WN C;(cases AV with|zero=>simp[DataW.trod] at h|succ AV=>unfold DataW.trod at h;rw[hu] at h;simp only at h;split at h;rename_i hl;simp only[map_eq_some_iff] at h;obtain⟨xs,tw,he⟩:=h;obtain⟨x,h1,h2,h3⟩:=ih.2 fs.toList 0 cs AV xs hf (by simpa only[Ty.deep] using I) tw (by rw[hl,kK];simp[Ty.size]);simp only[jG] at he;exact⟨x,by simpa only[AL,List.drop_zero] using h1,h2,by rw[<-he.1];have:=K.agg (xs.map (·.1));simp only[Ty.bulk];omega⟩;cases h)|arr n t ih=>refine⟨λT AV cs d ps C I h=>?_,λfs o cs AV xs C=>by simp[B0] at C⟩;obtain⟨e,hu,hf⟩:=zS C;have kK:=WN C;have gW:=WN hf;(cases AV with|zero=>simp[DataW.trod] at h|succ AV=>unfold DataW.trod at h;rw[hu] at h;simp only at h;split at h;rename_i hl;simp only[map_eq_some_iff] at h;obtain⟨xs,tw,he⟩:=h;obtain⟨zs,h1,h2,h3,h4⟩:=yS7 (K:=K) (R:=AL χ w t) (g:=λi=>(cs.drop (i*t.size)).take t.size) (wf:=t.wf) (bk:=t.bulk) tw (λi y _ J=>by rw[gW] at J;exact ih.1 _ _ _ _ _ hf (by simpa only[Ty.deep] using I) (show _=some (y.1,y.2) from J));rw[xP3] at h2;simp only[List.length_range] at h1;rw[List.take_of_length_le (by rw[hl,kK];simp[Ty.size])] at h2;simp only[jG] at he;exact⟨zs,by simp only[AL];exact⟨h1,h2⟩,⟨h1,h3⟩,by rw[<-he.1];have:=K.agg (xs.map (·.1));simp only[Ty.bulk];omega⟩;cases h)|sl t ih=>refine⟨λT AV cs d ps C I h=>?_,λfs o cs AV xs C=>by simp[B0] at C⟩;obtain⟨e,hu,hf⟩:=GI C;have gW:=WN hf;(cases AV with|zero=>simp[DataW.trod] at h|succ AV=>unfold DataW.trod at h;rw[hu] at h;match cs,h with |[.slice none 0 0],h=>simp only[jA,jG] at h;exact⟨[],by simp only[AL];exact⟨none,0,rfl,.inl trivial⟩,by simp[Ty.wf],by rw[<-h.1];simpa[Ty.bulk] using K.nil'⟩|[.slice (some a) ln cap],h=>simp only at h;split at h;rename_i hc;simp only[bind_eq_some_iff] at h;obtain⟨els,hels,tf⟩:=h;simp only[map_eq_some_iff] at tf;obtain⟨rest,_,he⟩:=tf;simp only[jG] at he;rw[gW] at hels;obtain⟨zs,h1,h2,h3,hbk⟩:=yS7 (K:=K) (R:=AL χ w t) (g:=λi=>(range t.size).map λk=>(w.cell? (a.add (i*t.size+k))).getD undef) (wf:=t.wf) (bk:=t.bulk) hels (λi y _ J=>by simp only[bind_eq_some_iff] at J;obtain⟨cs',nb,J⟩:=J;obtain⟨z,q1,q2,q3⟩:=ih.1 _ _ _ _ _ hf (by simp only[Ty.deep,jB] at I;exact I.2) (show _=some (y.1,y.2) from J);refine⟨z,?_,q2,q3⟩;have:=(cells?_is nb).1;rw[this] at q1;simpa only[xP4] using q1);rw[xG2 (f:=λj=>(w.cell? (a.add j)).getD undef)] at h2;simp only[List.length_range] at h1;refine⟨zs,?_,by simp only[Ty.wf];exact⟨by omega,h3⟩,by rw[<-he.1];have:=K.slice (els.map (·.1)) (rest.map (·.1));simp only[Ty.bulk];omega⟩;simp only[AL];refine⟨some a,cap,by rw[h1],?_⟩;by_cases hz:zs=[];exact .inl hz;(have ky:∀j,j<ln*t.size->∃v,w.cell? (a.add j)=some v:=by intro j hj;(have gi:0<t.size:=by rcases Nat.eq_zero_or_pos t.size with h0|h0;rw[h0] at hj;simp at hj;exact h0);have hi:j / t.size<ln:=Nat.div_lt_of_lt_mul (by rw[Nat.mul_comm];exact hj);(have gw:∀i,i<ln->∃y,(w.cells? 0 (a.add (i*t.size)) t.size).bind (DataW.trod enc P w 0 sp held AV e)=some y:=by intro i hi;(have key:∀(l:List Nat) els,l.mapM (λi=>(w.cells? 0 (a.add (i*t.size)) t.size).bind (DataW.trod enc P w 0 sp held AV e))=some els->∀i∈l,∃y,(w.cells? 0 (a.add (i*t.size)) t.size).bind (DataW.trod enc P w 0 sp held AV e)=some y:=by intro l;induction l with|nil=>intro els _ i h;cases h|cons x l ihl=>intro els h i hi;simp only[mapM_cons,bind_eq_bind,bind_eq_some_iff,pure_def,jA] at h;obtain⟨y,J,ys,gf,rfl⟩:=h;rcases mem_cons.1 hi with rfl|hi;exact⟨y,by simpa only[bind_eq_some_iff] using J⟩;exact ihl ys gf i hi);exact key _ _ hels i (mem_range.2 hi));obtain⟨y,J⟩:=gw _ hi;simp only[bind_eq_some_iff] at J;obtain⟨cs',nb,_⟩:=J;obtain⟨v,hv⟩:=(cells?_is nb).2 (j % t.size) (Nat.mod_lt _ gi);refine⟨v,?_⟩;(have e1:(a.add (j / t.size*t.size)).add (j % t.size)=a.add j:=by rw[xP4,Nat.div_add_mod']);rwa [e1] at hv);obtain⟨b,o,s⟩:=a;simp only[Ty.deep,jB] at I;have hs1:0<t.size:=jR I.1;by_cases ny:ln=0;exact .inl (List.length_eq_zero_iff.1 (by omega));have gi:0<ln*t.size:=Nat.mul_pos (by omega) (by omega);obtain⟨v,hv⟩:=ky 0 gi;have hsp:=(yS5 hv).1;(have hsp:s=none:=by simpa[Addr.add] using hsp);subst hsp;refine .inr ⟨b,o,_,rfl,by omega,h2,λj v hj=>?_⟩;rw[List.getElem?_map] at hj;(have iv:j<ln*t.size:=by rcases Nat.lt_or_ge j (ln*t.size) with h' | h';exact h';rw[List.getElem?_eq_none (by simpa using h')] at hj;simp at hj);obtain⟨v',gM⟩:=ky j iv;rw[List.getElem?_range iv] at hj;simp only[map_some,jA] at hj;rw[gM] at hj;simp only[getD_some] at hj;subst hj;(have e2:(⟨b,o,none⟩:Addr).add j=⟨b,o+j,none⟩:=by by_cases hj0:j=0;subst hj0;simp[Addr.add];simp[Addr.add,hj0]);rw[e2] at gM;exact⟨gM,hχ b (o+j) (yS5 gM).2⟩;cases h)|ptr t _=>exact⟨λT AV cs d ps _ I=>by simp[Ty.deep] at I,λfs o cs AV xs _ I=>by simp[Ty.deep] at I⟩
def SS:(i:Nat)->(τs:List Ty)->AH (enumSh i τs)->Nat
 |_,[],_=>0
 |i,τ::r,x=>τ.bulk x.1+SS (i+1) r x.2
theorem xP8(K:BulkFn H){G:Gh}(hχ:∀b o,b<w.heap.size->G.χ b o=0):∀{τs:List Ty}{Ts:List TypeId}{vs:List Value}{ds:List (DataW H)}{ps:List MemPlace}{i base:Nat},yB P τs Ts->DataW.TrodAll enc P w 0 (λ_=>true) true Ts vs ds ps->(∀(j:Nat) t v,Ts[j]?=some t->vs[j]?=some v->okWide P w .any base t v)->∃x:AH (enumSh i τs),vs.length=τs.length/\fM i τs x/\SS i τs x<=K.BA ds/\∀(k:Nat) A v,(Jc i τs x)[k]?=some A->vs[k]?=some v->zA G w #[] (some (i+k)) A v:=by intro τs;induction τs with|nil=>intro Ts vs ds ps i base ht h _;(cases Ts with|cons T s=>grind [yB]|nil=>cases vs with|nil=>exact⟨(),rfl,trivial,by simp[SS],λk A v h=>by grind⟩|cons v vs=>grind [DataW.TrodAll])|cons τ r ih=>intro Ts vs ds ps i base ht h kh;cases Ts with|nil=>grind [yB]|cons T s=>cases vs with|nil=>grind [DataW.TrodAll]|cons v vs=>cases ds with|nil=>grind [DataW.TrodAll]|cons d ds=>simp[yB,jB] at ht;obtain⟨⟨C,h2⟩,h3⟩:=ht;obtain⟨p,q,⟨fl,hd⟩,hr,_⟩:=h;obtain⟨x,hx,I,hbk⟩:=(xP6 K hχ τ).1 T fl _ d p C h2 hd;obtain⟨y,hy1,J,hy4,R⟩:=ih (i:=i+1) h3 hr λj t v ht hv=>kh (j+1) t v (by simpa using ht) (by grind);refine⟨(x,y),by grind,⟨I,J⟩,by simp only[SS];have:=K.cons d ds;omega,λk A u hA hu=>?_⟩;cases k with|zero=>simp[Jc] at hA hu;subst hA;subst hu;refine⟨_,hx,?_⟩;have hv:=kh 0 T v rfl rfl;(cases ha:τ.isAgg with|true=>obtain⟨cs,rfl⟩:=wA0 C ha hv;simp[Value.cells]|false=>have:=xX5 C ha h2 hv;cases v with|agg cs=>exact absurd rfl (this cs)|_=>rfl)|succ k=>have:=R k A u hA hu;rwa [show i+1+k=i+(k+1) by omega] at this
theorem law_callsU(K:BulkFn H){N:Nat}{τs:List Ty}{Ts:List TypeId}{f:Nat}{ok:AH (enumSh 0 τs)->Prop}{F:AH (enumSh 0 τs)->Bool}{o:AH (enumSh 0 τs)->Eb []}(hs:SpecOk P f (fnSpec (enumSh 0 τs) (.val .bool) [] ok F o))(km:yB P τs Ts)(hn:ble τs.length BN)(R:∀x,fM 0 τs x->SS 0 τs x<=N->ok x/\F x){args:Array Value}{ds:List (DataW H)}{ps:List MemPlace}{base:Nat}(hA:DataW.TrodAll enc P w 0 (λ_=>true) true Ts args.toList ds ps)(kh:∀(j:Nat) t v,Ts[j]?=some t->args.toList[j]?=some v->okWide P w .any base t v)(hN:K.BA ds<=N)(I:GlobOk (λb _=>if b<w.heap.size then 0 else 2) w):Calls P f args w λe w'=>e=.returned (.bool true)/\Below w.heap.size w w':=by let G:Gh:=⟨λb _=>if b<w.heap.size then 0 else 2,λ_=>0,λ_=>0⟩;(have hχ:∀b o,b<w.heap.size->G.χ b o=0:=λb o hb=>by grind);obtain⟨x,h1,h2,h4,h3⟩:=xP8 K (G:=G) hχ (i:=0) km hA kh;obtain⟨nx,hFx⟩:=R x h2 (le_trans h4 hN);have hlen:=xG3 (τs:=τs) (i:=0) (x:=x);have hn:τs.length<=BN:=jR hn;have gT:Et (enumSh 0 τs) (FQ 0 (Jc 0 τs x))=some x:=xP5 (λk=>by by_cases hk:k<τs.length;have:=yH4 (s:=k) (args:=Jc 0 τs x) (i:=0) (by omega) (by omega) (by omega);simp_all;grind) (yY km);(have hsp:fnSpec (enumSh 0 τs) (.val .bool) [] ok F o (Jc 0 τs x)=some ⟨[ok x],.val .bool (F x),[],[]⟩:=by unfold fnSpec;rw[hlen.1,hlen.2,Nat.beq_refl,jE,gT];rfl);have J:=hs.2 _ _ hsp (λq hq=>by grind) G w args.toList (by rw[h1,hlen.1]) I (λi A v hA hv=>by have:=h3 i A v hA hv;rwa [zero_add] at this);refine J.mono ?_;rintro e w' ⟨v,G',rfl,C,kJ,_⟩;have hv:=(zC rfl).1 kJ;simp[AL] at hv;rw[hv,hFx];refine⟨rfl,C.os,C.tape,C.output,C.size,λk hk=>C.block k hk λo=>?_⟩;grind
end
variable {gtab:GlobTab}{P:Program}
theorem yY1{χ:Nat->Nat->Nat}{w:World}:Frame0 χ w χ w:=⟨rfl,rfl,rfl,jI _,λ_ _ _=>rfl,λ_ _ _ _=>⟨rfl,rfl⟩⟩
variable {f:Nat}{τ:Ty}{rs:Sh}
theorem xG4{ok:τ.den->Prop}{F:τ.den->rs.den}{o:AH [(0,Sh.val τ)]->Eb []}(hfn:∃fn,P.funcs[f]?=some fn/\fn.body.isSome/\fn.name≠"runtime.NumGoroutine") (H:∀x,ok x->∀(G:Gh) (w:World) (v:Value),GlobOk G.χ w->DM G.χ w τ x v->Calls P f #[v] w λe w'=>∃u G',e=.returned u/\Frame0 G.χ w G'.χ w'/\zA G' w' #[] none (rs.mk (F x)) u):SpecOk P f (fnSpec [(0,.val τ)] rs [] (λx=>ok x.1) (λx=>F x.1) o):=by refine⟨hfn,λargs co hsp kh G w vals hlen hglob kt=>?_⟩;unfold fnSpec at hsp;generalize qz:Nat.beq args.length _=b at hsp;cases b with|false=>cases hsp|true=>simp only[jE] at hsp;split at hsp;rename_i x hx;injection hsp with hsp;subst hsp;have hl:args.length=1:=jC qz;(obtain⟨A,rfl⟩:∃A,args=[A]:=by match args,hl with |[A],_=>exact⟨A,rfl⟩);(obtain⟨v,rfl⟩:∃v,vals=[v]:=by match vals,hlen with |[v],_=>exact⟨v,rfl⟩);obtain⟨l,_⟩:=x;(have hp:(Sh.val τ).parse A=some l:=by simp only[Et,FQ,St.get] at hx;split at hx;rename_i y z hy _;simp only[jA,jG] at hx;rw[<-hx.1];simpa using hy;cases hx);have hA:=Fy hp (kt 0 A v rfl rfl);simp only[Sh.mk,zA] at hA;refine (H l (kh _ (jH.2 rfl)) G w v hglob hA).mono ?_;rintro e w' ⟨u,G',rfl,q1,q2⟩;exact⟨u,G',rfl,q1,q2,λi k A' u h=>by cases h⟩;cases hsp
variable {σ:Ty}
theorem xG5{ok:τ.den->σ.den->Prop}{F:τ.den->σ.den->rs.den}{o:AH [(0,Sh.val τ),(1,Sh.val σ)]->Eb []}(hfn:∃fn,P.funcs[f]?=some fn/\fn.body.isSome/\fn.name≠"runtime.NumGoroutine") (H:∀x y,ok x y->∀(G:Gh) (w:World) (v u:Value),GlobOk G.χ w->DM G.χ w τ x v->DM G.χ w σ y u->Calls P f #[v,u] w λe w'=>∃r G',e=.returned r/\Frame0 G.χ w G'.χ w'/\zA G' w' #[] none (rs.mk (F x y)) r):SpecOk P f (fnSpec [(0,.val τ),(1,.val σ)] rs [] (λx=>ok x.1 x.2.1) (λx=>F x.1 x.2.1) o):=by refine⟨hfn,λargs co hsp kh G w vals hlen hglob kt=>?_⟩;unfold fnSpec at hsp;generalize qz:Nat.beq args.length _=b at hsp;cases b with|false=>cases hsp|true=>simp only[jE] at hsp;split at hsp;rename_i x hx;injection hsp with hsp;subst hsp;have hl:args.length=2:=jC qz;(obtain⟨A,B,rfl⟩:∃A B,args=[A,B]:=by match args,hl with |[A,B],_=>exact⟨A,B,rfl⟩);(obtain⟨v,u,rfl⟩:∃v u,vals=[v,u]:=by match vals,hlen with |[v,u],_=>exact⟨v,u,rfl⟩);obtain⟨l,m,_⟩:=x;(have hp:(Sh.val τ).parse A=some l/\(Sh.val σ).parse B=some m:=by simp only[Et,FQ,St.get] at hx;split at hx;rename_i y z hy hz;simp only[jA,jG] at hx;split at hz;rename_i y' z' hy' _;simp only[jA] at hz;rw[<-hz] at hx;simp only[jG] at hx;rw[<-hx.1,<-hx.2.1];exact⟨by simpa using hy,by simpa[Nat.beq,BN] using hy'⟩;cases hz;cases hx);have hA:=Fy hp.1 (kt 0 A v rfl rfl);have hB:=Fy hp.2 (kt 1 B u rfl rfl);simp only[Sh.mk,zA] at hA hB;refine (H l m (kh _ (jH.2 rfl)) G w v u hglob hA hB).mono ?_;rintro e w' ⟨r,G',rfl,q1,q2⟩;exact⟨r,G',rfl,q1,q2,λi k A' u h=>by cases h⟩;cases hsp
theorem wA7{F:List UInt8->List UInt8->Int}{o:AH [(0,Sh.val .str),(1,Sh.val .str)]->Eb []}(hfn:∃fn,P.funcs[f]?=some fn/\fn.body.isSome/\fn.name≠"runtime.NumGoroutine") (H:∀(s:ByteArray) (c:UInt8) (w:World),Calls P f #[.string s,.string ⟨#[c]⟩] w λe w'=>e=.returned (.int .i64 (F s.data.toList [c]))/\w'=w):SpecOk P f (fnSpec [(0,.val .str),(1,.val .str)] (.val (.int .i64)) [] (λx=>length x.2.1=1) (λx=>F x.1 x.2.1) o):=by refine xG5 (τ:=.str) (σ:=.str) (rs:=.val (.int .i64)) (ok:=λ_ y=>length y=1) (F:=F) hfn λx y hy G w v u _ hv hu=>?_;rw[zC rfl] at hv hu;simp only[AL] at hv hu;injection hv with hv _;injection hu with hu _;match y,hy with |[c],_=>subst hv hu;refine (H ⟨toArray x⟩ c w).mono ?_;rintro e w' ⟨rfl,rfl⟩;refine⟨_,G,rfl,yY1,?_⟩;simp only[Sh.mk,zA];rw[zC rfl];simp[AL]
theorem xP9{χ:Nat->Nat->Nat}{w:World}:∀{l:List (List UInt8)},C7 (AL χ w .str) l (l.map λx=>string ⟨x.toArray⟩):=by intro l;induction l with|nil=>simp[C7]|cons x l j=>exact⟨[.string ⟨x.toArray⟩],_,rfl,by simp only[AL],j⟩
variable {k:IntKind}
theorem xQ{χ:Nat->Nat->Nat}{w:World}:∀{l:List Int}{vs:List Value},C7 (AL χ w (.int k)) l vs->vs=l.map (Value.int k):=by intro l;induction l with|nil=>intro vs h;simpa[C7] using h|cons x l o=>rintro vs ⟨us,ws,rfl,j,C⟩;simp only[AL] at j;rw[j,o C];rfl
theorem wB8{χ:Nat->Nat->Nat}{w:World}(h:GlobOk χ w){g n:Nat}{l:List Int}(hm:(g,(⟨.arr n (.int k),l⟩:(τ:Ty)×τ.den))∈GlobTab.tab)(c:Nat)(I:c<n):w.cell? ⟨g,c,none⟩=some (.int k (l.getD c 0)):=by obtain⟨vs,j,o⟩:=h g (.arr n (.int k)) l hm;unfold AL at j;obtain⟨j,C⟩:=j;have e:=xQ C;subst e;have hlen:length (α:=Int) l=n:=j;have:=(o c (.int k (l.getD c 0)) (by rw[List.getElem?_map,jL (by omega),jM,jL (by omega)];rfl)).1;simpa using this
theorem wA8{F:List UInt8->List (List UInt8)}{e:TypeId}{ok:List UInt8->Prop}{o:AH [(0,Sh.val .str)]->Eb []}(hfn:∃fn,P.funcs[f]?=some fn/\fn.body.isSome/\fn.name≠"runtime.NumGoroutine") (H:∀(s:ByteArray) (w:World) (χ:Nat->Nat->Nat),ok s.data.toList->GlobOk χ w->Calls P f #[.string s] w λe' w'=>e'=.returned (.slice (some ⟨w.heap.size,0,none⟩) (F s.data.toList).length (F s.data.toList).length)/\w'=w.alloc (.cells ((F s.data.toList).map λl=>string ⟨l.toArray⟩).toArray e)):SpecOk P f (fnSpec [(0,.val .str)] (.val (.sl .str)) [] (λx=>ok x.1) (λx=>F x.1) o):=by refine xG4 (τ:=.str) (rs:=.val (.sl .str)) (ok:=ok) (F:=F) hfn λx hx G w v hglob hv=>?_;rw[zC rfl] at hv;simp only[AL] at hv;injection hv with hv _;subst hv;refine (H ⟨toArray x⟩ w G.χ (by simpa using hx) hglob).mono ?_;rintro e' w' ⟨rfl,rfl⟩;let G':Gh:={ G with χ:=λb o=>if b=w.heap.size then 0 else G.χ b o };refine⟨_,G',rfl,⟨rfl,rfl,rfl,by simp,λb hb _=>Below.heap_alloc _ _ _ hb,λb o hb _=>⟨if_neg (by omega),World.cell?_alloc_old _ _ _ (by simp only;omega)⟩⟩,?_⟩;simp only[Sh.mk,zA];rw[zC rfl];unfold AL;refine⟨_,_,rfl,.inr ⟨w.heap.size,0,_,rfl,jI _,xP9,λj v hv=>⟨?_,if_pos rfl⟩⟩⟩;simp only[World.cell?,World.alloc_heap_new,zero_add];simpa using hv
variable {gtab:GlobTab}{P:Program}{c:Ctx}
def fO:Code->Option Code
 |.seq a b=>match fO a with|some x=>some x|none=>fO b
 |.block _ a=>fO a
 |.rangeFunc _ _ _ b=>some b
 |_=>none
def xV4 [GlobTab] (c:Ctx)(code:Code)(S:St):Bool:=match eval c code S with
 |some o=>o.comps.all λx=>Nat.beq x.kind 0
 |none=>false
def xX6 [GlobTab] (P:Program)(c:Ctx)(code:Code)(ps os:List (Nat×Sh))(ok:AH ps->Prop)(o:AH ps->Eb os):Prop:=
 ∀x,ok x->∀(rd:Option Nat) (χ0:Nat->Nat->Nat) (w0:World) (a:Act) (w:World) (G:Gh),Rel c.n χ0 w0 (Ec ps x) a w G ->
  code.wpIn (fz rd) 0 P (λe a' w'=>e=.normal/\(∀i∈c.keep,a'.tmps.getD i undef=a.tmps.getD i undef) /\
   ∃G' d,Rel c.n χ0 w0 (d++Ec ps x) a' w' G'/\Ij os (d++Ec ps x)=some (o x)) a w
theorem wA9(hc:CtxOk P c)(hm:P.follows .mixedOrders){code:Code}{bs:List Code}(iQ:zG code=bs)(hL:GK P c bs)(hw:ER c.keep code){ps os:List (Nat×Sh)}{ok:AH ps->Prop}{F:AH ps->rs.den}{o:AH ps->Eb os}(kQ:∀x,xV4 c code (Ec ps x))(j:∀x,Il c code [] ps rs os x=some (ok x,F x,o x)):xX6 P c code ps os ok o:=by intro x hx rd χ0 w0 a w G hR;have h:=j x;have kQ:=kQ x;unfold Il at h;unfold xV4 at kQ;split at h;cases h;rename_i out J;rw[J] at kQ;simp only at kQ;split at h;cases h;rename_i d hd;split at h;rename_i r z hr hz;split at h;rename_i v hv;simp only[jA,jG] at h;obtain⟨e1,_,rfl⟩:=h;refine wpIn_mono (zZ hc hm (yH5 iQ hL) hw J (AllP_iff.1 (by rw[e1];exact hx)) rd χ0 w0 (λi=>a.tmps.getD i undef) a w G hR (λi _=>rfl)) ?_;rintro e a' w' ⟨R,hk⟩;obtain⟨_,G',C⟩:=xA7 hd R;refine⟨?_,hk,G',d,C,hz⟩;obtain⟨k,cp,G2,I,h2,_⟩:=R;have:=all_eq_true.1 kQ cp (yS4 h2);rw[WE h2] at this;have:=jC this;subst this;(cases e with|normal=>rfl|ret=>simp[EO] at I|exit id=>simp[EO] at I|_=>simp[EO] at I);cases h;cases h
variable {gtab:GlobTab}{P:Program}{c:Ctx}
def fP {α β:Type}(ok:β->α->Prop)(next:β->α->β):List α->β->Prop
 |[],_=>True
 |x::r,l=>ok l x/\fP ok next r (next l x)
theorem wB{α β:Type}{ok:β->α->Prop}{next:β->α->β}:∀{pre:List α}{x:α}{rest:List α}{l:β},fP ok next (pre++x::rest) l->ok (pre.foldl next l) x:=by intro pre;induction pre with|nil=>intro x rest l h;exact h.1|cons y pre j=>intro x rest l h;exact j h.2
theorem xQ1:∀(A:AVal) (s:Option Nat),¬A.names (· =1) (λ_=>False) s:=by intro A;induction A with|own t l T m=>intro s;simp only[AVal.names,AJ];omega|ownh t l T i U m=>intro s;simp only[AVal.names,AJ];omega|opt _ _ _ A j=>intro s;simp only[AVal.names];exact j none|box τ b j=>intro s;(cases s with|none=>simp only[AVal.names];exact j none|some s=>simp only[AVal.names,not_or];exact⟨by simp only[BL];omega,j none⟩)|cons x y kM kH=>intro s;simp only[AVal.names,not_or];exact⟨kM none,kH none⟩|agg f b j=>intro s;simp only[AVal.names];exact j none|tup b j=>intro s;simp only[AVal.names];exact j none|fn f b j=>intro s;simp only[AVal.names];exact j none|raw=>intro s;(cases s with|none=>simp[AVal.names]|some s=>simp only[AVal.names,BL];omega)|_=>intro s;simp[AVal.names]
variable {W' W:World}{b:Nat}
theorem yY2{G:Gh}(hχ:∀o,G.χ b o=1)(h:∀k,k≠b->W'.heap[k]?=W.heap[k]?)(I:W.heap.size<=W'.heap.size):Ext (· =1) (λ_=>False) G W G W':=by refine⟨λj o _ C=>⟨C,?_⟩,λj _ J=>⟨h j ?_,λ_=>rfl⟩,I,λ_ _=>rfl,λ_ _=>rfl,λ_ h=>h.elim⟩;(have kj:j≠b:=by intro e;subst e;rw[hχ o] at C;cases C);simp only[World.cell?,h j kj];intro e;subst e;exact J 0 (hχ 0)
theorem Frame0.trans {χ0 χ1 χ2:Nat->Nat->Nat}{w0 I J:World}(h:Frame0 χ0 w0 χ1 I)(k:Frame0 χ1 I χ2 J):Frame0 χ0 w0 χ2 J:=by refine⟨k.os.trans h.os,k.tape.trans h.tape,k.output.trans h.output,le_trans h.size k.size,λb hb j=>?_,λb o hb j=>?_⟩;rw[k.block b (Nat.lt_of_lt_of_le hb h.size) (λo=>by rw[(h.cell b o hb (j o)).1];exact j o)];exact h.block b hb j;have C:=h.cell b o hb j;have R:=k.cell b o (Nat.lt_of_lt_of_le hb h.size) (by rw[C.1];exact j);exact⟨R.1.trans C.1,R.2.trans C.2⟩
theorem Frame0.beyond{χ0 χ:Nat->Nat->Nat}{w0:World}(h:Frame0 χ0 w0 χ W)(hb:w0.heap.size<=b)(I:∀k,k≠b->W'.heap[k]?=W.heap[k]?)(R:W'.heap.size=W.heap.size)(kZ:W'.os=W.os/\W'.tape=W.tape/\W'.output=W.output):Frame0 χ0 w0 χ W':=by refine⟨kZ.1.trans h.os,kZ.2.1.trans h.tape,kZ.2.2.trans h.output,by rw[R];exact h.size,λk j C=>?_,λk o j C=>?_⟩;rw[I k (by omega)];exact h.block k j C;have J:=h.cell k o j C;refine⟨J.1,?_⟩;rw[<-J.2];simp only[World.cell?,I k (show k≠b by omega)]
structure JB [GlobTab] (χ0:Nat->Nat->Nat) (w0:World) (lo hi:Nat) (E:List (Nat×Nat×AVal)) (G:Gh) (W:World):Prop where
 frame:Frame0 χ0 w0 G.χ W
 glob:GlobOk G.χ W
 reps:∀e∈E,zA G W #[] (some e.1) e.2.2 (.pointer (some ⟨e.2.1,0,none⟩))
 own:∀b,lo<=b->b<=hi->∀o,G.χ b o=1
 size:hi<W.heap.size
 low:w0.heap.size<=lo
theorem JB.foreign{χ0:Nat->Nat->Nat}{w0:World}{o:Nat}{E:List (Nat×Nat×AVal)}{G:Gh}(h:JB χ0 w0 f o E G W)(I:f<=b)(hh:b<=o)(J:∀k,k≠b->W'.heap[k]?=W.heap[k]?)(C:W'.heap.size=W.heap.size)(kZ:W'.os=W.os/\W'.tape=W.tape/\W'.output=W.output):JB χ0 w0 f o E G W':=by have R:=yY2 (h.own b I hh) J (Nat.le_of_eq C.symm);have j:=h.low;refine⟨h.frame.beyond (le_trans j I) J C kZ,Ni R.prot h.glob,λe he=>c6 R (by decide) _ (xQ1 _ _) (h.reps e he),h.own,by rw[C];exact h.size,j⟩
theorem JB.setCell {χ0:Nat->Nat->Nat}{w0:World}{lo j:Nat}{E:List (Nat×Nat×AVal)}{G:Gh}{W:World}{b:Nat}(h:JB χ0 w0 lo j E G W)(o:lo<=b)(C:b<=j)(v:Value):JB χ0 w0 lo j E G (W.setCell ⟨b,0,none⟩ v):=h.foreign o C (λk I=>Below.heap_setCell W ⟨b,0,none⟩ v k I) (by simp[World.setCell]) ⟨rfl,rfl,rfl⟩
theorem JB.putObj {χ0:Nat->Nat->Nat}{w0:World}{lo j:Nat}{E:List (Nat×Nat×AVal)}{G:Gh}{W:World}{b:Nat}(h:JB χ0 w0 lo j E G W)(C:lo<=b)(I:b<=j)(o:Obj):JB χ0 w0 lo j E G (W.putObj b o):=h.foreign C I (λk J=>World.putObj_heap_other J) (by simp[World.putObj]) ⟨rfl,rfl,rfl⟩
theorem JB.step {χ0:Nat->Nat->Nat}{w0:World}{lo J:Nat}{E E':List (Nat×Nat×AVal)}{G G':Gh}{W W':World}(h:JB χ0 w0 lo J E G W)(j:Frame0 G.χ W G'.χ W')(R:GlobOk G'.χ W')(hr:∀e∈E',zA G' W' #[] (some e.1) e.2.2 (.pointer (some ⟨e.2.1,0,none⟩))):JB χ0 w0 lo J E' G' W'/\∀b,lo<=b->b<=J->W'.heap[b]?=W.heap[b]?:=by have kK:=h.size;refine⟨⟨h.frame.trans j,R,hr,λb C I o=>?_,Nat.lt_of_lt_of_le kK j.size,h.low⟩,λb C I=>j.block b (by omega) (λo=>by rw[h.own b C I o];exact jI _)⟩;rw[(j.cell b o (by omega) (by rw[h.own b C I o];exact jI _)).1];exact h.own b C I o
theorem xY7{υ ω:Ty}{ok:τ.den->σ.den->υ.den->ω.den->Prop}{F:τ.den->σ.den->υ.den->ω.den->rs.den}{o:AH [(0,Sh.val τ),(1,Sh.val σ),(2,Sh.val υ),(3,Sh.val ω)]->Eb []}(hfn:∃fn,P.funcs[f]?=some fn/\fn.body.isSome/\fn.name≠"runtime.NumGoroutine") (H:∀x y z u,ok x y z u->∀(G:Gh) (w:World) (v1 v2 v3 v4:Value),GlobOk G.χ w->DM G.χ w τ x v1->DM G.χ w σ y v2->DM G.χ w υ z v3->DM G.χ w ω u v4->Calls P f #[v1,v2,v3,v4] w λe w'=>∃r G',e=.returned r/\Frame0 G.χ w G'.χ w'/\zA G' w' #[] none (rs.mk (F x y z u)) r):SpecOk P f (fnSpec [(0,.val τ),(1,.val σ),(2,.val υ),(3,.val ω)] rs [] (λx=>ok x.1 x.2.1 x.2.2.1 x.2.2.2.1) (λx=>F x.1 x.2.1 x.2.2.1 x.2.2.2.1) o):=by refine⟨hfn,λargs co hsp kh G w vals hlen hglob kt=>?_⟩;unfold fnSpec at hsp;generalize qz:Nat.beq args.length _=b at hsp;cases b with|false=>cases hsp|true=>simp only[jE] at hsp;split at hsp;rename_i x hx;injection hsp with hsp;subst hsp;have hl:args.length=4:=jC qz;(obtain⟨A,B,C,D,rfl⟩:∃A B C D,args=[A,B,C,D]:=by match args,hl with |[A,B,C,D],_=>exact⟨A,B,C,D,rfl⟩);(obtain⟨v1,v2,v3,v4,rfl⟩:∃v1 v2 v3 v4,vals=[v1,v2,v3,v4]:=by match vals,hlen with |[v1,v2,v3,v4],_=>exact⟨v1,v2,v3,v4,rfl⟩);have hp:∀(k:Nat) (i:Nat) (s:Sh),[(0,Sh.val τ),(1,Sh.val σ),(2,Sh.val υ),(3,Sh.val ω)][k]?=some (i,s)->∃y,s.parse (St.get (FQ 0 [A,B,C,D]) i)=some y:=λk i s h=>yK3 hx h;obtain⟨x1,x2,x3,x4,_⟩:=x;simp only[Et] at hx;(have hg:∀i,St.get (FQ 0 [A,B,C,D]) i=[A,B,C,D].getD i .junk:=by intro i;simp only[FQ,St.get];match i with |0=>simp|1=>simp[BN,Nat.beq]|2=>simp[BN,Nat.beq]|3=>simp[BN,Nat.beq]|k+4=>simp[BN,Nat.beq]);simp only[hg,List.getD_cons_zero,List.getD_cons_succ] at hx;generalize h1:(Sh.val τ).parse A=o1 at hx;generalize h2:(Sh.val σ).parse B=o2 at hx;generalize h3:(Sh.val υ).parse C=o3 at hx;generalize h4:(Sh.val ω).parse D=o4 at hx;cases o1<;>cases o2<;>cases o3<;>cases o4<;>simp at hx;obtain⟨rfl,rfl,rfl,rfl⟩:=hx;have hA:=Fy h1 (kt 0 A v1 rfl rfl);have hB:=Fy h2 (kt 1 B v2 rfl rfl);have hC:=Fy h3 (kt 2 C v3 rfl rfl);have hD:=Fy h4 (kt 3 D v4 rfl rfl);simp only[Sh.mk,zA] at hA hB hC hD;refine (H _ _ _ _ (kh _ (jH.2 rfl)) G w v1 v2 v3 v4 hglob hA hB hC hD).mono ?_;rintro e w' ⟨r,G',rfl,q1,q2⟩;exact⟨r,G',rfl,q1,q2,λi k A' u h=>by cases h⟩;cases hsp
variable {gtab:GlobTab}{P:Program}
end Go.Am
