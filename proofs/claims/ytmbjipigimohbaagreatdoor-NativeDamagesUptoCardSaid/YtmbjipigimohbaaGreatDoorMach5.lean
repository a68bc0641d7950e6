/- The abstract machine, part 5: a typed interpreter for the program's code, and that it is sound. No condition. -/
import Derived.Test.YtmbjipigimohbaaGreatDoorMach4
import Derived.Lib.Bytealg
import Derived.ProofKit
import Derived.Carry
import Derived.ChangeSame
namespace Go.Am
open Go Go.RowKit
variable {gtab:GlobTab}{P:Program}{c:Ctx}
def St.prune (S:St):List Nat→St
 |[]=>xB6
 |s::r=>(s,S.get s)::St.prune S r
def AVal.leads:AVal→List Nat
 |.ref s _ _=>[s]
 |.eref s _ _ _ _=>[s]
 |.rref s=>[s]
 |.pn _ s _=>[s]
 |.ptrs _ l=>l.filterMap fun o=>o.map (·.1)
 |.opt _ _ _ a=>a.leads
 |.box _ a=>a.leads
 |.may _ _ a=>a.leads
 |.cons a b=>a.leads++b.leads
 |.agg _ a=>a.leads
 |.tup a=>a.leads
 |.fn _ a=>a.leads
 |_=>[]
def wT:List Nat→List Nat→List Nat
 |[],l=>l
 |s::r,l=>bif l.any (Nat.beq s) then wT r l else wT r (s::l)
def St.wanted (S:St)(l:List Nat):List Nat:=wT (l.flatMap fun s=>(S.get s).leads) l
def wQ0 (id:Nat)(k:Nat):Nat:=bif Nat.beq k (id+2) then 0 else k
def wC (f:St→Option (List Prop×Nat×St)):Nat→St→Option (List Prop×Nat×St)
 |0,_=>none
 |n+1,S=>match f S with
  |some (p,0,T)=>(match wC f n T with|some (q,k,U)=>some (p++q,k,U)|none=>none)
  |r=>r
def zM:Code→Bool
 |.skip=>true
 |.region _ _ _=>true
 |.seq a b=>zM a&&zM b
 |.cond _ a b=>zM a&&zM b
 |_=>false
def Ctx.meld (c:Ctx):Bool:=c.dead.any (Nat.beq 999999)
theorem yG4 [GlobTab]:∀ {x:Code},zM x=true→zI6 P c x:=by
 intro x
 induction x with
 |seq a b iha ihb=>intro h;simp only[zM,Bool.and_eq_true] at h;exact⟨iha h.1,ihb h.2⟩
 |cond _ a b iha ihb=>intro h;simp only[zM,Bool.and_eq_true] at h;exact⟨iha h.1,ihb h.2⟩
 |_=>intro h;first|trivial | (simp[zM] at h)
def zO3 [GlobTab] (c:Ctx)(lv:List (Nat×List Nat)):Code→St→Option (List Prop×Nat×St)
 |.skip,S=>some ([],0,S)
 |.region id ops draw,S=>match eval c (.region id ops draw) S with
  |some ⟨p,[⟨0,none,d⟩]⟩=>St.force c.closed (St.prune (d++S) (St.wanted (d++S) (look [] lv id))) fun T=>some (p,0,T)
  |_=>none
 |.seq a b,S=>match zO3 c lv a S with
  |some (p,0,T)=>(match zO3 c lv b T with|some (q,k,U)=>some (p++q,k,U)|none=>none)
  |r=>r
 |.cond x a b,S=>bif c.meld&&(zM a&&zM b) then (match eval c (.cond x a b) S with|some ⟨p,[⟨0,none,d⟩]⟩=>some (p,0,d++S)|_=>none) else match arg S x with
  |.val .bool t=>(match (t:Bool) with|true=>zO3 c lv a S | false=>zO3 c lv b S)
  |_=>none
 |.block id a,S=>match zO3 c lv a S with
  |some (p,k,T)=>some (p,wQ0 id k,T)
  |none=>none
 |.loop a,S=>wC (zO3 c lv a) 64 S
 |.exit id,S=>some ([],id+2,S)
 |.ret,S=>some ([],1,S)
 |_,_=>none
theorem weaker_prune {S:St}:∀ {l:List Nat},Weaker (St.prune S l) S:=by
 intro l
 induction l with
 |nil=>exact zN0
 |cons q r ih =>
  intro s G w tm v h;simp only[St.prune,St.get];cases hq:Nat.beq q s with
  |true=>have:=Nat.eq_of_beq_eq_true hq;subst this;exact h
  |false =>
   cases Nat.beq q zA4 with
   |true=>simp only[cond_true,cond_false,zA]
   |false=>exact ih s G w tm v h
def wT0 [GlobTab] (P:Program)(c:Ctx)(code:Code)(S:St)(k:Nat)(T:St):Prop:=
 ∀ (rd:Option Nat) (χ0:Nat→Nat→Nat) (w0:World) (vs:Nat→Value) (a:Act) (w:World) (G:Gh),Rel c.n χ0 w0 S a w G→yO8 c.keep vs a →
  code.wpIn (fz rd) 0 P (fun e a' w'=>zB0 e=some k∧(∃ G',Rel c.n χ0 w0 T a' w' G')∧yO8 c.keep vs a') a w
theorem zZ (hc:CtxOk P c)(hm:P.follows .mixedOrders=true){lv:List (Nat×List Nat)}:∀ {code:Code}{S:St}{p:List Prop}{k:Nat}{T:St},zC9 c.keep code=true→zO3 c lv code S=some (p,k,T)→(∀ q∈p,q)→wT0 P c code S k T:=by
 intro code
 induction code with
 |skip =>
  intro S p k T _ h _ rd χ0 w0 vs a w G hR hk;simp only[zO3,Option.some.injEq,Prod.mk.injEq] at h;obtain⟨_,rfl,rfl⟩:=h;exact wpIn_skip ⟨rfl,⟨G,hR⟩,hk⟩
 |region id ops draw =>
  intro S p k T hw h hok rd χ0 w0 vs a w G hR hk;simp only[zO3] at h;split at h
  ·rename_i q d he;rw[St.force_eq] at h;simp only[Option.some.injEq,Prod.mk.injEq] at h;obtain⟨rfl,rfl,rfl⟩:=h;refine wpIn_mono (zQ7 hc hm (code:=.region id ops draw) trivial hw he hok rd χ0 w0 vs a w G hR hk) fun e a' w' hP=>?_;obtain⟨⟨k,cp,G',h1,h2,_,_,h5⟩,h6⟩:=hP;simp only[zA6] at h2;generalize hb:Nat.beq 0 k=b at h2;cases b with
   |false=>simp at h2
   |true =>
    have:=Nat.eq_of_beq_eq_true hb;subst this;simp only[cond_true,Option.some.injEq] at h2;subst h2;exact⟨h1,⟨G',weaker_prune.rel h5⟩,h6⟩
  ·cases h
 |seq x y ihx ihy =>
  intro S p k T hw h hok rd χ0 w0 vs a w G hR hk;simp only[zC9,Bool.and_eq_true] at hw;simp only[zO3] at h;split at h
  ·rename_i p1 T1 ha;split at h
   ·rename_i q k' U hb;simp only[Option.some.injEq,Prod.mk.injEq] at h;obtain⟨rfl,rfl,rfl⟩:=h;refine wpIn_seq (wpIn_mono (ihx hw.1 ha (fun q hq=>hok q (List.mem_append_left _ hq)) rd χ0 w0 vs a w G hR hk) fun e a' w' hP=>?_);obtain⟨h1,⟨G',h2⟩,h3⟩:=hP;cases e<;>simp[zB0] at h1;exact ihy hw.2 hb (fun q hq=>hok q (List.mem_append_right _ hq)) rd χ0 w0 vs a' w' G' h2 h3
   ·cases h
  ·rename_i r hr;have hk0:k≠0:=fun e=>by subst e;exact hr _ _ h
   refine wpIn_seq (wpIn_mono (ihx hw.1 h hok rd χ0 w0 vs a w G hR hk) fun e a' w' hP=>?_);cases e with
   |normal=>have:=hP.1;simp only[zB0,Option.some.injEq] at this;exact absurd this.symm hk0
   |_=>exact hP
 |cond x y z ihx ihy =>
  intro S p k T hw h hok rd χ0 w0 vs a w G hR hk;have hw0:=hw;simp only[zC9,Bool.and_eq_true] at hw;simp only[zO3] at h;cases hmd:(c.meld&&(zM y&&zM z)) with
  |true =>
   rw[hmd] at h;simp only[cond_true] at h;simp only[Bool.and_eq_true] at hmd;split at h
   ·rename_i q d he;simp only[Option.some.injEq,Prod.mk.injEq] at h;obtain⟨rfl,rfl,rfl⟩:=h;refine wpIn_mono (zQ7 hc hm (code:=.cond x y z) ⟨yG4 hmd.2.1,yG4 hmd.2.2⟩ hw0 he hok rd χ0 w0 vs a w G hR hk) fun e a' w' hP=>?_;obtain⟨⟨k,cp,G',h1,h2,_,_,h5⟩,h6⟩:=hP;simp only[zA6] at h2;generalize hb:Nat.beq 0 k=b at h2;cases b with
    |false=>simp at h2
    |true =>
     have:=Nat.eq_of_beq_eq_true hb;subst this;simp only[cond_true,Option.some.injEq] at h2;subst h2;exact⟨h1,⟨G',h5⟩,h6⟩
   ·cases h
  |false =>
  rw[hmd] at h;simp only[cond_false] at h;split at h
  ·rename_i t hx;have hv:a.eval x=.bool t:=by
    have:=zI0 hR x;rw[hx] at this;simp only[zA] at this;have:=(zC6 rfl).1 this;simpa only[zB6,List.cons.injEq,and_true] using this
   refine wpIn_cond_split hv (fun ht=>?_) (fun ht=>?_)
   ·subst ht;exact ihx hw.1 h hok rd χ0 w0 vs a w G hR hk
   ·subst ht;exact ihy hw.2 h hok rd χ0 w0 vs a w G hR hk
  ·cases h
 |block id x ih =>
  intro S p k T hw h hok rd χ0 w0 vs a w G hR hk;simp only[zC9] at hw;simp only[zO3] at h;split at h
  ·rename_i p' k' T' ha;simp only[Option.some.injEq,Prod.mk.injEq] at h;obtain⟨rfl,rfl,rfl⟩:=h;refine wpIn_block (wpIn_mono (ih hw ha hok rd χ0 w0 vs a w G hR hk) fun e a' w' hP=>?_);obtain⟨h1,h2⟩:=hP;cases e with
   |exit id' =>
    simp only[zB0,Option.some.injEq] at h1;subst h1;simp only[Exit.inBlock,wQ0];split
    ·rename_i e;subst e;exact⟨by simp[zB0],h2⟩
    ·rename_i e;have:Nat.beq (id'+2) (id+2)=false:=by cases hb:Nat.beq (id'+2) (id+2) with|false=>rfl|true=>exact absurd (by have:=Nat.eq_of_beq_eq_true hb;omega) e
     exact⟨by simp[zB0,this],h2⟩
   |normal=>simp only[zB0,Option.some.injEq] at h1;subst h1;exact⟨rfl,h2⟩
   |ret=>simp only[zB0,Option.some.injEq] at h1;subst h1;exact⟨rfl,h2⟩
   |_=>simp[zB0] at h1
  ·cases h
 |loop x ih =>
  intro S p k T hw h hok rd χ0 w0 vs a w G hR hk;simp only[zC9] at hw;simp only[zO3] at h;refine xB7 (I:=fun m a w=>∃ S p G,wC (zO3 c lv x) m S=some (p,k,T)∧(∀ q∈p,q)∧Rel c.n χ0 w0 S a w G∧yO8 c.keep vs a) (k:=64) ⟨S,p,G,h,hok,hR,hk⟩ ?_;rintro m a w ⟨S,p,G,h,hok,hR,hk⟩;cases m with
  |zero=>simp[wC] at h
  |succ m =>
   simp only[wC] at h;split at h
   ·rename_i p1 T1 ha;split at h
    ·rename_i q k' U hb;simp only[Option.some.injEq,Prod.mk.injEq] at h;obtain⟨rfl,rfl,rfl⟩:=h;refine wpIn_mono (ih hw ha (fun q hq=>hok q (List.mem_append_left _ hq)) rd χ0 w0 vs a w G hR hk) fun e a' w' hP=>?_;obtain⟨h1,⟨G',h2⟩,h3⟩:=hP;cases e<;>simp[zB0] at h1;exact⟨m,by omega,T1,q,G',hb,fun q hq=>hok q (List.mem_append_right _ hq),h2,h3⟩
    ·cases h
   ·rename_i r hr;have hk0:k≠0:=fun e=>by subst e;exact hr _ _ h
    refine wpIn_mono (ih hw h hok rd χ0 w0 vs a w G hR hk) fun e a' w' hP=>?_;cases e with
    |normal=>have:=hP.1;simp only[zB0,Option.some.injEq] at this;exact absurd this.symm hk0
    |_=>exact hP
 |exit id =>
  intro S p k T _ h _ rd χ0 w0 vs a w G hR hk;simp only[zO3,Option.some.injEq,Prod.mk.injEq] at h;obtain⟨_,rfl,rfl⟩:=h;exact wpIn_exit ⟨rfl,⟨G,hR⟩,hk⟩
 |ret =>
  intro S p k T _ h _ rd χ0 w0 vs a w G hR hk;simp only[zO3,Option.some.injEq,Prod.mk.injEq] at h;obtain⟨_,rfl,rfl⟩:=h;exact wpIn_ret ⟨rfl,⟨G,hR⟩,hk⟩
 |_=>intro S p k T _ h;simp[zO3] at h
def wT6 [GlobTab] (c:Ctx)(lv:List (Nat×List Nat))(fn:Func)(rs:Sh):Option (List Prop×rs.den):=
 match zO3 c lv (fn.body.getD .skip) (zB5 [] ()) with
 |some (p,k,T)=>bif Nat.ble k 1 then (match zK3 c T fn.results.toList with
  |some r=>(match rs.parse r with|some v=>some (p,v)|none=>none)
  |none=>none) else none
 |none=>none
theorem wQ1 (hc:CtxOk P c)(hm:P.follows .mixedOrders=true){f:Nat}{fn:Func}(hf:P.funcs[f]?=some fn){lv:List (Nat×List Nat)}{rs:Sh}{p:List Prop}{v:rs.den}
  (hk:xH9 fn c [] []=true) (h:wT6 c lv fn rs=some (p,v)) (hp:xI9 p):SpecOk P f (fnSpec [] rs [] (fun _=>True) (fun _=>v) (fun _=>())):=by
 simp only[xH9,Bool.and_eq_true,Bool.not_eq_true',beq_eq_false_iff_ne,ne_eq] at hk;obtain⟨h1,h2,h3,h4,h5⟩:=hk;obtain⟨code,hb⟩:=Option.isSome_iff_exists.1 h1;unfold wT6 at h;rw[hb,Option.getD_some] at h h4;split at h
 ·rename_i p' k T he;generalize hkb:Nat.ble k 1=b at h;cases b with
  |false=>cases h
  |true =>
   simp only[cond_true] at h;split at h
   ·rename_i r hr;split at h
    ·rename_i v' hv;simp only[Option.some.injEq,Prod.mk.injEq] at h;obtain⟨rfl,rfl⟩:=h;have hk1:=Nat.le_of_ble_eq_true hkb;refine yV4 hc hf hb h2 (Nat.eq_of_beq_eq_true h3) (D:=fun _=>T) (res:=fun _=>r) (by simpa only[Bool.and_eq_true,and_assoc] using h5) (fun _ _=>?_) (fun _=>hr) (fun _=>hv) (fun _=>rfl);intro rd χ0 w0 vs a w G hR hkp;refine wpIn_mono (zZ hc hm h4 he (AllP_iff.1 hp) rd χ0 w0 vs a w G hR hkp) fun e a' w' hP=>⟨?_,hP.2⟩;have:=hP.1;cases e<;>simp[zB0] at this
     ·exact .inl rfl
     ·omega
     ·exact .inr rfl
    ·cases h
   ·cases h
 ·cases h
def wR5 [GlobTab] (c:Ctx)(lv:List (Nat×List Nat))(fn:Func)(ps:List (Nat×Sh))(rs:Sh)(os:List (Nat×Sh))(x:zB3 ps):Option (List Prop×rs.den×zW4 os):=
 match zO3 c lv (fn.body.getD .skip) (zB5 ps x) with
 |some (p,k,T)=>bif Nat.ble k 1 then (match zK3 c T fn.results.toList,zK0 os T with
  |some r,some z=>(match rs.parse r with|some v=>some (p,v,z)|none=>none)
  |_,_=>none) else none
 |none=>none
theorem wR6 (hc:CtxOk P c)(hm:P.follows .mixedOrders=true){f:Nat}{fn:Func}(hf:P.funcs[f]?=some fn){lv:List (Nat×List Nat)}{ps os:List (Nat×Sh)}{rs:Sh}(x0:zB3 ps){v:rs.den}{z:zW4 os}{p:List Prop}(hp:xI9 p)
  (hk:xH9 fn c ps os=true) (h:wR5 c lv fn ps rs os x0=some (p,v,z)):SpecOk P f (fnSpec ps rs os (fun x=>x=x0) (fun _=>v) (fun _=>z)):=by
 simp only[xH9,Bool.and_eq_true,Bool.not_eq_true',beq_eq_false_iff_ne,ne_eq] at hk;obtain⟨h1,h2,h3,h4,h5⟩:=hk;obtain⟨code,hb⟩:=Option.isSome_iff_exists.1 h1;unfold wR5 at h;rw[hb,Option.getD_some] at h h4;split at h
 ·rename_i p' k T he;generalize hkb:Nat.ble k 1=b at h;cases b with
  |false=>cases h
  |true =>
   simp only[cond_true] at h;split at h
   ·rename_i r z' hr hz;split at h
    ·rename_i v' hv;simp only[Option.some.injEq,Prod.mk.injEq] at h;obtain⟨rfl,rfl,rfl⟩:=h;have hk1:=Nat.le_of_ble_eq_true hkb;refine yV4 hc hf hb h2 (Nat.eq_of_beq_eq_true h3) (D:=fun _=>T) (res:=fun _=>r) (by simpa only[Bool.and_eq_true,and_assoc] using h5) (fun x hx=>?_) (fun _=>hr) (fun _=>hv) (fun _=>hz);subst hx;intro rd χ0 w0 vs a w G hR hkp;refine wpIn_mono (zZ hc hm h4 he (AllP_iff.1 hp) rd χ0 w0 vs a w G hR hkp) fun e a' w' hP=>⟨?_,hP.2⟩;have:=hP.1;cases e<;>simp[zB0] at this
     ·exact .inl rfl
     ·omega
     ·exact .inr rfl
    ·cases h
   ·cases h
 ·cases h
def wC0 (ps:List (Nat×Sh))(rs:Sh)(os:List (Nat×Sh))(ok:zB3 ps→Prop) [DecidablePred ok] (f:zB3 ps→rs.den)(o:zB3 ps→zW4 os):Spec:=fun args =>
 bif Nat.beq args.length ps.length then
  match zD9 ps (yE5 0 args) with
  |some x=>bif decide (ok x) then some ⟨[],rs.mk (f x),mkO os (o x),wK8 os (o x)⟩ else none
  |none=>none
 else none
theorem wT7 {f:Nat}{ps:List (Nat×Sh)}{rs:Sh}{os:List (Nat×Sh)}{ok:zB3 ps→Prop}[DecidablePred ok]{F:zB3 ps→rs.den}{o:zB3 ps→zW4 os}(h:SpecOk P f (fnSpec ps rs os ok F o)):SpecOk P f (wC0 ps rs os ok F o):=by
 refine⟨h.1,fun args co hsp _=>?_⟩;unfold wC0 at hsp;generalize hb:Nat.beq args.length ps.length=b at hsp;cases b with
 |false=>cases hsp
 |true =>
  simp only[cond_true] at hsp;split at hsp
  ·rename_i x hx;generalize hd:decide (ok x)=d at hsp;cases d with
   |false=>cases hsp
   |true =>
    simp only[cond_true,Option.some.injEq] at hsp;subst hsp;exact h.2 args ⟨[ok x],rs.mk (F x),mkO os (o x),wK8 os (o x)⟩ (by unfold fnSpec;rw[hb,cond_true,hx]) (fun q hq=>by rw[List.mem_singleton.1 hq];exact of_decide_eq_true hd)
  ·cases hsp
end Go.Am
namespace Go.Am
open Go Go.RowKit
variable {gtab:GlobTab}{P:Program}{c:Ctx}{G:Gh}{w:World}{tm:Array Value}{n:Nat}{χ0:Nat→Nat→Nat}{w0:World}{S:St}{a:Act}
def nps:List (Nat×Sh)→Nat
 |[]=>0
 |(i,_)::r=>bif Nat.blt i vNo then nps r+1 else nps r
def unh (i:Nat):Nat:=i-990000
theorem wN0 {i:Nat}(h:hid 0≤i):i=hid (unh i):=by unfold hid at *;unfold unh;omega
theorem wN1 {α:Type}{b:Bool}{x y z:α}(h:z=bif b then x else y)(hb:b=false):z=y:=by subst hb;exact h
theorem wQ2 {x y:Nat}(h:Nat.ble x y=true):x≤y:=Nat.le_of_ble_eq_true h
def xR (i:Nat):AVal→AVal
 |.lbox one ps τ _=>.ptrs one (ps.map fun p=>some (hid i,τ,p))
 |A=>A
def wN2:AVal→AVal
 |.lbox _ _ τ c=>.box τ c
 |_=>.junk
def yG5:Nat→List AVal→St
 |_,[]=>[]
 |i,A::r=>(i,xR i A)::(hid i,wN2 A)::yG5 (i+1) r
def wN3:(l:List (Nat×Sh))→zW4 l→List (Nat×AVal)
 |[],_=>[]
 |(_,.ptrs _ _)::r,x=>wN3 r x.2
 |(i,s)::r,x=>(bif Nat.blt i vNo then i else unh i,wB0 s x.1)::wN3 r x.2
def xI (ps:List (Nat×Sh))(rs:Sh)(os:List (Nat×Sh))(ok:zB3 ps→Prop)(f:zB3 ps→rs.den)(o:zB3 ps→zW4 os):Spec:=fun args =>
 bif Nat.beq args.length (nps ps)&&Nat.ble (nps ps) 5000 then
  match zD9 ps (yG5 0 args) with
  |some x=>some ⟨[ok x],rs.mk (f x),wN3 os (o x),[]⟩
  |none=>none
 else none
def wQ3 (i:Nat)(τ:Ty)(ps:List (Nat×Sh)):Bool:=ps.any fun q=>Nat.beq q.1 i&&(match q.2 with|.box τ' _=>Ty.beq τ' τ | _=>false)
def wL0 (i:Nat)(one:Bool)(l:List (Option (Nat×Ty×zG4)))(ps:List (Nat×Sh)):Bool:=ps.any fun q=>Nat.beq q.1 i&&(match q.2 with|.ptrs one' l'=>(one==one')&&yN5 l l' | _=>false)
def wC1 (k:Nat):List (Option (Nat×Ty×zG4))→Bool
 |some (h,_,_)::_=>Nat.beq h k
 |_=>false
def wN4 (ps:List (Nat×Sh))(keep:List Nat)(os:List (Nat×Sh)):Bool:=
 os.all fun e=>match e.2 with
  |.ptrs _ _=>true
  |.box τ _=>wQ3 e.1 τ ps&&bif Nat.blt e.1 vNo then keep.any (Nat.beq e.1)
    else Nat.ble (hid 0) e.1&&(keep.any (Nat.beq (unh e.1))&&os.any fun q=>Nat.beq q.1 (unh e.1)&&(match q.2 with|.ptrs one l=>wC1 e.1 l&&wL0 (unh e.1) one l ps|_=>false))
  |_=>false
theorem yE8 {s:Nat}:∀ {args:List AVal}{i:Nat},i≤s→s<i+args.length→i+args.length≤5000→∃ A,args[s-i]?=some A∧(yG5 i args).get s=xR s A:=by
 intro args
 induction args with
 |nil=>intro i h1 h2;simp at h2;omega
 |cons A r ih =>
  intro i h1 h2 h3;simp only[List.length_cons] at h2 h3;simp only[yG5,St.get];by_cases e:i=s
  ·subst e;exact⟨A,by simp,by simp⟩
  ·have e1:Nat.beq i s=false:=by cases hb:Nat.beq i s with|false=>rfl|true=>exact absurd (Nat.eq_of_beq_eq_true hb) e
   have e2:Nat.beq i zA4=false:=by cases hb:Nat.beq i zA4 with|false=>rfl|true=>have:=Nat.eq_of_beq_eq_true hb;have:zA4=1000000:=rfl;omega
   have e3:Nat.beq (hid i) s=false:=by cases hb:Nat.beq (hid i) s with|false=>rfl|true=>have:=Nat.eq_of_beq_eq_true hb;unfold hid at this;omega
   have e4:Nat.beq (hid i) zA4=false:=by cases hb:Nat.beq (hid i) zA4 with|false=>rfl|true=>have:=Nat.eq_of_beq_eq_true hb;unfold hid at this;have:zA4=1000000:=rfl;omega
   rw[e1,e2,e3,e4];simp only[cond_false];obtain⟨B,h4,h5⟩:=ih (i:=i+1) (by omega) (by omega) (by omega);refine⟨B,?_,h5⟩;rw[show s-i=(s-(i+1))+1 by omega];simpa using h4
theorem yR6 {j:Nat}:∀ {args:List AVal}{i:Nat},i≤j→j<i+args.length→i+args.length≤5000→∃ A,args[j-i]?=some A∧(yG5 i args).get (hid j)=wN2 A:=by
 intro args
 induction args with
 |nil=>intro i h1 h2;simp at h2;omega
 |cons A r ih =>
  intro i h1 h2 h3;simp only[List.length_cons] at h2 h3;simp only[yG5,St.get];have e1:Nat.beq i (hid j)=false:=by cases hb:Nat.beq i (hid j) with|false=>rfl|true=>have:=Nat.eq_of_beq_eq_true hb;unfold hid at this;omega
  have e2:Nat.beq i zA4=false:=by cases hb:Nat.beq i zA4 with|false=>rfl|true=>have:=Nat.eq_of_beq_eq_true hb;have:zA4=1000000:=rfl;omega
  rw[e1,e2];simp only[cond_false];by_cases e:i=j
  ·subst e;exact⟨A,by simp,by simp⟩
  ·have e3:Nat.beq (hid i) (hid j)=false:=by cases hb:Nat.beq (hid i) (hid j) with|false=>rfl|true=>have:=Nat.eq_of_beq_eq_true hb;unfold hid at this;omega
   have e4:Nat.beq (hid i) zA4=false:=by cases hb:Nat.beq (hid i) zA4 with|false=>rfl|true=>have:=Nat.eq_of_beq_eq_true hb;unfold hid at this;have:zA4=1000000:=rfl;omega
   rw[e3,e4];simp only[cond_false];obtain⟨B,h4,h5⟩:=ih (i:=i+1) (by omega) (by omega) (by omega);refine⟨B,?_,h5⟩;rw[show j-i=(j-(i+1))+1 by omega];simpa using h4
theorem xR0 {s:Nat}:∀ {args:List AVal}{i:Nat},(∀ j,i≤j→j<i+args.length→s≠j∧s≠hid j)→(yG5 i args).get s=.junk:=by
 intro args
 induction args with
 |nil=>intro i _;rfl
 |cons A r ih =>
  intro i h;simp only[yG5,St.get];obtain⟨h1,h2⟩:=h i (Nat.le_refl _) (by simp);have e1:Nat.beq i s=false:=by cases hb:Nat.beq i s with|false=>rfl|true=>exact absurd (Nat.eq_of_beq_eq_true hb).symm h1
  have e2:Nat.beq (hid i) s=false:=by cases hb:Nat.beq (hid i) s with|false=>rfl|true=>exact absurd (Nat.eq_of_beq_eq_true hb).symm h2
  rw[e1,e2,ih fun j hj hl=>h j (by omega) (by simp only[List.length_cons];omega)];cases Nat.beq i zA4<;>cases Nat.beq (hid i) zA4<;>rfl
theorem yO1 {S:St}:∀ {ps:List (Nat×Sh)}{x:zB3 ps}{i:Nat}{s:Sh},zD9 ps S=some x→(i,s)∈ps→∃ y,s.parse (S.get i)=some y:=by
 intro ps x i s h hm;obtain⟨k,hk⟩:=List.getElem?_of_mem hm;exact yE6 h hk
theorem xR1 {S:St}{i:Nat}{k:AVal}:∀ {os:List (Nat×Sh)}{x:zW4 os},zK0 os S=some x→(i,k)∈wN3 os x→∃ i0 s y,(i0,s)∈os∧(∀ one l,s≠.ptrs one l)∧i=(bif Nat.blt i0 vNo then i0 else unh i0)∧k=wB0 s y∧s.parse (S.get i0)=some y:=by
 intro os
 induction os with
 |nil=>intro x _ h;cases h
 |cons e r ih =>
  intro x hp hk;obtain⟨j,s⟩:=e;simp only[zK0] at hp;split at hp
  ·rename_i y z hy hz;injection hp with hp
   subst hp;have hr:(i,k)∈wN3 r z→∃ i0 s' y,(i0,s')∈(j,s)::r∧(∀ one l,s'≠.ptrs one l)∧i=(bif Nat.blt i0 vNo then i0 else unh i0)∧k=wB0 s' y∧s'.parse (S.get i0)=some y:=fun h=>by
    obtain⟨i0,s',y',h1,h2,h3,h4,h5⟩:=ih hz h;exact⟨i0,s',y',List.mem_cons_of_mem _ h1,h2,h3,h4,h5⟩
   by_cases hs:∃ one l,s=.ptrs one l
   ·obtain⟨one,l,rfl⟩:=hs;exact hr hk
   ·have hs:∀ one l,s≠.ptrs one l:=fun one l e=>hs ⟨one,l,e⟩;rw[wN3] at hk
    ·rcases List.mem_cons.1 hk with h|h
     ·injection h with h1 h2
      exact⟨j,s,y,List.mem_cons_self ..,hs,h1,h2,hy⟩
     ·exact hr h
    ·exact fun one l _ e _=>hs one l e
  ·cases hp
theorem xR2 {S:St}:∀ {os:List (Nat×Sh)}{x:zW4 os}{i:Nat}{s:Sh},zK0 os S=some x→(i,s)∈os→∃ y,s.parse (S.get i)=some y:=by
 intro os
 induction os with
 |nil=>intro x i s _ h;cases h
 |cons e r ih =>
  intro x i s hp hm;obtain⟨j,s'⟩:=e;simp only[zK0] at hp;split at hp
  ·rename_i y z hy hz;rcases List.mem_cons.1 hm with h|h
   ·injection h with h1 h2;subst h1;subst h2;exact⟨y,hy⟩
   ·exact ih hz h
  ·cases hp
theorem xB9 {τ:Ty}{s:Sh}{A:AVal}{x:(Sh.box τ s).den}(h:(Sh.box τ s).parse A=some x):∃ c,A=.box τ c:=by
 simp only[Sh.parse] at h;cases A with
 |box τ' c =>
  simp only[xB4] at h;cases hb:Ty.beq τ τ' with
  |false=>simp[hb] at h
  |true=>have:=Ty.eq_of_beq hb;subst this;exact⟨c,rfl⟩
 |_=>simp[xB4] at h
theorem yC3 {one:Bool}{l:List (Option (Nat×Ty×zG4))}{A:AVal}{x:(Sh.ptrs one l).den}(h:(Sh.ptrs one l).parse A=some x):A=.ptrs one (yV1 l (yN2 (wO0 l) x)):=by
 simp only[Sh.parse] at h;cases A with
 |ptrs one' l' =>
  simp only[yN6] at h;cases hb:(one==one') with
  |false=>simp[hb] at h
  |true =>
   rw[hb] at h;simp only[beq_iff_eq] at hb;simp only[cond_true] at h;split at h
   ·rename_i xs hxs;rw[hb,yR4 h,xB5 hxs]
   ·cases h
 |_=>simp[yN6] at h
theorem wC2 {i:Nat}{τ:Ty}{ps:List (Nat×Sh)}(h:wQ3 i τ ps=true):∃ s,(i,Sh.box τ s)∈ps:=by
 obtain⟨⟨j,s⟩,hm,hq⟩:=List.any_eq_true.1 h;simp only[Bool.and_eq_true] at hq;have:=Nat.eq_of_beq_eq_true hq.1;subst this;cases s with
 |box τ' s=>have:=Ty.eq_of_beq hq.2;subst this;exact⟨s,hm⟩
 |_=>simp at hq
theorem xR3 {i:Nat}{one:Bool}{l:List (Option (Nat×Ty×zG4))}{ps:List (Nat×Sh)}(h:wL0 i one l ps=true):(i,Sh.ptrs one l)∈ps:=by
 obtain⟨⟨j,s⟩,hm,hq⟩:=List.any_eq_true.1 h;simp only[Bool.and_eq_true] at hq;have:=Nat.eq_of_beq_eq_true hq.1;subst this;cases s with
 |ptrs one' l' =>
  simp only[Bool.and_eq_true,beq_iff_eq] at hq;rw[hq.2.1,wA7 hq.2.2];exact hm
 |_=>simp at hq
theorem wC3 {G':Gh}{w':World}{χ0:Nat→Nat→Nat}(hF:Frame0 χ0 w G'.χ w')(hχ:χ0=G.χ){one:Bool}{k:Nat}{τ:Ty}{p p':zG4}{l l':List (Option (Nat×Ty×zG4))}{v:Value}(h:yF0 G w one (some (k,τ,p)::l) v)(h':yF0 G' w' one (some (k,τ,p')::l') v):G'.β k=G.β k:=by
 subst hχ;obtain⟨b,o,cap,rfl,hc,_⟩:=h;obtain⟨b',o',cap',e,hc',_⟩:=h';have hbo:b=b'∧o=o':=by cases one<;>simp at e<;>grind
 obtain⟨rfl,rfl⟩:=hbo;obtain⟨c1,c2⟩:=hc 0 _ rfl;obtain⟨d1,_⟩:=hc' 0 _ rfl;have hb:b<w.heap.size:=by
  by_cases hb:b<w.heap.size
  ·exact hb
  ·have:w.heap[b]?=none:=Array.getElem?_eq_none (by omega);simp[World.cell?,this] at c1
 have:=(hF.cell b (o+0) hb (by omega)).2;rw[this,c1] at d1;simp only[yH9,Option.some.injEq,Value.pointer.injEq,Addr.mk.injEq] at d1;exact d1.1.symm
theorem wC4 (hc:CtxOk P c){f:Nat}{fn:Func}{code:Code}(hf:P.funcs[f]?=some fn)(hb:fn.body=some code)(hname:fn.name≠"runtime.NumGoroutine") (hn:fn.ntmps=c.n)
  {ps:List (Nat×Sh)}{rs:Sh}{os:List (Nat×Sh)}{ok:zB3 ps→Prop}{F:zB3 ps→rs.den}{o:zB3 ps→zW4 os}
  {D:zB3 ps→St}{res:zB3 ps→AVal}(hps:(wN4 ps c.keep os&&Nat.ble (nps ps) c.n)=true)
  (hrun:∀ x,ok x→wL P c code (zB5 ps x) (D x)) (hres:∀ x,zK3 c (D x) fn.results.toList=some (res x)) (hpar:∀ x,rs.parse (res x)=some (F x))
  (hout:∀ x,zK0 os (D x)=some (o x)):SpecOk P f (xI ps rs os ok F o):=by
 simp only[Bool.and_eq_true] at hps;obtain⟨hps2,hps3⟩:=hps;have hps3:nps ps≤c.n:=Nat.le_of_ble_eq_true hps3;refine⟨⟨fn,hf,by rw[hb];rfl,hname⟩,fun args co hsp hok G w vals hlen hglob hreps=>?_⟩;unfold xI at hsp;generalize hal:(Nat.beq args.length (nps ps)&&Nat.ble (nps ps) 5000)=b at hsp;cases b with
 |false=>cases hsp
 |true =>
  simp only[Bool.and_eq_true] at hal;have hal1:=Nat.eq_of_beq_eq_true hal.1;have hal2:nps ps≤5000:=Nat.le_of_ble_eq_true hal.2;simp only[cond_true] at hsp;split at hsp
  ·rename_i x hx;injection hsp with hsp
   subst hsp;have hokx:ok x:=hok _ (List.mem_cons_self ..);refine callsIn_wide.1 (callsIn_of_wp (n:=0) hf hb trivial ?_);generalize hact:({ tmps:=vals.toArray++Array.replicate (fn.ntmps-vals.toArray.size) undef,defers:=[] }:Act)=act;have hget:∀ s,s<vals.length→act.tmps.getD s undef=vals.getD s undef:=by
    intro s hs;rw[← hact];simp[Array.getElem?_append,hs]
   have hcn:=hc.n;have hv0:vNo=900000:=rfl;have hvc:∀ i,hid i=990000+i:=fun _=>rfl;have hargs:∀ s A,args[s]?=some A→ArgRep G w s A (act.tmps.getD s undef):=fun s A hA=>by
    have hs:s<args.length:=(List.getElem?_eq_some_iff.1 hA).1;have h2:vals[s]?=some (vals.getD s undef):=by simp[List.getElem?_eq_getElem (show s<vals.length by omega)]
    rw[hget s (by omega)];exact hreps s A _ hA h2
   have hrel:Rel c.n G.χ w (zB5 ps x) act w G:=by
    refine⟨?_,by rw[← hact],fun s=>?_,⟨rfl,rfl,rfl,Nat.le_refl _,fun _ _ _=>rfl,fun _ _ _ _=>⟨rfl,rfl⟩⟩,hglob⟩
    ·rw[← hact];simp;omega
    ·have key:zA G w #[] (some s) ((zB5 ps x).get s) (act.tmps.getD s undef):=by
      refine zH3 hx zN0 s G w #[] _ ?_;by_cases hs:s<args.length
      ·obtain⟨A,h1,h2⟩:=yE8 (s:=s) (args:=args) (i:=0) (by omega) (by omega) (by omega);simp only[Nat.sub_zero] at h1;rw[h2];have:=hargs s A h1;cases A<;>first|exact this|exact this.1
      ·by_cases hh:∃ j,j<args.length∧s=hid j
       ·obtain⟨j,hj,rfl⟩:=hh;obtain⟨A,h1,h2⟩:=yR6 (j:=j) (args:=args) (i:=0) (by omega) (by omega) (by omega);simp only[Nat.sub_zero] at h1;rw[h2];have:=hargs j A h1;cases A with
        |lbox one l τ k=>simp only[wN2,zA];exact⟨fun h=>absurd h (by rw[hvc];omega),this.2⟩
        |_=>simp only[wN2,zA]
       ·rw[xR0 (fun j _ hj=>⟨by omega,fun e=>hh ⟨j,by omega,e⟩⟩)];simp only[zA]
     refine zK4 (fun k hk=>?_) key;have:=zS7 (q:=fun A=>A.hasOpt=false) rfl (S:=zB5 ps x) (s:=s) yR5;rw[zH7 this] at hk;cases hk
   refine wpIn_mono (hrun x hokx none G.χ w (fun i=>act.tmps.getD i undef) act w G hrel (fun i _=>rfl)) fun e a' w' hP=>?_;obtain⟨he,⟨G',hR⟩,hk⟩:=hP;obtain⟨v,hv1,hv2⟩:=yG3 hc hR (hres x);have hkeepv:∀ i u,c.keep.any (Nat.beq i)=true→vals[i]?=some u→a'.tmps.getD i undef=u:=by
    intro i u hi hu;obtain⟨j,hj,hjb⟩:=List.any_eq_true.1 hi;have:=Nat.eq_of_beq_eq_true hjb;subst this;rw[hk i hj];show act.tmps.getD i undef=u;rw[hget i (List.getElem?_eq_some_iff.1 hu).1];simp[hu]
   have hfinal:a'.defers=[]∧∃ v,(results fn a'.tmps).run P w'=.ok v w'∧∃ v' G',Ending.returned v=.returned v'∧Frame0 G.χ w G'.χ w'∧zA G' w' #[] none (rs.mk (F x)) v' ∧
     (∀ (i:Nat) k A u,(i,k)∈wN3 os (o x)→args[i]?=some A→vals[i]?=some u →
      (∀ τ k0,A=.box τ k0→zA G' w' #[] (some i) (.box τ k) u∧G'.β i=G.β i)∧(∀ one ps τ k0,A=.lbox one ps τ k0→zN3 G' w' (hid i) τ k∧G'.β (hid i)=G.β (hid i))∧(zF7 A=false→yC4 A=false→zA G' w' #[] none k u))∧∀ k B,(k,B)∈([]:List (Nat×AVal))→zA G' w' #[] (some k) B undef:=by
    refine⟨hR.defers,v,hv1,v,G',rfl,hR.frame,?_,?_,fun _ _ h=>by cases h⟩
    ·refine zK4 (fun k hk=>?_) (zE4 (hpar x) hv2);rw[zH7 zW2] at hk;cases hk
    ·intro i k A u hi ha hu;obtain⟨i0,s',y,h1,hnp,hii,rfl,h3⟩:=xR1 (hout x) hi;have hilt:i<args.length:=(List.getElem?_eq_some_iff.1 ha).1;simp only[wN4,List.all_eq_true] at hps2;have h4:=hps2 _ h1;cases s' with
     |ptrs one l=>exact absurd rfl (hnp one l)
     |box τ s2 =>
      simp only[Bool.and_eq_true] at h4;obtain⟨h4,h5⟩:=h4;obtain⟨s3,hm3⟩:=wC2 h4;obtain⟨z,hz⟩:=yO1 hx hm3;obtain⟨c0,hc0⟩:=xB9 hz;have hrep:=zE4 h3 (hR.reps i0);have hrep:zA G' w' #[] (some i0) ((Sh.box τ s2).mk y) (a'.tmps.getD i0 undef):=zK4 (fun k hk=>by rw[zH7 zW2] at hk;cases hk) hrep;simp only[Sh.mk,zA] at hrep;cases hb:Nat.blt i0 vNo with
      |true =>
       rw[hb] at hii h5;simp only[cond_true] at hii h5;subst hii;have hiv:i<vNo:=Nat.le_of_ble_eq_true hb;obtain⟨A',e1,e2⟩:=yE8 (s:=i) (args:=args) (i:=0) (by omega) (by omega) (by omega);simp only[Nat.sub_zero,ha,Option.some.injEq] at e1;subst e1;rw[hc0] at e2;rw[hkeepv i u h5 hu] at hrep;refine⟨?_,?_,?_⟩
       ·rintro τ' k0 rfl;simp only[xR] at e2;injection e2 with e2 _
        subst e2;have h0:=(hargs i _ ha);rw[hget i (by omega),show vals.getD i undef=u by simp[hu]] at h0;simp only[ArgRep,zA] at h0 ⊢;refine⟨hrep,?_⟩;have:=(h0.1 hiv).symm.trans (hrep.1 hiv);simp only[Value.pointer.injEq,Option.some.injEq,Addr.mk.injEq] at this;exact this.1.symm
       ·rintro one l τ' k0 rfl;simp only[xR] at e2;cases e2
       ·intro hA hB;cases A<;>simp[xR] at e2;simp[zF7] at hA
      |false =>
       have hii:=wN1 hii hb;rw[hb] at h5;simp only[cond_false,Bool.and_eq_true] at h5;obtain⟨h5,h6,h7⟩:=h5;have hge:=wQ2 h5;have hi0:i0=hid i:=Eq.trans (wN0 hge) (congrArg hid hii.symm);rw[← hii] at h6 h7;rw[hi0] at hc0 hrep h7;obtain⟨A',e1,e2⟩:=yR6 (j:=i) (args:=args) (i:=0) (by omega) (by omega) (by omega);simp only[Nat.sub_zero,ha,Option.some.injEq] at e1;subst e1;rw[hc0] at e2;refine⟨?_,?_,?_⟩
       ·rintro τ' k0 rfl;simp only[wN2] at e2;cases e2
       ·rintro one l τ' k0 rfl;simp only[wN2] at e2;injection e2 with e2 _
        subst e2;refine⟨hrep.2,?_⟩;obtain⟨⟨j,sq⟩,hmq,hq⟩:=List.any_eq_true.1 h7;simp only[Bool.and_eq_true] at hq;have hj:=Nat.eq_of_beq_eq_true hq.1;subst hj;cases sq with
        |ptrs one' l' =>
         simp only[Bool.and_eq_true] at hq;have hin:=xR3 hq.2.2;obtain⟨_,hz1⟩:=yO1 hx hin;have hz1:=yC3 hz1;obtain⟨_,hz2⟩:=xR2 (hout x) hmq;have hz2:=yC3 hz2;obtain⟨A',e1,e3⟩:=yE8 (s:=j) (args:=args) (i:=0) (by omega) (by omega) (by omega);simp only[Nat.sub_zero,ha,Option.some.injEq] at e1;subst e1;rw[hz1] at e3;simp only[xR] at e3;injection e3 with e3 e4
         subst e3;have h0:=(hargs j _ ha);rw[hget j (by omega),show vals.getD j undef=u by simp[hu]] at h0;have h0:=h0.1;rw[← e4] at h0;have h9:=hR.reps j;rw[hz2,hkeepv j u h6 hu] at h9;simp only[zA] at h9;cases l' with
         |nil=>simp[wC1] at hq
         |cons q r =>
          cases q with
          |none=>simp[wC1] at hq
          |some q =>
           obtain⟨k',τ',p'⟩:=q;have:=Nat.eq_of_beq_eq_true hq.2.1;subst this;simp only[yV1] at h0 h9;exact wC3 hR.frame rfl h0 h9
        |_=>simp at hq
       ·intro hA hB;cases A<;>simp[wN2] at e2;simp[yC4] at hB
     |_=>simp at h4
   rcases he with rfl|rfl
   ·exact hfinal
   ·exact hfinal
  ·cases hsp
def wL1 (fn:Func)(c:Ctx)(ps os:List (Nat×Sh)):Bool:=fn.body.isSome&&(!(fn.name=="runtime.NumGoroutine")&&(Nat.beq fn.ntmps c.n&&(zC9 c.keep (fn.body.getD .skip)&&(wN4 ps c.keep os&&Nat.ble (nps ps) c.n))))
theorem wQ4 (hc:CtxOk P c)(hm:P.follows .mixedOrders=true){f:Nat}{fn:Func}(hf:P.funcs[f]?=some fn){lv:List (Nat×List Nat)}{ps os:List (Nat×Sh)}{rs:Sh}{F:zB3 ps→rs.den}{o:zB3 ps→zW4 os}{p:zB3 ps→List Prop}{ok:zB3 ps→Prop}
  (hok:∀ x,ok x→xI9 (p x)) (hk:wL1 fn c ps os=true) (h:∀ x,wR5 c lv fn ps rs os x=some (p x,F x,o x)):SpecOk P f (xI ps rs os ok F o):=by
 simp only[wL1,Bool.and_eq_true,Bool.not_eq_true',beq_eq_false_iff_ne,ne_eq] at hk;obtain⟨h1,h2,h3,h4,h5⟩:=hk;obtain⟨code,hb⟩:=Option.isSome_iff_exists.1 h1;have hx:∀ x,∃ k T r,zO3 c lv code (zB5 ps x)=some (p x,k,T)∧k≤1∧zK3 c T fn.results.toList=some r∧rs.parse r=some (F x)∧zK0 os T=some (o x):=by
  intro x;have h:=h x;unfold wR5 at h;rw[hb,Option.getD_some] at h;split at h
  ·rename_i p' k T he;generalize hkb:Nat.ble k 1=b at h;cases b with
   |false=>cases h
   |true =>
    simp only[cond_true] at h;split at h
    ·rename_i r z hr hz;split at h
     ·rename_i v' hv;simp only[Option.some.injEq,Prod.mk.injEq] at h;obtain⟨e1,e2,e3⟩:=h;exact⟨k,T,r,by rw[he,e1],Nat.le_of_ble_eq_true hkb,hr,by rw[hv,e2],by rw[hz,e3]⟩
     ·cases h
    ·cases h
  ·cases h
 rw[hb,Option.getD_some] at h4
 let T:zB3 ps→St:=fun x=>(zO3 c lv code (zB5 ps x)).elim [] (fun q=>q.2.2)
 have hT:∀ x,∃ k r,zO3 c lv code (zB5 ps x)=some (p x,k,T x)∧k≤1∧zK3 c (T x) fn.results.toList=some r∧rs.parse r=some (F x)∧zK0 os (T x)=some (o x):=fun x=>by
  obtain⟨k,T',r,e1,e2,e3,e4⟩:=hx x;have e:T x=T':=by simp only[T,e1,Option.elim_some]
  exact⟨k,r,by rw[e];exact e1,e2,by rw[e];exact e3,by rw[e];exact e4⟩
 refine wC4 hc hf hb h2 (Nat.eq_of_beq_eq_true h3) (D:=T) (res:=fun x=>(zK3 c (T x) fn.results.toList).getD .junk) (by simpa only[Bool.and_eq_true,and_assoc] using h5) (fun x hx=>?_) (fun x=>?_) (fun x=>?_) (fun x=>?_)
 ·intro rd χ0 w0 vs a w G hR hkp;obtain⟨k,r,e1,e2,_⟩:=hT x;refine wpIn_mono (zZ hc hm h4 e1 (AllP_iff.1 (hok x hx)) rd χ0 w0 vs a w G hR hkp) fun e a' w' hP=>⟨?_,hP.2⟩;have:=hP.1;cases e<;>simp[zB0] at this
  ·exact .inl rfl
  ·omega
  ·exact .inr rfl
 ·obtain⟨k,r,_,_,e3,_⟩:=hT x;rw[e3];rfl
 ·obtain⟨k,r,_,_,e3,e4,_⟩:=hT x;rw[e3];exact e4
 ·obtain⟨k,r,_,_,_,_,e5⟩:=hT x;exact e5
end Go.Am
namespace Go.Am
open Go Go.RowKit
variable {gtab:GlobTab}{P:Program}{c:Ctx}
end Go.Am
namespace Go.Am
open Go Go.RowKit
variable {gtab:GlobTab}{P:Program}
def xL:List AVal→Option (List Prop×AVal)
 |[.val (.int .u64) x,.val (.int .u64) y,.val (.int .u64) c] =>
  some ([0≤c∧c≤1],.tup (.cons (.val (.int .u64) (((Int.toNat x+Int.toNat y+Int.toNat c) % 18446744073709551616:Nat):Int)) (.cons (.val (.int .u64) (((Int.toNat x+Int.toNat y+Int.toNat c) / 18446744073709551616:Nat):Int)) .nl)))
 |_=>none
def yG6:List AVal→Option (List Prop×AVal)
 |[.val .str s,.val (.int .u8) c]=>some ([],.val (.int .i64) (Lib.indexByte s (Int.toNat c).toUInt8))
 |_=>none
theorem wJ8 {G:Gh}{w:World}{tm:Array Value}{A B:AVal}{vals:List Value}(h:zH8 (zA G w tm none) [A,B] vals):∃ u v,vals=[u,v]∧zA G w tm none A u∧zA G w tm none B v:=by
 match vals,h with
 |[u,v],h=>simp only[zH8] at h;exact⟨u,v,rfl,h.1,h.2.1⟩
 |[],h=>simp[zH8] at h
 |[_],h=>simp[zH8] at h
 |_::_::_::_,h=>simp[zH8] at h
theorem xR4 {G:Gh}{w:World}{tm:Array Value}{A B C:AVal}{vals:List Value}(h:zH8 (zA G w tm none) [A,B,C] vals):∃ u v x,vals=[u,v,x]∧zA G w tm none A u∧zA G w tm none B v∧zA G w tm none C x:=by
 match vals,h with
 |[u,v,x],h=>simp only[zH8] at h;exact⟨u,v,x,rfl,h.1,h.2.1,h.2.2.1⟩
 |[],h=>simp[zH8] at h
 |[_],h=>simp[zH8] at h
 |[_,_],h=>simp[zH8] at h
 |_::_::_::_::_,h=>simp[zH8] at h
theorem wL2 {f:Nat}{fn:Func}(hf:P.funcs[f]?=some fn)(hname:(fn.name=="runtime.NumGoroutine")=false) (hb:fn.body.isNone=true) (hn:(Extern.findNext fn).isNone=true)
  (he:Extern.find fn=some Extern.BytealgIndexByte.indexByte):xV6 P f yG6:=by
 intro args p A h _ G w tm vals hv;unfold yG6 at h;split at h
 ·simp only[Option.some.injEq,Prod.mk.injEq] at h;obtain⟨rfl,rfl⟩:=h;obtain⟨u,v,rfl,h1,h2⟩:=wJ8 hv;simp only[zA] at h1 h2;rw[VRep_str] at h1;rw[VRep_int] at h2;subst h1;subst h2;refine⟨_,?_,zD5⟩;rw[run_callFunc_extern hf hname hb (Option.isNone_iff_eq_none.1 hn) he,Lib.run_indexByteString];rfl
 ·cases h
theorem wR7 {f:Nat}{fn:Func}(hf:P.funcs[f]?=some fn)(hname:(fn.name=="runtime.NumGoroutine")=false) (hb:fn.body.isNone=true) (hn:(Extern.findNext fn).isNone=true)
  (he:Extern.find fn=some add64Entry):xV6 P f xL:=by
 intro args p A h hp G w tm vals hv;unfold xL at h;split at h
 ·rename_i x y c;simp only[Option.some.injEq,Prod.mk.injEq] at h;obtain⟨rfl,rfl⟩:=h;have hc:(0:Int)≤c∧(c:Int)≤1:=hp _ (List.mem_cons_self ..);obtain⟨u,v,q,rfl,h1,h2,h3⟩:=xR4 hv;simp only[zA] at h1 h2 h3;rw[VRep_int] at h1 h2 h3;subst h1;subst h2;subst h3;refine⟨Extern.MathBitsCarry.pair ((Int.toNat x+Int.toNat y+Int.toNat c) % Extern.MathBitsCarry.m64) ((Int.toNat x+Int.toNat y+Int.toNat c) / Extern.MathBitsCarry.m64),?_,?_⟩
  ·rw[run_callFunc_extern hf hname hb (Option.isNone_iff_eq_none.1 hn) he];have key:∀ k:Nat,k≤1→(add64Entry #[.int .u64 x,.int .u64 y,.int .u64 (k:Int)]).run P w =
     .ok (Extern.MathBitsCarry.pair ((Int.toNat x+Int.toNat y+k) % Extern.MathBitsCarry.m64) ((Int.toNat x+Int.toNat y+k) / Extern.MathBitsCarry.m64)) w:=by
    intro k hk;have:k=0∨k=1:=by omega
    rcases this with rfl|rfl<;>rfl
   obtain⟨k,hk⟩:=Int.eq_ofNat_of_zero_le hc.1;have h0:c=((k:Nat):Int):=hk;have hk1:k≤1:=by
    have h1:=hc.2;rw[h0] at h1;exact Int.ofNat_le.1 h1
   rw[h0];show ((add64Entry #[.int .u64 x,.int .u64 y,.int .u64 (k:Int)]).run P w).andThen _=_;rw[key k hk1];rfl
  ·simp only[zA,Extern.MathBitsCarry.pair,Extern.MathBitsCarry.m64];exact⟨_,[_],rfl,zD5 (s:=none) (tm:=tm),_,[],rfl,zD5 (s:=none) (tm:=tm),rfl⟩
 ·cases h
end Go.Am
namespace Go.Am
open Go
instance (r:Int):Decidable (InR r):=inferInstanceAs (Decidable (_∧_))
instance (i n:Int):Decidable (InB i n):=inferInstanceAs (Decidable (_∧_))
def wC5 {X:Type}(g:X→Bool)(next:X→X)(okb:X→Bool):Nat→X→Bool
 |0,_=>false
 |k+1,x=>okb x&&(bif g x then wC5 g next okb k (next x) else true)
theorem wJ9 {X:Type}{g:X→Bool}{next:X→X}{ok:X→Prop}{okb:X→Bool}(h:∀ x,okb x=true↔ok x):∀ {F:Nat}{x:X},wC5 g next okb F x=true↔∃ k,k<F∧Runs g next ok k x:=by
 intro F
 induction F with
 |zero=>intro x;simp[wC5]
 |succ F ih =>
  intro x;simp only[wC5,Bool.and_eq_true,h];cases hg:g x with
  |false =>
   simp only[cond_false,and_true];constructor
   ·intro hx;exact⟨0,by omega,hx,hg⟩
   ·rintro⟨k,_,hr⟩;cases k with
    |zero=>exact hr.1
    |succ k=>exact hr.1
  |true =>
   simp only[cond_true,ih];constructor
   ·rintro⟨hx,k,hk,hr⟩;exact⟨k+1,by omega,hx,hg,hr⟩
   ·rintro⟨k,hk,hr⟩;cases k with
    |zero=>rw[hr.2] at hg;cases hg
    |succ k=>exact⟨hr.1,k,by omega,hr.2.2⟩
instance {X:Type}{g:X→Bool}{next:X→X}{ok:X→Prop}[inst:∀ x,Decidable (ok x)] (x:X):Decidable (xQ5 g next ok x):=
 decidable_of_iff (wC5 g next (fun x=>decide (ok x)) zJ0 x=true) (wJ9 fun x=>by simp)
end Go.Am
namespace Go.Am
open Go Go.RowKit
variable {gtab:GlobTab}{P:Program}{w:World}{χ:Nat→Nat→Nat}
def Ty.deep:Ty→Bool
 |.ptr _=>false|.cons h t=>h.deep&&t.deep|.st f=>f.deep|.arr _ t=>t.deep|.sl t=>Nat.blt 0 t.size&&t.deep|_=>true
def Ty.wf:(τ:Ty)→τ.den→Prop
 |.int k,x=>k.min≤x∧x≤k.max
 |.bool,_=>True
 |.str,s=>List.length (α:=UInt8) s≤maxLen
 |.nl,_=>True
 |.cons h t,x=>h.wf x.1∧t.wf x.2
 |.st f,x=>f.wf x
 |.arr n t,l=>List.length (α:=t.den) l=n∧∀ y∈(l:List t.den),t.wf y
 |.sl t,l=>List.length (α:=t.den) l≤maxLen∧∀ y∈(l:List t.den),t.wf y
 |.ptr t,x=>t.wf x
theorem xR5 {f:Nat→Value}(sz:Nat):∀ n,(List.range n).flatMap (fun i=>(List.range sz).map fun k=>f (i*sz+k))=(List.range (n*sz)).map f:=by
 intro n
 induction n<;>simp_all [Nat.succ_mul,List.range_add]
theorem wC6 {cs:List Value}(sz:Nat):∀ n,(List.range n).flatMap (fun i=>(cs.drop (i*sz)).take sz)=cs.take (n*sz):=by
 intro n
 induction n<;>simp_all [List.range_succ,Nat.succ_mul,List.take_add]
theorem zQ8 {τ:Ty}{T:Nat}(h:zC3 P τ (.inl T)=true):P.cellsOf T=τ.size:=by
 obtain⟨⟨i,z,hi,hs,_⟩,_⟩:=zG7 h
 grind [Program.cellsOf]
theorem cells?_is {a:Addr}{n:Nat}{cs:List Value}(h:w.cells? 0 a n=some cs):cs=(List.range n).map (fun k=>(w.cell? (a.add k)).getD undef)∧∀ k,k<n→∃ v,w.cell? (a.add k)=some v:=by
 simp[World.cells?] at h;generalize hf:(fun i=>w.cell? (a.add i))=f at h;have key:∀ (l:List Nat) (cs:List Value),l.mapM f=some cs→cs=l.map (fun k=>(f k).getD undef)∧∀ k∈l,∃ v,f k=some v:=by
  intro l
  induction l<;>simp_all [Option.bind_eq_some_iff]
 have:=key _ _ h;subst hf;simp_all
theorem wC7 (a:Addr)(m k:Nat):(a.add m).add k=a.add (m+k):=by
 grind [Addr.add,Nat.add_assoc]
theorem xC {a:Addr}{v:Value}(h:w.cell? a=some v):a.spot=none∧a.block<w.heap.size:=by
 unfold World.cell? at h;split at h
 ·rename_i c _ _ hb;split at h
  ·grind
  ·refine⟨by simp_all,zE0 hb⟩
 grind
section
variable {H:Type}{enc:TypeId×Value→H}{sp:Nat→Bool}{held:Bool}
end
end Go.Am
namespace Go.Am
open Go Go.RowKit Go.ChangeShapes
variable {gtab:GlobTab}{P:Program}{w:World}
def enumSh:Nat→List Ty→List (Nat×Sh)
 |_,[]=>[]
 |i,τ::r=>(i,.val τ)::enumSh (i+1) r
def mkA:(i:Nat)→(τs:List Ty)→zB3 (enumSh i τs)→List AVal
 |_,[],_=>[]
 |i,τ::r,x=>.val τ x.1::mkA (i+1) r x.2
def wfL:(i:Nat)→(τs:List Ty)→zB3 (enumSh i τs)→Prop
 |_,[],_=>True
 |i,τ::r,x=>τ.wf x.1∧wfL (i+1) r x.2
def yG7 (P:Program):List Ty→List TypeId→Bool
 |[],[]=>true
 |τ::r,T::s=>zC3 P τ (.inl T)&&τ.deep&&yG7 P r s
 |_,_=>false
theorem beq_refl:∀ τ:Ty,Ty.beq τ τ=true:=by
 intro τ
 induction τ<;>simp_all [Ty.beq]
theorem wC8 {τ:Ty}{x:τ.den}:Ty.cast τ x=some x:=by
 grind [Ty.cast,beq_refl]
theorem wC9:∀ {τs:List Ty}{i:Nat}{x:zB3 (enumSh i τs)}{S:St},(∀ k,(mkA i τs x)[k]?=none∨(mkA i τs x)[k]?=some (S.get (i+k)))→(∀ τ∈τs,τ.isL=false)→zD9 (enumSh i τs) S=some x:=by
 intro τs
 induction τs with
 |nil=>intro i x S _ _;rfl
 |cons τ r ih =>
  intro i x S h hl;simp[enumSh,zD9];have h0:=h 0;simp only[mkA,Nat.add_zero] at h0;rcases h0 with h0|h0
  ·grind
  ·injection h0 with h0
   rw[← h0];have hx:(Sh.val τ).parse (.val τ x.1)=some x.1:=by
    simp_all [Sh.parse,AVal.as,AVal.asT,wC8]
   have hr:=ih (i:=i+1) (x:=x.2) (S:=S) (fun k=>by
    have:=h (k+1)
    grind [mkA,List.getElem?_cons_succ]) fun τ hτ=>hl τ (List.mem_cons_of_mem _ hτ)
   rw[hx,hr];rfl
theorem xR6:∀ {τs:List Ty}{i:Nat}{x:zB3 (enumSh i τs)},(mkA i τs x).length=τs.length∧(enumSh i τs).length=τs.length:=by
 intro τs
 induction τs with
 |nil=>exact⟨rfl,rfl⟩
 |cons τ r ih=>intro i x;simp[mkA,enumSh,(ih (i:=i+1) (x:=x.2)).1,(ih (i:=i+1) (x:=x.2)).2]
theorem xI0:∀ {τs:List Ty}{Ts:List TypeId},yG7 P τs Ts=true→∀ τ∈τs,τ.isL=false:=by
 intro τs
 induction τs with
 |nil=>grind
 |cons σ r ih =>
  intro Ts h τ hτ;cases Ts<;>grind [yG7,zD0]
section
variable {H:Type}{enc:TypeId×Value→H}
theorem wN5 {τ:Ty}{T:TypeId}{v:Value}(hT:zC3 P τ (.inl T)=true)(ha:τ.isAgg=false)(hd:τ.deep=true){base:Nat}(h:Value.okWide P w .any base T v):∀ cs,v≠.agg cs:=by
 intro cs e;unfold Value.okWide at h;cases τ with
 |st f=>grind [Ty.isAgg]
 |arr n t=>grind [Ty.isAgg]
 |ptr t=>grind [Ty.deep]
 |nl=>grind [zC3]
 |cons a b=>grind [zC3]
 |int k =>
  have hu:P.underlying T=some (.int k):=by
   simp[zC3] at hT;cases hu:P.underlying T with
   |none=>grind
   |some d=>rw[hu] at hT;cases d<;>simp at hT;grind [zI7]
  simp_all [Cell.okWide,Cell.ok]
 |bool =>
  have hu:P.underlying T=some .bool:=by
   grind [zC3]
  simp_all [Cell.okWide,Cell.ok]
 |str =>
  have hu:=zM7 hT;simp_all [Cell.okWide,Cell.ok]
 |sl t =>
  obtain⟨e,hu,_⟩:=zF8 hT;simp_all [Cell.okWide,Cell.ok]
theorem wQ5 {τ:Ty}{T:TypeId}{v:Value}(hT:zC3 P τ (.inl T)=true)(ha:τ.isAgg=true){base:Nat}(h:Value.okWide P w .any base T v):∃ cs,v=.agg cs:=by
 unfold Value.okWide at h;cases τ<;>grind [zX8,zV0,Ty.isAgg]
theorem wQ6 {A:AVal}:∀ {τs:List Ty}{j:Nat}{x:zB3 (enumSh j τs)}{i:Nat},(mkA j τs x)[i]?=some A→yC4 A=false:=by
 intro τs
 induction τs with
 |nil=>intro j x i h;simp[mkA] at h
 |cons τ r ih =>
  intro j x i h;cases i with
  |zero=>simp[mkA] at h;subst h;rfl
  |succ i=>simp only[mkA,List.getElem?_cons_succ] at h;exact ih h
end
theorem below_trods {H:Type}{enc:TypeId×Value→H}(hl:laidOutB P=true):∀ {Ts:List TypeId}{vs:List Value}{ds:List (DataW H)}{ps:List MemPlace}{W W':World}{sp:Nat→Bool},Ts.all (fun t=>P.readableRec t&&Nat.blt t P.types.size)=true →
  DataW.TrodAll enc P W 0 (fun _=>true) true Ts vs ds ps→Below W.heap.size W W'→(∀ x∈ps,x.block<W.heap.size)→(∀ p∈ps,sp p.block=true)→DataW.TrodAll enc P W' 0 sp true Ts vs ds ps:=by
 intro Ts
 induction Ts with
 |nil=>grind [DataW.TrodAll]
 |cons T s ih =>
  intro vs ds ps W W' sp ht h hb hlt hsp;cases vs with
  |nil=>grind [DataW.TrodAll]
  |cons v vs =>
   cases ds with
   |nil=>grind [DataW.TrodAll]
   |cons d ds =>
    simp only[List.all_cons,Bool.and_eq_true] at ht;obtain⟨p,q,h1,h2,rfl⟩:=h;refine⟨p,q,WideElems.Trod_stays hl ht.1.1 (Nat.blt_eq.mp ht.1.2) h1 (fun x hx=>hb.same (hlt x (List.mem_append_left _ hx))) (fun x hx=>hsp x (List.mem_append_left _ hx)),?_,rfl⟩
    grind
theorem trod_len3 {H:Type}{enc:TypeId×Value→H}{T0 T1 T2:TypeId}{vs:List Value}{ds:List (DataW H)}{ps:List MemPlace}{sp:Nat→Bool}{hd:Bool}(h:DataW.TrodAll enc P w 0 sp hd [T0,T1,T2] vs ds ps):∃ d0 d1 d2,ds=[d0,d1,d2]:=by
 obtain⟨v,vs1,d,ds1,a,b,rfl,rfl,rfl,h1,h2⟩:=trodAll_cons h;obtain⟨v,vs1,d',ds1,a,b,rfl,rfl,rfl,h1,h2⟩:=trodAll_cons h2;obtain⟨v,vs1,d'',ds1,a,b,rfl,rfl,rfl,h1,h2⟩:=trodAll_cons h2;obtain⟨rfl,rfl,rfl⟩:=trodAll_nil h2;simp_all
theorem post_law {H:Type}{enc:TypeId×Value→H}{f:Func}{s:ChangeSpec}{W W':World}{args:Array Value}{v:Value}{ds gs:List (DataW H)}{before pa pv:List MemPlace}
  (hW:DataW.Whole enc P f.params.toList s.vars false W args.toList ds gs before)
  (hres:∀ (b:Nat) (sp:Nat→Bool) (hd:Bool),DataW.TrodAll enc P W' b sp hd f.resultTypes.toList (v.resultList f.resultTypes.size) (s.fn H (ds++gs)).results [])
  (hargs:∀ sp:Nat→Bool,(∀ p∈before,sp p.block=true)→DataW.TrodAll enc P W' 0 sp true f.params.toList args.toList (s.fn H (ds++gs)).args pa)
  (hvars:∀ sp:Nat→Bool,(∀ p∈before,sp p.block=true)→DataW.TrodVars enc P W' sp s.vars (s.fn H (ds++gs)).vars pv)
  (hps:before=pa++pv) (hk:W.keptBut W' (·∈before)):s.post enc P f false true false false W args v W':=by
 have hold:∀ p∈before,(fun b=>decide (b<W.heap.size)) p.block=true:=fun p hp=>by simpa using hW.lt p hp
 refine⟨ds,gs,before,[],pa,pv,hW,hres _ _ _,hargs _ hold,hvars _ hold,World.keptBut_mono (fun p hp=>⟨hp,?_⟩) hk,fun h=>by grind⟩
 grind
def zeroV (P:Program)(T:TypeId):Value:=((P.info? T).bind (·.zero)).getD undef
def wT8:DataW Unit→Value
 |.lit (.int k n)=>.int k n
 |_=>undef
def flat1:DataW Unit→List Value
 |.agg l=>l.map wT8
 |.lit (.int k n)=>[.int k n]
 |_=>[]
def flat2:DataW Unit→List Value
 |.agg l=>l.flatMap flat1
 |_=>[]
def putG (h:Array Obj)(g:Nat)(cs:List Value):Array Obj:=h.modify g fun
 |.cells _ t frozen=>.cells cs.toArray t frozen
 |o=>o
def rangeLen:DataW Unit→Nat
 |.ptr (.agg (.slice l _::_))=>l.length
 |_=>0
def rangeLatin:DataW Unit→Value
 |.ptr (.agg [_,_,d])=>wT8 d
 |_=>undef
def rangeCells:DataW Unit→List Value
 |.ptr (.agg (.slice l _::_))=>l.flatMap flat1
 |_=>[]
end Go.Am
namespace Go.Am
open Go
theorem wQ7 {X:Type}{g:X→Bool}{next:X→X}{x:X}(h:g x=false):∀ F,loopN g next F x=x:=by
 intro F;cases F with
 |zero=>rfl
 |succ F=>simp[loopN,h]
theorem wK {X:Type}{g:X→Bool}{next:X→X}(inv:X→Prop)(m:X→Nat)(hstep:∀ x,inv x→g x=true→inv (next x)∧m (next x)<m x) :
  ∀ {x:X},inv x→m x<zJ0→inv (zC4 g next x)∧g (zC4 g next x)=false:=by
 have key:∀ (F:Nat) (x:X),inv x→m x<F→inv (loopN g next F x)∧g (loopN g next F x)=false:=by
  intro F
  induction F with
  |zero=>intro x _ h;omega
  |succ F ih =>
   intro x hx hm;simp only[loopN];cases hg:g x with
   |false=>simp only[cond_false];exact⟨hx,hg⟩
   |true =>
    simp only[cond_true];have:=hstep x hx hg;exact ih _ this.1 (by omega)
 intro x hx hm;exact key zJ0 x hx hm
theorem wK0 {X:Type}{g:X→Bool}{next:X→X}{ok:X→Prop}(inv:X→Prop)(m:X→Nat)(hok:∀ x,inv x→ok x)(hstep:∀ x,inv x→g x=true→inv (next x)∧m (next x)<m x) :
  ∀ {x:X},inv x→m x<zJ0→xQ5 g next ok x:=by
 have key:∀ (F:Nat) (x:X),inv x→m x<F→∃ k,k<F∧Runs g next ok k x:=by
  intro F
  induction F with
  |zero=>intro x _ h;omega
  |succ F ih =>
   intro x hx hm;cases hg:g x with
   |false=>exact⟨0,by omega,hok x hx,hg⟩
   |true =>
    have:=hstep x hx hg;obtain⟨k,hk,hr⟩:=ih _ this.1 (by omega);exact⟨k+1,by omega,hok x hx,hg,hr⟩
 intro x hx hm;exact key zJ0 x hx hm
theorem wU7 {g:Int×Unit→Bool}{next:Int×Unit→Int×Unit}{n:Int}{c:Int→Bool}(hn0:0≤n)(hn:n<9223372036854775808)(hg:∀ x,g x=(decide (x.1<n)&&!(c x.1)))(hx:∀ x,next x=(x.1+1,())) :
  ∃ j,0≤j∧j≤n∧zC4 g next (0,())=(j,())∧(∀ k,0≤k→k<j→c k=false)∧(j<n→c j=true):=by
 have h:=wK (g:=g) (next:=next) (fun x=>0≤x.1∧x.1≤n∧∀ k,0≤k→k<x.1→c k=false) (fun x=>(n-x.1).toNat) (fun x hi hgx=>by
  rw[hg] at hgx;simp only[Bool.and_eq_true,decide_eq_true_eq,Bool.not_eq_true'] at hgx;rw[hx];refine⟨⟨by omega,by omega,fun k h1 h2=>?_⟩,by simp only;omega⟩;by_cases e:k=x.1
  ·rw[e];exact hgx.2
  ·exact hi.2.2 k h1 (by simp only at h2;omega)) (x:=(0,())) ⟨by simp,hn0,fun k h1 h2=>by simp only at h2;omega⟩ (by simp only[zJ0];omega)
 generalize hj:zC4 g next (0,())=e at h
 obtain⟨⟨h1,h2,h3⟩,h4⟩:=h;refine⟨e.1,h1,h2,rfl,h3,fun hlt=>?_⟩;rw[hg] at h4;simp only[Bool.and_eq_false_iff,decide_eq_false_iff_not,Bool.not_eq_false'] at h4;rcases h4 with h4|h4
 ·exact absurd hlt h4
 ·exact h4
theorem wQ8 {g:Int×Unit→Bool}{next:Int×Unit→Int×Unit}{ok:Int×Unit→Prop}{n:Int}(hn0:0≤n)(hn:n<9223372036854775808)(hg:∀ x,g x=true→x.1<n)(hx:∀ x,next x=(x.1+1,()))
  (hok:∀ x:Int×Unit,0≤x.1→x.1≤n→ok x):xQ5 g next ok (0,()):=
 wK0 (fun x=>0≤x.1∧x.1≤n) (fun x=>(n-x.1).toNat) (fun x h=>hok x h.1 h.2) (fun x hi hgx=>by
  have:=hg x hgx;rw[hx];refine⟨⟨by simp only;omega,by simp only;omega⟩,by simp only;omega⟩) ⟨by simp,hn0⟩ (by simp only[zJ0];omega)
def wT9 (n:Int)(c:Int→Bool):Bool:=(List.range n.toNat).any fun i=>c (i:Int)
theorem wR8 {g:Int×Unit→Bool}{next:Int×Unit→Int×Unit}{n:Int}{c:Int→Bool}(hn0:0≤n)(hn:n<9223372036854775808)(hg:∀ x,g x=(decide (x.1<n)&&!(c x.1)))(hx:∀ x,next x=(x.1+1,())) :
  (decide ((zC4 g next (0,())).1<n)&&c (zC4 g next (0,())).1)=wT9 n c:=by
 obtain⟨j,h1,h2,h3,h4,h5⟩:=wU7 hn0 hn hg hx;rw[h3];rw[Bool.eq_iff_iff];simp only[Bool.and_eq_true,decide_eq_true_eq,wT9,List.any_eq_true,List.mem_range];constructor
 ·rintro⟨h,h'⟩;exact⟨j.toNat,by omega,by rw[Int.toNat_of_nonneg h1];exact h'⟩
 ·rintro⟨i,hi,hc⟩;by_cases hj:j<n
  ·exact⟨hj,h5 hj⟩
  ·have:=h4 (i:Int) (by omega) (by omega);rw[this] at hc;cases hc
theorem wO4 {α:Type}(l:List α):0≤len l:=by simp[len]
end Go.Am
namespace Go.Am
open Go Go.RowKit
variable {gtab:GlobTab}{P:Program}
end Go.Am
namespace Go.Am
open Go Go.RowKit
variable {gtab:GlobTab}{P:Program}{w:World}{χ:Nat→Nat→Nat}
def Ty.bulk:(τ:Ty)→τ.den→Nat
 |.int _,_=>1
 |.bool,_=>1
 |.str,s=>List.length (α:=UInt8) s+1
 |.nl,_=>0
 |.cons h t,x=>h.bulk x.1+t.bulk x.2
 |.st f,x=>f.bulk x+1
 |.arr _ t,l=>(List.map t.bulk l).sum+1
 |.sl t,l=>(List.map t.bulk l).sum+1
 |.ptr _,_=>0
structure BulkFn (H:Type) where
 B:DataW H→Nat
 BA:List (DataW H)→Nat
 str:∀ s,s.length+1≤B (.lit (.string s))
 lit:∀ l,1≤B (.lit l)
 slice:∀ e s,BA e+1≤B (.slice e s)
 agg:∀ p,BA p+1≤B (.agg p)
 nil':1≤B .nil
 cons:∀ d r,B d+BA r≤BA (d::r)
theorem xC0 {H α γ:Type}{K:BulkFn H}{f:α→Option (DataW H×List MemPlace)}{R:γ→List Value→Prop}{g:α→List Value}{wf:γ→Prop}{bk:γ→Nat}:∀ {l:List α}{ys:List (DataW H×List MemPlace)},l.mapM f=some ys→(∀ x y,x∈l→f x=some y→∃ z,R z (g x)∧wf z∧bk z≤K.B y.1) →
  ∃ zs:List γ,zs.length=l.length∧zM5 R zs (l.flatMap g)∧(∀ z∈zs,wf z)∧(zs.map bk).sum≤K.BA (ys.map (·.1)):=by
 intro l
 induction l with
 |nil=>intro ys _ _;exact⟨[],rfl,rfl,fun z h=>(by grind),by simp⟩
 |cons x l ih =>
  intro ys h hf;simp only[List.mapM_cons,Option.bind_eq_bind,Option.bind_eq_some_iff,Option.pure_def,Option.some.injEq] at h;obtain⟨y,hy,ys',hys,rfl⟩:=h;obtain⟨z,h1,h2,h6⟩:=hf x y (List.mem_cons_self ..) hy;obtain⟨zs,h3,h4,h5,h7⟩:=ih hys fun x y hx=>hf x y (List.mem_cons_of_mem _ hx);refine⟨z::zs,by grind,⟨g x,l.flatMap g,rfl,h1,h4⟩,fun z' hz=>?_,?_⟩
  ·all_goals grind
  ·simp;have:=K.cons y.1 (ys'.map (·.1));omega
section
variable {H:Type}{enc:TypeId×Value→H}{sp:Nat→Bool}{held:Bool}
theorem wD (K:BulkFn H)(hχ:∀ b o,b<w.heap.size→χ b o=0):∀ τ:Ty,
  (∀ (T zJ0:Nat) (cs:List Value) (d:DataW H) (ps:List MemPlace),zC3 P τ (.inl T)=true→τ.deep=true→DataW.trod enc P w 0 sp held zJ0 T cs=some (d,ps)→∃ x,zB6 χ w τ x cs∧τ.wf x∧τ.bulk x≤K.B d) ∧
  (∀ (fs:List Field) (o:Nat) (cs:List Value) (zJ0:Nat) (xs:List (DataW H×List MemPlace)),zC3 P τ (.inr (fs,o))=true→τ.deep=true→fs.mapM (fun f=>DataW.trod enc P w 0 sp held zJ0 f.type ((cs.drop f.offset).take (P.cellsOf f.type)))=some xs→cs.length=o+τ.size →
   ∃ x,zB6 χ w τ x (cs.drop o)∧τ.wf x∧τ.bulk x≤K.BA (xs.map (·.1))):=by
 intro τ
 induction τ with
 |int k =>
  refine⟨fun T zJ0 cs d ps hT _ h=>?_,fun fs o cs zJ0 xs hT=>by grind [zC3]⟩;have hu:P.underlying T=some (.int k):=by
   simp only[zC3,Bool.and_eq_true] at hT;cases hu:P.underlying T with
   |none=>grind
   |some d=>rw[hu] at hT;cases d<;>simp at hT;grind [zI7]
  cases zJ0 with
  |zero=>simp[DataW.trod] at h
  |succ zJ0 =>
   unfold DataW.trod at h;rw[hu] at h
   match cs,h with
   |[.int k' n],h =>
    simp only at h;split at h
    ·rename_i hc;obtain⟨rfl,hw⟩:=hc;simp only[Lit.wf,Bool.and_eq_true,decide_eq_true_eq] at hw;simp only[Option.some.injEq,Prod.mk.injEq] at h;exact⟨n,by grind [zB6],hw,by rw[← h.1];exact K.lit _⟩
    grind
 |bool =>
  refine⟨fun T zJ0 cs d ps hT _ h=>?_,fun fs o cs zJ0 xs hT=>by grind [zC3]⟩;have hu:P.underlying T=some .bool:=by
   simp only[zC3,Bool.and_eq_true] at hT
   grind
  cases zJ0 with
  |zero=>simp[DataW.trod] at h
  |succ zJ0 =>
   unfold DataW.trod at h;rw[hu] at h
   match cs,h with
   |[.bool b],h =>
    simp only[Option.some.injEq,Prod.mk.injEq] at h;exact⟨b,by grind [zB6],trivial,by rw[← h.1];exact K.lit _⟩
 |str =>
  refine⟨fun T zJ0 cs d ps hT _ h=>?_,fun fs o cs zJ0 xs hT=>by grind [zC3]⟩;have hu:=zM7 hT;cases zJ0 with
  |zero=>simp[DataW.trod] at h
  |succ zJ0 =>
   unfold DataW.trod at h;rw[hu] at h
   match cs,h with
   |[.string b],h =>
    simp only at h;split at h
    ·rename_i hs;simp only[Option.some.injEq,Prod.mk.injEq] at h;refine⟨b.data.toList,by grind [zB6],?_,by rw[← h.1];exact K.str _⟩;show b.data.toList.length≤maxLen;simp_all
    grind
 |nl =>
  refine⟨fun T zJ0 cs d ps hT=>by grind [zC3],fun fs o cs zJ0 xs hT _ h hl=>?_⟩;refine⟨(),?_,trivial,Nat.zero_le _⟩;simp_all [zB6,Ty.size,Nat.add_zero]
 |cons a b iha ihb =>
  refine⟨fun T zJ0 cs d ps hT=>by grind [zC3],fun fs o cs zJ0 xs hT hd h hl=>?_⟩;cases fs with
  |nil=>grind [zC3]
  |cons fd r =>
   simp only[zC3,Bool.and_eq_true] at hT;obtain⟨⟨⟨h1,_⟩,h2⟩,h3⟩:=hT;have ho:=Nat.eq_of_beq_eq_true h1;simp only[Ty.deep,Bool.and_eq_true] at hd;simp only[Ty.size] at hl;simp only[List.mapM_cons,Option.bind_eq_bind,Option.bind_eq_some_iff,Option.pure_def,Option.some.injEq] at h;obtain⟨y,hy,ys,hys,rfl⟩:=h;obtain⟨x,q1,q2,q5⟩:=iha.1 _ _ _ _ _ h2 hd.1 (show _=some (y.1,y.2) from hy);rw[zQ8 h2,ho] at q1;obtain⟨z,q3,q4,q6⟩:=ihb.2 r (o+a.size) cs zJ0 ys h3 hd.2 hys (by omega);refine⟨(x,z),?_,⟨q2,q4⟩,by simp only[Ty.bulk,List.map_cons];have:=K.cons y.1 (ys.map (·.1));omega⟩;simp only[zB6];refine⟨_,_,?_,q1,q3⟩;rw[← List.drop_drop,List.take_append_drop]
 |st f ih =>
  refine⟨fun T zJ0 cs d ps hT hd h=>?_,fun fs o cs zJ0 xs hT=>by grind [zC3]⟩;obtain⟨fs,hu,hf⟩:=zX8 hT;have hsz:=zQ8 hT;cases zJ0 with
  |zero=>simp[DataW.trod] at h
  |succ zJ0 =>
   unfold DataW.trod at h;rw[hu] at h;simp only at h;split at h
   ·rename_i hl;simp only[Option.map_eq_some_iff] at h;obtain⟨xs,hxs,he⟩:=h;obtain⟨x,h1,h2,h3⟩:=ih.2 fs.toList 0 cs zJ0 xs hf (by grind [Ty.deep]) hxs (by grind [Ty.size]);simp only[Prod.mk.injEq] at he;exact⟨x,by simpa only[zB6,List.drop_zero] using h1,h2,by rw[← he.1];have:=K.agg (xs.map (·.1));grind [Ty.bulk]⟩
   grind
 |arr n t ih =>
  refine⟨fun T zJ0 cs d ps hT hd h=>?_,fun fs o cs zJ0 xs hT=>by grind [zC3]⟩;obtain⟨e,hu,hf⟩:=zV0 hT;have hsz:=zQ8 hT;have hse:=zQ8 hf;cases zJ0 with
  |zero=>simp[DataW.trod] at h
  |succ zJ0 =>
   unfold DataW.trod at h;rw[hu] at h;simp only at h;split at h
   ·rename_i hl;simp only[Option.map_eq_some_iff] at h;obtain⟨xs,hxs,he⟩:=h;obtain⟨zs,h1,h2,h3,h4⟩:=xC0 (K:=K) (R:=zB6 χ w t) (g:=fun i=>(cs.drop (i*t.size)).take t.size) (wf:=t.wf) (bk:=t.bulk) hxs (fun i y _ hy=>by
     grind [Ty.deep])
    rw[wC6] at h2;simp only[List.length_range] at h1;rw[List.take_of_length_le (by grind [Ty.size])] at h2;simp only[Prod.mk.injEq] at he;exact⟨zs,by grind [zB6],⟨h1,h3⟩,by rw[← he.1];have:=K.agg (xs.map (·.1));grind [Ty.bulk]⟩
   grind
 |sl t ih =>
  refine⟨fun T zJ0 cs d ps hT hd h=>?_,fun fs o cs zJ0 xs hT=>by grind [zC3]⟩;obtain⟨e,hu,hf⟩:=zF8 hT;have hse:=zQ8 hf;cases zJ0 with
  |zero=>simp[DataW.trod] at h
  |succ zJ0 =>
   unfold DataW.trod at h;rw[hu] at h
   match cs,h with
   |[.slice none 0 0],h =>
    simp only[Option.some.injEq,Prod.mk.injEq] at h;exact⟨[],by simp_all [zB6],by simp[Ty.wf],by rw[← h.1];simpa[Ty.bulk] using K.nil'⟩
   |[.slice (some a) ln cap],h =>
    simp only at h;split at h
    ·rename_i hc;simp only[Option.bind_eq_some_iff] at h;obtain⟨els,hels,hrest⟩:=h;simp only[Option.map_eq_some_iff] at hrest;obtain⟨rest,_,he⟩:=hrest;simp only[Prod.mk.injEq] at he;rw[hse] at hels;obtain⟨zs,h1,h2,h3,hbk⟩:=xC0 (K:=K) (R:=zB6 χ w t) (g:=fun i=>(List.range t.size).map fun k=>(w.cell? (a.add (i*t.size+k))).getD undef) (wf:=t.wf) (bk:=t.bulk) hels (fun i y _ hy=>by
      simp only[Option.bind_eq_some_iff] at hy;obtain⟨cs',hcs,hy⟩:=hy;obtain⟨z,q1,q2,q3⟩:=ih.1 _ _ _ _ _ hf (by simp_all [Ty.deep,Bool.and_eq_true]) (show _=some (y.1,y.2) from hy)
      grind [cells?_is,wC7])
     rw[xR5 (f:=fun j=>(w.cell? (a.add j)).getD undef)] at h2;simp only[List.length_range] at h1;refine⟨zs,?_,by grind [Ty.wf],by rw[← he.1];have:=K.slice (els.map (·.1)) (rest.map (·.1));simp only[Ty.bulk];omega⟩;simp only[zB6];refine⟨some a,cap,by rw[h1],?_⟩;by_cases hz:zs=[]
     ·grind
     ·have hcell:∀ j,j<ln*t.size→∃ v,w.cell? (a.add j)=some v:=by
       intro j hj;have hpos:0<t.size:=by rcases Nat.eq_zero_or_pos t.size with h0|h0;rw[h0] at hj;simp at hj;exact h0
       have hi:j / t.size<ln:=Nat.div_lt_of_lt_mul (by rw[Nat.mul_comm];exact hj);have hmem:∀ i,i<ln→∃ y,(w.cells? 0 (a.add (i*t.size)) t.size).bind (DataW.trod enc P w 0 sp held zJ0 e)=some y:=by
        intro i hi;have key:∀ (l:List Nat) els,l.mapM (fun i=>(w.cells? 0 (a.add (i*t.size)) t.size).bind (DataW.trod enc P w 0 sp held zJ0 e))=some els→∀ i∈l,∃ y,(w.cells? 0 (a.add (i*t.size)) t.size).bind (DataW.trod enc P w 0 sp held zJ0 e)=some y:=by
         intro l
         induction l with
         |nil=>intro els _ i h;cases h
         |cons x l ihl =>
          intro els h i hi;simp only[List.mapM_cons,Option.bind_eq_bind,Option.bind_eq_some_iff,Option.pure_def,Option.some.injEq] at h;obtain⟨y,hy,ys,hys,rfl⟩:=h;rcases List.mem_cons.1 hi with rfl|hi
          ·exact⟨y,by simpa only[Option.bind_eq_some_iff] using hy⟩
          ·exact ihl ys hys i hi
        exact key _ _ hels i (List.mem_range.2 hi)
       obtain⟨y,hy⟩:=hmem _ hi;simp only[Option.bind_eq_some_iff] at hy;obtain⟨cs',hcs,_⟩:=hy;obtain⟨v,hv⟩:=(cells?_is hcs).2 (j % t.size) (Nat.mod_lt _ hpos)
       grind [wC7,Nat.div_add_mod']
      obtain⟨b,o,s⟩:=a;simp only[Ty.deep,Bool.and_eq_true] at hd;have hs1:0<t.size:=Nat.le_of_ble_eq_true hd.1;by_cases hs0:ln=0
      ·exact .inl (List.length_eq_zero_iff.1 (by omega))
      ·have hpos:0<ln*t.size:=Nat.mul_pos (by omega) (by omega);obtain⟨v,hv⟩:=hcell 0 hpos;have hsp:=(xC hv).1;have hsp:s=none:=by simpa[Addr.add] using hsp
       subst hsp;refine .inr ⟨b,o,_,rfl,by omega,h2,fun j v hj=>?_⟩;rw[List.getElem?_map] at hj;have hjl:j<ln*t.size:=by
        rcases Nat.lt_or_ge j (ln*t.size) with h' | h'
        ·exact h'
        ·rw[List.getElem?_eq_none (by simpa using h')] at hj;simp at hj
       obtain⟨v',hv'⟩:=hcell j hjl;rw[List.getElem?_range hjl] at hj;simp only[Option.map_some,Option.some.injEq] at hj;rw[hv'] at hj;simp only[Option.getD_some] at hj;subst hj;have e2:(⟨b,o,none⟩:Addr).add j=⟨b,o+j,none⟩:=by
        by_cases hj0:j=0
        ·subst hj0;simp[Addr.add]
        ·simp[Addr.add,hj0]
       rw[e2] at hv';exact⟨hv',hχ b (o+j) (xC hv').2⟩
    grind
 |ptr t _=>exact⟨fun T zJ0 cs d ps _ hd=>by simp[Ty.deep] at hd,fun fs o cs zJ0 xs _ hd=>by simp[Ty.deep] at hd⟩
def wD0:(i:Nat)→(τs:List Ty)→zB3 (enumSh i τs)→Nat
 |_,[],_=>0
 |i,τ::r,x=>τ.bulk x.1+wD0 (i+1) r x.2
theorem wD1 (K:BulkFn H){G:Gh}(hχ:∀ b o,b<w.heap.size→G.χ b o=0):∀ {τs:List Ty}{Ts:List TypeId}{vs:List Value}{ds:List (DataW H)}{ps:List MemPlace}{i base:Nat},yG7 P τs Ts=true →
  DataW.TrodAll enc P w 0 (fun _=>true) true Ts vs ds ps→(∀ (j:Nat) t v,Ts[j]?=some t→vs[j]?=some v→Value.okWide P w .any base t v) →
  ∃ x:zB3 (enumSh i τs),vs.length=τs.length∧wfL i τs x∧wD0 i τs x≤K.BA ds∧∀ (k:Nat) A v,(mkA i τs x)[k]?=some A→vs[k]?=some v→zA G w #[] (some (i+k)) A v:=by
 intro τs
 induction τs with
 |nil =>
  intro Ts vs ds ps i base ht h _;cases Ts with
  |cons T s=>grind [yG7]
  |nil =>
   cases vs with
   |nil=>exact⟨(),rfl,trivial,by simp[wD0],fun k A v h=>by grind⟩
   |cons v vs=>grind [DataW.TrodAll]
 |cons τ r ih =>
  intro Ts vs ds ps i base ht h hok;cases Ts with
  |nil=>grind [yG7]
  |cons T s =>
   cases vs with
   |nil=>grind [DataW.TrodAll]
   |cons v vs =>
    cases ds with
    |nil=>grind [DataW.TrodAll]
    |cons d ds =>
     simp[yG7,Bool.and_eq_true] at ht;obtain⟨⟨h1,h2⟩,h3⟩:=ht;obtain⟨p,q,⟨fl,hd⟩,hr,_⟩:=h;obtain⟨x,hx,hwf,hbk⟩:=(wD K hχ τ).1 T fl _ d p h1 h2 hd;obtain⟨y,hy1,hy2,hy4,hy3⟩:=ih (i:=i+1) h3 hr fun j t v ht hv=>hok (j+1) t v (by simpa using ht) (by grind);refine⟨(x,y),by grind,⟨hwf,hy2⟩,by simp only[wD0];have:=K.cons d ds;omega,fun k A u hA hu=>?_⟩;cases k with
     |zero =>
      simp[mkA] at hA hu;subst hA;subst hu;refine⟨_,hx,?_⟩;have hv:=hok 0 T v rfl rfl;cases ha:τ.isAgg with
      |true =>
       obtain⟨cs,rfl⟩:=wQ5 h1 ha hv;simp[Value.cells]
      |false =>
       have:=wN5 h1 ha h2 hv;cases v with
       |agg cs=>exact absurd rfl (this cs)
       |_=>rfl
     |succ k =>
      have:=hy3 k A u hA hu
      rwa [show i+1+k=i+(k+1) by omega] at this
theorem law_callsU (K:BulkFn H){N:Nat}{τs:List Ty}{Ts:List TypeId}{f:Nat}{ok:zB3 (enumSh 0 τs)→Prop}{F:zB3 (enumSh 0 τs)→Bool}{o:zB3 (enumSh 0 τs)→zW4 []}(hs:SpecOk P f (fnSpec (enumSh 0 τs) (.val .bool) [] ok F o))
  (hty:yG7 P τs Ts=true) (hn:Nat.ble τs.length zA4=true) (hlaw:∀ x,wfL 0 τs x→wD0 0 τs x≤N→ok x∧F x=true){args:Array Value}{ds:List (DataW H)}{ps:List MemPlace}{base:Nat}(hA:DataW.TrodAll enc P w 0 (fun _=>true) true Ts args.toList ds ps)
  (hok:∀ (j:Nat) t v,Ts[j]?=some t→args.toList[j]?=some v→Value.okWide P w .any base t v) (hN:K.BA ds≤N) (hglob:GlobOk (fun b _=>if b<w.heap.size then 0 else 2) w) :
  Calls P f args w fun e w'=>e=.returned (.bool true)∧Below w.heap.size w w':=by
 let G:Gh:=⟨fun b _=>if b<w.heap.size then 0 else 2,fun _=>0,fun _=>0⟩
 have hχ:∀ b o,b<w.heap.size→G.χ b o=0:=fun b o hb=>by grind
 obtain⟨x,h1,h2,h4,h3⟩:=wD1 K (G:=G) hχ (i:=0) hty hA hok;obtain⟨hokx,hFx⟩:=hlaw x h2 (Nat.le_trans h4 hN);have hlen:=xR6 (τs:=τs) (i:=0) (x:=x);have hn:τs.length≤zA4:=Nat.le_of_ble_eq_true hn;have hpar:zD9 (enumSh 0 τs) (yE5 0 (mkA 0 τs x))=some x:=wC9 (fun k=>by
  by_cases hk:k<τs.length
  ·have:=yO (s:=k) (args:=mkA 0 τs x) (i:=0) (by omega) (by omega) (by omega);simp_all
  grind) (xI0 hty)
 have hsp:fnSpec (enumSh 0 τs) (.val .bool) [] ok F o (mkA 0 τs x)=some ⟨[ok x],.val .bool (F x),[],[]⟩:=by
  unfold fnSpec;rw[hlen.1,hlen.2,Nat.beq_refl,cond_true,hpar];rfl
 have hcall:=hs.2 _ _ hsp (fun q hq=>by grind) G w args.toList (by rw[h1,hlen.1]) hglob (fun i A v hA hv=>by
  have:=h3 i A v hA hv;rw[Nat.zero_add] at this;exact yL7 (wQ6 hA) this)
 refine hcall.mono ?_;rintro e w' ⟨v,G',rfl,hfr,hres,_⟩;have hv:=(zC6 rfl).1 hres;simp[zB6] at hv;rw[hv,hFx];refine⟨rfl,hfr.os,hfr.tape,hfr.output,hfr.size,fun k hk=>hfr.block k hk fun o=>?_⟩
 grind
end
end Go.Am
namespace Go.Am
open Go Go.RowKit
variable {gtab:GlobTab}{P:Program}
theorem xI1 {χ:Nat→Nat→Nat}{w:World}:Frame0 χ w χ w:=⟨rfl,rfl,rfl,Nat.le_refl _,fun _ _ _=>rfl,fun _ _ _ _=>⟨rfl,rfl⟩⟩
theorem xR7 {f:Nat}{τ:Ty}{rs:Sh}{ok:τ.den→Prop}{F:τ.den→rs.den}{o:zB3 [(0,Sh.val τ)]→zW4 []}(hfn:∃ fn,P.funcs[f]?=some fn∧fn.body.isSome=true∧fn.name≠"runtime.NumGoroutine")
  (H:∀ x,ok x→∀ (G:Gh) (w:World) (v:Value),GlobOk G.χ w→zT2 G.χ w τ x v→Calls P f #[v] w fun e w'=>∃ u G',e=.returned u∧Frame0 G.χ w G'.χ w'∧zA G' w' #[] none (rs.mk (F x)) u) :
  SpecOk P f (fnSpec [(0,.val τ)] rs [] (fun x=>ok x.1) (fun x=>F x.1) o):=by
 refine⟨hfn,fun args co hsp hok G w vals hlen hglob hreps=>?_⟩;unfold fnSpec at hsp;generalize hal:Nat.beq args.length _=b at hsp;cases b with
 |false=>cases hsp
 |true =>
  simp only[cond_true] at hsp;split at hsp
  ·rename_i x hx;injection hsp with hsp
   subst hsp;have hl:args.length=1:=Nat.eq_of_beq_eq_true hal;obtain⟨A,rfl⟩:∃ A,args=[A]:=by
    match args,hl with
    |[A],_=>exact⟨A,rfl⟩
   obtain⟨v,rfl⟩:∃ v,vals=[v]:=by
    match vals,hlen with
    |[v],_=>exact⟨v,rfl⟩
   obtain⟨l,_⟩:=x;have hp:(Sh.val τ).parse A=some l:=by
    simp only[zD9,yE5,St.get] at hx;split at hx
    ·rename_i y z hy _;simp only[Option.some.injEq,Prod.mk.injEq] at hx;rw[← hx.1];simpa using hy
    ·cases hx
   have hA:=zE4 hp (hreps 0 A v rfl rfl).arep;simp only[Sh.mk,zA] at hA;refine (H l (hok _ (List.mem_singleton.2 rfl)) G w v hglob hA).mono ?_;rintro e w' ⟨u,G',rfl,q1,q2⟩;exact⟨u,G',rfl,q1,q2,(fun i k A' u h=>by cases h),fun k B h=>by cases h⟩
  ·cases hsp
theorem xR8 {f:Nat}{τ σ:Ty}{rs:Sh}{ok:τ.den→σ.den→Prop}{F:τ.den→σ.den→rs.den}{o:zB3 [(0,Sh.val τ),(1,Sh.val σ)]→zW4 []}(hfn:∃ fn,P.funcs[f]?=some fn∧fn.body.isSome=true∧fn.name≠"runtime.NumGoroutine")
  (H:∀ x y,ok x y→∀ (G:Gh) (w:World) (v u:Value),GlobOk G.χ w→zT2 G.χ w τ x v→zT2 G.χ w σ y u→Calls P f #[v,u] w fun e w'=>∃ r G',e=.returned r∧Frame0 G.χ w G'.χ w'∧zA G' w' #[] none (rs.mk (F x y)) r) :
  SpecOk P f (fnSpec [(0,.val τ),(1,.val σ)] rs [] (fun x=>ok x.1 x.2.1) (fun x=>F x.1 x.2.1) o):=by
 refine⟨hfn,fun args co hsp hok G w vals hlen hglob hreps=>?_⟩;unfold fnSpec at hsp;generalize hal:Nat.beq args.length _=b at hsp;cases b with
 |false=>cases hsp
 |true =>
  simp only[cond_true] at hsp;split at hsp
  ·rename_i x hx;injection hsp with hsp
   subst hsp;have hl:args.length=2:=Nat.eq_of_beq_eq_true hal;obtain⟨A,B,rfl⟩:∃ A B,args=[A,B]:=by
    match args,hl with
    |[A,B],_=>exact⟨A,B,rfl⟩
   obtain⟨v,u,rfl⟩:∃ v u,vals=[v,u]:=by
    match vals,hlen with
    |[v,u],_=>exact⟨v,u,rfl⟩
   obtain⟨l,m,_⟩:=x;have hp:(Sh.val τ).parse A=some l∧(Sh.val σ).parse B=some m:=by
    simp only[zD9,yE5,St.get] at hx;split at hx
    ·rename_i y z hy hz;simp only[Option.some.injEq,Prod.mk.injEq] at hx;split at hz
     ·rename_i y' z' hy' _;simp only[Option.some.injEq] at hz;rw[← hz] at hx;simp only[Prod.mk.injEq] at hx;rw[← hx.1,← hx.2.1];exact⟨by simpa using hy,by simpa[Nat.beq,zA4] using hy'⟩
     ·cases hz
    ·cases hx
   have hA:=zE4 hp.1 (hreps 0 A v rfl rfl).arep;have hB:=zE4 hp.2 (hreps 1 B u rfl rfl).arep;simp only[Sh.mk,zA] at hA hB;refine (H l m (hok _ (List.mem_singleton.2 rfl)) G w v u hglob hA hB).mono ?_;rintro e w' ⟨r,G',rfl,q1,q2⟩;exact⟨r,G',rfl,q1,q2,(fun i k A' u h=>by cases h),fun k B h=>by cases h⟩
  ·cases hsp
theorem wQ9 {f:Nat}{F:List UInt8→List UInt8→Int}{o:zB3 [(0,Sh.val .str),(1,Sh.val .str)]→zW4 []}(hfn:∃ fn,P.funcs[f]?=some fn∧fn.body.isSome=true∧fn.name≠"runtime.NumGoroutine")
  (H:∀ (s:ByteArray) (c:UInt8) (w:World),Calls P f #[.string s,.string ⟨#[c]⟩] w fun e w'=>e=.returned (.int .i64 (F s.data.toList [c]))∧w'=w) :
  SpecOk P f (fnSpec [(0,.val .str),(1,.val .str)] (.val (.int .i64)) [] (fun x=>List.length x.2.1=1) (fun x=>F x.1 x.2.1) o):=by
 refine xR8 (τ:=.str) (σ:=.str) (rs:=.val (.int .i64)) (ok:=fun _ y=>List.length y=1) (F:=F) hfn fun x y hy G w v u _ hv hu=>?_;rw[zC6 rfl] at hv hu;simp only[zB6] at hv hu;injection hv with hv _
 injection hu with hu _
 match y,hy with
 |[c],_ =>
  subst hv hu;refine (H ⟨List.toArray x⟩ c w).mono ?_;rintro e w' ⟨rfl,rfl⟩;refine⟨_,G,rfl,xI1,?_⟩;simp only[Sh.mk,zA];rw[zC6 rfl];simp[zB6]
theorem wD2 {χ:Nat→Nat→Nat}{w:World}:∀ {l:List (List UInt8)},zM5 (zB6 χ w .str) l (l.map fun x=>Value.string ⟨x.toArray⟩):=by
 intro l
 induction l with
 |nil=>simp[zM5]
 |cons x l ih=>exact⟨[.string ⟨x.toArray⟩],_,rfl,by simp only[zB6],ih⟩
theorem wD3 {χ:Nat→Nat→Nat}{w:World}{k:IntKind}:∀ {l:List Int}{vs:List Value},zM5 (zB6 χ w (.int k)) l vs→vs=l.map (Value.int k):=by
 intro l
 induction l with
 |nil=>intro vs h;simpa[zM5] using h
 |cons x l ih =>
  rintro vs ⟨us,ws,rfl,h1,h2⟩;simp only[zB6] at h1;rw[h1,ih h2];rfl
theorem wR9 {χ:Nat→Nat→Nat}{w:World}(h:GlobOk χ w){g n:Nat}{k:IntKind}{l:List Int}(hm:(g,(⟨.arr n (.int k),l⟩:(τ:Ty)×τ.den))∈GlobTab.tab)(c:Nat)(hc:c<n):w.cell? ⟨g,c,none⟩=some (.int k (l.getD c 0)):=by
 obtain⟨vs,h1,h2⟩:=h g (.arr n (.int k)) l hm;unfold zB6 at h1;obtain⟨h1,h3⟩:=h1;have e:=wD3 h3;subst e;have hlen:List.length (α:=Int) l=n:=h1;have:=(h2 c (.int k (l.getD c 0)) (by
  rw[List.getElem?_map,List.getElem?_eq_getElem (by omega),List.getD_eq_getElem?_getD,List.getElem?_eq_getElem (by omega)];rfl)).1
 simpa using this
theorem wR {f:Nat}{F:List UInt8→List (List UInt8)}{e:TypeId}{ok:List UInt8→Prop}{o:zB3 [(0,Sh.val .str)]→zW4 []}(hfn:∃ fn,P.funcs[f]?=some fn∧fn.body.isSome=true∧fn.name≠"runtime.NumGoroutine")
  (H:∀ (s:ByteArray) (w:World) (χ:Nat→Nat→Nat),ok s.data.toList→GlobOk χ w→Calls P f #[.string s] w fun e' w'=>e'=.returned (.slice (some ⟨w.heap.size,0,none⟩) (F s.data.toList).length (F s.data.toList).length) ∧
   w'=w.alloc (.cells ((F s.data.toList).map fun l=>Value.string ⟨l.toArray⟩).toArray e)) :
  SpecOk P f (fnSpec [(0,.val .str)] (.val (.sl .str)) [] (fun x=>ok x.1) (fun x=>F x.1) o):=by
 refine xR7 (τ:=.str) (rs:=.val (.sl .str)) (ok:=ok) (F:=F) hfn fun x hx G w v hglob hv=>?_;rw[zC6 rfl] at hv;simp only[zB6] at hv;injection hv with hv _
 subst hv;refine (H ⟨List.toArray x⟩ w G.χ (by simpa using hx) hglob).mono ?_;rintro e' w' ⟨rfl,rfl⟩
 let G':Gh:={ G with χ:=fun b o=>if b=w.heap.size then 0 else G.χ b o }
 refine⟨_,G',rfl,⟨rfl,rfl,rfl,by simp,fun b hb _=>Below.heap_alloc _ _ _ hb,fun b o hb _=>⟨if_neg (by omega),World.cell?_alloc_old _ _ _ (by simp only;omega)⟩⟩,?_⟩;simp only[Sh.mk,zA];rw[zC6 rfl];unfold zB6;refine⟨_,_,rfl,.inr ⟨w.heap.size,0,_,rfl,Nat.le_refl _,wD2,fun j v hv=>⟨?_,if_pos rfl⟩⟩⟩;simp only[World.cell?,World.alloc_heap_new,Nat.zero_add];simpa using hv
end Go.Am
namespace Go.Am
open Go Go.RowKit
variable {gtab:GlobTab}{P:Program}{c:Ctx}
def wD4:Code→Option Code
 |.seq a b=>match wD4 a with|some x=>some x|none=>wD4 b
 |.block _ a=>wD4 a
 |.rangeFunc _ _ _ b=>some b
 |_=>none
def wL3 [GlobTab] (c:Ctx)(code:Code)(S:St):Bool:=match eval c code S with
 |some o=>o.comps.all fun x=>Nat.beq x.kind 0
 |none=>false
def wN6 [GlobTab] (P:Program)(c:Ctx)(code:Code)(ps os:List (Nat×Sh))(ok:zB3 ps→Prop)(o:zB3 ps→zW4 os):Prop:=
 ∀ x,ok x→∀ (rd:Option Nat) (χ0:Nat→Nat→Nat) (w0:World) (a:Act) (w:World) (G:Gh),Rel c.n χ0 w0 (zB5 ps x) a w G →
  code.wpIn (fz rd) 0 P (fun e a' w'=>e=.normal∧(∀ i∈c.keep,a'.tmps.getD i undef=a.tmps.getD i undef) ∧
   ∃ G' d,Rel c.n χ0 w0 (d++zB5 ps x) a' w' G'∧zK0 os (d++zB5 ps x)=some (o x)) a w
theorem wR0 (hc:CtxOk P c)(hm:P.follows .mixedOrders=true){code:Code}{bs:List Code}(hbs:zH4 code=bs)(hL:zP P c bs)(hw:zC9 c.keep code=true){ps os:List (Nat×Sh)}{ok:zB3 ps→Prop}{rs:Sh}{F:zB3 ps→rs.den}{o:zB3 ps→zW4 os}
  (hon:∀ x,wL3 c code (zB5 ps x)=true) (hsum:∀ x,xH7 c code [] ps rs os x=some (ok x,F x,o x)):wN6 P c code ps os ok o:=by
 intro x hx rd χ0 w0 a w G hR;have h:=hsum x;have hon:=hon x;unfold xH7 at h;unfold wL3 at hon;split at h
 ·cases h
 ·rename_i out ho;rw[ho] at hon;simp only at hon;split at h
  ·cases h
  ·rename_i d hd;split at h
   ·rename_i r z hr hz;split at h
    ·rename_i v hv;simp only[Option.some.injEq,Prod.mk.injEq] at h;obtain⟨e1,_,rfl⟩:=h;refine wpIn_mono (zQ7 hc hm (yO0 hbs hL) hw ho (AllP_iff.1 (by rw[e1];exact hx)) rd χ0 w0 (fun i=>a.tmps.getD i undef) a w G hR (fun i _=>rfl)) ?_;rintro e a' w' ⟨hP,hk⟩;obtain⟨_,G',hR'⟩:=yV2 hd hP;refine⟨?_,hk,G',d,hR',hz⟩;obtain⟨k,cp,G2,h1,h2,_⟩:=hP;have:=List.all_eq_true.1 hon cp (xB8 h2);rw[zQ6 h2] at this;have:=Nat.eq_of_beq_eq_true this;subst this;cases e with
     |normal=>rfl
     |ret=>simp[zB0] at h1
     |exit id=>simp[zB0] at h1
     |_=>simp[zB0] at h1
    ·cases h
   ·cases h
end Go.Am
namespace Go.Am
open Go Go.RowKit
variable {gtab:GlobTab}{P:Program}{c:Ctx}
def wD5 {α β:Type}(ok:β→α→Prop)(next:β→α→β):List α→β→Prop
 |[],_=>True
 |x::r,l=>ok l x∧wD5 ok next r (next l x)
def wD6 {α β:Type}{ok:β→α→Prop}{next:β→α→β}(h:∀ l x,Decidable (ok l x)):(xs:List α)→(l:β)→Decidable (wD5 ok next xs l)
 |[],_=>isTrue trivial
 |x::r,l=>@instDecidableAnd _ _ (h l x) (wD6 h r (next l x))
theorem wR1 {α β:Type}{ok:β→α→Prop}{next:β→α→β}:∀ {pre:List α}{x:α}{rest:List α}{l:β},wD5 ok next (pre++x::rest) l→ok (pre.foldl next l) x:=by
 intro pre
 induction pre with
 |nil=>intro x rest l h;exact h.1
 |cons y pre ih=>intro x rest l h;exact ih h.2
theorem wD7:∀ (A:AVal) (s:Option Nat),¬ A.names (·=1) (fun _=>False) s:=by
 intro A
 induction A with
 |own t l T m=>intro s;simp only[AVal.names,zA9];omega
 |ownh t l T i U m=>intro s;simp only[AVal.names,zA9];omega
 |opt _ _ _ A ih=>intro s;simp only[AVal.names];exact ih none
 |box τ b ih =>
  intro s;cases s with
  |none=>simp only[AVal.names];exact ih none
  |some s=>simp only[AVal.names,not_or];exact⟨by simp only[zD8];omega,ih none⟩
 |may m τ b ih =>
  intro s;cases s with
  |none=>simp only[AVal.names];exact ih none
  |some s=>simp only[AVal.names,not_or];exact⟨by simp only[zD8];omega,ih none⟩
 |cons x y ihx ihy=>intro s;simp only[AVal.names,not_or];exact⟨ihx none,ihy none⟩
 |agg f b ih=>intro s;simp only[AVal.names];exact ih none
 |tup b ih=>intro s;simp only[AVal.names];exact ih none
 |fn f b ih=>intro s;simp only[AVal.names];exact ih none
 |raw =>
  intro s;cases s with
  |none=>simp[AVal.names]
  |some s=>simp only[AVal.names,zD8];omega
 |bld T e U l =>
  intro s;cases s with
  |none=>simp only[AVal.names,zA9];omega
  |some s=>simp only[AVal.names,zD8,zA9];omega
 |_=>intro s;simp[AVal.names]
theorem xI2 {G:Gh}{W W':World}{b:Nat}(hχ:∀ o,G.χ b o=1)(h:∀ k,k≠b→W'.heap[k]?=W.heap[k]?)(hs:W.heap.size≤W'.heap.size):Ext (·=1) (fun _=>False) G W G W':=by
 refine⟨fun b' o _ h0=>⟨h0,?_⟩,fun b' _ hn=>⟨h b' ?_,fun _=>rfl⟩,hs,fun _ _=>rfl,fun _ _=>rfl,fun _ h=>h.elim⟩
 ·have hne:b'≠b:=by intro e;subst e;rw[hχ o] at h0;cases h0
  simp only[World.cell?,h b' hne]
 ·intro e;subst e;exact hn 0 (hχ 0)
theorem Frame0.trans {χ0 χ1 χ2:Nat→Nat→Nat}{w0 w1 w2:World}(h:Frame0 χ0 w0 χ1 w1)(k:Frame0 χ1 w1 χ2 w2):Frame0 χ0 w0 χ2 w2:=by
 refine⟨k.os.trans h.os,k.tape.trans h.tape,k.output.trans h.output,Nat.le_trans h.size k.size,fun b hb hc=>?_,fun b o hb hc=>?_⟩
 ·rw[k.block b (Nat.lt_of_lt_of_le hb h.size) (fun o=>by rw[(h.cell b o hb (hc o)).1];exact hc o)];exact h.block b hb hc
 ·have h1:=h.cell b o hb hc;have h2:=k.cell b o (Nat.lt_of_lt_of_le hb h.size) (by rw[h1.1];exact hc);exact⟨h2.1.trans h1.1,h2.2.trans h1.2⟩
theorem Frame0.beyond {χ0 χ:Nat→Nat→Nat}{w0 W W':World}{b:Nat}(h:Frame0 χ0 w0 χ W)(hb:w0.heap.size≤b)(hW:∀ k,k≠b→W'.heap[k]?=W.heap[k]?)(hs:W'.heap.size=W.heap.size)(hst:W'.os=W.os∧W'.tape=W.tape∧W'.output=W.output) :
  Frame0 χ0 w0 χ W':=by
 refine⟨hst.1.trans h.os,hst.2.1.trans h.tape,hst.2.2.trans h.output,by rw[hs];exact h.size,fun k hk hc=>?_,fun k o hk hc=>?_⟩
 ·rw[hW k (by omega)];exact h.block k hk hc
 ·have h1:=h.cell k o hk hc;refine⟨h1.1,?_⟩;rw[← h1.2];simp only[World.cell?,hW k (show k≠b by omega)]
structure JB [GlobTab] (χ0:Nat→Nat→Nat) (w0:World) (lo hi:Nat) (E:List (Nat×Nat×AVal)) (G:Gh) (W:World):Prop where
 frame:Frame0 χ0 w0 G.χ W
 glob:GlobOk G.χ W
 reps:∀ e∈E,zA G W #[] (some e.1) e.2.2 (.pointer (some ⟨e.2.1,0,none⟩))
 own:∀ b,lo≤b→b≤hi→∀ o,G.χ b o=1
 size:hi<W.heap.size
 low:w0.heap.size≤lo
theorem JB.foreign {χ0:Nat→Nat→Nat}{w0:World}{lo hi:Nat}{E:List (Nat×Nat×AVal)}{G:Gh}{W W':World}{b:Nat}(h:JB χ0 w0 lo hi E G W)(hl:lo≤b)(hh:b≤hi)(hW:∀ k,k≠b→W'.heap[k]?=W.heap[k]?)(hs:W'.heap.size=W.heap.size)
  (hst:W'.os=W.os∧W'.tape=W.tape∧W'.output=W.output):JB χ0 w0 lo hi E G W':=by
 have hx:=xI2 (h.own b hl hh) hW (Nat.le_of_eq hs.symm);have hlow:=h.low;refine⟨h.frame.beyond (Nat.le_trans hlow hl) hW hs hst,zI5 hx.prot h.glob,fun e he=>zV hx (by decide) _ (wD7 _ _) (h.reps e he),h.own,by rw[hs];exact h.size,hlow⟩
theorem JB.setCell {χ0:Nat→Nat→Nat}{w0:World}{lo hi:Nat}{E:List (Nat×Nat×AVal)}{G:Gh}{W:World}{b:Nat}(h:JB χ0 w0 lo hi E G W)(hl:lo≤b)(hh:b≤hi)(v:Value):JB χ0 w0 lo hi E G (W.setCell ⟨b,0,none⟩ v):=
 h.foreign hl hh (fun k hk=>Below.heap_setCell W ⟨b,0,none⟩ v k hk) (by simp[World.setCell]) ⟨rfl,rfl,rfl⟩
theorem JB.putObj {χ0:Nat→Nat→Nat}{w0:World}{lo hi:Nat}{E:List (Nat×Nat×AVal)}{G:Gh}{W:World}{b:Nat}(h:JB χ0 w0 lo hi E G W)(hl:lo≤b)(hh:b≤hi)(o:Obj):JB χ0 w0 lo hi E G (W.putObj b o):=
 h.foreign hl hh (fun k hk=>World.putObj_heap_other hk) (by simp[World.putObj]) ⟨rfl,rfl,rfl⟩
theorem JB.step {χ0:Nat→Nat→Nat}{w0:World}{lo hi:Nat}{E E':List (Nat×Nat×AVal)}{G G':Gh}{W W':World}(h:JB χ0 w0 lo hi E G W)(hf:Frame0 G.χ W G'.χ W')(hg:GlobOk G'.χ W')(hr:∀ e∈E',zA G' W' #[] (some e.1) e.2.2 (.pointer (some ⟨e.2.1,0,none⟩))) :
  JB χ0 w0 lo hi E' G' W'∧∀ b,lo≤b→b≤hi→W'.heap[b]?=W.heap[b]?:=by
 have hsz:=h.size;refine⟨⟨h.frame.trans hf,hg,hr,fun b hl hh o=>?_,Nat.lt_of_lt_of_le hsz hf.size,h.low⟩,fun b hl hh=>hf.block b (by omega) (fun o=>by rw[h.own b hl hh o];exact Nat.le_refl _)⟩;rw[(hf.cell b o (by omega) (by rw[h.own b hl hh o];exact Nat.le_refl _)).1];exact h.own b hl hh o
theorem wO5 {f:Nat}{τ σ υ ω:Ty}{rs:Sh}{ok:τ.den→σ.den→υ.den→ω.den→Prop}{F:τ.den→σ.den→υ.den→ω.den→rs.den}{o:zB3 [(0,Sh.val τ),(1,Sh.val σ),(2,Sh.val υ),(3,Sh.val ω)]→zW4 []}(hfn:∃ fn,P.funcs[f]?=some fn∧fn.body.isSome=true∧fn.name≠"runtime.NumGoroutine")
  (H:∀ x y z u,ok x y z u→∀ (G:Gh) (w:World) (v1 v2 v3 v4:Value),GlobOk G.χ w→zT2 G.χ w τ x v1→zT2 G.χ w σ y v2→zT2 G.χ w υ z v3→zT2 G.χ w ω u v4→Calls P f #[v1,v2,v3,v4] w fun e w'=>∃ r G',e=.returned r∧Frame0 G.χ w G'.χ w'∧zA G' w' #[] none (rs.mk (F x y z u)) r) :
  SpecOk P f (fnSpec [(0,.val τ),(1,.val σ),(2,.val υ),(3,.val ω)] rs [] (fun x=>ok x.1 x.2.1 x.2.2.1 x.2.2.2.1) (fun x=>F x.1 x.2.1 x.2.2.1 x.2.2.2.1) o):=by
 refine⟨hfn,fun args co hsp hok G w vals hlen hglob hreps=>?_⟩;unfold fnSpec at hsp;generalize hal:Nat.beq args.length _=b at hsp;cases b with
 |false=>cases hsp
 |true =>
  simp only[cond_true] at hsp;split at hsp
  ·rename_i x hx;injection hsp with hsp
   subst hsp;have hl:args.length=4:=Nat.eq_of_beq_eq_true hal;obtain⟨A,B,C,D,rfl⟩:∃ A B C D,args=[A,B,C,D]:=by
    match args,hl with
    |[A,B,C,D],_=>exact⟨A,B,C,D,rfl⟩
   obtain⟨v1,v2,v3,v4,rfl⟩:∃ v1 v2 v3 v4,vals=[v1,v2,v3,v4]:=by
    match vals,hlen with
    |[v1,v2,v3,v4],_=>exact⟨v1,v2,v3,v4,rfl⟩
   have hp:∀ (k:Nat) (i:Nat) (s:Sh),[(0,Sh.val τ),(1,Sh.val σ),(2,Sh.val υ),(3,Sh.val ω)][k]?=some (i,s)→∃ y,s.parse (St.get (yE5 0 [A,B,C,D]) i)=some y:=fun k i s h=>yE6 hx h;obtain⟨x1,x2,x3,x4,_⟩:=x;simp only[zD9] at hx;have hg:∀ i,St.get (yE5 0 [A,B,C,D]) i=[A,B,C,D].getD i .junk:=by
    intro i;simp only[yE5,St.get]
    match i with
    |0=>simp
    |1=>simp[zA4,Nat.beq]
    |2=>simp[zA4,Nat.beq]
    |3=>simp[zA4,Nat.beq]
    |k+4=>simp[zA4,Nat.beq]
   simp only[hg,List.getD_cons_zero,List.getD_cons_succ] at hx;generalize h1:(Sh.val τ).parse A=o1 at hx;generalize h2:(Sh.val σ).parse B=o2 at hx;generalize h3:(Sh.val υ).parse C=o3 at hx;generalize h4:(Sh.val ω).parse D=o4 at hx;cases o1<;>cases o2<;>cases o3<;>cases o4<;>simp at hx;obtain⟨rfl,rfl,rfl,rfl⟩:=hx;have hA:=zE4 h1 (hreps 0 A v1 rfl rfl).arep;have hB:=zE4 h2 (hreps 1 B v2 rfl rfl).arep;have hC:=zE4 h3 (hreps 2 C v3 rfl rfl).arep;have hD:=zE4 h4 (hreps 3 D v4 rfl rfl).arep;simp only[Sh.mk,zA] at hA hB hC hD;refine (H _ _ _ _ (hok _ (List.mem_singleton.2 rfl)) G w v1 v2 v3 v4 hglob hA hB hC hD).mono ?_;rintro e w' ⟨r,G',rfl,q1,q2⟩;exact⟨r,G',rfl,q1,q2,(fun i k A' u h=>by cases h),fun k B h=>by cases h⟩
  ·cases hsp
end Go.Am
