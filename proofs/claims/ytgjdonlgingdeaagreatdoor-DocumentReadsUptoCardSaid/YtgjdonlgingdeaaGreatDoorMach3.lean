/- The abstract machine, part 3: a typed interpreter for the program's code, and that it is sound. No condition. -/
import Derived.Test.YtgjdonlgingdeaaGreatDoorMach2
import Derived.Orders
namespace Go.Am
open Go Go.RowKit
open Go.Region (binds ready wanted)
open Go.World (cell?)
open _root_.Bool (false_eq_true or_eq_true)
open _root_.List (all_eq_true any_cons any_eq_false any_eq_true append_assoc append_nil getD length map_congr_left map_cons map_map map_nil mem_append mem_append_left mem_append_right mem_cons mem_map range)
open _root_.Nat (blt le_of_not_lt zero_add)
variable {rd:Option Nat}{gtab:GlobTab}{P:Program}{c:Ctx}{G:Gh}{w:World}{tm:Array Value}{n:Nat}{χ0:Nat->Nat->Nat}{w0:World}{S:St}{a:Act}
theorem yG4:∀(A:AVal) (s:Option Nat),¬A.names (λ_=>False) (λ_=>False) s:=by
 intro A
 induction A with
 |opt _ _ _ A C=>grind [AVal.names]
 |box τ a C=>intro s;cases s<;>simp[AVal.names]<;>exact C none
 |cons a b gz gu=>grind [AVal.names]
 |agg f a C=>grind [AVal.names]
 |tup a C=>grind [AVal.names]
 |fn f a C=>grind [AVal.names]
 |raw=>intro s;cases s<;>simp[AVal.names]
 |_=>grind [AVal.names]
variable {U:Nat}
theorem yZ8(I:Rel n χ0 w0 S a w G)(hn:n<=BN)(C:∀e∈CS U (AVal.lose U) S S,e.1<n):Rel n χ0 w0 (CS U (AVal.lose U) S S++S) a w G:=by
 refine zY3 (U:=U) (X:=λ_=>False) (Y:=λ_=>False) (Bad:=λ_=>False) I hn (Ext.refl _ G w) id I.frame ?_ (λT h=>h.elim) (λs _=>yG4 _ _) C;refine⟨λb o _ h=>⟨h,rfl⟩,λs=>rfl,λs kg C=>⟨rfl,kg⟩,λt l T m v J R hf=>?_,λt l T m v J R tm=>?_,λs T t i p v J tm ha=>?_⟩
 ·cases hb:Nat.beq U T with
  |true =>
   simp  at hf ⊢;cases m with
   |true=>grind [AVal.fitsT]
   |false=>simp only[jD,AB];exact⟨trivial,rfl,Gf R⟩
  |false=>grind [AB]
 all_goals grind [Nat.beq,zA,KS,Gf]
variable {hb:List (Nat×Nat)}
theorem yV0{HT KT:List (Nat×Nat)}:∀{A:AVal}{os:Option Nat},(∀T,(T∈HT.map (·.1)\/T∈KT.map (·.2))->A.hasTag T=false)->(∀s,os=some s->s∉hb.map (·.1)) ->
  ¬A.names (λx=>(∃y,(x,y)∈E7 hb HT)\/∃U,U∈KT.map (·.2)/\x=AJ U) (λx=>∃U,U∈KT.map (·.2)/\x=AJ U) os:=by
 intro A
 induction A with
 |own t l T m =>
  intro os ht _;rintro (⟨y,R⟩ | ⟨U,J,e⟩)
  ·obtain⟨U,_,hm⟩:=cols_arr.1 R;have:=ht T (.inl (mem_map.2 ⟨_,hm,rfl⟩));simp_all [AVal.hasTag]
  ·have:=CJ e;subst this;have:=ht T (.inr J);simp_all [AVal.hasTag]
 |eref s T t i p =>
  intro os ht _;rintro⟨U,J,e⟩;have:=CJ e;subst this;have:=ht T (.inr J);simp_all [AVal.hasTag]
 |ref s τ p=>grind [AVal.names,CI]
 |opt _ _ _ A I=>intro os ht _;exact I ht (λs e=>by grind)
 |box τ b I =>
  intro os ht hs;cases os with
  |none=>exact I ht (λs e=>by grind)
  |some s =>
   simp only[AVal.names,not_or];refine⟨⟨?_,?_⟩,I ht (λs e=>by grind)⟩
   all_goals grind [cols_box,CI]
 |cons x y kM kH =>
  grind [AVal.names,AVal.hasTag]
 |agg f b I=>intro os ht _;exact I ht (λs e=>by grind)
 |tup b I=>intro os ht _;exact I ht (λs e=>by grind)
 |fn f b I=>intro os ht _;exact I ht (λs e=>by grind)
 |raw =>
  intro os ht hs;cases os<;>grind [AVal.names,cols_box,CI]
 |ownh t l T i V m =>
  intro os ht _;have key:∀K,(∀T',(T'∈HT.map (·.1)\/T'∈KT.map (·.2))->Nat.beq T' K=false)->¬((∃y,(AJ K,y)∈E7 hb HT)\/∃U,U∈KT.map (·.2)/\AJ K=AJ U):=by
   intro K hK;rintro (⟨y,R⟩ | ⟨U,J,e⟩)
   ·obtain⟨U,_,hm⟩:=cols_arr.1 R;have:=hK K (.inl (mem_map.2 ⟨_,hm,rfl⟩));simp_all
   ·have:=CJ e;subst this;have:=hK K (.inr J);simp_all
  simp[AVal.names];have nt:=λT' C=>ht T' C;simp only[AVal.hasTag,jJ] at nt;have k1:=key T λT' C=>(nt T' C).1;have k2:=key V λT' C=>(nt T' C).2
  grind
 |rref s=>grind [AVal.names,CI]
 |fptr f caps=>grind [AVal.names,CI]
 |_=>grind [AVal.names]
variable {wants:List Nat}
theorem xS:∀{ys ks:List AVal}{i j:Nat}{Y k:AVal},ys[j]?=some Y->ks[j]?=some k->(KP hb wants i ys ks)[j]?=some (ED hb wants (i+j) Y k):=by
 intro ys
 induction ys with
 |nil=>grind
 |cons y r C =>
  intro ks i j Y k I J;cases ks with
  |nil=>grind
  |cons q s =>
   simp only[KP];cases j<;>grind
theorem yA2:∀{ys ks:List AVal}{i:Nat},ys.length=ks.length->(KP hb wants i ys ks).length=ys.length:=by
 intro ys
 induction ys with
 |nil=>grind [KP]
 |cons y r C=>intro ks i h;cases ks<;>grind [KP,List.length_cons]
theorem xE1{p:Nat×Nat}:∀{ys ks:List AVal}{i j:Nat}{Y k:AVal},ys[j]?=some Y->ks[j]?=some k->p∈Nd wants (i+j) Y k->p∈Nf wants i ys ks:=by
 intro ys
 induction ys with
 |nil=>grind
 |cons y r C =>
  intro ks i j Y k I J R;cases ks with
  |nil=>grind
  |cons q s =>
   simp[Nf];cases j with
   |zero=>grind
   |succ j=>exact .inr (C (i:=i+1) I J (by grind))
theorem yJ5{p:Nat×Nat}:∀{ys:List AVal}{i j:Nat}{Y:AVal},ys[j]?=some Y->p∈GC (i+j) Y->p∈IK i ys:=by
 intro ys
 induction ys with
 |nil=>grind
 |cons y r C =>
  intro i j Y I J;simp[IK];cases j with
  |zero=>grind
  |succ j=>exact .inr (C (i:=i+1) I (by grind))
variable {s:Nat}
theorem yG5{k:Nat}:∀{ys:List AVal}{i:Nat},(s,k)∈IK i ys->i<=k/\∃τ,ys[k-i]?=some (.ref s τ []):=by
 intro ys
 induction ys with
 |nil=>grind [IK]
 |cons y r C =>
  intro i h;simp[IK] at h;rcases h with h|h
  ·cases y with
   |ref I τ p =>
    cases p<;>simp_all [GC]
   |_=>grind [GC]
  grind
variable {ys:List AVal}
theorem xE2:EV (zQ (IK 0 ys)):=by
 intro a b J C I;obtain⟨_,τ,e1⟩:=yG5 (mem_swap.1 C);obtain⟨_,τ',R⟩:=yG5 (mem_swap.1 I)
 grind
theorem xL1:∀{outs:List (Nat×AVal)}{u:St}{bs:List Bor}{K:List (Nat×Nat)},Wh ys outs=some (u,bs,K) ->
  (∀i k,(i,k)∈outs->∃Y u' bs' K',ys[i]?=some Y/\xV Y i k=some (u',bs',K')/\∀e∈u',e∈u) /\
  (∀e∈u,∃i k Y u' bs' K',(i,k)∈outs/\ys[i]?=some Y/\xV Y i k=some (u',bs',K')/\e∈u'/\∀p∈K',p∈K) /\
  (∀b∈bs,∃i k Y u' bs' K',(i,k)∈outs/\ys[i]?=some Y/\xV Y i k=some (u',bs',K')/\b∈bs'/\∀p∈K',p∈K):=by
 intro outs
 induction outs with
 |nil=>grind [Wh]
 |cons q r I =>
  intro u bs K h;obtain⟨i,k⟩:=q;simp only[Wh] at h;split at h
  ·rename_i Y u2 bs2 K2 J R;split at h
   ·rename_i u' bs' K' ho;obtain⟨rfl,rfl,rfl⟩:=h;obtain⟨g1,g2,g3⟩:=I R;refine⟨?_,?_,?_⟩
    ·grind
    ·intro e he;rcases mem_append.1 he with he|he
     ·exact⟨i,k,Y,u',bs',K',by simp,J,ho,he,λp C=>mem_append_left _ C⟩
     ·obtain⟨i',k',Y',u3,bs3,K3,q1,q2,q3,q4,q5⟩:=g2 e he;exact⟨i',k',Y',u3,bs3,K3,by simp[q1],q2,q3,q4,λp C=>mem_append_right _ (q5 p C)⟩
    grind
   grind
  grind
theorem yZ9:∀{A:AVal}{τ:Ty}{vs:List Value},AB G w τ A vs->vs.length=τ.size:=by
 intro A
 induction A with
 |val τ' x=>intro τ vs h;obtain⟨rfl,_,h⟩:=h;exact CM h
 |nil=>intro τ vs h;obtain⟨C,rfl⟩:=h;cases τ<;>simp[Ty.isSl] at C;simp[Ty.size]
 |own t l T m=>intro τ vs h;obtain⟨rfl,v,rfl,_⟩:=h;simp[Ty.size]
 |agg f b I=>grind [AB,Ty.size]
 |nl=>grind [AB,Ty.size]
 |junk=>grind [zB]
 |cons x y kM kH=>grind [AB,Ty.size]
 |_=>grind [AB]
def WA (G:Gh)(w:World)(G':Gh)(w':World)(b:Bor):Prop:=0<b.t.size/\∃u m,BS G w b.t b.l b.U m u/\BS G' w' b.t b.l' b.T b.m u
variable {t:Ty}{k:AVal}{bs:List Bor}{G':Gh}{w':World}
theorem xA{l:List t.den}{m:Bool}{u:Value}(h:zH (.own t l U m) k=some bs)(R:BS G w t l U m u)
  (h2:∀t' l' T I,k=.own t' l' T I->BS G' w' t' l' T I u):∀b∈bs,WA G w G' w' b:=by
 simp only[zH] at h;split at h
 ·split at h
  ·rename_i l2 C;cases J:blt 0 t.size with
   |false=>grind
   |true =>
    simp[J] at h;subst h;intro b hb;simp  at hb;subst hb;obtain⟨e,C⟩:=E2 C;injection e with e
    subst e;subst C;exact⟨jR J,u,m,R,h2 _ _ _ _ rfl⟩
  grind
 grind
theorem xL3:∀{A k:AVal}{τ:Ty}{vs:List Value}{bs:List Bor},zH A k=some bs->AB G w τ A vs->AB G' w' τ k vs->∀b∈bs,WA G w G' w' b:=by
 intro A
 induction A with
 |own t l U m =>
  grind [xA,AB]
 |agg f d ih =>
  intro k τ vs bs h I J;simp only[zH] at h
  grind [Ty.beq,AB]
 |cons x y kM kH =>
  intro k τ vs bs h I J;simp only[zH] at h;split at h
  ·split at h
   ·obtain⟨h0,t0,us,ws,rfl,rfl,g1,g2⟩:=I;obtain⟨R,t0',us',ws',e,e2,C,g2'⟩:=J;injection e with e3 e4
    subst e3;subst e4;obtain⟨rfl,rfl⟩:=List.append_inj e2 (by rw[yZ9 g1,yZ9 C])
    grind
   grind
  grind
 |val _ _=>grind [zH,jA]
 |nil=>grind [zH,jA]
 |nl=>grind [zH,jA]
 |_=>grind [zH]
theorem yG6 {G':Gh}{w':World}{tm':Array Value}{A k:AVal}{v:Value}{bs:List Bor}(h:zH A k=some bs)(R:zA G w tm none A v)(h2:zA G' w' tm' none k v):∀b∈bs,WA G w G' w' b:=by
 cases A with
 |own t l U m=>grind [zA,xA]
 |agg f d =>
  simp only[zH] at h
  grind [Ty.beq,Ty.eq_of_beq,zA,Value.agg.injEq,xL3]
 |cons x y =>
  simp only[zH] at h;split at h
  ·obtain⟨u,us,e1,g1,g2⟩:=R;obtain⟨u',us',J,C,I⟩:=h2;rw[e1] at J;obtain⟨rfl,rfl⟩:=J;split at h
   ·rename_i bx by' hx hy;simp  at h;subst h;intro b hb;rcases mem_append.1 hb with hb|hb
    ·exact yG6 hx g1 C b hb
    ·exact yG6 hy g2 I b hb
   grind
  grind
 |val _ _=>grind [zH,jA]
 |nil=>grind [zH,jA]
 |nl=>grind [zH,jA]
 |_=>grind [zH]
 termination_by A
variable {b:Bor}{v:Value}
theorem xL4(hb:WA G w G' w' b)(gi:0<b.l.length){l:List b.t.den}{m:Bool}(h:BS G w b.t l b.U m v)(hlen:l.length=b.l.length):BS G' w' b.t b.l' b.T b.m v:=by
 obtain⟨I,u,m0,C,J⟩:=hb;by_cases ht:b.t.isL=true
 ·rcases C with C|⟨_,k,e,_,_,_,_,_,e1,_⟩
  ·exact absurd ht (by rw[C.1.2];simp)
  rcases h with h|⟨_,k,e,_,_,_,_,_,R,_⟩
  ·exact absurd ht (by rw[h.1.2];simp)
  grind
 have ht:b.t.isL=false:=by grind
 have C:=EE C ht;have h:=EE h ht;rcases C.2 with ⟨_,e⟩ | ⟨cap,cur,e,us,q1,q2,q3,q4,q5,_⟩
 ·grind
 ·rcases h.2 with ⟨_,e⟩ | ⟨cap',cur',e',us',p1,p2,p3,p4,p5,_⟩
  ·grind
  grind [Nat.eq_of_mul_eq_mul_right]
variable {T:Nat}
theorem yV1:∀{bs:List Bor},Sq bs T=some b->b∈bs/\b.U=T:=by
 intro bs
 induction bs with
 |nil=>intro h;cases h
 |cons x r C =>
  intro h;simp only[Sq] at h;cases hb:Nat.beq x.U T<;>simp_all
structure TurnOk (bs:List Bor) (L:List Nat) (G:Gh) (w:World) (G':Gh) (w':World):Prop where
 prot:∀b o,b<w.heap.size->G.χ b o=0->G'.χ b o=0/\w'.cell? ⟨b,o,none⟩=w.cell? ⟨b,o,none⟩
 ref:∀s,G'.β s=G.β s
 keep:∀t l T m v,T∉L->BS G w t l T m v->BS G' w' t l T m v
 tag:∀T,T∉L->G'.γ T=G.γ T
 bor:∀b∈bs,∀(l:List b.t.den) m v,l.length=b.l.length->BS G w b.t l b.U m v->BS G' w' b.t b.l' b.U b.m v
 inL:∀b∈bs,b.U∈L
 blk:∀T,T∉L->(∀o,G.χ (G.γ T) o=AJ T)->G.γ T<w.heap.size->w'.heap[G.γ T]?=w.heap[G.γ T]?/\∀o,G'.χ (G.γ T) o=AJ T
variable {L:List Nat}
theorem yV2(h:L.any (Nat.beq T)=false):T∉L:=λhm=>by grind [xW7]
variable {os:Option Nat}
theorem xA0(H:TurnOk bs L G w G' w'){l:List t.den}{m:Bool}(C:∀q∈(AVal.own t l T m).borAsks bs,q)(h:BS G w t l T m v) :
  zA G' w' tm os ((AVal.own t l T m).turn bs L) v/\(((AVal.own t l T m).turn bs L).fitsT (.sl t)->AB G' w' (.sl t) ((AVal.own t l T m).turn bs L) [v]):=by
 simp[AVal.turn,AVal.mapOwn];cases hb:Sq bs T with
 |some b =>
  obtain⟨R,h2⟩:=yV1 hb;subst h2;simp only[AVal.borAsks,hb,jH,forall_eq] at C;simp only;split
  ·rename_i l2 I;obtain⟨e,I⟩:=E2 I;injection e with e
   subst e;have:=H.bor b R l m v C h
   grind [zA,AB]
  grind [zA,AVal.fitsT]
 |none =>
  cases hL:L.any (Nat.beq T) with
  |true =>
   simp;cases m with
   |true=>grind [zA,AVal.fitsT]
   |false =>
    have J:=CV H.prot (Gf h);exact⟨by exact KS J,λ_=>by simp only[jD,AB];exact⟨trivial,rfl,J⟩⟩
  |false =>
   have:=H.keep t l T m v (yV2 hL) h
   grind [zA,AB]
theorem yR2(H:TurnOk bs L G w G' w'):∀{A:AVal}{τ:Ty}{vs:List Value},(∀q∈A.borAsks bs,q)->AB G w τ A vs->(A.turn bs L).laxT τ->AB G' w' τ (A.turn bs L) vs:=by
 intro A
 induction A with
 |val τ' x=>intro τ vs _ h _;exact⟨h.1,h.2.1,CV H.prot h.2.2⟩
 |nil=>simp_all [AVal.turn,AVal.mapOwn,AB]
 |own t l T m=>intro τ vs I h C;obtain⟨rfl,v,rfl,R⟩:=h;exact (xK2 C).elim (xA0 (tm:=#[]) (os:=none) H I R).2 (λe=>by rw[e];exact⟨rfl,v,rfl,Ww R⟩)
 |agg f b ih =>
  intro τ vs I h C;obtain⟨rfl,h⟩:=h;have e:(AVal.agg f b).turn bs L=cond ((b.turn bs L).laxT f) (.agg f (b.turn bs L)) (.junk):=rfl;rw[e] at C ⊢;cases hc:(b.turn bs L).laxT f with
  |false=>grind [AVal.laxT,Ty.isSl]
  |true=>simp[AB];simp_all [AVal.borAsks]
 |nl=>simp_all [AVal.turn,AVal.mapOwn,AB]
 |junk=>simp_all [AVal.turn,AVal.mapOwn,AB]
 |cons x y kM kH =>
  intro τ vs I h C;obtain⟨h1,t1,us,ws,rfl,rfl,h2,h3⟩:=h;have e:(AVal.cons x y).turn bs L=.cons (x.turn bs L) (y.turn bs L):=rfl;rw[e] at C ⊢;simp[AVal.laxT,G6] at C;simp[AVal.borAsks] at I;exact⟨_,_,us,ws,rfl,rfl,kM (λq J=>I q (.inl J)) h2 C.1,kH (λq J=>I q (.inr J)) h3 C.2⟩
 |_=>grind [AB]
theorem xL5(H:TurnOk bs L G w G' w'):∀{A:AVal}{os:Option Nat}{v:Value},(∀q∈A.borAsks bs,q) ->
  (∀s,os=some s->(∀o,G.χ (G.β s) o=BL s)->G.β s<w.heap.size->w'.heap[G.β s]?=w.heap[G.β s]?/\∀o,G'.χ (G.β s) o=BL s)->zA G w tm os A v->zA G' w' tm os (A.turn bs L) v:=by
 intro A
 induction A with
 |junk=>simp_all [AVal.turn,AVal.mapOwn,zA]
 |val τ x=>intro os v _ _ h;exact Ge H.prot h
 |nil=>simp_all [AVal.turn,AVal.mapOwn,zA]
 |nn b=>simp_all [AVal.turn,AVal.mapOwn,zA]
 |own t l T m=>grind [zA,xA0]
 |eref s T t i p =>
  intro os v _ _ h;have e:(AVal.eref s T t i p).turn bs L=cond (L.any (Nat.beq T)) (.junk) (.eref s T t i p):=rfl;rw[e];cases hL:L.any (Nat.beq T) with
  |true=>simp[zA]
  |false=>simp ;simp only[zA] at h ⊢;rw[H.tag T (yV2 hL)];grind
 |opt s' want gg A J =>
  intro os v R _ h;exact⟨h.1,λe=>J R (λs e=>by grind) (h.2.1 e),h.2.2⟩
 |box τ b J =>
  intro os v R iA h;have e:(AVal.box τ b).turn bs L=cond ((b.turn bs L).laxT τ) (.box τ (b.turn bs L)) (.junk):=rfl;rw[e];cases os with
  |none=>grind [zA]
  |some s =>
   cases hc:(b.turn bs L).laxT τ with
   |false=>simp[zA]
   |true =>
    obtain⟨h1,kn,cur,e,C,h3,I⟩:=h;obtain⟨q1,q2⟩:=iA s rfl I (EN C);exact⟨by rw[H.ref];grind,kn,cur,e,by rw[H.ref,q1];grind,yR2 H (by grind [AVal.borAsks]) h3 hc,λo=>by rw[H.ref];grind⟩
 |ref s' τ p=>intro os v _ _ h;simp[AVal.turn,AVal.mapOwn,zA] at h ⊢;rw[H.ref];grind
 |raw =>
  intro os v _ iA h;cases os with
  |none=>grind [zA]
  |some s =>
   obtain⟨h1,u,e,C,I⟩:=h;obtain⟨q1,q2⟩:=iA s rfl I (EN C);exact⟨by rw[H.ref];grind,u,e,by rw[H.ref,q1];grind,λo=>by rw[H.ref];grind⟩
 |ownh t l T i U m=>simp[AVal.turn,AVal.mapOwn,zA]
 |rref s'=>intro os v _ _ h;simp[AVal.turn,AVal.mapOwn,zA] at h ⊢;rw[H.ref];grind
 |fptr f caps =>
  intro os v _ _ h;obtain⟨b,h1,C,h3⟩:=h;have hb:b<w.heap.size:=by
   grind [cell?]
  obtain⟨I,h5⟩:=H.prot b 0 hb C;refine⟨b,h1,I,?_⟩;rw[h5,h3];congr 3;refine map_congr_left λq hq=>?_;cases q with
  |none=>rfl
  |some q=>simp only[H8];rw[H.ref]
 |agg f b _ =>
  have e:(AVal.agg f b).turn bs L=cond ((b.turn bs L).laxT f) (.agg f (b.turn bs L)) (.junk):=rfl
  grind [zA,yR2,AVal.borAsks]
 |nl=>intro os v _ _ h;exact h
 |cons x y kM kH =>
  intro os v R _ h;have e:(AVal.cons x y).turn bs L=.cons (x.turn bs L) (y.turn bs L):=rfl;simp[AVal.borAsks] at R
  grind [zA]
 |tup b J =>
  have e:(AVal.tup b).turn bs L=.tup (b.turn bs L):=rfl
  grind [zA,AVal.borAsks]
 |fn f b J =>
  have e:(AVal.fn f b).turn bs L=.fn f (b.turn bs L):=rfl
  grind [zA,AVal.borAsks]
variable {A:AVal}
theorem xE3(H:TurnOk bs L G w G' w')(ha:∀q∈A.borAsks bs,q)
  (hb:∀s,os=some s->(∀o,G.χ (G.β s) o=BL s)->G.β s<w.heap.size->w'.heap[G.β s]?=w.heap[G.β s]?/\∀o,G'.χ (G.β s) o=BL s) (h:zA G w tm os A v):zA G' w' tm os (A.turnH bs L) v:=by
 cases A with
 |ownh t l T i U m =>
  simp only[AVal.turnH];cases J:(!(Nat.beq T U)&&!(L.any (Nat.beq T))) with
  |false=>simp[zA]
  |true =>
   simp only[jB,jK] at J;have C:=yV2 J.2;obtain⟨hv,⟨he,_⟩ | ⟨kj,h|⟨cap,cur,e,h1,h2,h3,h4,h5,h6,h7⟩⟩⟩:=h
   ·simp_all
   ·exact⟨hv,.inl ⟨rfl,.inr ⟨rfl,.inl h⟩⟩⟩
   ·obtain⟨b1,b2⟩:=H.blk T C h6 (EN h2);have hg:=H.tag T C;refine⟨hv,.inl ⟨rfl,.inr ⟨rfl,.inr ⟨cap,cur,e,by grind,by grind,h3,h4,h5,λo=>by grind,λj x hj I=>?_⟩⟩⟩⟩;obtain⟨u,hu,R⟩:=h7 j x hj;rw[if_neg I] at R;exact⟨u,hu,CV H.prot R⟩
 |_=>exact xL5 H ha hb h
variable {d:Nat}
theorem xL6(h:A.hung d=false):(A.turn bs L).hung d=false:=by
 refine yG h (λt l T m=>?_) (λs T t i p=>?_)
 all_goals grind [AVal.hung]
theorem xE4(h:A.hung d=false):(A.turnH bs L).hung d=false:=by
 cases A with
 |ownh t l T i U m=>simp only[AVal.turnH];cases (!(Nat.beq T U)&&!(L.any (Nat.beq T)))<;>simp[AVal.hung]
 |_=>exact xL6 h
theorem xL7:∀{R:St},St.has s (GD bs L S R)->(∀e∈GD bs L S R,e.1≠BN)->(GD bs L S R).get s=(S.get s).turnH bs L:=by
 intro R
 induction R<;>grind [GD,St.has,J5,St.get,Nat.beq,jC,absurd,jQ]
theorem xE5(ht:J5 L (S.get s)):∀{R:St},St.has s R->St.has s (GD bs L S R):=by
 intro R
 induction R with
 |nil=>grind [St.has]
 |cons e r C =>
  intro h;obtain⟨I,A⟩:=e;simp only[GD];simp only[St.has,any_cons,or_eq_true] at h;cases nt:J5 L (S.get I) with
  |false =>
   rcases h with h|h
   ·simp_all
   ·exact C h
  |true =>
   simp only[jE,St.has,any_cons,or_eq_true];rcases h with h|h
   ·grind
   ·exact .inr (C h)
theorem yV3(ht:J5 L (S.get s)):∀{k:Nat},s<k->(∀q∈Wg bs L S k,q)->∀q∈(S.get s).borAsks bs,q:=by
 intro k
 induction k with
 |zero=>grind
 |succ k I =>
  intro h C;simp[Wg] at C;by_cases e:s=k
  ·grind
  grind
theorem xL8(h:J5 L A):A≠.junk:=by
 intro e;subst e;obtain⟨T,_,h⟩:=any_eq_true.1 h
 grind [AVal.hasTag]
variable {i:Nat}{Y:AVal}
theorem yG7(h:ED hb wants i Y k=A)(I:Fe A):∃s τ C,Y=.ref s τ []/\k=.box τ C/\A=.box τ (C.pos τ (GB i)):=by
 subst h;cases Y with
 |ref s τ p =>
  cases p with
  |nil =>
   cases k with
   |box τ' C =>
    simp only[ED] at I ⊢;cases hb:Ty.beq τ' τ with
    |false=>grind [Fe]
    |true=>have:=Ty.eq_of_beq hb;subst this;exact⟨s,τ',C,rfl,rfl,rfl⟩
   |_=>grind [ED,Fe]
  |cons _ _=>grind [ED,Fe]
 |own t l T m=>grind [ED,Fe]
 |agg f d =>
  grind [ED,Nat.beq,Fe]
 |fn f cs=>grind [ED,Fe]
 |fptr f caps=>grind [ED,Fe]
 |_=>grind [ED,Fe]
variable {o:Oper}{fo:Operand}{args:Array Operand}{ats:Array TypeId}{f:Nat}{cs:AVal}{r:List AVal}{u:St}{hv:Bool}{next:Act->World->Prop}
theorem yV4(hc:CtxOk P c)(hR:Rel c.n χ0 w0 S a w G){p:List Prop}
  (ho:o.op=.call { callee:=.value fo,args,argTypes:=ats }) (hf:zA G w a.tmps none (.fn f cs) (a.eval fo)) (hr:C2 (zA G w a.tmps none) r (args.toList.map a.eval)) (nb:HW cs=true)
  (h:Wi c o.dst f (r++cs.toL) S=some (p,u,hv))
  (hlt:∀e∈u,e.1<c.n) (hh:∀s,∀e∈u,(S.get s).hung e.1=false) (hp:∀q∈p,q)
  {Q:Exit->Act->World->Prop}(hZ:∀v w' G',Rel c.n χ0 w0 (u++S) (a.put o.dst v) w' G'->next (a.put o.dst v) w'):o.wpIn (fz rd) 0 P a w next Q:=by
 simp only[zA] at hf;obtain⟨vs,tn,nj⟩:=hf;have ko:=W8 (vs:=vs.toList) nb (by simpa using nj);have gf:=W9 hr ko;generalize hysd:r++cs.toL=ys at h gf;generalize hwd:look [] c.wants f=wants at h;unfold Wi at h;rw[hwd] at h;split at h
 ·cases h
 ·rename_i co nr;split at h
  ·cases h
  ·rename_i u1 bs K gR;obtain⟨sp,gw,hsp⟩:=zO7 nr;have kh:=hc.fns f sp gw;obtain⟨fn,h1,h2,h3⟩:=kh.1;have ke:(execOp a.eval o).run P w=.ok (.enter f (args.toList.map a.eval++vs.toList).toArray) w:=by
    have kX:(args.toList.map a.eval++vs.toList).toArray=args.map a.eval++vs:=by apply Array.toList_inj.1;simp
    rw[kX];unfold execOp;have mr:fn.body.isNone=false:=by cases hb:fn.body<;>simp_all
    simp[ho,resolve,tn,Deferred.ofValue,invoke,callFunc,h1,h3];intro hb;simp[hb] at mr
   generalize tq:args.toList.map a.eval++vs.toList=vals at gf ke;generalize uj:ys.map (C1 S)=ks at h hsp;have hksl:ys.length=ks.length:=by rw[<-uj];simp
   have ue:=Ns gf;generalize qe:(_&&IJ (_++u1.map (·.1)))=bb at h;cases bb with
   |false=>cases h
   |true =>
    simp only[jB] at qe;obtain⟨⟨⟨⟨⟨⟨⟨⟨b1,b2⟩,b3⟩,b4⟩,b5⟩,b6⟩,b7⟩,b8⟩,b9⟩:=qe;simp only[jE,jA,jG] at h;obtain⟨hpe,hu,_⟩:=h;generalize hHT:Nf wants 0 ys ks=HT at b5 b6 hu hpe;generalize hHB:IK 0 ys=HB at b1 b3 b4 hsp;generalize hKT:Sr o.dst++K=KT at b7 b8 hu hpe;generalize hL:HT.map (·.1)++KT.map (·.2)=L at hu hpe;subst hpe;have hpok:∀q∈co.ok,q:=λq hq=>hp q (mem_append_left _ hq);have hppos:∀b∈bs,0<b.l.length:=λb hb=>hp _ (mem_append_right _ (mem_append_left _ (mem_map.2 ⟨b,hb,rfl⟩)));have hpask:∀q∈Wg bs L S c.n,q:=λq hq=>hp q (mem_append_right _ (mem_append_right _ hq));have f1:=dZ b4;have f1':EV (zQ HB):=by rw[<-hHB];exact xE2
    have f2:=dZ b5;have f2':=yJ4 b6;have f3:=dZ b7;have f3':=yJ4 b8;have nu:∀(i:Nat) Y,ys[i]?=some Y->(KP HB wants 0 ys ks)[i]?=some (ED HB wants i Y (C1 S Y)):=λi Y C=>by
     have:=xS (hb:=HB) (wants:=wants) (ks:=ks) (i:=0) C (show ks[i]?=some (C1 S Y) by rw[<-uj];simp[C])
     rwa [zero_add] at this
    refine SE ke ((kh.2 _ co hsp hpok (G.calleeH HB HT) w vals (by rw[yA2 hksl,ue]) (Ni zP hR.glob) (λi A v hA hv=>?_)).mono ?_)
    ·have qo:i<ys.length:=by have:=(List.getElem?_eq_some_iff.1 hA).1;rwa [yA2 hksl] at this
     obtain⟨Y,C⟩:∃Y,ys[i]?=some Y:=⟨_,jL qo⟩;rw[nu i Y C] at hA;injection hA with hA
     subst hA;refine xK8 (kv:=match EF Y with|some s=>a.tmps.getD s undef|none=>undef) f1 f1' f2 f2' (OY gf C hv) (λs hs=>by rw[hs];exact Nu hR hs) (λq hq=>?_) (λq hq=>?_)
     ·rw[<-hHT];exact xE1 (i:=0) C (show ks[i]?=some (C1 S Y) by rw[<-uj];simp[C]) (by rwa [zero_add])
     ·rw[<-hHB];exact yJ5 (i:=0) C (by rwa [zero_add])
    ·rintro e w' ⟨v,G',rfl,hF,kJ,gX⟩;refine⟨v,rfl,hZ v w' (G.backH G' w.heap.size HB HT KT) ?_⟩;have gE:u=Ep o.dst co.res u1++GD bs L S S:=by rw[<-hu];unfold Ep;rfl
     subst gE;have nv:∀e∈Ep o.dst co.res u1,e.1<c.n:=λe he=>hlt e (mem_append_left _ he);have qu:∀e∈Ep o.dst co.res u1,e.1≠BN:=λe he=>by have:=nv e he;have:=hc.n;omega
     have tr:∀e∈GD bs L S S,e.1≠BN:=λe he=>by have:=hlt e (mem_append_right _ he);have:=hc.n;omega
     have tt:∀e∈u1,e∈Ep o.dst co.res u1:=by intro e he;unfold Ep;split;exact jP _ he;exact he
     obtain⟨g1,g2,g3⟩:=xL1 gR;have hprot:=zT (KT:=KT) hF;have hown:∀U T,(U,T)∈KT->∀(t:Ty) (l:List t.den) m v,BS G' w' t l U m v->BS (G.backH G' w.heap.size HB HT KT) w' t l T m v:=λU T hm t l m v h=>yR1 hF f1' f3 f3' hm h;have J:=xL (G:=G) (KT:=KT) hF;have h0:¬((∃y,((0:Nat),y)∈E7 HB HT)\/∃U,U∈KT.map (·.2)/\0=AJ U):=by
      rintro (⟨y,hy⟩ | ⟨U,_,e⟩)
      ·have:=eB hy;omega
      ·exact DB _ e
     have qw:∀s i,(s,i)∈HB->∃e∈u1,e.1=s:=by
      intro s i hm;rw[<-hHB] at hm;obtain⟨_,τ,C⟩:=yG5 hm;simp only[Nat.sub_zero] at C;have hA:=nu i _ C;have iA:=zO8 b3 C hA;obtain⟨s',τ',k',e1,e2,e3⟩:=yG7 rfl iA;rw[e3] at hA;obtain⟨k,hk⟩:=yF7 b1 hA;rw[zero_add] at hk;obtain⟨Y',u',bs',K',q1,q2,I⟩:=g1 i k hk;rw[C] at q1;injection q1 with q1
      subst q1;simp only[xV] at q2;generalize (AVal.fits τ k&&cS (k.tags τ (GB i)))=bb at q2;cases bb with
      |false=>cases q2
      |true =>
       simp only[jE,jA,jG] at q2;exact⟨_,I _ (by rw[<-q2.1];exact jQ ..),rfl⟩
     have uk:∀e∈u1,∀tm',zA (G.backH G' w.heap.size HB HT KT) w' tm' (some e.1) e.2 (a.tmps.getD e.1 undef):=by
      intro e he tm';obtain⟨i,k,Y,u',bs',K',q1,C,I,q4,q5⟩:=g2 e he;have hA:=nu i Y C;have qo:i<vals.length:=by rw[<-ue];exact (List.getElem?_eq_some_iff.1 C).1
      obtain⟨uv,huv⟩:∃uv,vals[i]?=some uv:=⟨_,jL qo⟩;obtain⟨c1,c2⟩:=gX i k _ uv q1 hA huv;have hYv:=OY gf C huv;have hKT':∀q∈K',q∈KT:=λq hq=>by rw[<-hKT];exact mem_append_right _ (q5 q hq)
      have hcase:(∃s τ,Y=.ref s τ [])\/u'=[]:=by
       unfold xV at I;split at I
       ·exact .inl ⟨_,_,rfl⟩
       ·right;split at I
        ·simp only[jA,jG] at I;exact I.1.symm
        ·cases I
      rcases hcase with ⟨s,τ,rfl⟩ | e1
      ·have iA:=zO8 b3 C hA;obtain⟨s',τ',k',e1,e2,e3⟩:=yG7 rfl iA;injection e1 with e1 e4 _
       subst e1;subst e4;obtain⟨qf,gm⟩:=c1 τ _ e3;simp only[xV] at I;generalize hfb:(AVal.fits τ k&&cS (k.tags τ (GB i)))=bb at I;cases bb with
       |false=>cases I
       |true =>
        simp only[jE,jA,jG] at I;obtain⟨rfl,rfl,rfl⟩:=I;simp only[jH] at q4;subst q4;have hm:(s,i)∈HB:=by rw[<-hHB];exact yJ5 (i:=0) C (by simp[GC])
        have hβ:G'.β i=G.β s:=by rw[gm];simp only[Gh.calleeH];rw[Ih f1' (mem_swap.2 hm)]
        have hr0:=hR.reps s;simp only[C1] at e2;rw[e2] at hr0;obtain⟨_,cur,ee,_,_,g3⟩:=Np hr0;have:=xK9 (KT:=KT) (tm:=tm') hF f1 f1' f3 f3' f2 hm g3 hβ hKT' qf;have hval:uv=a.tmps.getD s undef:=by
         simp only[zA] at hYv hr0;rw[hYv.2,hr0.1];simp[Ty.poff]
        rw[hval] at this;exact this
      ·subst e1;cases q4
     have mv:∀b∈bs,WA G w G' w' b/\(b.T,b.U)∈KT:=by
      intro b hb;obtain⟨i,k,Y,u',bs',K',q1,C,I,q4,q5⟩:=g3 b hb;have hA:=nu i Y C;have qo:i<vals.length:=by rw[<-ue];exact (List.getElem?_eq_some_iff.1 C).1
      obtain⟨uv,huv⟩:∃uv,vals[i]?=some uv:=⟨_,jL qo⟩;obtain⟨c1,c2⟩:=gX i k _ uv q1 hA huv;have hYv:=OY gf C huv;unfold xV at I;split at I
      ·rename_i s τ;generalize (AVal.fits τ k&&cS (k.tags τ (GB i)))=bb at I;cases bb with
       |false=>cases I
       |true =>
        simp only[jE,jA,jG] at I;rw[<-I.2.1] at q4;cases q4
      ·rename_i hnr;split at I
       ·rename_i bs2 iQ;simp only[jA,jG] at I;obtain⟨_,rfl,rfl⟩:=I;have hnb:Fe (ED HB wants i Y (C1 S Y))=false:=by
         cases iA:Fe (ED HB wants i Y (C1 S Y)) with
         |false=>rfl
         |true=>obtain⟨s,τ,_,e1,_⟩:=yG7 rfl iA;exact absurd e1 (hnr s τ)
        refine⟨yG6 iQ hYv (c2 hnb) b q4,?_⟩;rw[<-hKT];exact mem_append_right _ (q5 _ (mem_map.2 ⟨b,q4,rfl⟩))
       ·cases I
     have gl:∀T,T∉L->¬((∃y,(AJ T,y)∈E7 HB HT)\/∃U,U∈KT.map (·.2)/\AJ T=AJ U):=by
      intro T hT;rw[<-hL] at hT;rintro (⟨y,hy⟩ | ⟨U,hU,e⟩)
      ·obtain⟨U,_,hm⟩:=cols_arr.1 hy;exact hT (mem_append_left _ (mem_map.2 ⟨_,hm,rfl⟩))
      ·have:=CJ e;subst this;exact hT (mem_append_right _ hU)
     have hturn:TurnOk bs L G w (G.backH G' w.heap.size HB HT KT) w':=by
      refine⟨J.prot,λs=>rfl,λt l T m v hT h=>GG J h0 (gl T hT) h,λT hT=>J.tag T (λC=>gl T hT (.inr C)),λb hb l m v hlen h=>?_,λb hb=>?_,λT hT kg iH=>?_⟩
      ·exact hown _ _ (mv b hb).2 _ _ _ _ (xL4 (mv b hb).1 (hppos b hb) h hlen)
      ·rw[<-hL];exact mem_append_right _ (mem_map.2 ⟨_,(mv b hb).2,rfl⟩)
      ·have:=J.block _ iH (λo hX=>by rw[kg o] at hX;exact gl T hT hX);exact⟨this.1,λo=>by rw[this.2 o];exact kg o⟩
     have htag0:∀s,St.has s (Ep o.dst co.res u1++GD bs L S S)=false->∀T,T∈L->(S.get s).hasTag T=false:=by
      intro s hs T hT;cases ht:(S.get s).hasTag T with
      |false=>rfl
      |true =>
       have nw:J5 L (S.get s):=any_eq_true.2 ⟨T,hT,ht⟩;have:=xE5 (bs:=bs) nw (OZ (xL8 nw));simp only[St.has,List.any_append,jJ] at hs;rw[St.has] at this;rw[hs.2] at this;cases this
     refine GJ hR hc.n hlt (λd e=>by rw[e];simp[Ep,St.has]) J h0 (yU8 hF hR.frame) (λs hs=>?_) (λs d e _=>?_) (λs hs=>?_)
     ·refine yV0 (λT hT=>htag0 s hs T (by rw[<-hL];exact mem_append.2 hT)) (λs' e hm=>?_);injection e with e
      subst e;obtain⟨q,hq,e2⟩:=mem_map.1 hm;obtain⟨e,he,e3⟩:=qw q.1 q.2 hq;have:St.has s (Ep o.dst co.res u1++GD bs L S S):=any_eq_true.2 ⟨e,mem_append_left _ (tt e he),by rw[e3,e2];exact Nat.beq_refl _⟩;rw[hs] at this;cases this
     ·exact hh s (d,co.res.tagTo d) (mem_append_left _ (by rw[e];simp[Ep]))
     ·cases iR:St.has s (Ep o.dst co.res u1) with
      |true =>
       rw[Nv qu iR];have hm:=dU iR qu;cases hd:o.dst with
       |none =>
        rw[hd] at hm iR;simp only[Ep] at hm iR ⊢;exact uk _ hm _
       |some d =>
        rw[hd] at hm iR b9;simp only[Ep] at hm iR ⊢;have gB:d<a.tmps.size:=by rw[hR.len];exact nv (d,co.res.tagTo d) (by rw[hd];simp[Ep])
        by_cases e:s=d
        ·subst e;have:St.get ((s,co.res.tagTo s)::u1) s=co.res.tagTo s:=by simp[St.get]
         rw[this,FP gB,if_pos rfl];refine OO (xD7 (tm:=#[]) hprot (λT hT t l m v h=>hown T (T*100000+s) ?_ t l m v h) b2 kJ);rw[<-hKT,hd];refine mem_append_left _ ?_;obtain rfl|rfl|rfl|rfl:T=0\/T=1\/T=2\/T=3:=by omega
         all_goals simp[Sr]
        ·rcases mem_cons.1 hm with hm|hm
         ·injection hm with hm _;exact absurd hm e
         ·rw[FP gB,if_neg e];exact uk _ hm _
      |false =>
       rw[KW qu iR];have hsT:St.has s (GD bs L S S):=by
        simp only[St.has,List.any_append,or_eq_true] at hs;rcases hs with hs|hs
        ·rw[St.has] at iR;rw[iR] at hs;cases hs
        ·exact hs
       rw[xL7 hsT tr];have gw:=dU hsT tr;have kj:∀d,o.dst=some d->s≠d:=by
        intro d e e2;subst e2;rw[e] at iR;simp[Ep,St.has] at iR
       have hval:(a.put o.dst v).tmps.getD s undef=a.tmps.getD s undef:=by
        cases hd:o.dst with
        |none=>rfl
        |some d =>
         have gB:d<a.tmps.size:=by rw[hR.len];exact nv (d,co.res.tagTo d) (by rw[hd];simp[Ep])
         rw[FP gB,if_neg (kj d hd)]
       rw[hval];have nw:J5 L (S.get s):=by
        cases ht:J5 L (S.get s) with
        |true=>rfl
        |false =>
         exfalso;have key:∀R:St,St.has s (GD bs L S R)=false:=by
          intro R
          induction R with
          |nil=>rfl
          |cons e r ih =>
           obtain⟨s',A⟩:=e;simp only[GD];cases nt:J5 L (S.get s') with
           |false=>exact ih
           |true =>
            simp only[jE,St.has,any_cons,jJ];refine⟨?_,ih⟩;cases hb:Nat.beq s' s with
            |false=>rfl
            |true=>have:=jC hb;subst this;rw[ht] at nt;cases nt
         rw[key S] at hsT;cases hsT
       have hasks:=yV3 (bs:=bs) nw (hlt _ (mem_append_right _ gw)) hpask;have iA:∀s',some s=some s'->(∀o,G.χ (G.β s') o=BL s')->G.β s'<w.heap.size->w'.heap[G.β s']?=w.heap[G.β s']?/\∀o,(G.backH G' w.heap.size HB HT KT).χ (G.β s') o=BL s':=by
        intro s' e kg iH;injection e with e
        subst e;have:=J.block (G.β s) iH (λo' hX=>by
         rw[kg o'] at hX;rcases hX with ⟨y,hy⟩ | ⟨U,_,e⟩
         ·obtain⟨i,_,hm⟩:=cols_box.1 hy;obtain⟨e,he,e3⟩:=qw s i hm;have:St.has s (Ep o.dst co.res u1):=any_eq_true.2 ⟨e,tt e he,by rw[e3];exact Nat.beq_refl _⟩;rw[iR] at this;cases this
         ·exact CI _ _ e)
        exact⟨this.1,λo=>by rw[this.2 o];exact kg o⟩
       refine zO (tm:=a.tmps) (λk hk=>?_) (xE3 hturn hasks iA (hR.reps s));cases hd:o.dst with
       |none=>rfl
       |some d =>
        have gB:d<a.tmps.size:=by rw[hR.len];exact nv (d,co.res.tagTo d) (by rw[hd];simp[Ep])
        rw[FP gB,if_neg];intro e;subst e;have:=xE4 (bs:=bs) (L:=L) (hh s (k,co.res.tagTo k) (mem_append_left _ (by rw[hd];simp[Ep])));rw[this] at hk;cases hk
variable {rd:Option Nat}{gtab:GlobTab}{P:Program}{c:Ctx}{G:Gh}{w:World}{tm:Array Value}{n:Nat}{χ0:Nat->Nat->Nat}{w0:World}{S:St}{a:Act}
def Gh.frozen (w:World):Gh:=⟨λb _=>if b<w.heap.size then 0 else 2,λ_=>0,λ_=>0⟩
theorem KX{b o:Nat}(h:b<w.heap.size):(Gh.frozen w).χ b o=0:=by grind [Gh.frozen]
theorem WB:∀b o,b<w.heap.size->G.χ b o=0->(Gh.frozen w).χ b o=0/\w.cell? ⟨b,o,none⟩=w.cell? ⟨b,o,none⟩:=λ_ _ h _=>⟨KX h,rfl⟩
theorem yR3(ht:t.isL=false){l:List t.den}{m:Bool}(h:BS G w t l T m v):AL (Gh.frozen w).χ w (.sl t) l [v]:=by simp only[AL];rcases (EE h ht).2 with ⟨rfl,rfl⟩ | ⟨cap,cur,e,us,rfl,R,C,h4,h5,I,h7,h8⟩;grind;refine⟨_,cap,rfl,?_⟩;refine .inr ⟨G.γ T,0,us,rfl,C,EU (λ_ _ J=>CV (χ:=G.χ) WB J) I,λj u hu=>?_⟩;grind [KX,EN,cell?]
theorem yR4:∀{A:AVal}{τ:Ty}{vs:List Value},AB G w τ A vs->(A.lent).laxT τ->AB (Gh.frozen w) w τ A.lent vs:=by intro A;induction A with|val τ' x=>intro τ vs h _;simp[AVal.lent,AVal.mapOwn,AB] at h ⊢;grind [CV,WB]|nil=>simp_all [AVal.lent,AVal.mapOwn,AB]|own t l T m=>intro τ vs h C;simp[AVal.lent,AVal.mapOwn] at h C ⊢;obtain⟨rfl,v,rfl,I⟩:=h;(cases ht:t.isL with|true=>exact⟨rfl,v,rfl,Ww I⟩|false=>simp only[jD,AB];exact⟨trivial,rfl,yR3 ht I⟩)|agg f b ih=>have e:(AVal.agg f b).lent=cond (b.lent.laxT f) (.agg f b.lent) (.junk):=rfl;grind [AVal.laxT,Ty.isSl,AB]|nl=>simp_all [AVal.lent,AVal.mapOwn,AB]|junk=>simp_all [AVal.lent,AVal.mapOwn,AB]|cons x y kM kH=>intro τ vs h C;obtain⟨h1,t1,us,ws,rfl,rfl,J,R⟩:=h;have e:(AVal.cons x y).lent=.cons x.lent y.lent:=rfl;rw[e] at C ⊢;simp[AVal.laxT,G6] at C;exact⟨_,_,us,ws,rfl,rfl,kM J C.1,kH R C.2⟩|_=>grind [AB]
theorem xL9{kv:Value}(C:zA G w tm none Y v)(hk:∀s,EF Y=some s->zA G w tm (some s) k kv):zA (Gh.frozen w) w #[] (some i) (IL Y k) v:=by have hp:∀b o,b<w.heap.size->G.χ b o=0->(Gh.frozen w).χ b o=0/\w.cell? ⟨b,o,none⟩=w.cell? ⟨b,o,none⟩:=WB;cases Y with|val τ x=>simp only[IL,zA] at C ⊢;exact Ge hp C|nil=>simp only[IL,zA] at C ⊢;exact C|own t l T m=>simp only[IL];(cases ht:t.isL with|true=>simp only[jE,zA]|false=>simp only[jD];simp only[zA] at C;exact KS (yR3 ht C))|ownh t l T j U m=>simp only[IL];(cases I:(Nat.beq T U&&!m) with|false=>simp only[jD,zA]|true=>simp only[jB,jK] at I;obtain⟨I,rfl⟩:=I;have I:=jC I;subst I;simp only[jE];simp only[zA] at C;obtain⟨kn,⟨_,⟨_,x,ad,cap,rfl,rfl,h3⟩ | ⟨hm,_⟩⟩ | ⟨kj,_⟩⟩:=C;rotate_left;cases hm;rotate_right;refine KS ?_;simp only[AL];refine⟨ad,cap,rfl,?_⟩;rcases h3 with rfl|⟨o,us,cur,e,rfl,g2,g3,g4,g5,g6⟩;exact .inl rfl;exact .inr ⟨G.γ T,o,us,rfl,g2,EU (λ_ _ R=>CV (χ:=G.χ) WB R) g4,λj u hu=>⟨by simp only[cell?,g3];simpa using g5 j u hu,KX (EN g3)⟩⟩;exact absurd rfl kj)|agg f d=>simp only[IL];split;rename_i x J;simp only[zA] at C ⊢;obtain⟨vs,e,ht⟩:=C;have ki:=Nn J;simp only[AVal.fitsT,jB] at ki;exact Ie (G:=Gh.frozen w) (tm:=#[]) J rfl (by simp only[zA];exact⟨vs,e,yR4 ht (OQ ki.2)⟩);simp only[zA]|fn f cs=>simp only[IL];(cases hq:cs.pureL with|false=>simp only[jD,zA]|true=>simp only[jE];simp only[zA] at C ⊢;obtain⟨vs,e1,e2⟩:=C;exact⟨vs,e1,yF5 hp hq e2⟩)|ref s τ p=>(cases p with|nil=>(cases k with|box τ' k=>simp only[IL];(cases hb:Ty.beq τ' τ with|false=>simp only[jD,zA]|true=>simp only[jE];have e:=Ty.eq_of_beq hb;subst e;split;rename_i x J;obtain⟨kn,cur,e,g1,g2,g3⟩:=Np (hk s rfl);simp only[zA] at C;(have hv:v=.pointer (some ⟨G.β s,0,none⟩):=by simpa[Ty.poff] using C.2);rw[hv];have R:=JC (G:=Gh.frozen w) J (yR4 g2 (OQ (Nn J)));exact S7 R (λj u hu=>⟨by simp only[cell?,g1];simpa using hu,KX (EN g1)⟩);simp only[zA])|_=>simp only[IL,zA])|cons _ _=>simp only[IL,zA])|_=>simp only[IL,zA]
variable {χ' χ:Nat->Nat->Nat}
theorem eC{w:World}:∀{τ:Ty}{x:τ.den}{vs:List Value},τ.noMem->AL χ w τ x vs->AL χ' w' τ x vs:=by intro τ;induction τ with|int k=>intro x vs _ C;exact C|bool=>intro x vs _ C;exact C|str=>intro x vs _ C;exact C|nl=>intro x vs _ C;exact C|cons a b J hb=>intro x vs I C;simp[Ty.noMem] at I;obtain⟨us,ws,rfl,R,h2⟩:=C;exact⟨us,ws,rfl,J I.1 R,hb I.2 h2⟩|st f hf=>intro x vs I C;exact hf I C|arr n t ht=>intro x vs I C;exact⟨C.1,EU (λ_ _ h=>ht I h) C.2⟩|sl t ht=>grind [Ty.noMem]|ptr t ht=>grind [Ty.noMem]
def Gh.unlend (G G':Gh)(b0:Nat):Gh:={ G' with χ:=λb o=>if b<b0 then (G.callee []).χ b o else G'.χ b o }
theorem xE6{w:World}{k v:Ty}(C:k.noMem)(hv:v.noMem):∀{l:List (k.den×v.den×Unit)}{es:List MapEntry},Ia χ w k v l es->Ia χ' w' k v l es:=by intro l;induction l with|nil=>intro es h;exact h|cons x l I=>rintro es ⟨e,r,rfl,⟨J,a2,a3⟩,⟨R,b2,b3⟩,h3⟩;exact⟨e,r,rfl,⟨J,eC C a2,a3⟩,⟨R,eC hv b2,b3⟩,I h3⟩
theorem xS0(hF:Frame0 (Gh.frozen w).χ w G'.χ w'):∀{A:AVal}{v:Value},A.scal->zA G' w' #[] none A v->zA (G.unlend G' w.heap.size) w' #[] none A v:=by intro A;induction A with|val τ x=>intro v C h;obtain⟨vs,I,J⟩:=h;exact⟨vs,eC C I,J⟩|nil=>grind [zA]|own t l T m=>intro v C h;simp only[AVal.scal] at C;rcases h with h|⟨R,hM⟩;rotate_left;refine .inr ⟨R,?_⟩;obtain⟨k,e,l',ht,hl,es,clock,I,J,h3,h4⟩:=hM;(have kU:¬G'.γ T<w.heap.size:=by intro hb;have h9:=(hF.cell _ 0 hb (by grind [KX])).1;grind [KX,DB]);subst ht;simp only[Ty.noMem,jB] at C;refine⟨k,e,l',rfl,hl,es,clock,I,J,xE6 C.1 C.2.1 h3,λo=>?_⟩;simp_all [Gh.unlend,if_neg];refine .inl ⟨h.1,?_⟩;rcases h.2 with h|⟨cap,cur,e,us,I,J,h3,h4,h5,h6,h7,h8⟩;grind;(have kU:¬G'.γ T<w.heap.size:=by intro hb;have h9:=(hF.cell _ (l.length*t.size) hb (by grind [KX])).1;rw[KX hb,h8,if_neg (by omega)] at h9;grind [DB]);refine .inr ⟨cap,cur,e,us,I,J,h3,h4,h5,EU (λ_ _ hc=>eC C hc) h6,h7,λo=>?_⟩;simp_all [Gh.unlend,if_neg]|tup b ih=>grind [AVal.scal,zA]|nl=>grind [zA]|cons x y kM kH=>grind [AVal.scal,zA]|_=>grind [AVal.scal]
theorem yV5(C:Frame0 (Gh.frozen w).χ w G'.χ w'):Back G w [] (G.unlend G' w.heap.size) w':=by refine⟨⟨C.os,C.tape,C.output,C.size,λb hb _=>C.block b hb (λo=>by grind [KX]),λb o hb _=>⟨by simp_all [Gh.unlend],(C.cell b o hb (by grind [KX])).2⟩⟩,λb hb=>?_⟩;grind [Fx,Gg]
theorem yG8(R:CtxOk P c)(C:Rel c.n χ0 w0 S a w G){p:List Prop}(ho:o.op=.call { callee:=.value fo,args,argTypes:=ats })(hf:zA G w a.tmps none (.fn f cs) (a.eval fo))(hr:C2 (zA G w a.tmps none) r (args.toList.map a.eval))(nb:HW cs)(h:IM c o.dst f (r++cs.toL) ((r++cs.toL).map (C1 S)) S=some (p,u,hv))(I:∀e∈u,e.1<c.n)(hh:∀s,∀e∈u,(S.get s).hung e.1=false)(hp:∀q∈p,q){Q:Exit->Act->World->Prop}(hZ:∀v w' G',Rel c.n χ0 w0 (u++S) (a.put o.dst v) w' G'->next (a.put o.dst v) w'):o.wpIn (fz rd) 0 P a w next Q:=by simp only[zA] at hf;obtain⟨vs,tn,nj⟩:=hf;have ko:=W8 (vs:=vs.toList) nb (by simpa using nj);have gf:=W9 hr ko;generalize hysd:r++cs.toL=ys at h gf;unfold IM at h;split at h;cases h;rename_i co nr;split at h;rename_i d gX hd;obtain⟨sp,gw,J⟩:=zO7 nr;have kh:=R.fns f sp gw;obtain⟨fn,h1,h2,h3⟩:=kh.1;(have ke:(execOp a.eval o).run P w=.ok (.enter f (args.toList.map a.eval++vs.toList).toArray) w:=by (have kX:(args.toList.map a.eval++vs.toList).toArray=args.map a.eval++vs:=by apply Array.toList_inj.1;simp);rw[kX];unfold execOp;(have mr:fn.body.isNone=false:=by cases hb:fn.body<;>simp_all);simp[ho,resolve,tn,Deferred.ofValue,invoke,callFunc,h1,h3];intro hb;simp[hb] at mr);generalize tq:args.toList.map a.eval++vs.toList=vals at gf ke;generalize qe:(_&&BZ (300000+d) S)=bb at h;(cases bb with|false=>cases h|true=>simp only[jB] at qe;obtain⟨⟨⟨⟨⟨b1,b2⟩,b3⟩,b4⟩,b5⟩,b6⟩:=qe;simp only[jE,jA,jG] at h;obtain⟨rfl,rfl,_⟩:=h;refine SE ke ((kh.2 _ co J hp (Gh.frozen w) w vals (by simp[Ns gf]) (Ni (χ:=G.χ) WB C.glob) (λi A v hA hv=>?_)).mono ?_);obtain⟨Y,k,hY,hk,rfl⟩:=yA0 hA;(have gF:k=C1 S Y:=by simp[hY] at hk;exact hk.symm);subst gF;exact xL9 (kv:=match EF Y with |some s=>a.tmps.getD s undef|none=>undef) (OY gf hY hv) (λs hs=>by rw[hs];exact Nu C hs);rintro e w' ⟨v,G',rfl,hF,kJ,_⟩;refine⟨v,rfl,hZ v w' (G.back (G.unlend G' w.heap.size) w.heap.size (some d)) ?_⟩;rw[hd];refine yM8 (dst:=some d) (res:=co.res) (ys:=[]) (u:=[]) C R.n (yV5 hF) (xS0 hF b2 kJ) b1 (λb hb=>by simp[Fx,Gg] at hb) (λe he=>by cases he) I (λs d' e=>by injection e with e;subst e;exact hh s _ (jQ ..)) (λd' e s j hj=>?_);injection e with e;subst e;(obtain rfl|rfl|rfl|rfl:j=0\/j=1\/j=2\/j=3:=by omega);simpa using Ha b3 s;simpa using Ha b4 s;simpa using Ha b5 s;simpa using Ha b6 s);cases h
theorem yV6(hc:CtxOk P c)(hR:Rel c.n χ0 w0 S a w G){p:List Prop}(ho:o.op=.call { callee:=.value fo,args,argTypes:=ats })(hf:zA G w a.tmps none (.fn f cs) (a.eval fo))(hr:C2 (zA G w a.tmps none) r (args.toList.map a.eval))(nb:HW cs)(h:Ss c o.dst f (r++cs.toL) S=some (p,u,hv))(J:∀e∈u,e.1<c.n)(hh:∀s,∀e∈u,(S.get s).hung e.1=false)(hp:∀q∈p,q){Q:Exit->Act->World->Prop}(hZ:∀v w' G',Rel c.n χ0 w0 (u++S) (a.put o.dst v) w' G'->next (a.put o.dst v) w'):o.wpIn (fz rd) 0 P a w next Q:=by simp only[zA] at hf;obtain⟨vs,tn,nj⟩:=hf;have ko:=W8 (vs:=vs.toList) nb (by simpa using nj);have gf:=W9 hr ko;generalize hysd:r++cs.toL=ys at h gf;unfold Ss at h;split at h;rename_i t x T i U d hd;generalize qe:(_&&BZ d S)=bb at h;(cases bb with|false=>cases h|true=>simp only[jB,any_eq_true] at qe;obtain⟨⟨b1,⟨f',k'⟩,hm,b2⟩,b3⟩:=qe;simp only at b2;have e:=jC b1;subst e;have e:=jC b2.1;subst e;have e:=jC b2.2;subst e;simp only[jE,jA,jG] at h;obtain⟨rfl,rfl,_⟩:=h;obtain⟨q1,q2⟩:=hp _ (jH.2 rfl);obtain⟨iu,kh⟩:=hc.clones f' t.size hm;obtain⟨fn,h1,h2,h3⟩:=iu;(have ke:(execOp a.eval o).run P w=.ok (.enter f' (args.toList.map a.eval++vs.toList).toArray) w:=by (have kX:(args.toList.map a.eval++vs.toList).toArray=args.map a.eval++vs:=by apply Array.toList_inj.1;simp);rw[kX];unfold execOp;(have mr:fn.body.isNone=false:=by cases hb:fn.body<;>simp_all);simp[ho,resolve,tn,Deferred.ofValue,invoke,callFunc,h1,h3];intro hb;simp[hb] at mr);generalize tq:args.toList.map a.eval++vs.toList=vals at gf ke;(obtain⟨v,rfl⟩:∃v,vals=[v]:=by have:=Ns gf;match vals,this with |[v],_=>exact⟨v,rfl⟩);have hA:=OY gf (i:=0) rfl rfl;simp only[zA] at hA;obtain⟨kn,⟨_,⟨_,y,ad,cap,hy,rfl,h4⟩ | ⟨hm,_⟩⟩ | ⟨kj,_⟩⟩:=hA;rotate_left;cases hm;rotate_right;simp only[List.cons.injEq,and_true] at hy;subst hy;rcases h4 with rfl|⟨o',us,cur,e,rfl,g2,g3,g4,g5,g6⟩;simp at q1;have qm:=FM (k:=t.size) (λ_ _ h=>CM h) g4;refine SE ke ((kh (G.γ T) o' _ cap cur e us w q1 (by omega) g2 qm (OS (λ_ _ h=>Nr h) g4) g3 g5).mono ?_);rintro e' w' ⟨B,cap',cells,ty,rfl,z1,z2,z3,z4,z5,z6⟩;obtain⟨hx,hfr,C⟩:=xW3 (d:=d) hR.frame kn g4 z2 z1 z3 z4 z5 z6;refine⟨_,rfl,hZ _ w' (G.reown B d 0 true) ?_⟩;rw[hd];(have I:∀R:St,CS d (AVal.lose d) S R=[]:=by intro R;induction R with|nil=>rfl|cons e r ih=>obtain⟨s,A⟩:=e;simp only[CS,Ha b3 s,jD,ih]);have:=dX (d:=d) (U:=d) (R:=.own t x d true) hR hc.n b3 hx hfr (λtm=>by simp only[zA];exact C) (by rw[I];exact J) (λs=>hh s _ (jH.2 rfl));rw[I] at this;exact this;exact absurd rfl kj);cases h
variable {gd:Gd}
theorem xM{l:List t.den}{m:Bool}(hlen:a.tmps.size=n)(R:d<n)(J:Ja a.tmps gd)(kQ:yO a.tmps gd)(hA:(Ez gd (.own t l T m)).hung d=false)(h:Rel n χ0 w0 ([(d,.own t l T m)]++S) (a.put (some d) v) w' G'):Rel n χ0 w0 ([(d,Ez gd (.own t l T m))]++S) (a.put (some d) v) w' G':=by refine⟨h.len,h.defers,λs=>?_,h.frame,h.glob⟩;have I:=h.reps s;by_cases e:d=s;subst e;simp[St.get] at I ⊢;(cases gd with|none=>exact I|some q=>obtain⟨C,want,g⟩:=q;have hg:g:=(J C want g rfl).1 (kQ C want g rfl);(have kj:C≠d:=by intro e;simp_all [Ez,AVal.hung]);refine⟨?_,λ_=>I,λe=>by grind⟩;rw[FP (by grind),if_neg kj];exact J C want g rfl);(have hb:Nat.beq d s=false:=by grind [Nat.beq,absurd,jC]);simp_all [St.get]
theorem yV7(hc:CtxOk P c)(J:Rel c.n χ0 w0 S a w G)(R:Ja a.tmps gd)(kQ:yO a.tmps gd){p:List Prop}(ho:o.op=.call { callee:=.value fo,args,argTypes:=ats })(hf:zA G w a.tmps none (.fn f cs) (a.eval fo))(hr:C2 (zA G w a.tmps none) r (args.toList.map a.eval))(nb:HW cs)(h:xI c gd o.dst f (r++cs.toL) S=some (p,u,hv))(I:∀e∈u,e.1<c.n)(hh:∀s,∀e∈u,(S.get s).hung e.1=false)(gN:∀e∈u,∀e'∈u,e.2.hung e'.1=false)(hp:∀q∈p,q){Q:Exit->Act->World->Prop}(hZ:∀v w' G',Rel c.n χ0 w0 (u++S) (a.put o.dst v) w' G'->next (a.put o.dst v) w'):o.wpIn (fz rd) 0 P a w next Q:=by unfold xI at h;split at h;rename_i p0 d t l T m _ C;obtain⟨rfl,rfl,_⟩:=h;(have mu:o.dst=some d:=by unfold IM at C;split at C;grind;split at C;generalize (_&&BZ _ S)=bb at C;(cases bb with|false=>cases C|true=>simp at C;obtain⟨_,⟨rfl,_⟩,_⟩:=C;assumption);grind);have hd:d<c.n:=I _ (jH.2 rfl);refine yG8 hc J ho hf hr nb C (λe he=>by grind) (λs e he=>by simp_all) (W6 R kQ hp) (λv w' G' h'=>?_);refine hZ v w' G' ?_;rw[mu] at h' ⊢;exact xM J.len hd R kQ (gN _ (jH.2 rfl) _ (jH.2 rfl)) h';grind
theorem yA3{q:List Prop×AVal}:∀{exts:List (Nat×(List AVal->Option (List Prop×AVal)))},Wj exts f ys=some q->∃e,(f,e)∈exts/\e ys=some q:=by intro exts;induction exts with|nil=>grind [Wj]|cons x r C=>intro h;obtain⟨g,e⟩:=x;simp only[Wj] at h;cases I:Nat.beq g f with|false=>grind|true=>simp_all
theorem xM0(I:CtxOk P c)(hR:Rel c.n χ0 w0 S a w G)(hi:Ja a.tmps gd)(kQ:yO a.tmps gd){p:List Prop}(ho:o.op=.call { callee:=.value fo,args,argTypes:=ats })(hf:zA G w a.tmps none (.fn f cs) (a.eval fo))(hr:C2 (zA G w a.tmps none) r (args.toList.map a.eval))(nb:HW cs)(h:zU c gd o.dst f (r++cs.toL)=some (p,u,hv))(C:∀e∈u,e.1<c.n)(hh:∀s,∀e∈u,(S.get s).hung e.1=false)(gN:∀e∈u,∀e'∈u,e.2.hung e'.1=false)(hp:∀q∈p,q){Q:Exit->Act->World->Prop}(hZ:∀v w' G',Rel c.n χ0 w0 (u++S) (a.put o.dst v) w' G'->next (a.put o.dst v) w'):o.wpIn (fz rd) 0 P a w next Q:=by obtain⟨vs,tn,nj⟩:=hf;have ko:=W8 (vs:=vs.toList) nb (by simpa using nj);have gf:=W9 hr ko;(have ke:∀v,(callFunc f (args.toList.map a.eval++vs.toList).toArray).run P w=.ok (.value v) w->(execOp a.eval o).run P w=.ok (.value v) w:=by (have kX:(args.toList.map a.eval++vs.toList).toArray=args.map a.eval++vs:=by grind);grind [execOp,resolve,Deferred.ofValue,invoke]);unfold zU at h;split at h;rename_i p0 τ x d he J;obtain⟨e,hm,he⟩:=yA3 he;obtain⟨rfl,rfl,rfl⟩:=h;obtain⟨v,R,h2⟩:=I.exts f e hm _ _ _ he (W6 hi kQ hp) G w a.tmps _ gf;refine LP (ke v R) (hZ v w G ?_);rw[J];exact W4 hR I.n (C (d,Ez gd (.val τ x)) (by simp)) (λs=>hh s (d,Ez gd (.val τ x)) (by simp)) (gN (d,Ez gd (.val τ x)) (by simp) (d,Ez gd (.val τ x)) (by simp)) (W5 hi kQ h2);rename_i p0 b d he J;obtain⟨e,hm,he⟩:=yA3 he;split at h;generalize qe:(_&&!(b.hung d))=bb at h;(cases bb with|false=>grind|true=>obtain⟨rfl,rfl,rfl⟩:=h;obtain⟨v,R,h2⟩:=I.exts f e hm _ _ _ he hp G w a.tmps _ gf;refine LP (ke v R) (hZ v w G ?_);rw[J];exact W4 hR I.n (C (d,.tup b) (by simp)) (λs=>hh s (d,.tup b) (by simp)) (gN (d,.tup b) (by simp) (d,.tup b) (by simp)) h2);grind;grind
variable {rd:Option Nat}{gtab:GlobTab}{P:Program}{c:Ctx}{G:Gh}{w:World}{tm:Array Value}{n:Nat}{χ0:Nat->Nat->Nat}{w0:World}{S:St}{a:Act}
theorem xM1{tm:Array Value}{b:Bool}:tm.getD s undef=.bool b↔tm[s]?=some (.bool b):=by simp;cases h:tm[s]? with|none=>simp[undef]|some v=>simp
theorem xE7{ops:Array Oper}{tm:Array Value}{j:Nat}{b:Bool}(h:(ops.toList.map (·.dst))[j]?=some (some s)):(yielded ops tm j==some b)=true↔tm.getD s undef=.bool b:=by grind [bind,xM1,yielded]
theorem yR5{ops:Array Oper}(h:KN (ops.toList.map (·.dst)) S o.guard=some gd):wanted o (yielded ops a.tmps)=true↔yO a.tmps gd:=by unfold wanted;grind [KN,jA,yO,xE7]
theorem xM2{xs:List AVal}{p:List Prop}(hgd:gd≠none)(h:LJ c gd o S ys xs=some (p,u,hv)):∃d A,o.dst=some d/\u=[(d,Ez gd A)]:=by cases gd with|none=>exact absurd rfl hgd|some q=>unfold LJ at h;split at h;split at h;unfold yC at h;split at h;rename_i d C A B J;split at h;split at h;simp only[jA,jG] at h;obtain⟨_,rfl,_⟩:=h;exact⟨d,_,J,rfl⟩;cases h;cases h;cases h;cases h;split at h;simp_all;simp_all;cases h;split at h;simp_all;cases h;split at h;rename_i f cs r;(cases kz:HW cs with|false=>simp only[kz,jD] at h;cases h|true=>simp only[kz,jE] at h;unfold cT at h;generalize R:zU c (some q) o.dst f (r++cs.toL)=y at h;cases y with|some q'=>simp only[IP,jA] at h;subst h;unfold zU at R;split at R;rename_i p0 τ x d he J;simp only[jA,jG] at R;obtain⟨_,rfl,_⟩:=R;exact⟨_,_,by assumption,rfl⟩;cases R;cases R|none=>simp only[IP] at h;generalize nb:J4 c (some q) o.dst f (r++cs.toL) ((r++cs.toL).map (C1 S)) S=x at h;cases x with|none=>simp only at h;unfold Su at h;simp only at h;unfold xI at h;split at h;rename_i p0 d t l T m _ I;simp only[jA,jG] at h;obtain⟨_,rfl,_⟩:=h;unfold IM at I;split at I;cases I;split at I;rename_i d' _ J;generalize (_&&BZ _ S)=bb at I;(cases bb with|false=>cases I|true=>simp only[jE,jA,jG,List.cons.injEq,and_true] at I;obtain⟨_,⟨rfl,_⟩,_⟩:=I;exact⟨_,_,by assumption,rfl⟩);cases I;cases h|some q'=>simp only[jA] at h;subst h;unfold J4 at nb;split at nb;cases nb;rename_i co nr;generalize (LG co.outs 0 _&&E6 co.res&&_&&_)=b at nb;cases b with|false=>simp only[Bool.not_false,jE] at nb;cases nb|true=>simp only[Bool.not_true,jD] at nb;split at nb;split at nb;rename_i d τ x J;simp only[jA,jG] at nb;obtain⟨_,rfl,_⟩:=nb;exact⟨_,_,by assumption,rfl⟩;cases nb;cases nb);cases h;simp at h;unfold zK at h;split at h;cases h;rename_i d J;split at h;cases h;rename_i p' A hA;cases hf:H6 o.op with|true=>simp only[hf,jE,Option.isNone_some,Bool.false_and,jD] at h;unfold Ng at h;split at h;rename_i q' t l T m e;(cases hb':(GA d S&&BZ d S&&Nat.beq T d&&!t.isL) with|false=>simp only[hb',jD] at h;cases h|true=>simp only[hb',jE,jA,jG] at h;injection e with e;subst e;exact⟨d,_,J,h.2.1.symm⟩);cases h|false=>simp only[hf,jD,jA,jG] at h;obtain⟨_,rfl,_⟩:=h;exact⟨d,A,J,rfl⟩
theorem yV8(hc:CtxOk P c)(R:Rel c.n χ0 w0 S a w G)(hi:Ja a.tmps gd)(kQ:yO a.tmps gd){p:List Prop}(h:LJ c gd o S ((CA o.op).map (arg S)) (((CA o.op).map (arg S)).map (EC gd))=some (p,u,hv))(C:∀e∈u,e.1<c.n)(hh:∀s,∀e∈u,(S.get s).hung e.1=false)(gN:∀e∈u,∀e'∈u,e.2.hung e'.1=false)(hp:∀q∈p,q){Q:Exit->Act->World->Prop}(hZ:∀v w' G',Rel c.n χ0 w0 (u++S) (a.put o.dst v) w' G'->next (a.put o.dst v) w'):o.wpIn (fz rd) 0 P a w next Q:=by have kf:=yZ5 R kQ (CA o.op);unfold LJ at h;split at h;split at h;rename_i x y z I;rw[I] at h;exact xD1 R hc.n hi kQ I h C hh gN hZ;cases h;split at h;rename_i T x y A v hd I J;rw[I] at kf J;simp only[CA,map_cons,map_nil,List.cons.injEq,and_true] at J kf;obtain⟨rfl,rfl⟩:=J;simp only[C2] at kf;exact yV hc R I hd kf.1 kf.2.1 h C hp hZ;rename_i T x y z A k v hd I J;rw[I] at kf J;simp only[CA,map_cons,map_nil,List.cons.injEq,and_true] at J kf;obtain⟨rfl,rfl,rfl⟩:=J;simp only[C2] at kf;exact yN2 hc R I hd kf.1 kf.2.1 kf.2.2.1 h C hZ;cases h;rename_i hk;split at h;rename_i d cl args ats A B hd I J;split at h;rename_i T T' iJ;(cases hT:Nat.beq T T' with|false=>simp[hT] at h|true=>have:=jC hT;subst this;simp only[hT,jE] at h;(have ko:cl=.builtin .append:=by rw[I] at hk;unfold IQ at hk;split at hk<;>simp_all);subst ko;rw[I] at J kf;simp only[CA] at J kf;rw[J] at kf;(have:∃va vb,args.toList.map a.eval=[va,vb]/\zA G w a.tmps none A va/\zA G w a.tmps none B vb:=by generalize hm:args.toList.map a.eval=m at kf;cases m with|nil=>simp[C2] at kf|cons va m=>cases m with|nil=>simp[C2] at kf|cons vb m=>cases m with|nil=>simp only[C2] at kf;exact⟨va,vb,rfl,kf.1,kf.2.1⟩|cons _ _=>simp[C2] at kf);obtain⟨va,vb,hm,hA,hB⟩:=this;exact zY7 hc R I iJ hd hm hA hB h C hh hp hZ);cases h;cases h;rename_i hk;split at h;rename_i f cs r J;(cases kz:HW cs with|false=>simp[kz] at h|true=>simp only[kz,jE] at h;(have:∃fo args ats,o.op=.call { callee:=.value fo,args,argTypes:=ats }:=by unfold IQ at hk;split at hk<;>first|exact absurd hk (by decide) | (rename_i fo args ats I;exact⟨_,_,_,I⟩));obtain⟨fo,args,ats,I⟩:=this;rw[I] at J kf;simp only[CA] at J kf;rw[J] at kf;simp only[map_cons,C2] at kf;unfold cT at h;generalize hx:zU c gd o.dst f (r++cs.toL)=y at h;cases y with|some q'=>simp only[IP,jA] at h;subst h;exact xM0 hc R hi kQ I kf.1 kf.2 kz hx C hh gN hp hZ|none=>simp only[IP] at h;generalize nb:J4 c gd o.dst f (r++cs.toL) ((r++cs.toL).map (C1 S)) S=x at h;cases x with|some q'=>simp only[jA] at h;subst h;exact xE0 hc R hi kQ I kf.1 kf.2 kz nb C hh gN hp hZ|none=>simp only at h;unfold Su at h;cases gd with|some q=>exact yV7 hc R hi kQ I kf.1 kf.2 kz h C hh gN hp hZ|none=>simp only[IP] at h;generalize J:IM c o.dst f (r++cs.toL) ((r++cs.toL).map (C1 S)) S=z at h;cases z with|some q'=>simp only[jA] at h;subst h;exact yG8 hc R I kf.1 kf.2 kz J C hh hp hZ|none=>simp only at h;generalize iY:Ss c o.dst f (r++cs.toL) S=z at h;cases z with|some q'=>simp only[jA] at h;subst h;exact yV6 hc R I kf.1 kf.2 kz iY C hh hp hZ|none=>simp only at h;exact yV4 hc R I kf.1 kf.2 kz h C hh hp hZ);cases h;split at h;simp only[jA,jG] at h;exact (hp False (by rw[<-h.1];simp)).elim;cases h;exact xD3 hc R hi kQ h C hh gN hp hZ
theorem zR4(hc:CtxOk P c)(hR:Rel c.n χ0 w0 S a w G){ops:Array Oper}(ho:ops[i]?=some o){p:List Prop}(h:J6 c (ops.toList.map (·.dst)) o S=some (p,u,hv))(J:∀e∈u,e.1<c.n)(hh:∀s,∀e∈u,(S.get s).hung e.1=false)(gN:∀e∈u,∀R∈u,e.2.hung R.1=false)(hp:∀q∈p,q){Q:Exit->Act->World->Prop}(hZ:∀v w' G',Rel c.n χ0 w0 (u++S) (a.put o.dst v) w' G'->next (a.put o.dst v) w'):wpOpIn (fz rd) 0 P ops Q i next a w:=by unfold J6 at h;split at h;grind;rename_i gd I;have hi:=xC8 hR I;unfold wpOpIn;rw[ho];simp only;by_cases hw:wanted o (yielded ops a.tmps)=true;grind [yV8,yR5];rw[if_neg hw];have iq:¬yO a.tmps gd:=λe=>hw ((yR5 I).2 e);cases gd with|none=>grind [yO]|some q=>obtain⟨s,want,g⟩:=q;obtain⟨d,A,hd,rfl⟩:=xM2 (by simp) h;have C:a.tmps.getD s undef≠.bool want:=λe=>iq (by intro s' want' g' R;obtain⟨rfl,rfl,rfl⟩:=R;exact e);rw[hd];have:=yM9 (A:=A) hR hc.n hi C (J _ (jH.2 rfl)) (λs=>hh s _ (jH.2 rfl)) (gN _ (jH.2 rfl) _ (jH.2 rfl));rw[<-hd] at this ⊢;exact⟨λ_ _=>trivial,hZ _ _ _ this⟩
variable {rd:Option Nat}{gtab:GlobTab}{P:Program}{c:Ctx}{G:Gh}{w:World}{tm:Array Value}{n:Nat}{χ0:Nat->Nat->Nat}{w0:World}{S:St}{a:Act}
variable {u':St}
theorem xS1(h:Nh c S u=some u')(I:Rel c.n χ0 w0 (u++S) a w G)(J:c.n<=BN)(C:∀e∈u',e.1<c.n):∃G',Rel c.n χ0 w0 (u'++S) a w G':=by
 unfold Nh at h;split at h
 ·rename_i d t l T r;generalize (Nat.beq T d&&!(c.wr.any (Nat.beq d)))=b at h;cases b with
  |false=>grind
  |true =>
   generalize ht:(BZ T (r++S)&&!t.isL)=b at h;cases b with
   |false=>grind
   |true =>
    simp  at ht;simp  at h;subst h;exact xK7 I J (C _ (jQ ..)) ht.1 ht.2
 grind
theorem xM3(h:Nh c S u=some u'):u=u'\/∃d t l T r,u=(d,.own t l T true)::r/\u'=(d,.own t l T false)::r/\T=d/\BZ T (r++S):=by
 unfold Nh at h;split at h
 ·rename_i d t l T r;generalize hb:(Nat.beq T d&&!(c.wr.any (Nat.beq d)))=b at h;cases b with
  |false=>grind
  |true =>
   simp only[jB] at hb;generalize ht:(BZ T (r++S)&&!t.isL)=b at h;cases b with
   |false=>grind
   |true =>
    simp  at ht;simp  at h;exact .inr ⟨d,t,l,T,r,rfl,h.symm,jC hb.1,ht.1⟩
 grind
theorem yG9(R:CtxOk P c)(hR:Rel c.n χ0 w0 S a w G){ops:Array Oper}(ho:ops[i]?=some o){p:List Prop}
  (h:IS c (ops.toList.map (·.dst)) o S=some (p,u,hv))
  (C:∀e∈u,e.1<c.n) (hh:∀s,∀e∈u,(S.get s).hung e.1=false) (gN:∀e∈u,∀e'∈u,e.2.hung e'.1=false) (hp:∀q∈p,q)
  {Q:Exit->Act->World->Prop}(hZ:∀v w' G',Rel c.n χ0 w0 (u++S) (a.put o.dst v) w' G'->next (a.put o.dst v) w'):wpOpIn (fz rd) 0 P ops Q i next a w:=by
 unfold IS at h;split at h
 ·grind
 ·rename_i p0 u0 h0 kZ;cases I:xY o.op with
  |false =>
   grind [zR4]
  |true =>
   simp[I,jE] at h;split at h
   ·rename_i u' gE;obtain⟨rfl,rfl,rfl⟩:=h;rcases xM3 gE with rfl|⟨d,t,l,T,r,rfl,rfl,_,_⟩
    ·grind [zR4]
    ·refine zR4 R hR ho kZ (λe he=>?_) (λs e he=>?_) (λe he e' iS=>?_) hp λv w' G' J=>?_
     ·grind [jQ,jP]
     ·grind [jQ,jP]
     ·have hk:∀e∈((d,AVal.own t l T true)::r),∃e''∈((d,AVal.own t l T false)::r),e''.1=e.1/\∀q,e''.2.hung q=e.2.hung q:=by
       intro e he;rcases mem_cons.1 he with rfl|he
       ·exact⟨_,jQ ..,rfl,λq=>rfl⟩
       ·exact⟨e,jP _ he,rfl,λq=>rfl⟩
      grind
     ·obtain⟨G'',hR''⟩:=xS1 gE J R.n C
      grind
   grind
variable {rd:Option Nat}{gtab:GlobTab}{P:Program}{c:Ctx}{G:Gh}{w:World}{tm:Array Value}{n:Nat}{χ0:Nat->Nat->Nat}{w0:World}{S:St}{a:Act}
theorem eD{S':St}(h:∀s,S'.get s=S.get s)(C:Rel n χ0 w0 S a w G):Rel n χ0 w0 S' a w G:=
 ⟨C.len,C.defers,λs=>by rw[h];exact C.reps s,C.frame,C.glob⟩
def DN (ts:List Tr)(i:Nat):St:=match ts[i]? with|some t=>t.u|none=>[]
def exe (ts:List Tr):List Nat->St
 |[]=>[]
 |i::l=>DN ts i++exe ts l
def tex (ts:List Tr):Nat->St
 |0=>[]
 |k+1=>DN ts k++tex ts k
theorem zX{t:Tr}{ts:List Tr}:∀{k:Nat},tex (t::ts) (k+1)=tex ts k++t.u:=by
 intro k
 induction k<;>grind [tex,DN]
def SH [GlobTab] (c:Ctx)(dsts:List (Option Nat))(ops:List Oper)(S U:St)(ts:List Tr)(p:List Prop):Prop:=
 ∀i o,ops[i]?=some o->∃pi hv,IS c dsts o ((tex ts i++U)++S)=some (pi,DN ts i,hv)/\ts[i]?=some (Fw dsts o ((tex ts i++U)++S) (DN ts i) hv) /\
  (∀q∈pi,q∈p)/\(∀e∈DN ts i++(tex ts i++U),Sv (DN ts i) e.2=false)/\(∀e∈DN ts i,e.1<c.n)
theorem xE8{dsts:List (Option Nat)}:∀{ops:List Oper}{U:St}{p:List Prop}{U':St}{ts:List Tr},cV c dsts ops S U=some (p,U',ts) ->
  ts.length=ops.length/\U'=tex ts ops.length++U/\SH c dsts ops S U ts p:=by
 intro ops
 induction ops with
 |nil =>
  intro U p U' ts h;obtain⟨rfl,rfl,rfl⟩:=h;exact⟨rfl,rfl,λi o C=>by grind⟩
 |cons o r J =>
  intro U p U' ts h;unfold cV at h;split at h
  ·grind
  ·rename_i R u hv kZ;cases hb:((u++U).any (λe=>Sv u e.2)||!(u.all λe=>blt e.1 c.n)) with
   |true=>simp only[hb,jE] at h;grind
   |false =>
    simp only[hb,jD] at h;split at h
    ·grind
    ·rename_i p' u' t' hr;simp only[jA,jG] at h;obtain⟨rfl,rfl,rfl⟩:=h;obtain⟨h1,h2,h3⟩:=J hr;simp only[jJ,Bool.not_eq_false',any_eq_false,all_eq_true] at hb;refine⟨by grind,by grind [List.length_cons,zX,Fw],λi o' C=>?_⟩;cases i with
     |zero =>
      simp only[List.getElem?_cons_zero,jA] at C;subst C;refine⟨R,hv,?_,?_,λq I=>mem_append_left _ I,λe he=>?_,λe he=>?_⟩
      ·grind [tex,DN,Fw]
      ·simp[tex,DN,Fw]
      ·grind [tex,DN,Fw]
      ·have:=hb.2 e (by simpa[DN,Fw] using he);simp_all
     |succ i =>
      simp only[List.getElem?_cons_succ] at C;obtain⟨pi,gM,q1,q2,q3,q4,q5⟩:=h3 i o' C;have e1:∀t:Tr,DN (t::t') (i+1)=DN t' i:=λt=>by simp[DN]
      refine⟨pi,gM,?_,?_,λq I=>mem_append_right _ (q3 q I),λe he=>?_,λe he=>?_⟩
      ·rw[zX,e1];simpa[Fw] using q1
      ·rw[zX,e1];simpa[Fw] using q2
      ·rw[zX,e1] at he;rw[e1];exact q4 e (by simpa[Fw] using he)
      ·rw[e1] at he;exact q5 e he
theorem Pb:∀{A:AVal}{d:Nat},A.hasOpt=false->A.hung d=false:=by
 intro A
 induction A<;>grind [AVal.hasOpt,jJ,AVal.hung]
theorem WC(h:Sv u A=false):∀e∈u,A.hung e.1=false:=by
 grind [Sv,any_eq_false]
theorem zU6{q:AVal->Prop}(C:q .junk):∀{S:St}{s:Nat},(∀e∈S,q e.2)->q (S.get s):=by
 intro S
 induction S<;>grind [St.get]
section region
variable {ops:Array Oper}{ts:List Tr}{p:List Prop}
theorem yN3(R:CtxOk P c)(hF:SH c (ops.toList.map (·.dst)) ops.toList S [] ts p)(hS:∀e∈S,e.2.hasOpt=false)(hp:∀q∈p,q){i:Nat}{o:Oper}(ho:ops[i]?=some o)
  (hR:Rel c.n χ0 w0 (tex ts i++S) a w G){next:Act->World->Prop}{Q:Exit->Act->World->Prop}
  (hZ:∀v w' G',Rel c.n χ0 w0 (DN ts i++(tex ts i++S)) (a.put o.dst v) w' G'->next (a.put o.dst v) w'):wpOpIn (fz rd) 0 P ops Q i next a w:=by
 obtain⟨pi,hv,I,q2,q3,J,q5⟩:=hF i o (by grind);simp only[append_nil] at I q2 J;refine yG9 R hR ho I q5 (λs e he=>?_) (λe he C iS=>?_) (λq hq=>hp q (q3 q hq)) hZ
 ·refine zU6 (q:=λA=>A.hung e.1=false) rfl λC iS=>?_;rcases mem_append.1 iS with h|h
  ·exact WC (J C (mem_append_right _ h)) e he
  ·exact Pb (hS C h)
 grind [WC,mem_append_left]
theorem xS2{K:Act->Prop}(J:∀o∈ops.toList,∀a v,K a->K (a.put o.dst v))(R:CtxOk P c)(hF:SH c (ops.toList.map (·.dst)) ops.toList S [] ts p)(hS:∀e∈S,e.2.hasOpt=false)(hp:∀q∈p,q){Q:Exit->Act->World->Prop}
  (hQ:∀C w' G',Rel c.n χ0 w0 (tex ts ops.size++S) C w' G'->K C->Q .normal C w') :
  ∀k i,i+k=ops.size->∀a w G,Rel c.n χ0 w0 (tex ts i++S) a w G->K a->wpOpsIn (fz rd) 0 P ops Q (List.range' i k) a w:=by
 intro k
 induction k with
 |zero=>grind [wpOpsIn]
 |succ k ih =>
  intro i e a w G hR hk;have I:i<ops.size:=by omega
  refine yN3 R hF hS hp (Array.getElem?_eq_getElem I) hR λv w' G' hR'=>?_;refine ih (i+1) (by omega) _ _ G' ?_ (J _ (by simp) _ _ hk)
  grind [tex,append_assoc]
end region
variable {gtab:GlobTab}{P:Program}{c:Ctx}{S S':St}
theorem xS3{t:Nat}:∀{l:List Operand},Operand.tmp t∈l->t∈Nb l:=by intro l;induction l with|nil=>grind|cons y l I=>intro C;rcases mem_cons.1 C with rfl|C;simp[Nb];cases y<;>simp[Nb]<;>first|grind|grind
theorem xM4{x:Operand}{l:List Operand}(C:x∈l)(h:∀r∈Nb l,S'.get r=S.get r):arg S' x=arg S x:=by cases x<;>grind [arg,xS3]
theorem xE9{l:List Operand}(h:∀r∈Nb l,S'.get r=S.get r):l.map (arg S')=l.map (arg S):=map_congr_left λ_ C=>xM4 C h
variable {dsts:List (Option Nat)}
theorem yV9{g:Option (Nat×Bool)}(h:∀r∈yE dsts g,S'.get r=S.get r):KN dsts S' g=KN dsts S g:=by cases g<;>grind [KN,yE]
variable {A:AVal}
theorem xS4{s:Nat}:∀{l:List AVal},A∈l->EF A=some s->s∈refs l:=by intro l;induction l with|nil=>grind|cons B l I=>intro h C;rcases mem_cons.1 h with rfl|h;cases A<;>simp[EF] at C<;>simp[refs,C];cases B<;>simp[refs]<;>first|grind|grind
theorem yR6(h:EF A=none):C1 S' A=C1 S A:=by cases A<;>first|rfl|grind [EF]
variable {l:List AVal}
theorem zX0(I:A∈l)(h:∀r∈refs l,S'.get r=S.get r):C1 S' A=C1 S A:=by cases C:EF A with|none=>exact yR6 C|some s=>have:=h s (xS4 I C);cases A<;>simp[EF] at C<;>(grind [C1])
variable {gd:Gd}
theorem yH:EC gd A=bare A\/EC gd A=.junk:=by cases A with|opt s w g A=>simp[EC,bare];grind|_=>exact .inl rfl
theorem zP0(h:∀r∈refs (l.map bare),S'.get r=S.get r):((l.map (EC gd)).map (C1 S'))=((l.map (EC gd)).map (C1 S)):=by rw[map_map,map_map];refine map_congr_left λA C=>?_;simp;rcases yH (gd:=gd) (A:=A) with e|e;grind [zX0,List.mem_map_of_mem];rw[e];rfl
theorem yW{r:List AVal}:refs (l++r)=refs l++refs r:=by induction l with|nil=>rfl|cons A l C=>cases A<;>simp[refs,C]
variable {o:Oper}{u:St}
theorem yA4{p:List Prop}(h:J6 c dsts o S=some (p,u,false))(hr:∀r∈(Fw dsts o S u false).rd,S'.get r=S.get r)(hq:∀e∈S',e∈S\/∀d,o.dst=some d->Sw d e.2):J6 c dsts o S'=some (p,u,false):=by simp only[Fw] at hr;have h1:=xE9 (gtab:=gtab) (l:=CA o.op) (S:=S) (S':=S') λr iU=>hr r (mem_append_left _ iU);have h2:=yV9 (dsts:=dsts) (g:=o.guard) (S:=S) (S':=S') λr iU=>hr r (mem_append_right _ (mem_append_left _ iU));have h3:∀r∈refs (Wd o.op ((CA o.op).map (λx=>bare (arg S x)))),S'.get r=S.get r:=λr iU=>hr r (mem_append_right _ (mem_append_right _ iU));(have gC:∀d T,o.dst=some d->(T=d\/T=100000+d\/T=200000+d\/T=300000+d)->BZ T S->BZ T S':=by intro d T C hT hn;simp only[BZ,all_eq_true] at hn ⊢;intro e he;rcases hq e he with h' | h';exact hn e h';have:=h' d C;simp only[Sw,jB] at this;obtain⟨_,q1,q2,q3,q4⟩:=this;rcases hT with rfl|rfl|rfl|rfl<;>assumption);(have href:∀d,o.dst=some d->GA d S->GA d S':=by intro d C hn;simp only[GA,all_eq_true] at hn ⊢;intro e he;rcases hq e he with h' | h';exact hn e h';have:=h' d C;simp only[Sw,jB] at this;exact this.1);unfold J6 at h ⊢;rw[h2];split at h;cases h;rename_i gd hgd;rw[h1];generalize hX:(CA o.op).map (arg S)=X at h ⊢;(have hXb:(CA o.op).map (λx=>bare (arg S x))=X.map bare:=by rw[<-hX,map_map];rfl);rw[hXb] at h3;(have hy:IQ o.op≠3->Wd o.op (X.map bare)=X.map bare:=by intro hk;unfold Wd;split;rename_i ho _;rw[ho] at hk;simp[IQ] at hk;rfl);unfold LJ at h ⊢;generalize hk:IQ o.op=k at h ⊢ hy;match k,hk,h,hy with |0,hk,h,hy=>exact h|1,hk,h,hy=>rw[hy (by decide)] at h3;simp only at h ⊢;split at h;rename_i T x y A v h0 C ho hl;have nb:=zP0 (gd:=none) h3;rw[hl] at nb;simp only[map_cons,List.cons.injEq] at nb;rw[nb.1];unfold cO at h ⊢;split at h;rename_i s0 U t i q;split at h;unfold yD7 at h;split at h;generalize (Ty.beq _ _&&Nat.beq _ _&&Nat.beq _ _&&c.is T _&&_&&_&&_)=b at h;(cases b with|false=>simp at h|true=>simp only[jE] at h;split at h<;>simp at h);cases h;rename_i t' l U' tl;(cases hho:xW0 v with|true=>simp only[hho,jE] at h;unfold yD6 at h;split at h;generalize (Ty.beq _ _&&Ty.beq _ _&&Nat.beq _ _&&c.is T _&&_&&_&&_)=b at h;cases b<;>simp at h;cases h|false=>simp only[hho,jD] at h;cases hb:(Ty.beq t' t&&Nat.beq U' U&&c.is T (t'.pty q)&&AVal.fits (t'.pty q) v) with|false=>simp only[hb,jD] at h;cases h|true=>simp only[hb,jE] at h;split at h;simp at h;cases h);cases h;exact h;exact h;rename_i T x y z A k v h0 C ho hl;unfold cQ at h;split at h;split at h;split at h;simp at h;cases h;cases h;cases h;cases h|2,hk,h,hy=>simp only at h;split at h;split at h;rename_i T T' iJ;(cases hT:Nat.beq T T' with|false=>simp[hT] at h|true=>simp only[hT,jE] at h;unfold Wf at h;generalize BZ _ S=b at h;cases b with|false=>cases h|true=>simp only[jE] at h;split at h;simp at h;split at h<;>simp at h);cases h;cases h|3,hk,h,hy=>simp only at h ⊢;split at h;rename_i f cs r hl;(cases kz:HW cs with|false=>simp[kz] at h|true=>simp only[kz,jE] at h ⊢;(have gK:(r++cs.toL).map (C1 S')=(r++cs.toL).map (C1 S):=by (have:∃fo args ats,o.op=.call { callee:=.value fo,args,argTypes:=ats }:=by unfold IQ at hk;split at hk<;>first|exact absurd hk (by decide) | (rename_i fo args ats ho;exact⟨_,_,_,ho⟩));obtain⟨fo,args,ats,ho⟩:=this;cases X with|nil=>simp at hl|cons x0 X'=>simp only[map_cons,List.cons.injEq] at hl;obtain⟨uo,rfl⟩:=hl;(have mw:bare x0=.fn f cs:=by rcases yH (gd:=gd) (A:=x0) with e|e;rw[<-e,uo];rw[e] at uo;cases uo);rw[ho,map_cons,mw] at h3;simp only[Wd,yW] at h3;rw[List.map_append,List.map_append,zP0 (λr hr=>h3 r (mem_append_left _ hr))];congr 1;exact map_congr_left λA hA=>zX0 hA λr hr=>h3 r (mem_append_right _ hr));unfold cT at h ⊢;generalize hx:zU c gd o.dst f (r++cs.toL)=y at h ⊢;cases y with|some q'=>exact h|none=>simp only[IP] at h ⊢;rw[gK];(have mz:∀q:List Prop×St×Bool,Su c gd o.dst f (r++cs.toL) S=some q->q.2.2=true\/(gd=none/\IM c o.dst f (r++cs.toL) ((r++cs.toL).map (C1 S)) S=some q):=by intro q;unfold Su;cases gd with|some _=>intro e;simp only at e;unfold xI at e;split at e;simp only[jA] at e;rw[<-e];exact .inl rfl;cases e|none=>simp only;generalize hl:IM c o.dst f (r++cs.toL) ((r++cs.toL).map (C1 S)) S=z;cases z with|some q'=>intro e;simp only[IP,jA] at e;subst e;exact .inr ⟨trivial,rfl⟩|none=>simp only[IP];generalize gD:Ss c o.dst f (r++cs.toL) S=z2;cases z2 with|some q'=>intro e;simp only[jA] at e;subst e;unfold Ss at gD;split at gD;generalize (_&&BZ _ S)=bb at gD;(cases bb with|false=>cases gD|true=>simp only[jE,jA] at gD;rw[<-gD];exact .inl rfl);cases gD|none=>simp only;generalize hh:Wi c o.dst f (r++cs.toL) S=z;cases z with|none=>intro e;cases e|some q'=>intro e;simp only[jA] at e;subst e;unfold Wi at hh;split at hh;cases hh;split at hh;cases hh;generalize (_&&IJ _)=bb at hh;cases bb with|false=>cases hh|true=>simp only[jE,jA] at hh;rw[<-hh];exact .inl rfl);generalize nb:J4 c gd o.dst f (r++cs.toL) ((r++cs.toL).map (C1 S)) S=x at h;cases x with|none=>rcases mz _ h with e|⟨rfl,J⟩;cases e;(have Nd:∀d,o.dst=some d->(BZ d S&&BZ (100000+d) S&&BZ (200000+d) S&&BZ (300000+d) S):=by intro d C;unfold IM at J;split at J;cases J;split at J;rename_i d' _ iC;rw[C] at iC;injection iC with iC;subst iC;generalize hb:(_&&BZ (300000+d) S)=bb at J;(cases bb with|false=>cases J|true=>simp only[jB] at hb ⊢;exact⟨⟨⟨hb.1.1.1.2,hb.1.1.2⟩,hb.1.2⟩,hb.2⟩);cases J);(have I:∀d,o.dst=some d->(BZ d S'=BZ d S/\BZ (100000+d) S'=BZ (100000+d) S/\BZ (200000+d) S'=BZ (200000+d) S/\BZ (300000+d) S'=BZ (300000+d) S):=by intro d C;have:=Nd d C;simp only[jB] at this;obtain⟨⟨⟨b1,b2⟩,b3⟩,b4⟩:=this;rw[b1,b2,b3,b4];exact⟨gC d _ C (.inl rfl) b1,gC d _ C (.inr (.inl rfl)) b2,gC d _ C (.inr (.inr (.inl rfl))) b3,gC d _ C (.inr (.inr (.inr rfl))) b4⟩);(have hcs':J4 c none o.dst f (r++cs.toL) ((r++cs.toL).map (C1 S)) S'=none:=by rw[<-nb];clear nb;revert I;generalize o.dst=dst;intro I;cases dst with|none=>rfl|some d=>obtain⟨e1,e2,e3,e4⟩:=I d rfl;unfold J4;simp only[e1,e2,e3,e4]);rw[hcs'];simp only;(have hl':IM c o.dst f (r++cs.toL) ((r++cs.toL).map (C1 S)) S'=some (p,u,false):=by rw[<-J];unfold IM;split;rfl;split;rename_i d' _ iC;obtain⟨e1,e2,e3,e4⟩:=I d' iC;rw[e1,e2,e3,e4];rfl);unfold Su;rw[gK,hl'];rfl|some q'=>simp only[jA] at h;subst h;(have hcs':J4 c gd o.dst f (r++cs.toL) ((r++cs.toL).map (C1 S)) S'=some (p,u,false):=by unfold J4 at nb ⊢;split at nb;cases nb;rename_i co nr;generalize (LG co.outs 0 _&&E6 co.res&&_&&_)=b at nb ⊢;cases b with|false=>simp only[Bool.not_false,jE] at nb;cases nb|true=>simp only[Bool.not_true,jD] at nb ⊢;split at nb;rename_i uu gR heat;(cases gd with|some q=>exact nb|none=>simp only at nb ⊢;split at nb;exact nb;rename_i d C;generalize hb:(BZ d S&&BZ (100000+d) S&&BZ (200000+d) S&&BZ (300000+d) S)=b at nb;cases b with|false=>cases nb|true=>simp only[jB] at hb;obtain⟨⟨⟨b1,b2⟩,b3⟩,b4⟩:=hb;rw[gC d _ C (.inl rfl) b1,gC d _ C (.inr (.inl rfl)) b2,gC d _ C (.inr (.inr (.inl rfl))) b3,gC d _ C (.inr (.inr (.inr rfl))) b4];exact nb);cases nb);rw[hcs']);cases h|4,hk,h,hy=>exact h|k+5,hk,h,hy=>rw[hy (by omega)] at h3;simp only at h ⊢;rw[zP0 h3];unfold zK at h ⊢;split at h;cases h;rename_i d C;split at h;cases h;rename_i p' A hA;cases hf:H6 o.op with|false=>simpa[hf] using h|true=>simp only[hf,jE] at h ⊢;cases hb:(gd.isNone&&GA d S&&BZ d S) with|false=>simp only[hb,jD] at h;unfold Ng at h;split at h;rename_i q t l T m _;(cases R:(GA d S&&BZ d S&&Nat.beq T d&&!t.isL) with|false=>simp only[R,jD] at h;cases h|true=>simp only[R,jE] at h;simp only[jB] at R;simp only[Option.isNone_some,Bool.false_and,jD,Ng,href d C R.1.1.1,gC d d C (.inl rfl) R.1.1.2,R.1.2,R.2,Bool.and_self,jE];exact h);cases h|true=>simp only[hb,jE] at h;simp only[jB] at hb;rw[hb.1.1,href d C hb.1.2,gC d d C (.inl rfl) hb.2];exact h
theorem xZ5{d:Nat}{p C:List Prop}{hv:Bool}(h:Ng gd d p A S=some (C,u,hv)):∃B,u=[(d,B)]:=by unfold Ng at h;grind
theorem wD2{p:List Prop}(h:J6 c dsts o S=some (p,u,false))(hm:xY o.op):∃d A,o.dst=some d/\u=[(d,A)]:=by unfold J6 at h;split at h;grind;unfold LJ at h;unfold xY at hm;split at hm;rename_i T n ps C;rw[C] at h;simp[IQ,zK] at h;grind [GA,BZ,xZ5];rename_i T x y C;rw[C] at h;simp[IQ,zK] at h;grind [GA,BZ,xZ5];rename_i args ats C;rw[C] at h;simp only[IQ] at h;grind [Nat.beq,Wf,BZ];grind
theorem yW0{p:List Prop}(h:IS c dsts o S=some (p,u,false))(R:∀r∈(Fw dsts o S u false).rd,S'.get r=S.get r)(I:∀e∈S',e∈S\/∀d,o.dst=some d->Sw d e.2):IS c dsts o S'=some (p,u,false):=by unfold IS at h ⊢;split at h;grind;rename_i p0 u0 h0 kZ;cases C:xY o.op with|false=>grind [yA4]|true=>simp[C] at h;split at h;rename_i u' gE;simp at h;obtain⟨rfl,rfl,rfl⟩:=h;have J:=yA4 kZ (u:=u0) R I;obtain⟨d,A,hd,rfl⟩:=wD2 kZ C;(have:Nh c S' [(d,A)]=some u':=by rw[<-gE];unfold Nh;cases A with|own t l T m=>(cases m with|false=>rfl|true=>simp only;generalize hb:(Nat.beq T d&&!(c.wr.any (Nat.beq d)))=b;cases b with|false=>rfl|true=>(have hold:BZ T S:=by grind [Nh]);(have kU:BZ T S':=by simp only[BZ,all_eq_true] at hold ⊢;intro e he;rcases I e he with h' | h';grind;simp_all [Sw]);grind)|_=>rfl);grind;grind
variable {gtab:GlobTab}{P:Program}{c:Ctx}{G:Gh}{w:World}{tm:Array Value}{n:Nat}{χ0:Nat->Nat->Nat}{w0:World}{S:St}{a:Act}
def ahd (ops:List Oper)(i j:Nat):Prop:=((ahead ops []).getD j 0).testBit i=true
variable {i:Nat}
theorem zY8{acc:List Nat}:∀{l:List Edge},(IU acc l).testBit i->∃e∈l,binds .any e/\(i=e.on\/(acc.getD e.on 0).testBit i):=by
 intro l
 induction l with
 |nil=>grind [IU]
 |cons e r C =>
  intro h;simp only[IU] at h;cases hb:binds .any e with
  |false =>
   grind
  |true =>
   simp only[hb] at h;have h:((2 ^ e.on ||| acc.getD e.on 0) ||| IU acc r).testBit i:=h
   grind
theorem yR7:∀{ops:List Oper}{acc:List Nat},∃r,ahead ops acc=acc++r/\r.length=ops.length:=by
 intro ops
 induction ops with
 |nil=>simp_all [ahead]
 |cons o l C =>
  intro acc;obtain⟨r,I,J⟩:=C (acc:=acc++[IU acc o.after.toList])
  grind [ahead]
theorem xS5:∀{ops:List Oper}{acc:List Nat}{j i:Nat}{o:Oper},ops[j]?=some o->((ahead ops acc).getD (acc.length+j) 0).testBit i=true ->
  ∃e∈o.after.toList,binds .any e/\(i=e.on\/((ahead ops acc).getD e.on 0).testBit i):=by
 intro ops
 induction ops with
 |nil=>grind
 |cons o' l R =>
  intro acc j i o I h;cases j with
  |zero =>
   simp  at I;subst I;simp only[ahead] at h ⊢;obtain⟨r,hr,_⟩:=yR7 (ops:=l) (acc:=acc++[IU acc o'.after.toList]);rw[hr] at h ⊢;have e1:((acc++[IU acc o'.after.toList])++r).getD (acc.length+0) 0=IU acc o'.after.toList:=by simp
   rw[e1] at h;obtain⟨e,he,hb,C⟩:=zY8 h;refine⟨e,he,hb,C.imp id λC=>?_⟩;by_cases J:e.on<acc.length
   ·simp only[jM] at C ⊢;rw[append_assoc,List.getElem?_append_left J];exact C
   ·simp  at C;rw[List.getElem?_eq_none (by omega)] at C;simp at C
  |succ j =>
   simp only[ahead] at h ⊢;have:=R (acc:=acc++[IU acc o'.after.toList]) (j:=j) (i:=i) I (by grind)
   grind
theorem xS6{ops:List Oper}{j:Nat}(C:ops[j]?=some o)(h:ahd ops i j):∃e∈o.after.toList,binds .any e/\(i=e.on\/ahd ops i e.on):=
 xS5 (acc:=[]) C (by grind [ahd])
theorem zR5:∀{ops:List Oper}{k j:Nat}{o:Oper},LK k ops->ops[j]?=some o->∀e∈o.after.toList,binds .any e->e.on<k+j:=by
 intro ops
 induction ops with
 |nil=>grind
 |cons o' l J =>
  intro k j o h C e he I;simp only[LK,jB] at h;cases j with
  |zero =>
   simp  at C;subst C;have:=all_eq_true.1 h.1 e he;simp_all
  |succ j =>
   grind
variable {K:Nat}
theorem yW1{b:Nat}{t:Tr}:∀{l:List Tr}{k i:Nat}{t':Tr},cX K b t k l->l[i]?=some t'->K<=k+i->IT t' t->b.testBit (k+i):=by
 intro l
 induction l with
 |nil=>grind
 |cons x l I =>
  intro k i t' h J R hc;simp only[cX,jB,or_eq_true] at h;cases i with
  |zero =>
   rcases h.1 with C | C | C
   ·have:=Nat.blt_eq.mp C;omega
   all_goals grind
  |succ i =>
   grind
theorem xF:∀{bs:List Nat}{trs l:List Tr}{i j:Nat}{ti tj:Tr},LM K trs bs l->(trs++l)[i]?=some ti->l[j]?=some tj->i<trs.length+j->K<=i->IT ti tj->(bs.getD j 0).testBit i:=by
 intro bs
 induction bs with
 |nil=>grind [LM]
 |cons b bs J =>
  intro trs l i j ti tj h hi C R hK I;cases l with
  |nil=>grind
  |cons t l =>
   simp[LM] at h;cases j with
   |zero =>
    simp  at C;subst C;have:=yW1 h.1 (i:=i) (t':=ti) (by grind) (by omega) I
    grind
   |succ j =>
    have:=J (i:=i) (j:=j) (ti:=ti) (tj:=tj) h.2 (by grind) (by grind) (by grind) hK I
    grind
theorem xM5:∀{l m:List Nat}{x:Nat},apart l m->x∈l->x∈m->False:=by
 intro l
 induction l with
 |nil=>grind
 |cons y l I =>
  intro m x h C hm;simp only[apart] at h;rcases mem_cons.1 C with rfl|C
  ·simp  at h
   grind
  grind
theorem xW9{r:Nat}:∀{u:St},St.has r u=true↔r∈u.map (·.1):=by
 simp_all [St.has]
variable {rd:Option Nat}{gtab:GlobTab}{P:Program}{c:Ctx}{G:Gh}{w:World}{tm:Array Value}{n:Nat}{χ0:Nat->Nat->Nat}{w0:World}{S:St}{a:Act}
section draw
variable {ops:Array Oper}{ts:List Tr}{p:List Prop}
def wr (ts:List Tr)(j r:Nat):Prop:=St.has r (DN ts j)=true
structure Inv (ops:Array Oper) (ts:List Tr) (S:St) (l:List Nat):Prop where
 nd:l.Nodup
 lt:∀i∈l,i<ops.size
 down:∀j∈l,∀i,ahd ops.toList i j->i∈l
 val:∀r k,(∀j,j<k->wr ts j r->j∈l)->(∀j∈l,wr ts j r->j<k)->(exe ts l++S).get r=(tex ts k++S).get r
def Ny (ts:List Tr):Prop:=∀j,∀e∈DN ts j,e.1≠BN
variable {r:Nat}
theorem xS7(C:Ny ts):∀{k:Nat},(∀j,j<k->¬wr ts j r)->(tex ts k++S).get r=S.get r:=by
 intro k
 induction k with
 |zero=>intro _;rfl
 |succ k I =>
  intro h;rw[tex,append_assoc,KW (C k) (by simp_all [wr])]
  grind
variable {i:Nat}
theorem xX(C:Ny ts):∀{k:Nat},i<k->wr ts i r->(∀j,i<j->j<k->¬wr ts j r)->(tex ts k++S).get r=(DN ts i).get r:=by
 intro k
 induction k with
 |zero=>grind
 |succ k I =>
  intro h hw J;rw[tex,append_assoc];by_cases e:i=k
  ·subst e;exact Nv (C i) hw
  ·rw[KW (C k) (by grind [wr])]
   grind
variable {j:Nat}
theorem SI(h:wr ts j r):∃t,ts[j]?=some t/\t.u=DN ts j:=by
 grind [wr,DN,St.has]
theorem Pc{t t':Tr}(h:IT t t'=false):(t.heavy=false->t'.heavy=false/\(∀r,r∈t.rd->St.has r t'.u->False)/\cW t.dst t.u t'.u=true) /\
  (t.heavy->t'.pl/\∀d,t.dst=some d->St.has d t'.u=false)/\(∀r,St.has r t.u->r∈t'.rd->False)/\(∀r,St.has r t.u->St.has r t'.u->False):=by
 grind [IT,xM5,xW9]
theorem xF0:∀{S:St},St.has r S=false->S.get r=.junk:=by
 intro S
 induction S with
 |nil=>intro _;rfl
 |cons e S C =>
  intro h;simp only[St.has,any_cons,jJ] at h;have I:=C (show St.has r S=false from h.2);simp_all [St.get]
variable {u:St}
theorem xM6{dst:Option Nat}{S:St}(h:cU dst S u):∃d τ x,u=[(d,.val τ x)]/\St.has d S=false:=by
 unfold cU at h
 grind
theorem xM7 (C:Ny ts):Inv ops ts S []:=
 ⟨List.nodup_nil,λi h=>(by grind),λj h=>(by grind),λr k h _=>(xS7 C λj I hw=>by grind).symm⟩
def Ord (k:Nat)(ops:Array Oper)(ts:List Tr):Prop:=∀i j ti tj,ts[i]?=some ti->ts[j]?=some tj->i<j->k<=i->IT ti tj->ahd ops.toList i j
theorem Inv.up {l:List Nat}(I:Inv ops ts S l){i:Nat}{o:Oper}(J:ops[i]?=some o)(he:∀e∈o.after.toList,binds .any e->e.on∈l){j:Nat}(h:ahd ops.toList j i):j∈l:=by
 obtain⟨e,hm,hb,C⟩:=xS6 (ops:=ops.toList) (by simpa using J) h;rcases C with rfl|C
 ·grind
 ·exact I.down _ (he e hm hb) _ C
variable {l:List Nat}{o:Oper}
theorem Inv.cons(R:Ny ts)(hO:∀j ti tj,j∈l->ts[i]?=some ti->ts[j]?=some tj->i<j->IT ti tj->ahd ops.toList i j)(J:Inv ops ts S l)(ho:ops[i]?=some o)(hi:i∉l)(he:∀e∈o.after.toList,binds .any e->e.on∈l):Inv ops ts S (i::l):=by
 refine⟨List.nodup_cons.2 ⟨hi,J.nd⟩,λj C=>?_,λj C k hk=>?_,λr k h1 h2=>?_⟩
 ·rcases mem_cons.1 C with rfl|C
  ·grind
  ·exact J.lt j C
 ·rcases mem_cons.1 C with rfl|C
  ·exact jP _ (J.up ho he hk)
  ·exact jP _ (J.down j C k hk)
 ·rw[exe,append_assoc];by_cases hw:wr ts i r
  ·rw[Nv (R i) hw];refine (xX R (h2 i (jQ ..) hw) hw λj gv hjk I=>?_).symm;have C:j∈l:=by
    grind
   obtain⟨ti,hti,ei⟩:=SI hw;obtain⟨tj,htj,ej⟩:=SI I;cases hc:IT ti tj with
   |true=>exact hi (J.down j C i (hO j ti tj C hti htj gv hc))
   |false=>exact (Pc hc).2.2.2 r (by rw[ei];exact hw) (by rw[ej];exact I)
  ·rw[KW (R i) (by grind [wr])];refine J.val r k (λj C I=>?_) λj C I=>h2 j (jP _ C) I
   grind
variable {e:Nat×AVal}
theorem xM8:∀{l:List Nat},e∈exe ts l->∃j∈l,e∈DN ts j:=by
 intro l
 induction l with
 |nil=>intro h;cases h
 |cons i l C =>
  intro h;rcases mem_append.1 h with h|h
  all_goals grind
theorem yW2:∀{k:Nat},j<k->e∈DN ts j->e∈tex ts k:=by
 intro k
 induction k<;>grind [tex]
theorem yN4(h:e∈DN ts j):∃t,ts[j]?=some t/\t.u=DN ts j:=by
 grind [DN]
variable {k:Nat}
theorem xM9{S:St}(h:j<k)(hw:wr ts j r):St.has r (tex ts k++S):=by
 obtain⟨e,he,C⟩:=any_eq_true.1 (show (DN ts j).any (λe=>Nat.beq e.1 r)=true from hw);exact any_eq_true.2 ⟨e,mem_append_left _ (yW2 h he),C⟩
theorem xS8{S:St}(h:i<=j)(C:St.has r (tex ts i++S)):St.has r (tex ts j++S):=by
 induction j<;>grind [tex,append_assoc,St.has]
theorem xN(hn:Ny ts)(hc:CtxOk P c)(hF:SH c (ops.toList.map (·.dst)) ops.toList S [] ts p)(hS:∀e∈S,e.2.hasOpt=false)(hp:∀q∈p,q)(hO:Ord k ops ts)
  (hI:Inv ops ts S l) (hk:∀j,j<k->j∈l)(ho:ops[i]?=some o) (hi:i∉l) (he:∀e∈o.after.toList,binds .any e->e.on∈l)
  (hR:Rel c.n χ0 w0 (exe ts l++S) a w G){next:Act->World->Prop}{Q:Exit->Act->World->Prop}
  (hZ:∀v w' G',Rel c.n χ0 w0 (exe ts (i::l)++S) (a.put o.dst v) w' G'->next (a.put o.dst v) w'):wpOpIn (fz rd) 0 P ops Q i next a w:=by
 have hF':=hF;obtain⟨pi,hv,q1,q2,q3,q4,q5⟩:=hF i o (by grind);simp only[append_nil] at q1 q2 q4;have qg:∀j tj,j∈l->ts[j]?=some tj->i<j->IT (Fw (ops.toList.map (·.dst)) o (tex ts i++S) (DN ts i) hv) tj=false:=by
  intro j tj C htj gv;cases ko:IT _ tj with
  |true=>exact absurd (hI.down j C i (hO i j _ tj q2 htj gv (le_of_not_lt λh=>hi (hk i h)) ko)) hi
  |false=>rfl
 have qx:∀j tj,j∉l->ts[j]?=some tj->j<i->IT tj (Fw (ops.toList.map (·.dst)) o (tex ts i++S) (DN ts i) hv)=false:=by
  intro j tj C htj gv;cases ko:IT tj _ with
  |true=>exact absurd (hI.up ho he (hO j i tj _ htj q2 gv (le_of_not_lt λh=>C (hk j h)) ko)) C
  |false=>rfl
 cases hv with
 |true =>
  have hall:∀j,j<i->∀t,ts[j]?=some t->j∈l:=by
   intro j C t ht;by_cases iv:j∈l
   ·grind
   ·have h1:=Pc (qx j t iv ht C)
    grind [Fw]
  have kz:∀j∈l,i<j->∀r,wr ts j r->∃τ x,DN ts j=[(r,.val τ x)]/\St.has r (tex ts j++S)=false/\St.has r (DN ts i)=false/\o.dst≠some r:=by
   intro j C gv r hw;obtain⟨t,ht,eu⟩:=SI hw;have h1:=Pc (qg j t C ht gv);obtain⟨h2,h3⟩:=h1.2.1 rfl;obtain⟨oj,hoj⟩:∃oj,ops.toList[j]?=some oj:=⟨ops[j]'(hI.lt j C),by grind⟩;obtain⟨pj,hvj,_,r2,_⟩:=hF' j oj hoj;rw[ht] at r2;injection r2 with r2
   rw[append_nil] at r2;have h2':cU oj.dst (tex ts j++S) (DN ts j):=by
    rw[r2] at h2;simp only[Fw,jB] at h2
    grind
   obtain⟨d,τ,x,e1,e3⟩:=xM6 h2';have hr:r=d:=by
    unfold wr at hw;rw[e1] at hw;simp only[St.has,any_cons,List.any_nil,Bool.or_false] at hw
    grind [jC]
   subst hr;refine⟨τ,x,e1,e3,?_,λhd=>?_⟩
   ·cases hh:St.has r (DN ts i) with
    |false=>rfl
    |true=>exact (h1.2.2.2 r hh (by rw[eu];exact hw)).elim
   ·have:=h3 r hd;rw[eu] at this;exact absurd (show St.has r (DN ts j)=true from hw) (by grind)
  have kP:∀r,(∀j∈l,i<j->¬wr ts j r)->(exe ts l++S).get r=(tex ts i++S).get r:=λr qp=>by
   refine hI.val r i (λj C hw=>?_) λj C hw=>?_
   ·obtain⟨t,ht,_⟩:=SI hw;exact hall j C t ht
   ·by_cases I:j<i
    ·exact I
    ·have:i≠j:=λe=>hi (e ▸ C);exact (qp j C (by omega) hw).elim
  have tu:∀r,(∃j∈l,i<j/\wr ts j r)->∃τ x,(exe ts l++S).get r=.val τ x/\(tex ts i++S).get r=.junk/\St.has r (DN ts i)=false/\o.dst≠some r:=by
   rintro r ⟨j,C,gv,hw⟩;obtain⟨τ,x,e1,e3,e4,e5⟩:=kz j C gv r hw;refine⟨τ,x,?_,xF0 ?_,e4,e5⟩
   ·have:=hI.val r (j+1) (λj' qn ng=>?_) (λj' qn ng=>?_)
    ·rw[this,tex,append_assoc,Nv (hn j) hw,e1];simp[St.get]
    ·by_cases h:j'=j
     ·rw[h];exact C
     ·have:=xM9 (S:=S) (show j'<j by omega) ng;rw[e3] at this;cases this
    ·by_cases h:j'<j+1
     ·exact h
     ·obtain⟨_,_,_,e3',_⟩:=kz j' qn (by omega) r ng;have:=xM9 (S:=S) (show j<j' by omega) hw;rw[e3'] at this;cases this
   ·cases hh:St.has r (tex ts i++S) with
    |false=>rfl
    |true=>have:=xS8 (S:=S) (Nat.le_of_lt gv) hh;rw[e3] at this;cases this
  have R0:Rel c.n G.χ w (tex ts i++S) a w G:=by
   refine { hR with frame:=⟨rfl,rfl,rfl,jI _,λ_ _ _=>rfl,λ_ _ _ _=>⟨rfl,rfl⟩⟩,reps:=λs=>?_ }
   by_cases h:∃j∈l,i<j/\wr ts j s
   ·obtain⟨_,_,_,e,_⟩:=tu s h;rw[e];simp only[zA]
   ·rw[<-kP s λj C gv hw=>h ⟨j,C,gv,hw⟩];exact hR.reps s
  refine yN3 hc hF' hS hp ho R0 λv w' G' R=>hZ v w' G' ?_;rw[exe,append_assoc];have hfr:Frame0 χ0 w0 G'.χ w':=by
   have h:=hR.frame;have k:=R.frame;refine⟨k.os.trans h.os,k.tape.trans h.tape,k.output.trans h.output,Nat.le_trans h.size k.size,λb hb hc=>?_,λb o hb hc=>?_⟩
   ·rw[k.block b (Nat.lt_of_lt_of_le hb h.size) (λo=>by rw[(h.cell b o hb (hc o)).1];exact hc o)];exact h.block b hb hc
   ·have h1:=h.cell b o hb hc;have h2:=k.cell b o (Nat.lt_of_lt_of_le hb h.size) (by rw[h1.1];exact hc);exact⟨h2.1.trans h1.1,h2.2.trans h1.2⟩
  refine { R with frame:=hfr,reps:=λs=>?_ }
  by_cases h:∃j∈l,i<j/\wr ts j s
  ·obtain⟨τ,x,e1,_,e4,e5⟩:=tu s h;have k:=hR.reps s;rw[e1] at k;simp only[zA] at k;rw[KW (hn i) e4,e1];simp only[zA];have e:(a.put o.dst v).tmps.getD s undef=a.tmps.getD s undef:=by
    unfold Act.put;cases hd:o.dst with
    |none=>rfl
    |some d =>
     have kj:d≠s:=λe=>e5 (by rw[hd,e]);show (a.tmps.setIfInBounds d v).getD s undef=_;rw[Array.getD_eq_getD_getElem?,Array.getD_eq_getD_getElem?,Array.getElem?_setIfInBounds_ne kj]
   rw[e];exact Ge (λb o hb h0=>by
    have:=R.frame.cell b o hb (by rw[h0];decide);exact⟨this.1.trans h0,this.2⟩) k
  ·have e:(DN ts i++(exe ts l++S)).get s=(DN ts i++(tex ts i++S)).get s:=by
    cases hh:St.has s (DN ts i) with
    |true=>rw[Nv (hn i) hh,Nv (hn i) hh]
    |false=>rw[KW (hn i) hh,KW (hn i) hh];exact kP s λj C gv hw=>h ⟨j,C,gv,hw⟩
   rw[e];exact R.reps s
 |false =>
  have hloc:=yW0 (S':=exe ts l++S) q1 (λr hr=>hI.val r i (λj C hw=>?_) (λj C hw=>?_)) (λe nk=>?_)
  ·refine yG9 hc hR ho hloc q5 (λs e nk=>?_) (λe nk e' hem'=>WC (q4 e (mem_append_left _ nk)) e' hem') (λq hq=>hp q (q3 q hq)) λv w' G' R=>hZ v w' G' (by rw[exe,append_assoc];exact R);refine zU6 (q:=λA=>A.hung e.1=false) rfl λe' iS=>?_;rcases mem_append.1 iS with h|h
   ·obtain⟨j,C,J⟩:=xM8 h;by_cases I:j<i
    ·exact WC (q4 e' (mem_append_right _ (yW2 I J))) e nk
    ·have:i≠j:=λe=>hi (e ▸ C);obtain⟨t,ht,eu⟩:=yN4 J;have hq:=((Pc (qg j t C ht (by omega))).1 rfl).2.2;simp only[cW,all_eq_true,Fw,jB,jK] at hq;exact WC (hq e' (by rw[eu];exact J)).1 e nk
   ·exact Pb (hS e' h)
  ·by_cases iv:j∈l
   ·grind
   ·obtain⟨t,ht,eu⟩:=SI hw;exact ((Pc (qx j t iv ht C)).2.2.1 r (by rw[eu];exact hw) hr).elim
  ·obtain⟨t,ht,eu⟩:=SI hw;by_cases I:j<i
   ·exact I
   ·have:i≠j:=λe=>hi (e ▸ C);exact (((Pc (qg j t C ht (by omega))).1 rfl).2.1 r hr (by rw[eu];exact hw)).elim
  ·rcases mem_append.1 nk with h|h
   ·obtain⟨j,C,J⟩:=xM8 h;by_cases I:j<i
    ·exact .inl (mem_append_left _ (yW2 I J))
    ·have:i≠j:=λe=>hi (e ▸ C);obtain⟨t,ht,eu⟩:=yN4 J;have hq:=((Pc (qg j t C ht (by omega))).1 rfl).2.2;simp only[cW,all_eq_true,Fw,jB] at hq;refine .inr λd hd=>?_;have:=(hq e (by rw[eu];exact J)).2;rw[hd] at this;exact this
   ·exact .inl (mem_append_right _ h)
theorem xX0(h:((range ops.size).filter λi=>!(l.contains i)).length=0):∀i,i<ops.size->i∈l:=by
 simp_all
theorem xF1{listed:Array Bool}(I:LK 0 ops.toList)(R:listed.size=ops.size)(hl:∀j,listed.getD j false=true↔j∈l)(hr:ready .any ops listed=[]):∀i,i<ops.size->i∈l:=by
 intro i
 induction i using Nat.strongRecOn with
 |_ i ih =>
  intro J;by_cases hm:i∈l
  ·grind
  ·have:i∈ready .any ops listed:=by
    refine mem_ready.2 ⟨?_,ops[i],Array.getElem?_eq_getElem J,λe he C=>?_⟩
    ·grind
    ·have:=zR5 (ops:=ops.toList) (j:=i) (o:=ops[i]) I (by grind) e (by grind) C
     grind
   grind
theorem xA1{K:Act->Prop}(hK:∀o∈ops.toList,∀a v,K a->K (a.put o.dst v))(hc:CtxOk P c)(hF:SH c (ops.toList.map (·.dst)) ops.toList S [] ts p)(hS:∀e∈S,e.2.hasOpt=false)(hp:∀q∈p,q){m:Nat}(hO:Ord m ops ts)(hn:Ny ts)
  (hE:LK 0 ops.toList){Q:Exit->Act->World->Prop}(hQ:∀a' w' G',Rel c.n χ0 w0 (tex ts ops.size++S) a' w' G'->K a'->Q .normal a' w') :
  ∀AV listed l a w G,listed.size=ops.size->(∀j,listed.getD j false=true↔j∈l)->(∀j,j<m->j∈l)->Inv ops ts S l->((range ops.size).filter λi=>!(l.contains i)).length<=AV ->
   Rel c.n χ0 w0 (exe ts l++S) a w G->K a->wpAnyIn (fz rd) 0 P .any ops Q AV listed a w:=by
 have fin:∀l a w G,Inv ops ts S l->(∀i,i<ops.size->i∈l)->Rel c.n χ0 w0 (exe ts l++S) a w G->K a->Q .normal a w:=by
  intro l a w G I hf J R;refine hQ a w G (eD (λs=>?_) J) R;refine (I.val s ops.size (λj hj _=>hf j hj) λj hj _=>I.lt j hj).symm
 intro AV
 induction AV with
 |zero =>
  intro listed l a w G hs hl C I hm J R;have hf:=xX0 (ops:=ops) (l:=l) (by omega);refine⟨?_,fin l a w G I hf J R⟩;refine List.eq_nil_iff_forall_not_mem.2 λi hi=>?_
  grind [mem_ready,Array.getElem?_eq_some_iff]
 |succ AV ih =>
  intro listed l a w G hs hl C I hm J R;refine⟨λhr=>fin l a w G I (xF1 hE hs hl hr) J R,λi hi=>?_⟩;obtain⟨h1,o,ho,he⟩:=mem_ready.1 hi;have hlt:=(Array.getElem?_eq_some_iff.1 ho).1;have h2:i<listed.size:=by omega
  have qo:i∉l:=by
   grind
  have iS:∀e∈o.after.toList,binds .any e->e.on∈l:=λe nk hb=>(hl _).1 (he e (by grind) hb);refine xN hn hc hF hS hp hO I C ho qo iS J λv w' G' hR'=>?_;refine ih _ (i::l) _ _ G' (by grind) (λj=>?_) (λj hj=>jP _ (C j hj)) (I.cons hn (λj ti tj _ h1 h2 h3 h4=>hO i j ti tj h1 h2 h3 (le_of_not_lt λh=>qo (C i h)) h4) ho qo iS) ?_ hR' (hK _ (List.mem_of_getElem? (by simpa using ho)) _ _ R)
  ·by_cases e:i=j
   ·subst e;simp[h2]
   ·rw[getD_set_ne false e,hl j];simp[Ne.symm e]
  ·have ug:(range ops.size).filter (λk=>!((i::l).contains k))=((range ops.size).filter (λk=>!(l.contains k))).filter (λk=>!(k==i)):=by
    rw[List.filter_filter]
    grind
   rw[ug];have:(((range ops.size).filter (λk=>!(l.contains k))).filter (λk=>!(k==i))).length<((range ops.size).filter (λk=>!(l.contains k))).length:=by
    refine List.length_filter_lt_length_iff_exists.2 ⟨i,List.mem_filter.2 ⟨List.mem_range.2 hlt,by grind⟩,by simp⟩
   omega
theorem xV2(h:LM k [] (ahead ops.toList []) ts):Ord k ops ts:=by
 intro i j ti tj J C gv I ko;exact xF (trs:=[]) h (by grind) C (by grind) I ko
theorem yW3{dsts:List (Option Nat)}{q:List Prop}{hv:Bool}(h:IS c dsts o S=some (q,u,hv)):(∀d,o.op≠.defer d)/\∀cs b,o.op≠.select cs b:=by
 have key:∀op,o.op=op->IQ op=5->(∀d xs ks,H5 c d op xs ks=none)->H6 op=false->False:=by
  unfold IS J6 LJ at h;split at h
  ·grind
  ·rename_i C u' I kZ;split at kZ
   ·grind
   ·simp only[zK] at kZ
    grind
 refine⟨λd e=>key _ e rfl (λ_ _ _=>by simp[H5]) rfl,λcs b e=>key _ e rfl (λ_ _ _=>by simp[H5]) rfl⟩
section IV
variable {F:Fence}{m:Nat}{Q:Exit->Act->World->Prop}
variable {oi:Oper}{v:Value}{K:Act->World->Prop}
theorem xS9{j:Nat}{oj:Oper}(J:ops[j]?=some oj)(qv:oi.apart ops oj)(kz:(∀d,oj.op≠.defer d)/\∀cs b,oj.op≠.select cs b)(hQ:∀e a w,e≠.normal->¬Q e a w)
  (h:wpOpIn F m P ops Q j K (a.put oi.dst v) w):wpOpIn F m P ops Q j (λC w'=>(∃u D,C=({ a with defers:=D }:Act).put oj.dst u)/\K (C.put oi.dst v) w') a w:=by
 obtain⟨f1,f2,_⟩:=Oper.apart_spec qv;have R:∀u,(a.put oi.dst v).put oj.dst u=(a.put oj.dst u).put oi.dst v:=λu=>Act.put_comm a v u f2;unfold wpOpIn at h ⊢;simp only[J] at h ⊢;rw[wanted_put oj a oi.dst v f1,about_put oj w a oi.dst v f1] at h;cases hw:wanted oj (yielded ops a.tmps) with
 |false =>
  grind
 |true =>
  simp[hw] at h ⊢;unfold Oper.wpIn at h ⊢;rw[about_put oj w a oi.dst v f1,Oper.semAt_eq _ _ _ kz.1,execOp_put oj kz.2 a oi.dst v f1] at h;rw[Oper.semAt_eq _ _ _ kz.1];refine⟨h.1,?_⟩;have h:=h.2;cases I:(execOp a.eval oj).run P w with
  |halt x w' =>
   rw[I] at h;cases x<;>simp only[Oper.uponIn] at h
   grind
  |ok x w' =>
   rw[I] at h;cases x with
   |value u=>grind [Oper.uponIn]
   |skip=>grind [Oper.uponIn]
   |defer d =>
    grind [Oper.uponIn,Act.put_comm,Act.put_defers]
   |enter f args =>
    grind [Oper.uponIn]
   |row row args =>
    grind [Oper.uponIn]
   |round l f tmps assign body =>
    refine⟨h.1,RoundIn.mono h.2 λe w2 he=>?_⟩
    grind
   |_=>grind [Oper.uponIn]
variable {i:Nat}
theorem yR9{o:Oper}(J:ops[i]?=some o)(kz:∀d,o.op≠.defer d)(I:YieldsFenced P ops o v a)(h:K (a.put o.dst v) w):wpOpIn F m P ops Q i K a w:=by
 unfold wpOpIn;simp only[J];have C:∀f,o.about P w a.eval=some f->F.fn f:=λf R=>by rw[I.2 w] at R;grind
 rcases I.1 with ⟨hw,hv⟩ | ⟨hw,rfl⟩
 ·rw[if_pos hw];unfold Oper.wpIn;rw[Oper.semAt_eq _ _ _ kz,hv w];exact⟨C,h⟩
 grind
theorem xN0(hi:ops[i]?=some oi)(kz:∀(j:Nat)(o:Oper),ops[j]?=some o->(∀d,o.op≠.defer d)/\∀cs b,o.op≠.select cs b)(hQ:∀e a w,e≠.normal->¬Q e a w) :
  ∀(AV:Nat) (listed:Array Bool) (a:Act) (w:World),
   (∀j oj,ops[j]?=some oj->j≠i->listed.getD j true=false->(∀e∈oj.after,binds .any e->e.on≠i)->oi.apart ops oj=true) ->
   i∈ready .any ops listed->YieldsFenced P ops oi v a ->
   wpAnyIn F m P .any ops Q AV (listed.setIfInBounds i true) (a.put oi.dst v) w->wpAnyIn F m P .any ops Q (AV+1) listed a w:=by
 intro AV
 induction AV with
 |zero =>
  intro listed a w gL hr hy hw;refine⟨λh0=>(by grind),λj J=>?_⟩;by_cases e:j=i
  ·grind [yR9]
  ·have:=ready_mono J e;rw[hw.1] at this
   grind
 |succ AV ih =>
  intro listed a w gL hr hy hw;refine⟨λh0=>(by grind),λj J=>?_⟩;by_cases e:j=i
  ·grind [yR9]
  ·obtain⟨R,oj,C,hall⟩:=mem_ready.1 J;have uh:∀e∈oj.after,binds .any e->e.on≠i:=λed hed hb heq=>by
    grind [mem_ready,Array.getElem?_eq_none,le_of_not_lt]
   have qv:=gL j oj C e R uh;obtain⟨_,_,f3⟩:=Oper.apart_spec qv;refine wpOpIn_mono (λa' w' h3=>?_) (xS9 C qv (kz _ _ C) hQ (hw.2 j (ready_mono J e)));obtain⟨⟨u,D,rfl⟩,h3⟩:=h3;refine ih (listed.setIfInBounds j true) _ w' (λk ok hk hki I qp=>?_) (ready_mono hr (Ne.symm e)) ?_ (by grind [Array.setIfInBounds_comm])
   ·refine gL k ok hk hki ?_ qp;by_cases hjk:j=k
    ·grind
    ·rw[getD_set_ne true hjk] at I;exact I
   ·have hy':YieldsFenced P ops oi v ({ a with defers:=D }:Act):=hy.of_same rfl rfl (λ_=>rfl)
    exact hy'.of_same (execOp_put oi (kz _ _ hi).2 _ oj.dst u f3) (wanted_put oi _ oj.dst u f3) (λw=>about_put oi w _ oj.dst u f3)
end IV
variable {dsts:List (Option Nat)}{u:St}{hv:Bool}{q:List Prop}{o:Oper}
theorem yW4{S':St}{T:Nat}{x y:Operand}{t:Ty}{l:List t.den}{k:IntKind}{i:Int}(J:o.op=.indexAddr T x y)(hg:o.guard=none)(hx:arg S' x=.val (.sl t) l)(hy:arg S' y=.val (.int k) i)
  (h:IS c dsts o S'=some (q,u,hv)) (I:∀p∈q,p):0<=i/\i<(l.length:Int):=by
 have C:∃R,J6 c dsts o S'=some (q,R):=by
  grind [IS,xY]
 unfold J6 at C;simp[KN,LJ,J,IQ,CA,EC,zK,H5,cJ,H6] at C;split at C
 ·grind
 ·split at C
  ·grind
  ·cases hi:c.is T (.sl t) with
   |false=>grind
   |true =>
    simp[Nc] at C;have e:q=II y i (l.length:Int):=by grind
    rw[e] at I;exact KR I
theorem yS(hc:CtxOk P c){S':St}(hR:Rel c.n χ0 w0 S' a w G)(kZ:IS c dsts o S'=some (q,u,hv))(hq:∀p∈q,p)(h:Sx c S' o):∃v,YieldsFenced P ops o v a:=by
 unfold Sx at h;split at h
 ·rename_i d hg hd;have hw:wanted o (yielded ops a.tmps):=by grind [wanted]
  split at h
  ·rename_i x J;exact⟨a.eval x,.inl ⟨hw,λw=>by simp[execOp,J]⟩,λw=>by grind [Oper.about]⟩
  ·rename_i args ats t l T i U m J C;rw[J] at C;simp only[CA] at C;obtain⟨x,hx⟩:∃x,args.toList=[x]:=by
    cases hq:args.toList<;>simp_all
   rw[hx] at C;simp  at C;split at h
   ·rename_i T' hT';simp  at h;obtain⟨e',h1,h2⟩:=GI (DS hc.tys h.1);have I:=IZ hR x;rw[C] at I;have hv:∃b n k,a.eval x=.slice b n k:=by
     obtain⟨_,⟨he,_⟩ | ⟨_,⟨hv,_⟩ | ⟨cap,_,_,hv,_⟩⟩⟩:=I
     all_goals simp_all
    obtain⟨b,n,k,hv⟩:=hv;have kf:args=#[x]:=by grind
    have iJ:ats=#[T']:=by grind
    subst kf;subst iJ;refine⟨.int .i64 (n:Int),.inl ⟨hw,λw=>?_⟩,λw=>?_⟩
    ·simp[execOp,J,resolve,invoke,builtin,hv,Builtin.len_,run_underlying h1,goInt]
    simp_all [Oper.about,resolve,Target.leads]
   grind
  ·rename_i op T x y kd k p k' q J C;rw[J] at C;simp[CA] at C;have hk:=MX (jC h);have I:=IZ hR x;have R:=IZ hR y;rw[C.1] at I;rw[C.2] at R;have I:=VRep_int.1 I;have R:=VRep_int.1 R;refine⟨.int k (k.wrap (p-q)),.inl ⟨hw,λw=>?_⟩,λw=>by grind [Oper.about]⟩;simp_all [execOp,zL0,binOp,Op.intArith]
  ·rename_i T x y t' l k i' J C;rw[J] at C;simp[CA] at C;have hb:=yW4 J hg C.1 C.2 kZ hq;have I:=IZ hR x;have R:=IZ hR y;rw[C.1] at I;rw[C.2] at R;simp only[zA] at I R;have R:=VRep_int.1 R;rw[zC rfl] at I;obtain⟨ad,cap,gM,hx⟩:=I;injection gM with gM _
   rcases hx with rfl|⟨b,o',us,ha,h1,h2,h3⟩
   ·grind
   ·exact⟨.pointer (some ⟨b,o'+i'.toNat*t'.size,none⟩),.inl ⟨hw,λw=>by simp[execOp,J,gM,R,S8 (DS hc.tys h) ha hb w]⟩,λw=>by grind [Oper.about]⟩
  grind
 grind
theorem yW5{i:Nat}:∀{l:List Oper}{C n:Nat}{oj:Oper},ON ops i o C l->l[n]?=some oj->i<C+n->(∀e∈oj.after,binds .any e->e.on≠i)->o.apart ops oj:=by
 intro l
 induction l with
 |nil=>grind
 |cons x r R =>
  intro C n oj h hn J qp;simp only[ON,jB,or_eq_true] at h;cases n with
  |zero =>
   rcases h.1 with I|I|I
   ·have:=jR I;omega
   ·grind [absurd,jC]
   grind
  |succ n=>grind
theorem yW6{all:List Oper}:∀{r:List Oper}{ts:List Tr}{i:Nat}{U:St},i<=IV c all S i r ts U/\IV c all S i r ts U<=i+r.length /\
  ∀j,i<=j->j<IV c all S i r ts U->∃o,r[j-i]?=some o/\Sx c ((tex ts (j-i)++U)++S) o/\ON all.toArray j o 0 all:=by
 intro r
 induction r with
 |nil=>grind [IV]
 |cons o r J =>
  intro ts i U;cases ts with
  |nil=>simp only[IV];exact⟨jI _,by omega,λj C I=>by omega⟩
  |cons t ts =>
   simp only[IV];cases hb:(Sx c (U++S) o&&ON all.toArray i o 0 all) with
   |false=>simp only[jD];exact⟨jI _,by omega,λj C I=>by omega⟩
   |true =>
    simp;obtain⟨C,I,h3⟩:=J (ts:=ts) (i:=i+1) (U:=t.u++U);refine⟨by omega,by grind,λj hj R=>?_⟩;by_cases e:j=i
    ·grind [tex]
    ·have e1:j-i=(j-(i+1))+1:=by omega
     grind [zX]
def H9 (n:Nat):Nat->Array Bool
 |0=>Array.replicate n false
 |i+1=>(H9 n i).setIfInBounds i true
theorem eE{n:Nat}:∀{i:Nat},(H9 n i).size=n:=by
 intro i
 induction i<;>grind [H9]
theorem yD{n:Nat}:∀{i j:Nat},i<=n->((H9 n i).getD j false=true↔j<i):=by
 intro i
 induction i with
 |zero=>simp[H9];grind
 |succ i C =>
  intro j I;by_cases e:i=j
  ·have:i<(H9 n i).size:=by grind [eE]
   simp_all [H9]
  ·rw[H9,getD_set_ne false e,C (by omega)];omega
def JE:Nat->List Nat
 |0=>[]
 |k+1=>k::JE k
theorem downs_mem{j:Nat}:∀{k:Nat},j∈JE k↔j<k:=by
 intro k
 induction k<;>grind [JE]
theorem xN1:∀{k:Nat},exe ts (JE k)=tex ts k:=by
 intro k
 induction k<;>grind [JE,exe,tex]
theorem xN2 (I:Ny ts)(J:LK 0 ops.toList):∀{k:Nat},k<=ops.size->Inv ops ts S (JE k):=by
 intro k
 induction k with
 |zero=>intro _;exact xM7 I
 |succ k R =>
  intro hk;have C:k<ops.size:=by omega
  refine Inv.cons I (λj ti tj hj _ _ gv=>?_) (R (by omega)) (Array.getElem?_eq_getElem C) (λh=>?_) (λe he hb=>?_)
  ·grind [downs_mem]
  ·grind [downs_mem]
  ·have:=zR5 (ops:=ops.toList) (j:=k) (o:=ops[k]) J (by grind) e he hb
   grind [downs_mem]
variable {k:Nat}
theorem xT:∀{n:Nat},((range n).filter λi=>!((JE k).contains i)).length<=n-k:=by
 intro n
 induction n with
 |zero=>simp
 |succ n J =>
  rw[List.range_succ,List.filter_append,jO];by_cases h:n<k
  ·have C:n∈JE k:=downs_mem.2 h;have I:([n].filter λi=>!((JE k).contains i))=[]:=by simp[C]
   rw[I,List.length_nil];omega
  ·have:([n].filter λi=>!((JE k).contains i)).length<=1:=List.length_filter_le _ _;omega
theorem xN3{K:Act->Prop}(hK:∀o∈ops.toList,∀a v,K a->K (a.put o.dst v))(hc:CtxOk P c)(R:SH c (ops.toList.map (·.dst)) ops.toList S [] ts p)(hS:∀e∈S,e.2.hasOpt=false)(hp:∀q∈p,q)(hE:LK 0 ops.toList=true)
  {Q:Exit->Act->World->Prop}(hQ:∀e a w,e≠.normal->¬Q e a w){fk:Nat}(uj:k<=ops.size) (hk:∀j,j<k->∃o,ops[j]?=some o/\Sx c (tex ts j++S) o/\ON ops j o 0 ops.toList=true)
  (kG:∀a w G,Rel c.n χ0 w0 (tex ts k++S) a w G->K a->wpAnyIn (fz rd) 0 P .any ops Q fk (H9 ops.size k) a w) :
  ∀n i,i+n=k->∀a w G,Rel c.n χ0 w0 (tex ts i++S) a w G->K a->wpAnyIn (fz rd) 0 P .any ops Q (fk+n) (H9 ops.size i) a w:=by
 have kz:∀(j:Nat) (o:Oper),ops[j]?=some o->(∀d,o.op≠.defer d)/\∀cs b,o.op≠.select cs b:=λj o C=>by
  obtain⟨_,_,h1,_⟩:=R j o (by grind);exact yW3 h1
 intro n
 induction n with
 |zero=>grind
 |succ n ih =>
  intro i hi a w G hR gF;obtain⟨o,C,h1,h2⟩:=hk i (by omega);obtain⟨pi,hv,I,_,q3,_⟩:=R i o (by grind);rw[append_nil] at I;obtain⟨v,hy⟩:=yS (ops:=ops) hc hR I (λq hq=>hp q (q3 q hq)) h1;have hw:=yN3 (rd:=rd) (Q:=λ_ _ _=>False) (next:=λa' w'=>∃G',Rel c.n χ0 w0 (tex ts (i+1)++S) a' w' G') hc R hS hp C hR (λv w' G' J=>⟨G',by grind [tex,append_assoc]⟩)
  have hb:∃G',Rel c.n χ0 w0 (tex ts (i+1)++S) (a.put o.dst v) w G':=by
   unfold wpOpIn at hw;simp only[C] at hw;rcases hy.1 with ⟨I,q2⟩ | ⟨I,rfl⟩
   ·simp[I] at hw;unfold Oper.wpIn at hw;rw[Oper.semAt_eq _ _ _ (kz _ _ C).1,q2 w] at hw;exact hw.2
   grind
  obtain⟨G',J⟩:=hb;refine xN0 C kz hQ (fk+n) (H9 ops.size i) a w (λj oj hj hji hun qp=>?_) (mem_ready.2 ⟨?_,o,C,λe he hbd=>?_⟩) hy (ih (i+1) (by omega) _ _ G' J (hK o (List.mem_of_getElem? (by simpa using C)) _ _ gF))
  ·refine yW5 (n:=j) h2 (by grind) ?_ qp
   grind [yD,H9,eE]
  ·grind [H9,eE,Array.getElem?_eq_some_iff,yD]
  ·have:=zR5 (ops:=ops.toList) (j:=i) (o:=o) hE (by grind) e (by grind) hbd
   grind [yD]
end draw
variable {gtab:GlobTab}{P:Program}{c:Ctx}{G:Gh}{w:World}{tm:Array Value}{n:Nat}{χ0:Nat->Nat->Nat}{w0:World}{S:St}{a:Act}
def Gh.rename (G:Gh)(T U:Nat):Gh:=
 {χ:=λb o=>if G.χ b o=AJ T then AJ U else G.χ b o,β:=G.β,γ:=λk=>if k=U then G.γ T else G.γ k }
variable {U T:Nat}
theorem zF:∀b o,b<w.heap.size->G.χ b o=0->(G.rename T U).χ b o=0/\w.cell? ⟨b,o,none⟩=w.cell? ⟨b,o,none⟩:=by
 grind [Gh.rename,DB]
theorem rename_ext:Ext (λx=>x=AJ T\/x=AJ U) (λx=>x=AJ U) G w (G.rename T U) w:=by
 refine⟨zF,λb _ h=>⟨rfl,λo=>?_⟩,jI _,λ_ _=>rfl,λk C=>?_,λ_ h=>.inr h⟩
 ·simp_all [Gh.rename]
 ·simp only[Gh.rename];rw[if_neg λe=>C (by rw[e])]
variable {t:Ty}{v:Value}
theorem yJ6{l:List t.den}{m:Bool}(h:BS G w t l T m v):BS (G.rename T U) w t l U m v:=by
 refine zW (λh=>⟨h.1,?_⟩) (by simp[Gh.rename]) rfl zF (λ_ hc o=>?_) h
 rotate_left
 ·grind [Gh.rename]
 rcases h.2 with h|⟨cap,cur,e,us,h1,h2,C,I,J,R,h7,h8⟩
 ·grind
 ·have hg:(G.rename T U).γ U=G.γ T:=by simp[Gh.rename]
  refine .inr ⟨cap,cur,e,us,by grind,by grind,C,I,J,EU (λ_ _ h=>CV zF h) R,h7,λo=>?_⟩;rw[hg];simp only[Gh.rename,h8 o];split
  ·rw[if_neg (DB T)]
  ·rw[if_pos rfl]
theorem yJ7(h:Sn T S)(s:Nat):(S.get s).hasTag T=false:=by
 by_cases C:S.get s=.junk
 ·rw[C];rfl
 ·have I:=OZ C;simp only[St.has,any_eq_true] at I;obtain⟨e,he,hb⟩:=I;have:=all_eq_true.1 h e he
  grind [jC]
variable {T':Nat}
theorem Jb(h:T'≠U):(G.rename T U).γ (cond (Nat.beq T T') U T')=G.γ T':=by
 cases hb:Nat.beq T T'<;>simp_all [Gh.rename]
theorem eH{b o:Nat}(h:G.χ b o=AJ T'):(G.rename T U).χ b o=AJ (cond (Nat.beq T T') U T'):=by
 cases hb:Nat.beq T T' with
 |true=>simp_all [Gh.rename]
 |false=>simp[Gh.rename];rw[if_neg (λe=>by rw[h] at e;have:=CJ e;simp_all),h]
theorem yW7(I:T'≠U){l:List t.den}{m:Bool}(h:GF G w t l T' m v):GF (G.rename T U) w t l (cond (Nat.beq T T') U T') m v:=by
 refine⟨h.1,?_⟩;rcases h.2 with h|⟨cap,cur,e,us,h1,h2,J,R,h5,h6,h7,h8⟩
 ·grind
 ·refine .inr ⟨cap,cur,e,us,by grind [Jb],by grind [Jb],J,R,h5,EU (λ_ _ h=>CV zF h) h6,h7,λo=>?_⟩;rw[Jb I];have C:=h8 o;by_cases hc:m=false/\o<l.length*t.size
  ·grind [zF,EN]
  ·rw[if_neg hc] at C ⊢;exact eH C
variable {V:Nat}
theorem yS0(C:T'≠U)(I:V≠U)(h:T'≠V):(cond (Nat.beq T T') U T')≠(cond (Nat.beq T V) U V):=by
 grind [Nat.beq,absurd,jC]
theorem yW8(I:T'≠U)(J:V≠U){l:List (List t.den)}{i:Nat}{m:Bool}(h:IW G w t l T' i V m v) :
  IW (G.rename T U) w t l (cond (Nat.beq T T') U T') i (cond (Nat.beq T V) U V) m v:=by
 obtain⟨hv,⟨he,⟨hm,x,ad,cap,q1,q2,R⟩ | ⟨hm,hK⟩⟩ | ⟨kj,h|⟨cap,cur,e,g1,g2,g3,g4,g5,g6,g7⟩⟩⟩:=h
 ·subst he;refine⟨hv,.inl ⟨rfl,.inl ⟨hm,x,ad,cap,q1,q2,?_⟩⟩⟩;rcases R with R|⟨o,us,cur,e,k1,k2,k3,k4,k5,k6⟩
  ·grind
  ·exact .inr ⟨o,us,cur,e,by grind [Jb],k2,by grind [Jb],EU (λ_ _ h=>CV zF h) k4,k5,λo=>by grind [Jb,eH]⟩
 ·subst he;refine⟨hv,.inl ⟨rfl,.inr ⟨hm,?_⟩⟩⟩;rcases hK with h|⟨cap,cur,e,g1,g2,g3,g4,g5,g6,g7⟩
  ·exact .inl h
  ·refine .inr ⟨cap,cur,e,by grind [Jb],by grind [Jb],g3,g4,g5,λo=>by grind [Jb,eH],λj x hj hji=>?_⟩
   grind [CV,zF]
 ·refine⟨hv,.inr ⟨yS0 I J kj,.inl h⟩⟩
 ·refine⟨hv,.inr ⟨yS0 I J kj,.inr ⟨cap,cur,e,by grind [Jb],by grind [Jb],g3,g4,g5,λo=>by rw[Jb I];exact eH (g6 o),λj x hj=>?_⟩⟩⟩;obtain⟨u,hu,C⟩:=g7 j x hj;refine⟨u,hu,?_⟩;by_cases e:j=i
  ·rw[if_pos e] at C ⊢;exact yW7 J C
  ·rw[if_neg e] at C ⊢;exact CV zF C
theorem yS1(C:Rel n χ0 w0 S a w G)(hn:n<=BN)(hU:Sn U S)(hlt:∀e∈CS T (AVal.retagH T U) S S,e.1<n) :
  Rel n χ0 w0 (CS T (AVal.retagH T U) S S++S) a w (G.rename T U):=by
 have h0:¬((0:Nat)=AJ T\/(0:Nat)=AJ U):=by rintro (e|e);exact DB _ e;exact DB _ e
 have hor:∀{t:Ty}{l:List t.den}{T':Nat}{m:Bool}{v:Value},¬T'=U->Nat.beq T T'=false->BS G w t l T' m v->BS (G.rename T U) w t l T' m v:=by
  intro t l T' m v I hb J;refine GG rename_ext h0 ?_ J;rintro (e|e)
  ·have:=CJ e;simp_all
  grind [CJ]
 have R:MapOk (λk=>k=U) G w (G.rename T U) w (λt l T' m=>.own t l (cond (Nat.beq T T') U T') m) (λs T' t i p=>.eref s (cond (Nat.beq T T') U T') t i p):=by
  refine⟨zF,λs=>rfl,λs kg hl=>⟨rfl,λo=>?_⟩,λt l T' m v I J hf=>?_,λt l T' m v I J tm=>?_,λs T' t i p v I tm ha=>?_⟩
  ·simp_all [Gh.rename,CI]
  ·simp only[AB];cases hb:Nat.beq T T' with
   |true=>have:=jC hb;subst this;exact⟨trivial,v,rfl,yJ6 J⟩
   |false=>exact⟨trivial,v,rfl,hor I hb J⟩
  ·grind [zA,Nat.beq,jC,yJ6]
  ·simp only[zA] at ha ⊢;cases hb:Nat.beq T T' with
   |true=>grind [jC,Gh.rename]
   |false=>rw[jD,rename_ext.tag (w:=w) T' λe=>I (CJ e)];grind
 refine yG0 (U:=T) C hn rename_ext h0 ?_ (λs hs=>?_) (λs hs=>yQ7 hs (yJ7 hU s)) hlt
 ·refine⟨C.frame.os,C.frame.tape,C.frame.output,C.frame.size,C.frame.block,λb o hb hc=>?_⟩;have:=C.frame.cell b o hb hc;simp only[Gh.rename]
  grind [Ig]
 ·have qd:=C.reps s;have qp:=yJ7 hU s;generalize S.get s=A at qd qp ⊢;cases A with
  |ownh t l T' i V m =>
   simp[AVal.hasTag] at qp;exact yW8 (λe=>by simp_all) (λe=>by simp_all) qd
  |_=>exact R.arep (λk hk=>by subst hk;exact qp) qd
variable {rd:Option Nat}{gtab:GlobTab}{P:Program}{c:Ctx}{G:Gh}{w:World}{tm:Array Value}{n:Nat}{χ0:Nat->Nat->Nat}{w0:World}{S:St}{a:Act}
variable {G':Gh}
theorem xA2{X:Nat->Prop}(I:∀x,X x->x=AJ T)(C:Ext X (λ_=>False) G w G' w):MapOk (λ_=>False) G w G' w (λt l T' m=>cond (Nat.beq T T') (.junk) (.own t l T' m)) (λs T' t i p=>cond (Nat.beq T T') (.junk) (.eref s T' t i p)):=by have h0:¬X 0:=λh=>DB _ (I 0 h);refine⟨C.prot,λs=>C.box s id,λs kg J=>?_,λt l T' m v _ R hf=>?_,λt l T' m v _ R tm=>?_,λs T' t i p v _ tm ha=>?_⟩;have:=C.block _ J (λo=>by grind [CI]);grind;(cases hb:Nat.beq T T' with|true=>grind [AVal.fitsT]|false=>simp only[jD,AB];exact⟨trivial,v,rfl,GG C h0 (λe=>by have:=CJ (I _ e);simp_all) R⟩);(cases hb:Nat.beq T T' with|true=>simp[zA]|false=>exact GG C h0 (λe=>by have:=CJ (I _ e);simp_all) R);cases hb:Nat.beq T T' with|true=>simp[zA]|false=>simp[zA] at ha ⊢;rw[C.tag T' id];grind
theorem xN4{g:(t:Ty)->List t.den->Nat->Bool->AVal}{h:Nat->Nat->Ty->Int->Fp->AVal}(H:MapOk (λ_=>False) G w G' w g h):∀{b:AVal}{f:Ty}{k:Nat}{vs:List Value}{t:Ty}{l:List t.den}{m:Bool},AB G w f b vs->b.nth k=.own t l T m->(∀v,BS G w t l T m v->BS G' w t l T false v)->((b.mapOwn g h).setNth k (.own t l T false)).fitsT f->AB G' w f ((b.mapOwn g h).setNth k (.own t l T false)) vs:=by intro b;induction b with|cons x y _ kH=>intro f k vs t l m ht J R C;obtain⟨h1,t1,us,ws,rfl,rfl,I,h3⟩:=ht;(cases k with|zero=>subst J;obtain⟨rfl,v,rfl,I⟩:=I;simp[AVal.mapOwn,AVal.setNth,AVal.fitsT,G6] at C ⊢;exact⟨_,_,_,_,rfl,rfl,⟨rfl,v,rfl,R v I⟩,H.trep (λ_ h=>h.elim) h3 (OQ C.2)⟩|succ k=>simp[AVal.mapOwn,AVal.setNth,AVal.fitsT,G6] at C ⊢;exact⟨_,_,_,_,rfl,rfl,H.trep (λ_ h=>h.elim) I (OQ C.1),kH h3 J R C.2⟩)|_=>grind [AVal.nth]
theorem xX1{l:List t.den}{m:Bool}:∀{b:AVal}{f:Ty}{k:Nat}{us:List Value},AB G w f b us->b.nth k=.own t l T m->∃v,BS G w t l T m v:=by intro b;induction b with|cons x y _ kH=>intro f k us ht iK;cases k<;>grind [AVal.nth,AB]|_=>grind [AVal.nth]
variable {k s:Nat}
theorem xN5(hR:Rel n χ0 w0 S a w G)(hn:n<=BN)(C:Sy k (S.get s)=some T)(hlt:∀e∈(s,Gc k (S.get s))::CS T (AVal.gone T) S S,e.1<n):∃G',Rel n χ0 w0 (((s,Gc k (S.get s))::CS T (AVal.gone T) S S)++S) a w G':=by have hs:=hR.reps s;(have main:∀G',Ext (λx=>x=AJ T) (λ_=>False) G w G' w->Frame0 χ0 w0 G'.χ w->(zA G' w a.tmps (some s) (Gc k (S.get s)) (a.tmps.getD s undef))->∃G',Rel n χ0 w0 (((s,Gc k (S.get s))::CS T (AVal.gone T) S S)++S) a w G':=by intro G' hx hfr kZ;refine⟨G',?_⟩;have:=GJ (u:=(s,Gc k (S.get s))::CS T (AVal.gone T) S S) (dst:=none) (v:=undef) hR hn hlt (λd e=>by cases e) hx (λe=>DB _ e) hfr (λs' hs'=>?_) (λs d e=>by cases e) (λs' hs'=>?_);exact this;refine yU7 (λx h=>h) ?_;simp only[St.has,any_cons,jJ] at hs';(cases ht:(S.get s').hasTag T with|false=>rfl|true=>have:=dW (k:=AVal.gone T) (OZ (W7 ht)) ht;unfold St.has at this;rw[hs'.2] at this;cases this);rw[Nw];by_cases e:s=s';subst e;(have:St.get ((s,Gc k (S.get s))::CS T (AVal.gone T) S S) s=Gc k (S.get s):=by simp[St.get]);rw[this];exact kZ;(have I:Nat.beq s s'=false:=by cases hb:Nat.beq s s' with|false=>rfl|true=>exact absurd (jC hb) e);(have h2:Nat.beq s BN=false:=by cases hb:Nat.beq s BN with|false=>rfl|true=>have:=hlt (s,Gc k (S.get s)) (by simp);have:=jC hb;omega);(have hs'':St.has s' (CS T (AVal.gone T) S S):=by simpa[St.has,I] using hs');(have kP:St.get ((s,Gc k (S.get s))::CS T (AVal.gone T) S S) s'=AVal.gone T (S.get s'):=by simp only[St.get,I,h2,jD];rcases dV hs'' with J|⟨e,he,J⟩;exact J.1;have:=hlt e (by simp[he]);omega);rw[kP];exact (xA2 (λx h=>h) hx).arep (λ_ h=>h.elim) (hR.reps s'));generalize hA:S.get s=A at hs C main ⊢;cases A with|own t l T' m=>simp only[Sy,jA] at C;subst C;simp only[zA] at hs;(cases gn:t.isL with|true=>exact main G ⟨λ_ _ _ h=>⟨h,rfl⟩,λ_ _ _=>⟨rfl,λ_=>rfl⟩,jI _,λ_ _=>rfl,λ_ _=>rfl,λ_ h=>h.elim⟩ hR.frame (by simp only[Gc,gn,jE,zA])|false=>obtain⟨G',I,h2,J⟩:=dY gn hR.frame hs;exact main G' I h2 (by simp only[Gc,gn,jD,zA];exact J.2 _ hs))|box τ b=>simp only[Sy] at C;split at C;rename_i t l T' m iK;injection C with C;subst C;(cases b with|agg f b=>simp only[AVal.fld] at iK;simp only[zA] at hs;obtain⟨hv,kn,cur,e,g1,g2,g3⟩:=hs;simp only[AB] at g2;obtain⟨rfl,g2⟩:=g2;have hown:∃v,BS G w t l T' m v:=xX1 g2 iK;obtain⟨v0,ho⟩:=hown;(cases gn:t.isL with|true=>exact main G ⟨λ_ _ _ h=>⟨h,rfl⟩,λ_ _ _=>⟨rfl,λ_=>rfl⟩,jI _,λ_ _=>rfl,λ_ _=>rfl,λ_ h=>h.elim⟩ hR.frame (by simp only[Gc,iK,gn,jE,zA])|false=>obtain⟨G',I,h2,J,h4⟩:=dY gn hR.frame ho;refine main G' I h2 ?_;simp only[Gc,iK,gn,jD];generalize ki:((b.gone T').setNth k (.own t l T' false)).fitsT f=fit;cases fit with|false=>simp only[jD,zA]|true=>simp only[jE,zA];have hb:=I.block (G.β s) (EN g1) (λo=>by rw[g3];exact CI _ _);refine⟨by rw[J];exact hv,kn,cur,e,by rw[J,hb.1];exact g1,?_,λo=>by rw[J,hb.2 o];exact g3 o⟩;simp only[AB];exact⟨trivial,xN4 (xA2 (λx h=>h) I) g2 iK h4 ki⟩)|_=>exact main G ⟨λ_ _ _ h=>⟨h,rfl⟩,λ_ _ _=>⟨rfl,λ_=>rfl⟩,jI _,λ_ _=>rfl,λ_ _=>rfl,λ_ h=>h.elim⟩ hR.frame (by simp only[Gc,zA]));cases C|ownh t l T' i U m=>simp only[Sy] at C;(cases hTU:Nat.beq T' U with|true=>simp[hTU] at C|false=>simp only[hTU,jD,jA] at C;subst C;simp only[zA] at hs;obtain⟨kn,⟨he,_⟩ | ⟨kj,hcase⟩⟩:=hs;subst he;simp at hTU;(have kG:∀(G':Gh),Ext (λx=>x=AJ U) (λ_=>False) G w G' w->(∀u,GF G w t (getD (α:=List t.den) l i []) U m u->i<length (α:=List t.den) l->AL G'.χ w (.sl t) (getD (α:=List t.den) l i []) [u])->GF G' w (.sl t) l T' true (a.tmps.getD s undef):=by intro G' hx hcr;refine⟨⟨by simp[Ty.plain,kn.1,kn.2],rfl⟩,?_⟩;rcases hcase with h|⟨cap,cur,e,I,h2,J,h4,h5,h6,h7⟩;exact .inl h;have hb:=hx.block (G.γ T') (EN h2) (λo=>by rw[h6 o];exact λe=>kj (CJ e));have hg:=hx.tag T' (λh=>h);refine .inr ⟨cap,cur,e,cur.toList.take (length (α:=List t.den) l),by rw[hg];exact I,by rw[hg];exact h2,J,h4,by rw[h5];simp[Ty.size],?_,by simp[Ty.size],λo=>by rw[hg,hb.2 o,h6 o];simp⟩;refine xR8 (α:=List t.den) (R:=AL G'.χ w (.sl t)) (l:=l) (us:=List.take (length (α:=List t.den) l) cur.toList) (by simp[h5];omega) λj x hj=>?_;obtain⟨u,hu,hr⟩:=h7 j x hj;(have iv:j<length (α:=List t.den) l:=by rw[List.getElem?_eq_some_iff] at hj;exact hj.1);refine⟨u,by rw[List.getElem?_take,if_pos iv];exact hu,?_⟩;by_cases e:j=i;rw[if_pos e] at hr;subst e;(have kS:getD (α:=List t.den) l j []=x:=by rw[jM,hj];rfl);rw[<-kS] at hr ⊢;exact hcr u hr iv;rw[if_neg e] at hr;exact CV hx.prot hr);by_cases gS:i<length (α:=List t.den) l/\∃u,GF G w t (getD (α:=List t.den) l i []) U m u;obtain⟨hi,u,hu⟩:=gS;obtain⟨G',I,h2,J,h4⟩:=dY kn.2 hR.frame (.inl hu);exact main G' I h2 (by simp only[Gc,zA];exact .inl (kG G' I λu' gE _=>Gf (h4 u' (.inl gE))));exact main G ⟨λ_ _ _ h=>⟨h,rfl⟩,λ_ _ _=>⟨rfl,λ_=>rfl⟩,jI _,λ_ _=>rfl,λ_ _=>rfl,λ_ h=>h.elim⟩ hR.frame (by simp only[Gc,zA];exact .inl (kG G ⟨λ_ _ _ h=>⟨h,rfl⟩,λ_ _ _=>⟨rfl,λ_=>rfl⟩,jI _,λ_ _=>rfl,λ_ _=>rfl,λ_ h=>h.elim⟩ λu hu hi=>absurd ⟨hi,u,hu⟩ gS)))|_=>simp[Sy] at C
theorem xT0{k:AVal->AVal}:∀{R:St}{s:Nat},St.has s (J7 T k S R)->(J7 T k S R).get s=k (S.get s)/\(S.get s).hasRef T=true\/(∃e∈J7 T k S R,e.1=BN):=by intro R;induction R<;>grind [J7,St.has,St.get,Nat.beq,jQ,jC]
variable {u:St}
theorem xF2(hR:Rel n χ0 w0 S a w G)(hn:n<=BN)(h:yT1 S s=some u)(C:∀e∈u,e.1<n):∃G',Rel n χ0 w0 (u++S) a w G':=by unfold yT1 at h;split at h;rename_i τ b hA;split at h;rename_i x hx;injection h with h;subst h;have hs:=hR.reps s;rw[hA] at hs;simp only[zA] at hs;obtain⟨hv,kn,cur,e,g1,g2,g3⟩:=hs;have hc:=JC hx g2;have hE:Ext (λx=>x=BL s) (λ_=>False) G w (G.still (G.β s) cur.size) w:=yR0 λo _=>.inr (g3 o);have hF:Frame0 χ0 w0 (G.still (G.β s) cur.size).χ w:=yG1 hR.frame λo _=>.inr (by rw[g3];have:=Nx s;omega);(have J:∀tm os,zA (G.still (G.β s) cur.size) w tm os (.val (.ptr τ) x) (.pointer (some ⟨G.β s,0,none⟩)):=by intro tm os;simp only[zA];refine (zC rfl).2 ?_;simp only[AL];refine⟨G.β s,0,cur.toList,rfl,CV zY4 hc,λj v hj=>?_⟩;(have C:j<cur.size:=by have:=(List.getElem?_eq_some_iff.1 hj).1;simpa using this);refine⟨?_,?_⟩;simp only[cell?,g1];simpa using hj;simp only[Gh.still,zero_add,true_and];rw[if_pos C]);refine⟨G.still (G.β s) cur.size,?_⟩;have:=GJ (u:=(s,.val (.ptr τ) x)::J7 s (LN s τ x) S S) (dst:=none) (v:=undef) hR hn C (λd e=>by cases e) hE (λe=>GZ _ e) hF (λI R=>?_) (λs d e=>by cases e) (λI R=>?_);exact this;refine zY6 λe=>?_;injection e with e;subst e;simp[St.has] at R;rw[Nw];by_cases e:s=I;subst e;(have:St.get ((s,.val (.ptr τ) x)::J7 s (LN s τ x) S S) s=.val (.ptr τ) x:=by simp[St.get]);rw[this,hv];exact J _ _;(have h1:Nat.beq s I=false:=by cases hb:Nat.beq s I with|false=>rfl|true=>exact absurd (jC hb) e);(have h2:Nat.beq s BN=false:=by cases hb:Nat.beq s BN with|false=>rfl|true=>have:=C _ (jQ ..);have:=jC hb;omega);(have hs'':St.has I (J7 s (LN s τ x) S S):=by simpa[St.has,h1] using R);(have kP:St.get ((s,.val (.ptr τ) x)::J7 s (LN s τ x) S S) I=LN s τ x (S.get I):=by simp only[St.get,h1,h2,jD];rcases xT0 hs'' with h3|⟨e,he,h3⟩;exact h3.1;have:=C e (by simp[he]);omega);rw[kP];have hr:=hR.reps I;generalize S.get I=B at hr;(cases B with|ref s2 τ2 p=>(cases p with|nil=>simp only[LN];generalize hb:(Nat.beq s s2&&Ty.beq τ2 τ)=bb;(cases bb with|false=>simp only[jD,zA]|true=>simp only[jB] at hb;have e1:=jC hb.1;subst e1;simp only[zA] at hr;rw[hr.2];simpa[Ty.poff] using J a.tmps (some I))|cons _ _=>simp only[LN,zA])|_=>simp only[LN,zA]);cases h;cases h
theorem xF3(I:Rel n χ0 w0 S a w G)(J:n<=BN){g:Nat×Nat×Nat×Nat}(h:xI1 S g=some u)(C:∀e∈u,e.1<n):∃G',Rel n χ0 w0 (u++S) a w G':=by obtain⟨kind,s,k,U⟩:=g;simp only[xI1] at h;cases R:Nat.beq kind 3 with|true=>simp[R] at h;exact xF2 I J h C|false=>simp[R,jD] at h;cases h4:Nat.beq kind 4 with|true=>simp[h4] at h;(cases hb:Nat.beq k U with|true=>grind|false=>simp[hb] at h;cases hu:Sn U S with|false=>grind|true=>simp[hu] at h;subst h;exact⟨_,yS1 I J hu C⟩)|false=>simp[h4] at h;cases h5:Nat.beq kind 5 with|true=>simp[h5] at h;subst h;exact⟨G,yZ8 I J C⟩|false=>simp[h5] at h;split at h;grind;rename_i T hT;split at h;(cases hb:Nat.beq T U with|true=>grind|false=>simp[hb] at h;cases hu:Sn U S with|false=>grind|true=>simp[hu] at h;subst h;exact⟨_,yS1 I J hu C⟩);injection h with h;subst h;exact xN5 I J hT C;injection h with h;subst h;exact⟨G,yZ8 I J C⟩
theorem yJ8 (J:n<=BN):∀{gs:List (Nat×Nat×Nat×Nat)}{S:St}{G:Gh}{u:St},Rel n χ0 w0 S a w G->Sz gs S=some u->(∀e∈u,e.1<n)->∃G',Rel n χ0 w0 (u++S) a w G':=by intro gs;induction gs with|nil=>grind [Sz,jA]|cons g r R=>intro S G u hR h C;simp only[Sz] at h;split at h;grind;rename_i u1 h1;split at h;grind;rename_i u2 h2;injection h with h;subst h;obtain⟨G1,I⟩:=xF3 hR J h1 λe he=>C e (mem_append_right _ he);rw[append_assoc];exact R I h2 λe he=>C e (mem_append_left _ he)
theorem xT1{f:AVal->AVal}:∀{u:St}{s:Nat},(∀e∈u,e.1≠BN)->St.get (u.map (λe=>(e.1,f e.2))++S) s=if St.has s u=true then f (u.get s) else S.get s:=by intro u;induction u with|nil=>grind [St.has]|cons e r C=>intro s I;obtain⟨k,A⟩:=e;(have J:Nat.beq k BN=false:=by grind [Nat.beq,absurd,jC,jQ]);simp only[map_cons,List.cons_append,St.get];cases R:Nat.beq k s with|true=>grind [St.has]|false=>(have:St.has s ((k,A)::r)=St.has s r:=by simp_all [St.has]);grind
theorem xT2(C:Rel n χ0 w0 (u++S) a w G)(hu:∀e∈u,e.1≠BN):Rel n χ0 w0 (u.map (λe=>(e.1,cond e.2.hasOpt (.junk) e.2))++S) a w G:=by refine⟨C.len,C.defers,λs=>?_,C.frame,C.glob⟩;have:=C.reps s;rw[xT1 (f:=λA=>cond A.hasOpt (.junk) A) hu];grind [Nv,zA,KW]
variable {id:Nat}
theorem yS2{ops:Array Oper}{K:Act->Prop}(hK:∀o∈ops.toList,∀a v,K a->K (a.put o.dst v))(hc:CtxOk P c)(hm:P.follows .mixedOrders){gh:List (Nat×Nat×Nat×Nat)}{draw:Bool}{p:List Prop}(h:yT2 c gh ops.toList draw S=some (p,u))(hp:∀q∈p,q)(C:Rel c.n χ0 w0 S a w G)(hk:K a){Q:Exit->Act->World->Prop}(hQ:∀I w' G',Rel c.n χ0 w0 (u++S) I w' G'->K I->Q .normal I w'):(Code.region id ops draw).wpIn (fz rd) 0 P Q a w:=by unfold yT2 at h;cases hS:S.any (λe=>e.2.hasOpt) with|true=>simp[hS] at h|false=>simp only[hS,jD] at h;(have J:∀e∈S,e.2.hasOpt=false:=by simpa using hS);split at h;cases h;rename_i p0 u0 ts ke;obtain⟨hl,rfl,hF⟩:=xE8 ke;simp only[append_nil,jN] at hl h;(have hn:Ny ts:=by intro j e he;obtain⟨t,ht,_⟩:=yN4 he;(have R:j<ops.toList.length:=by rw[jN,<-hl];exact (List.getElem?_eq_some_iff.1 ht).1);obtain⟨pi,hv,_,_,_,_,q5⟩:=hF j ops.toList[j] (jL R);have:=q5 e he;have:=hc.n;omega);(have htex:∀k,∀e∈tex ts k,e.1≠BN:=by intro k;induction k with|zero=>intro e he;cases he|succ k ih=>intro e he;rcases mem_append.1 he with he|he;exact hn k e he;exact ih e he);generalize hgo:(!draw||(LK 0 ops.toList&&(LM 0 [] (ahead ops.toList []) ts||LM (IV c ops.toList S 0 ops.toList ts []) [] (ahead ops.toList []) ts)))=go at h;cases go with|false=>cases h|true=>simp only[jE] at h;split at h;rename_i u' gE;generalize hlt:u'.all (λe=>blt e.1 c.n)=lt at h;(cases lt with|false=>cases h|true=>simp only[jE,jA,jG] at h;obtain⟨rfl,rfl⟩:=h;(have fin:∀I w' G',Rel c.n χ0 w0 (tex ts ops.size++S) I w' G'->K I->Q .normal I w':=by intro I w' G' hR' gF;obtain⟨G'',hR''⟩:=yJ8 hc.n (xT2 hR' (htex _)) gE λe he=>Nat.blt_eq.mp (all_eq_true.1 hlt e he);exact hQ I w' G'' (by rw[append_assoc];exact hR'') gF);cases draw with|false=>refine wpIn_region ?_;have:=xS2 (rd:=rd) hK hc hF J hp fin ops.size 0 (by omega) a w G (by simpa[tex] using C) hk;rwa [List.range_eq_range']|true=>simp only[Bool.not_true,Bool.false_or,jB,or_eq_true] at hgo;have hx:Ext (λ_=>False) (λ_=>False) G w G { w with drawn:=w.drawn+1 }:=⟨λ_ _ _ h=>⟨h,rfl⟩,λ_ _ _=>⟨rfl,λ_=>rfl⟩,jI _,λ_ _=>rfl,λ_ _=>rfl,λ_ h=>h⟩;have hR1:Rel c.n χ0 w0 S a { w with drawn:=w.drawn+1 } G:=⟨C.len,C.defers,λs=>c6 hx (λh=>h) _ (yG4 _ _) (C.reps s),⟨C.frame.os,C.frame.tape,C.frame.output,C.frame.size,C.frame.block,C.frame.cell⟩,Ni hx.prot C.glob⟩;obtain⟨hE,ho|ho⟩:=hgo;refine wpIn_region_any hm ?_;refine xA1 hK hc hF J hp (xV2 ho) hn hE fin ops.size _ [] a _ G (by simp) (λj=>?_) (λj R=>absurd R (Nat.not_lt_zero _)) (xM7 hn) ?_ (by simpa[exe] using hR1) hk;simp[Array.getElem?_replicate];split<;>simp;exact Nat.le_trans (List.length_filter_le _ _) (by simp);obtain⟨_,uj,tl⟩:=yW6 (c:=c) (S:=S) (all:=ops.toList) (r:=ops.toList) (ts:=ts) (i:=0) (U:=[]);generalize IV c ops.toList S 0 ops.toList ts []=k at ho uj tl;(have uj:k<=ops.size:=by simpa using uj);refine wpIn_mono (Q:=λe a w=>e=.normal/\Q .normal a w) (wpIn_region_any hm ?_) (λe a w h=>by obtain⟨rfl,h⟩:=h;exact h);have:=xN3 (rd:=rd) (Q:=λe a w=>e=.normal/\Q .normal a w) (k:=k) (fk:=ops.size-k) hK hc hF J hp hE (λe a w kj h=>kj h.1) uj (λj R=>?_) (λa w G C hk=>?_) k 0 (by omega) a _ G (by simpa[tex] using hR1) hk;rw[show ops.size-k+k=ops.size by omega] at this;exact this;obtain⟨o,q1,q2,q3⟩:=tl j (Nat.zero_le _) R;exact⟨o,by simpa using q1,by simpa using q2,by simpa using q3⟩;exact xA1 hK hc hF J hp (xV2 ho) hn hE (λI w' G' hR' gF=>⟨rfl,fin I w' G' hR' gF⟩) (ops.size-k) (H9 ops.size k) (JE k) a w G eE (λj=>(yD uj).trans downs_mem.symm) (λj R=>downs_mem.2 R) (xN2 hn hE uj) xT (by rw[xN1];exact C) hk);cases h
variable {gtab:GlobTab}{P:Program}{c:Ctx}{G:Gh}{w:World}{tm:Array Value}{n:Nat}{χ0:Nat->Nat->Nat}{w0:World}{S:St}{a:Act}
theorem eI{χ:Nat->Nat->Nat}:AL χ w (.sl t) ([]:List t.den) [.slice none 0 0]:=by grind [AL]
theorem WD{m:Bool}(h:(t.plain&&!t.isL)):BS G w t [] T m (.slice none 0 0):=by simp at h;exact .inl ⟨h,.inl ⟨rfl,rfl⟩⟩
theorem yN5{t':Ty}{l':List t'.den}{l2:(Ty.sl t).den}(h:Ty.cast (a:=.sl t') (.sl t) l'=some l2):t'=t/\HEq l' l2:=by obtain⟨e,h⟩:=E2 h;injection e with e;subst e;simp_all
theorem yH1:∀{A B:AVal}{τ:Ty}{vs:List Value},(AW true A B).fitsT τ->AB G w τ A vs->AB G w τ (AW true A B) vs:=by intro A;induction A with|val τ' x=>intro B τ vs C h;(cases B with|val τ2 y=>simp only[AW] at C ⊢;split at C;exact h;simp[AVal.fitsT] at C|nil=>cases τ'<;>simp only[AW,AVal.fitsT,false_eq_true] at C;simp only[AW,jE];exact h|agg f b=>cases τ'<;>simp only[AW,AVal.fitsT,false_eq_true] at C;simp only[AW,jE] at C ⊢;split at C;exact h;simp[AVal.fitsT] at C|own t l T m=>simp only[AW,Wl] at C ⊢;(cases m with|true=>simp[AVal.fitsT] at C|false=>simp only[jD] at C ⊢;split at C;exact h;simp[AVal.fitsT] at C)|_=>cases τ'<;>simp[AW,AVal.fitsT] at C)|nil=>intro B τ vs C h;simp only[AB] at h;obtain⟨I,rfl⟩:=h;(cases B with|nil=>simp only[AW,AB];exact⟨I,trivial⟩|val τ2 y=>cases τ2<;>simp only[AW,AVal.fitsT,false_eq_true] at C;rename_i t;simp only[AW,jE,AB];simp only[jB] at C;have e:=Ty.eq_of_beq C.1;subst e;exact⟨rfl,rfl,eI⟩|own t l T m=>simp only[AW] at C ⊢;generalize J:(t.plain&&!t.isL)=b at C;(cases b with|false=>simp[AVal.fitsT] at C|true=>simp only[jE,AVal.fitsT] at C ⊢;have e:=Ty.eq_of_beq C;subst e;simp only[AB];exact⟨trivial,_,rfl,WD J⟩)|_=>simp[AW,AVal.fitsT] at C)|own t l T m=>intro B τ vs C h;(cases B with|nil=>simp only[AW] at C ⊢;generalize J:(t.plain&&!t.isL)=b at C;(cases b with|false=>simp[AVal.fitsT] at C|true=>simp only[jE];exact h)|own t' l' T' m'=>simp only[AW] at C ⊢;generalize (Nat.beq T T'&&(m==m'))=b at C ⊢;(cases b with|false=>simp[AVal.fitsT] at C|true=>simp only[jE] at C ⊢;split at C;exact h;simp[AVal.fitsT] at C)|val τ2 y=>simp only[AW,Wk] at C ⊢;(cases m with|true=>simp[AVal.fitsT] at C|false=>simp only[jD] at C ⊢;split at C;simp only[AB] at h;obtain⟨rfl,v,rfl,ho⟩:=h;simp only[jE,AB];exact⟨trivial,rfl,Gf ho⟩;simp[AVal.fitsT] at C)|_=>simp[AW,AVal.fitsT] at C)|agg f x ih=>intro B τ vs C h;(cases B with|agg R b=>simp only[AW] at C ⊢;generalize hb:(Ty.beq f R&&AVal.fits f (AW true x b))=bb at C;(cases bb with|false=>simp[AVal.fitsT] at C|true=>simp only[jB] at hb;simp only[jE,AB] at h ⊢;exact⟨h.1,ih hb.2 h.2⟩)|val τ2 y=>cases τ2<;>simp only[AW,AVal.fitsT,false_eq_true] at C;rename_i R;simp only[AW] at C ⊢;split at C;rename_i x' hx;have ki:=Nn hx;simp only[AVal.fitsT,jB] at ki;have e:=Ty.eq_of_beq ki.1;injection e with e;subst e;simp only[AB] at h;obtain⟨rfl,h⟩:=h;simp only[AB,jE];exact⟨trivial,rfl,JC (A:=.agg f x) hx (by simp only[AB];exact⟨trivial,h⟩)⟩;simp[AVal.fitsT] at C|_=>simp[AW,AVal.fitsT] at C)|nl=>intro B τ vs C h;(cases B with|nl=>exact h|_=>simp[AW,AVal.fitsT] at C)|cons x y kM kH=>intro B τ vs C h;(cases B with|cons x' y'=>simp only[AB] at h;obtain⟨I,t1,us,ws,rfl,rfl,h2,h3⟩:=h;simp only[AW,AVal.fitsT,G6,jB] at C;simp only[AW,AB];exact⟨_,_,_,_,rfl,rfl,kM C.1 h2,kH C.2 h3⟩|_=>simp[AW,AVal.fitsT] at C)|junk=>intro B τ vs C h;cases B<;>simp[AW,AVal.fitsT] at C|_=>intro B τ vs _ h;simp[AB] at h
theorem yH2:∀{A B:AVal}{τ:Ty}{vs:List Value},(AW false A B).fitsT τ->AB G w τ B vs->AB G w τ (AW false A B) vs:=by intro A;induction A with|val τ' x=>intro B τ vs C h;(cases B with|val τ2 y=>simp only[AW] at C ⊢;split at C;rename_i z I;obtain⟨e,I⟩:=E2 I;subst e;subst I;exact h;simp[AVal.fitsT] at C|nil=>simp only[AB] at h;obtain⟨R,rfl⟩:=h;cases τ'<;>simp only[AW,AVal.fitsT,false_eq_true] at C;simp only[jB] at C;have e:=Ty.eq_of_beq C.1;subst e;simp only[AW,jD,AB];exact⟨trivial,rfl,eI⟩|agg f b=>cases τ'<;>simp only[AW,AVal.fitsT,false_eq_true] at C;rename_i J;simp only[AW,jD] at C ⊢;split at C;rename_i x' hx;have ki:=Nn hx;simp only[AVal.fitsT,jB] at ki;have e:=Ty.eq_of_beq ki.1;injection e with e;subst e;simp only[AB] at h;obtain⟨rfl,h⟩:=h;simp only[AB];exact⟨trivial,rfl,JC (A:=.agg f b) hx (by simp only[AB];exact⟨trivial,h⟩)⟩;simp[AVal.fitsT] at C|own t l T m=>simp only[AW,Wl] at C ⊢;(cases m with|true=>simp[AVal.fitsT] at C|false=>simp only[jD] at C ⊢;split at C;rename_i z I;obtain⟨e,I⟩:=E2 I;subst e;subst I;simp only[AB] at h;obtain⟨rfl,v,rfl,ho⟩:=h;simp only[AB];exact⟨trivial,rfl,Gf ho⟩;simp[AVal.fitsT] at C)|_=>cases τ'<;>simp[AW,AVal.fitsT] at C)|nil=>intro B τ vs C h;(cases B with|nil=>exact h|val τ2 y=>cases τ2<;>simp only[AW,AVal.fitsT,false_eq_true] at C;simp only[AW,jD];exact h|own t l T m=>simp only[AW] at C ⊢;generalize hp:(t.plain&&!t.isL)=b at C;(cases b with|false=>simp[AVal.fitsT] at C|true=>exact h)|_=>simp[AW,AVal.fitsT] at C)|own t l T m=>intro B τ vs C h;(cases B with|nil=>simp only[AB] at h;obtain⟨R,rfl⟩:=h;simp only[AW] at C ⊢;generalize hp:(t.plain&&!t.isL)=b at C;(cases b with|false=>simp[AVal.fitsT] at C|true=>simp only[jE,AVal.fitsT] at C ⊢;have e:=Ty.eq_of_beq C;subst e;simp only[jD,AB];exact⟨trivial,_,rfl,WD hp⟩)|own t' l' T' m'=>simp only[AW] at C ⊢;generalize hb:(Nat.beq T T'&&(m==m'))=b at C;(cases b with|false=>simp[AVal.fitsT] at C|true=>simp only[jE] at C ⊢;simp only[jB,beq_iff_eq] at hb;have e:=jC hb.1;obtain⟨_,hb⟩:=hb;subst e;subst hb;split at C;rename_i z I;obtain⟨e,I⟩:=yN5 I;subst e;have:=eq_of_heq I;subst this;exact h;simp[AVal.fitsT] at C)|val τ2 y=>simp only[AW,Wk] at C ⊢;(cases m with|true=>simp[AVal.fitsT] at C|false=>simp only[jD] at C ⊢;split at C;rename_i z I;obtain⟨e,I⟩:=E2 I;subst e;subst I;exact h;simp[AVal.fitsT] at C)|_=>simp[AW,AVal.fitsT] at C)|agg f x ih=>intro B τ vs C h;(cases B with|agg J b=>simp only[AW] at C ⊢;generalize hb:(Ty.beq f J&&AVal.fits f (AW false x b))=bb at C;(cases bb with|false=>simp[AVal.fitsT] at C|true=>simp only[jB] at hb;have e:=Ty.eq_of_beq hb.1;subst e;simp only[jE,AB] at h ⊢;exact⟨h.1,ih hb.2 h.2⟩)|val τ2 y=>cases τ2<;>simp only[AW,AVal.fitsT,false_eq_true] at C;rename_i J;simp only[AW] at C ⊢;split at C;exact h;simp[AVal.fitsT] at C|_=>simp[AW,AVal.fitsT] at C)|nl=>intro B τ vs C h;(cases B with|nl=>exact h|_=>simp[AW,AVal.fitsT] at C)|cons x y kM kH=>intro B τ vs C h;(cases B with|cons x' y'=>simp only[AB] at h;obtain⟨R,t1,us,ws,rfl,rfl,h2,h3⟩:=h;simp only[AW,AVal.fitsT,G6,jB] at C;simp only[AW,AB];exact⟨_,_,_,_,rfl,rfl,kM C.1 h2,kH C.2 h3⟩|_=>simp[AW,AVal.fitsT] at C)|_=>intro B τ vs C h;cases B<;>simp[AW,AVal.fitsT,AB] at C h
theorem yW9:∀{A B:AVal}{os:Option Nat}{v:Value},zA G w tm os A v->zA G w tm os (AW true A B) v:=by intro A;induction A with|val τ' x=>intro B os v h;(cases B with|val τ2 y=>simp only[AW];split;exact h;simp only[zA]|nil=>cases τ'<;>simp only[AW,jE,zA];exact h|agg f b=>cases τ'<;>simp only[AW,jE,zA];split;exact h;simp only[zA]|own t l T m=>simp only[AW,Wl];(cases m with|true=>simp only[jE,zA]|false=>simp only[jD];split;exact h;simp only[zA])|_=>cases τ'<;>simp only[AW,zA])|nil=>intro B os v h;simp only[zA] at h;subst h;(cases B with|nil=>simp only[AW,zA]|val τ2 y=>(cases τ2<;>simp only[AW,jE]<;>first|exact KS eI|simp only[zA])|own t l T m=>simp only[AW];generalize R:(t.plain&&!t.isL)=b;(cases b with|false=>simp only[jD,zA]|true=>simp only[jE,zA];exact WD R)|_=>simp only[AW,zA])|own t l T m=>intro B os v h;(cases B with|nil=>simp only[AW];(cases (t.plain&&!t.isL) with|false=>simp only[jD,zA]|true=>simp only[jE];exact h)|own t' l' T' J=>simp only[AW];(cases (Nat.beq T T'&&(m==J)) with|false=>simp only[jD,zA]|true=>simp only[jE];split;exact h;simp only[zA])|val τ2 y=>simp only[AW,Wk];(cases m with|true=>simp only[jE,zA]|false=>simp only[jD];split;simp only[zA] at h;exact KS (Gf h);simp only[zA])|_=>simp only[AW,zA])|box τ x _=>intro B os v h;(cases B with|box τ' y=>simp only[AW];generalize hb:(Ty.beq τ τ'&&AVal.fits τ (AW true x y))=b;(cases b with|false=>simp only[jD,zA]|true=>simp only[jB] at hb;simp only[jE];cases os with|none=>simp only[zA] at h|some s=>simp only[zA] at h ⊢;obtain⟨C,I,cur,e,h3,h4,h5⟩:=h;exact⟨C,I,cur,e,h3,yH1 hb.2 h4,h5⟩)|_=>simp only[AW,zA])|ref s τ p=>intro B os v h;(cases p with|nil=>(cases B with|ref s' τ' p'=>(cases p' with|nil=>simp only[AW];(cases (Nat.beq s s'&&Ty.beq τ τ') with|false=>simp only[jD,zA]|true=>simp only[jE];exact h)|cons _ _=>simp only[AW,zA])|_=>simp only[AW,zA])|cons _ _=>cases B<;>simp only[AW,zA])|nl=>intro B os v h;(cases B with|nl=>exact h|_=>simp only[AW,zA])|cons x y kM kH=>intro B os v h;(cases B with|cons x' y'=>simp only[zA] at h;obtain⟨u,us,rfl,C,I⟩:=h;simp only[AW,zA];exact⟨u,us,rfl,kM C,kH I⟩|_=>simp only[AW,zA])|agg f x _=>intro B os v h;(cases B with|agg f' b=>simp only[AW];generalize hb:(Ty.beq f f'&&AVal.fits f (AW true x b))=bb;(cases bb with|false=>simp only[jD,zA]|true=>simp only[jB] at hb;simp only[jE,zA] at h ⊢;obtain⟨vs,C,I⟩:=h;exact⟨vs,C,yH1 hb.2 I⟩)|val τ2 y=>cases τ2<;>simp only[AW,zA];split;rename_i x' hx;simp only[zA,jE];exact Ie hx rfl (S6 h (by intro _ _ e;cases e) (by intro e;cases e));simp only[zA]|_=>simp only[AW,zA])|tup x ih=>intro B os v h;(cases B with|tup b=>simp only[AW,zA] at h ⊢;exact ih h|_=>simp only[AW,zA])|ownh t l T i U m=>intro B os v h;(cases B with|ownh t' l' T' i' U' J=>simp only[AW];(cases (Nat.beq T T'&&Nat.beq U U'&&(m==J)) with|false=>simp only[jD,zA]|true=>simp only[jE];split;exact h;simp only[zA])|_=>simp only[AW,zA])|_=>intro B os v h;cases B<;>simp only[AW,zA]
theorem yX:∀{A B:AVal}{os:Option Nat}{v:Value},zA G w tm os B v->zA G w tm os (AW false A B) v:=by intro A;induction A with|val τ' x=>intro B os v h;(cases B with|val τ2 y=>simp only[AW];split;rename_i z C;obtain⟨e,C⟩:=E2 C;subst e;subst C;exact h;simp only[zA]|nil=>simp only[zA] at h;subst h;(cases τ'<;>simp only[AW,jD]<;>first|exact KS eI|simp only[zA])|agg f b=>cases τ'<;>simp only[AW,jD,zA];split;rename_i x' hx;simp only[zA];exact Ie hx rfl (S6 h (by intro _ _ e;cases e) (by intro e;cases e));simp only[zA]|own t l T m=>simp only[AW,Wl];(cases m with|true=>simp only[jE,zA]|false=>simp only[jD];split;rename_i z C;obtain⟨e,C⟩:=E2 C;subst e;subst C;simp only[zA] at h;exact KS (Gf h);simp only[zA])|_=>cases τ'<;>simp only[AW,zA])|nil=>intro B os v h;(cases B with|nil=>exact h|val τ2 y=>cases τ2<;>simp only[AW,jD,zA];exact h|own t l T m=>simp only[AW];(cases (t.plain&&!t.isL) with|false=>simp only[jD,zA]|true=>exact h)|_=>simp only[AW,zA])|own t l T m=>intro B os v h;(cases B with|nil=>simp only[zA] at h;subst h;simp only[AW];generalize hp:(t.plain&&!t.isL)=b;(cases b with|false=>simp only[jD,zA]|true=>simp only[jE,jD,zA];exact WD hp)|own t' l' T' R=>simp only[AW];generalize hb:(Nat.beq T T'&&(m==R))=b;(cases b with|false=>simp only[jD,zA]|true=>simp only[jB,beq_iff_eq] at hb;have e:=jC hb.1;obtain⟨_,hb⟩:=hb;subst e;subst hb;simp only[jE];split;rename_i z C;obtain⟨e,C⟩:=yN5 C;subst e;have:=eq_of_heq C;subst this;exact h;simp only[zA])|val τ2 y=>simp only[AW,Wk];(cases m with|true=>simp only[jE,zA]|false=>simp only[jD];split;rename_i z C;obtain⟨e,C⟩:=E2 C;subst e;subst C;exact h;simp only[zA])|_=>simp only[AW,zA])|box τ x _=>intro B os v h;(cases B with|box τ' y=>simp only[AW];generalize hb:(Ty.beq τ τ'&&AVal.fits τ (AW false x y))=b;(cases b with|false=>simp only[jD,zA]|true=>simp only[jB] at hb;have e:=Ty.eq_of_beq hb.1;subst e;simp only[jE];cases os with|none=>simp only[zA] at h|some s=>simp only[zA] at h ⊢;obtain⟨I,J,cur,e,h3,h4,h5⟩:=h;exact⟨I,J,cur,e,h3,yH2 hb.2 h4,h5⟩)|_=>simp only[AW,zA])|ref s τ p=>intro B os v h;(cases p with|nil=>(cases B with|ref s' τ' p'=>(cases p' with|nil=>simp only[AW];generalize hb:(Nat.beq s s'&&Ty.beq τ τ')=b;(cases b with|false=>simp only[jD,zA]|true=>simp only[jB] at hb;have e:=jC hb.1;have e':=Ty.eq_of_beq hb.2;subst e;subst e';exact h)|cons _ _=>simp only[AW,zA])|_=>simp only[AW,zA])|cons _ _=>cases B<;>simp only[AW,zA])|nl=>intro B os v h;(cases B with|nl=>exact h|_=>simp only[AW,zA])|cons x y kM kH=>intro B os v h;(cases B with|cons x' y'=>simp only[zA] at h;obtain⟨u,us,rfl,I,J⟩:=h;simp only[AW,zA];exact⟨u,us,rfl,kM I,kH J⟩|_=>simp only[AW,zA])|agg f x _=>intro B os v h;(cases B with|agg f' b=>simp only[AW];generalize hb:(Ty.beq f f'&&AVal.fits f (AW false x b))=bb;(cases bb with|false=>simp only[jD,zA]|true=>simp only[jB] at hb;have e:=Ty.eq_of_beq hb.1;subst e;simp only[jE,zA] at h ⊢;obtain⟨vs,I,J⟩:=h;exact⟨vs,I,yH2 hb.2 J⟩)|val τ2 y=>cases τ2<;>simp only[AW,zA];split;exact h;simp only[zA]|_=>simp only[AW,zA])|tup x ih=>intro B os v h;(cases B with|tup b=>simp only[AW,zA] at h ⊢;exact ih h|_=>simp only[AW,zA])|ownh t l T i U m=>intro B os v h;(cases B with|ownh t' l' T' i' U' R=>simp only[AW];generalize hb:(Nat.beq T T'&&Nat.beq U U'&&(m==R))=b;(cases b with|false=>simp only[jD,zA]|true=>simp only[jB,beq_iff_eq] at hb;have e1:=jC hb.1.1;have e2:=jC hb.1.2;obtain⟨_,e3⟩:=hb;subst e1;subst e2;subst e3;simp only[jE];split;rename_i z C;obtain⟨e,C⟩:=E2 C;injection e with e;injection e with e;subst e;have C:l'=z:=C;subst C;exact h;simp only[zA])|_=>simp only[AW,zA])|_=>intro B os v h;cases B<;>simp only[AW,zA]
def St.hasCut (d:St):Bool:=d.any λe=>Nat.beq e.1 BN
variable {d2 d1:St}
theorem yJ9{g:Bool}:∀{ks:St}{R:St},(S0 g d1 d2 S ks++R).get s=.junk\/(S0 g d1 d2 S ks++R).get s=AW g ((d1++S).get s) ((d2++S).get s)\/(St.has s ks=false/\St.hasCut ks=false/\(S0 g d1 d2 S ks++R).get s=R.get s):=by intro ks;induction ks with|nil=>exact .inr (.inr ⟨rfl,rfl,rfl⟩)|cons e r C=>obtain⟨k,A⟩:=e;simp[S0,St.get];cases I:Nat.beq k s with|true=>cases Nat.beq k BN<;>simp_all|false=>cases J:Nat.beq k BN<;>simp_all [St.has,St.hasCut]
theorem xA3(C:St.has s (J8 d1++(J8 d2++(J9 d1++J9 d2)))=false)(I:St.hasCut (J8 d1++(J8 d2++(J9 d1++J9 d2)))=false):(d1++S).get s=S.get s/\(d2++S).get s=S.get s:=by (have R:∀d:St,(∀e∈d,e∈d1\/e∈d2)->(∀e∈d,e.1≠BN)/\St.has s d=false:=by intro d J;(have key:∀e∈d,e.1≠BN/\Nat.beq e.1 s=false:=by intro e he;simp only[St.has,St.hasCut,any_eq_false,mem_append,J8,J9,List.mem_filter] at C I;(have ud:e.1≠BN:=by grind [Nat.beq,Nat.beq_refl]);(have hb:(!(Nat.beq e.1 BN)):=by grind);refine⟨ud,?_⟩;rcases J e he with h|h;exact Bool.eq_false_iff.2 (C e (.inl ⟨h,hb⟩));exact Bool.eq_false_iff.2 (C e (.inr (.inl ⟨h,hb⟩))));grind [St.has,any_eq_false]);grind [KW]
theorem eJ(C:Rel n χ0 w0 (d1++S) a w G):Rel n χ0 w0 (H7 true d1 d2 S++S) a w G:=by refine⟨C.len,C.defers,λs=>?_,C.frame,C.glob⟩;have h:=C.reps s;unfold H7;rcases yJ9 (g:=true) (d1:=d1) (d2:=d2) (S:=S) (s:=s) (ks:=J8 d1++(J8 d2++(J9 d1++J9 d2))) (R:=S) with e|e|⟨e1,I,e⟩;grind [zA];grind [yW9];rw[e,<-(xA3 e1 I).1];grind
theorem eL(C:Rel n χ0 w0 (d2++S) a w G):Rel n χ0 w0 (H7 false d1 d2 S++S) a w G:=by refine⟨C.len,C.defers,λs=>?_,C.frame,C.glob⟩;have h:=C.reps s;unfold H7;rcases yJ9 (g:=false) (d1:=d1) (d2:=d2) (S:=S) (s:=s) (ks:=J8 d1++(J8 d2++(J9 d1++J9 d2))) (R:=S) with e|e|⟨e1,I,e⟩;grind [zA];grind [yX];rw[e,<-(xA3 e1 I).2];grind
variable {gtab:GlobTab}{P:Program}{c:Ctx}{G:Gh}{w:World}{tm:Array Value}{n:Nat}{χ0:Nat->Nat->Nat}{w0:World}{S:St}{a:Act}
theorem AllP_iff:∀{l:List Prop},JA l↔∀q∈l,q:=by intro l;induction l with|nil=>exact⟨λ_ q C=>(by grind),λ_=>trivial⟩|cons p r J=>cases r with|nil=>refine⟨λh q C=>?_,λh=>h p (jQ ..)⟩;rcases mem_cons.1 C with rfl|C;exact h;grind|cons q r=>constructor;intro h I C;rcases mem_cons.1 C with rfl|C;exact h.1;exact J.1 h.2 I C;intro h;exact⟨h p (jQ ..),J.2 λI C=>h I (jP _ C)⟩
theorem yX0{b:Prop}{l:List Prop}(h:∀q∈Wn b l,q)(hb:b):∀q∈l,q:=by cases l with|nil=>grind|cons p r=>have:=h (b->JA (p::r)) (by simp[Wn]);grind [AllP_iff]
def EO:Exit->Option Nat
 |.normal=>some 0
 |.ret=>some 1
 |.exit id=>some (id+2)
 |_=>none
def tk (g:Option Bool):Bool:=g.getD true
def EP [GlobTab] (n:Nat)(χ0:Nat->Nat->Nat)(w0:World)(S:St)(l:List Comp)(e:Exit)(a:Act)(w:World):Prop:=
 ∃k cp G,EO e=some k/\B7 k l=some cp/\tk cp.g/\(∀k' c',B7 k' l=some c'->tk c'.g->k'=k)/\Rel n χ0 w0 (cp.d++S) a w G
theorem yA5:∀{l l':List Comp},B7 k (l++l')=match B7 k l with |some x=>some x|none=>B7 k l':=by intro l;induction l with|nil=>intro l';rfl|cons x r C=>intro l';simp[B7];cases Nat.beq x.kind k with|true=>rfl|false=>exact C
theorem WE{x:Comp}:∀{l:List Comp},B7 k l=some x->x.kind=k:=by intro l;induction l with|nil=>intro h;cases h|cons y r C=>intro h;simp only[B7] at h;cases hb:Nat.beq y.kind k<;>simp_all
theorem zR6{q:Nat->Bool}:∀{l:List Comp},B7 k (l.filter λx=>q x.kind)=cond (q k) (B7 k l) none:=by intro l;induction l with|nil=>cases q k<;>rfl|cons x r C=>simp only[List.filter_cons];cases I:q x.kind with|true=>simp[B7];cases hb:Nat.beq x.kind k<;>simp_all|false=>simp[B7];cases hb:Nat.beq x.kind k<;>simp_all
theorem Pd{l:List Comp}:B7 k (Ex T l)=cond (Nat.beq k T) none (B7 k l):=by unfold Ex;rw[zR6 (q:=λx=>!(Nat.beq x T))];grind
theorem eM{f:Comp->Comp}(C:∀x,(f x).kind=x.kind):∀{l:List Comp},B7 k (l.map f)=(B7 k l).map f:=by intro l;induction l with|nil=>rfl|cons x r I=>simp[B7,C];cases Nat.beq x.kind k with|true=>rfl|false=>exact I
def eN (t:Bool)(S:St):Option Comp->Option Comp->St
 |some a,some b=>H7 t a.d b.d S
 |some a,none=>a.d
 |none,some b=>b.d
 |none,none=>[]
def WG (t:Bool)(S:St)(la lb:List Comp)(x:Comp):Comp:=⟨x.kind,GY t (B7 x.kind la) (B7 x.kind lb),eN t S (B7 x.kind la) (B7 x.kind lb)⟩
variable {lb la:List Comp}
theorem xN7{t:Bool}:∀{l:List Comp},Wm t S la lb l=l.map (WG t S la lb):=by intro l;induction l with|nil=>rfl|cons x r C=>simp[Wm,C,WG];cases B7 x.kind la<;>cases B7 x.kind lb<;>rfl
theorem eP{t:Bool}:B7 k (Wm t S la lb (la++lb.filter λx=>(B7 x.kind la).isNone))=match B7 k la,B7 k lb with |none,none=>none|xa,xb=>some ⟨k,GY t xa xb,eN t S xa xb⟩:=by rw[xN7,eM (f:=WG t S la lb) (λ_=>rfl),yA5,zR6 (q:=λx=>(B7 x la).isNone)];cases C:B7 k la with|some x=>grind [WG,WE]|none=>cases hb:B7 k lb<;>grind [WG,WE]
variable {y x:Option Bool}
theorem Nz:tk (Fv x y)=(tk x&&tk y):=by cases x<;>cases y<;>simp[Fv,tk]
theorem N0:tk (gor x y)=(tk x||tk y):=by cases x<;>cases y<;>simp[gor,tk]
theorem xT4{g:Option Bool}(h:tk g=false):g=some false:=by cases g<;>grind [tk]
variable {e:Exit}{ob oa:Out}
theorem xF4(h:EP n χ0 w0 S oa.comps e a w):EP n χ0 w0 S (S1 true S oa ob).comps e a w:=by obtain⟨k,cp,G,h1,h2,h3,h4,R⟩:=h;simp only[S1];refine⟨k,⟨k,GY true (some cp) (B7 k ob.comps),eN true S (some cp) (B7 k ob.comps)⟩,G,h1,?_,?_,?_,?_⟩;rw[eP,h2];(cases hb:B7 k ob.comps with|none=>cases I:cp.g<;>simp_all [GY,Fv,tk]|some b=>grind [GY,tk]);intro J c' C ht;rw[eP] at C;(cases ha:B7 J oa.comps with|none=>(cases hb:B7 J ob.comps with|none=>grind|some b=>simp[ha,hb] at C;subst C;cases I:b.g<;>simp[GY,Fv,tk,I] at ht)|some x=>cases hb:B7 J ob.comps with|none=>simp[ha] at C;subst C;cases I:x.g<;>simp_all [GY,Fv,tk]|some b=>grind [jA,GY,tk]);cases B7 k ob.comps with|none=>exact R|some b=>exact eJ R
theorem xF5(h:EP n χ0 w0 S ob.comps e a w):EP n χ0 w0 S (S1 false S oa ob).comps e a w:=by obtain⟨k,cp,G,h1,h2,h3,h4,R⟩:=h;simp only[S1];refine⟨k,⟨k,GY false (B7 k oa.comps) (some cp),eN false S (B7 k oa.comps) (some cp)⟩,G,h1,?_,?_,?_,?_⟩;grind [eP];(cases hb:B7 k oa.comps with|none=>cases I:cp.g<;>simp_all [GY,Fv,tk]|some b=>grind [GY,tk]);intro J c' C ht;rw[eP] at C;(cases hb:B7 J ob.comps with|none=>(cases ha:B7 J oa.comps with|none=>grind|some b=>simp[ha,hb] at C;subst C;cases I:b.g<;>simp[GY,Fv,tk,I] at ht)|some x=>cases ha:B7 J oa.comps with|none=>simp[hb] at C;subst C;cases I:x.g<;>simp_all [GY,Fv,tk]|some b=>grind [jA,GY,tk]);cases B7 k oa.comps with|none=>exact R|some b=>exact eL R
def eQ (m:Comp)(S:St)(la:List Comp)(x:Comp):Comp:=
 ⟨x.kind,(match B7 x.kind la with|some a=>gor a.g (Fv m.g x.g)|none=>Fv m.g x.g),(match B7 x.kind la with|some a=>H7 (tk a.g) a.d (x.d++m.d) S | none=>x.d++m.d)⟩
theorem xT5{m:Comp}:∀{l:List Comp},S3 m S la l=l.map (eQ m S la):=by intro l;induction l with|nil=>rfl|cons x r C=>simp[S3,C,eQ];cases B7 x.kind la<;>rfl
theorem Pe{m:Comp}:B7 k (S3 m S la lb++la.filter λx=>(B7 x.kind lb).isNone)=match B7 k la,B7 k lb with |none,none=>none|some a,none=>some a|none,some x=>some ⟨k,Fv m.g x.g,x.d++m.d⟩|some a,some x=>some ⟨k,gor a.g (Fv m.g x.g),H7 (tk a.g) a.d (x.d++m.d) S⟩:=by rw[yA5,xT5,eM (f:=eQ m S la) (λ_=>rfl),zR6 (q:=λx=>(B7 x lb).isNone)];grind [eQ,WE]
theorem xN8{m:Comp}(hm:B7 0 oa.comps=some m)(h:EP n χ0 w0 S oa.comps e a w)(he:EO e≠some 0):EP n χ0 w0 S (S4 m S oa ob).comps e a w:=by obtain⟨k,cp,G,h1,h2,h3,h4,h5⟩:=h;(have tv:Nat.beq k 0=false:=by cases k with|zero=>grind|succ k=>rfl);(have nm:tk m.g=false:=by grind);(have h2':B7 k (Ex 0 oa.comps)=some cp:=by grind [Pd]);simp only[S4];cases hb:B7 k ob.comps with|none=>refine⟨k,cp,G,h1,by grind [Pe],h3,?_,h5⟩;intro J c' I ht;rw[Pe,Pd] at I;(cases gF:Nat.beq J 0 with|true=>grind [jA,Nz]|false=>grind [jA,Nz,N0])|some x0=>refine⟨k,{ kind:=k,g:=gor cp.g (Fv m.g x0.g),d:=H7 (tk cp.g) cp.d (x0.d++m.d) S },G,h1,by grind [Pe],?_,?_,?_⟩;simp[N0,h3];intro J c' I ht;rw[Pe,Pd] at I;(cases gF:Nat.beq J 0 with|true=>simp[gF] at I;(cases C:B7 J ob.comps with|none=>simp[C] at I|some x=>simp[C] at I;subst I;simp[Nz,nm] at ht)|false=>simp[gF] at I;cases R:B7 J oa.comps with|none=>(cases C:B7 J ob.comps with|none=>simp[R,C] at I|some x=>simp[R,C] at I;subst I;simp[Nz,nm] at ht)|some y=>refine h4 J y R ?_;cases C:B7 J ob.comps with|none=>simp[R,C] at I;subst I;exact ht|some x=>simp[R,C] at I;subst I;simpa[Nz,N0,nm] using ht);grind [eJ]
theorem xN9{m:Comp}(hmt:tk m.g)(hu:∀C I,B7 C oa.comps=some I->tk I.g->C=0)(h:EP n χ0 w0 (m.d++S) ob.comps e a w):EP n χ0 w0 S (S4 m S oa ob).comps e a w:=by obtain⟨k,cp,G,h1,h2,h3,h4,J⟩:=h;rw[<-append_assoc] at J;(have kE:∀C y,B7 C (Ex 0 oa.comps)=some y->y.g=some false:=by grind [Pd,Nat.beq,xT4,tk]);(have uq:∀C I,B7 C (S3 m S (Ex 0 oa.comps) ob.comps++(Ex 0 oa.comps).filter λx=>(B7 x.kind ob.comps).isNone)=some I->tk I.g->C=k:=by grind [Pe,B7,Ex,Nz,tk,N0]);simp only[S4];cases ha:B7 k (Ex 0 oa.comps) with|none=>refine⟨k,{ kind:=k,g:=Fv m.g cp.g,d:=cp.d++m.d },G,h1,by grind [Pe],?_,uq,J⟩;grind [Nz]|some y=>have R:=kE k y ha;refine⟨k,{ kind:=k,g:=gor y.g (Fv m.g cp.g),d:=H7 (tk y.g) y.d (cp.d++m.d) S },G,h1,by grind [Pe],?_,uq,?_⟩;grind [N0,Nz];simp[R];exact eL J
theorem xF6(h:EP n χ0 w0 S oa.comps e a w):Exit.inBlock id (EP n χ0 w0 S (cY id S oa).comps) e a w:=by obtain⟨k,cp,G,h1,J,h3,h4,h5⟩:=h;unfold cY;cases hE:B7 (id+2) oa.comps with|none=>have hP:EP n χ0 w0 S oa.comps e a w:=⟨k,cp,G,h1,J,h3,h4,h5⟩;(have kj:e≠.exit id:=by rintro rfl;simp only[EO,jA] at h1;rw[<-h1,hE] at J;cases J);(cases e with|exit id'=>simp only[Exit.inBlock];rw[if_neg (λe=>kj (by rw[e]))];exact hP|_=>exact hP)|some ex=>have b20:Nat.beq (id+2) 0=false:=rfl;cases h0:B7 0 oa.comps with|none=>simp only;(have kx:∀C,B7 C ({ ex with kind:=0 }::Ex (id+2) oa.comps)=cond (Nat.beq 0 C) (some { ex with kind:=0 }) (cond (Nat.beq C (id+2)) none (B7 C oa.comps)):=by intro C;simp only[B7,Pd]);by_cases R:k=id+2;subst R;rw[hE] at J;injection J with J;subst J;(have hP:EP n χ0 w0 S ({ ex with kind:=0 }::Ex (id+2) oa.comps) .normal a w:=by refine⟨0,{ ex with kind:=0 },G,rfl,by simp[kx],h3,λC c' I ht=>?_,h5⟩;rw[kx] at I;cases hb:Nat.beq 0 C with|true=>exact (jC hb).symm|false=>simp only[hb,jD] at I;cases gm:Nat.beq C (id+2) with|true=>simp[gm] at I|false=>simp only[gm,jD] at I;have:=h4 C c' I ht;subst this;simp at gm);(cases e with|exit id'=>simp only[EO,jA] at h1;simp only[Exit.inBlock];rw[if_pos (by omega)];exact hP|normal=>simp[EO] at h1|ret=>simp only[EO,jA] at h1;omega|_=>simp[EO] at h1);(have tv:k≠0:=by intro e0;subst e0;rw[h0] at J;cases J);(have hxf:tk ex.g=false:=by cases hx:tk ex.g with|false=>rfl|true=>exact absurd (h4 _ _ hE hx).symm R);(have hP:EP n χ0 w0 S ({ ex with kind:=0 }::Ex (id+2) oa.comps) e a w:=by refine⟨k,cp,G,h1,?_,h3,λC c' I ht=>?_,h5⟩;rw[kx];(have b1:Nat.beq 0 k=false:=by cases hb:Nat.beq 0 k with|false=>rfl|true=>exact absurd (jC hb).symm tv);(have b2:Nat.beq k (id+2)=false:=by cases hb:Nat.beq k (id+2) with|false=>rfl|true=>exact absurd (jC hb) R);rw[b1,b2];exact J;rw[kx] at I;cases hb:Nat.beq 0 C with|true=>simp only[hb,jE,jA] at I;subst I;simp only at ht;rw[hxf] at ht;cases ht|false=>simp only[hb,jD] at I;cases gm:Nat.beq C (id+2) with|true=>simp[gm] at I|false=>simp only[gm,jD] at I;exact h4 C c' I ht);(cases e with|exit id'=>simp only[EO,jA] at h1;simp only[Exit.inBlock];rw[if_neg (by omega)];exact hP|_=>exact hP)|some m=>simp only;generalize hN:({ kind:=0,g:=gor ex.g m.g,d:=H7 (ex.g.getD true) ex.d m.d S }:Comp)=N;(have kx:∀C,B7 C (N::Ex 0 (Ex (id+2) oa.comps))=cond (Nat.beq 0 C) (some N) (cond (Nat.beq C 0) none (cond (Nat.beq C (id+2)) none (B7 C oa.comps))):=by intro C;simp only[B7,Pd,<-hN]);by_cases R:k=id+2\/k=0;(have hP:EP n χ0 w0 S (N::Ex 0 (Ex (id+2) oa.comps)) .normal a w:=by (have uq:∀C c',B7 C (N::Ex 0 (Ex (id+2) oa.comps))=some c'->tk c'.g->C=0:=by intro C c' I ht;rw[kx] at I;cases hb:Nat.beq 0 C with|true=>exact (jC hb).symm|false=>simp only[hb,jD] at I;cases qf:Nat.beq C 0 with|true=>simp[qf] at I|false=>cases gm:Nat.beq C (id+2) with|true=>simp[qf,gm] at I|false=>simp only[qf,gm,jD] at I;have:=h4 C c' I ht;rcases R with R|R;rw[R] at this;subst this;simp at gm;rw[R] at this;exact this);rcases R with R|R;subst R;rw[hE] at J;injection J with J;subst J;refine⟨0,N,G,rfl,by simp[kx],?_,uq,?_⟩;rw[<-hN];simp only[N0,h3,Bool.true_or];rw[<-hN];have:ex.g.getD true:=h3;simp only[this];exact eJ h5;subst R;rw[h0] at J;injection J with J;subst J;(have hxf:tk ex.g=false:=by cases hx:tk ex.g with|false=>rfl|true=>have:=h4 _ _ hE hx;omega);refine⟨0,N,G,rfl,by simp[kx],?_,uq,?_⟩;rw[<-hN];simp only[N0,h3,Bool.or_true];rw[<-hN];have:ex.g.getD true=false:=hxf;simp only[this];exact eL h5);(cases e with|exit id'=>simp only[EO,jA] at h1;simp only[Exit.inBlock];rw[if_pos (by omega)];exact hP|normal=>exact hP|ret=>simp only[EO,jA] at h1;omega|_=>simp[EO] at h1);have hk2:k≠id+2:=λe=>R (.inl e);have tv:k≠0:=λe=>R (.inr e);(have hxf:tk ex.g=false:=by cases hx:tk ex.g with|false=>rfl|true=>exact absurd (h4 _ _ hE hx).symm hk2);(have nm:tk m.g=false:=by cases hx:tk m.g with|false=>rfl|true=>exact absurd (h4 _ _ h0 hx).symm tv);(have hP:EP n χ0 w0 S (N::Ex 0 (Ex (id+2) oa.comps)) e a w:=by refine⟨k,cp,G,h1,?_,h3,λC c' I ht=>?_,h5⟩;rw[kx];(have b1:Nat.beq 0 k=false:=by cases hb:Nat.beq 0 k with|false=>rfl|true=>exact absurd (jC hb).symm tv);(have b3:Nat.beq k 0=false:=by cases hb:Nat.beq k 0 with|false=>rfl|true=>exact absurd (jC hb) tv);(have b2:Nat.beq k (id+2)=false:=by cases hb:Nat.beq k (id+2) with|false=>rfl|true=>exact absurd (jC hb) hk2);rw[b1,b2,b3];exact J;rw[kx] at I;cases hb:Nat.beq 0 C with|true=>simp only[hb,jE,jA] at I;subst I;rw[<-hN] at ht;simp[N0,hxf,nm] at ht|false=>simp only[hb,jD] at I;cases qf:Nat.beq C 0 with|true=>simp[qf] at I|false=>cases gm:Nat.beq C (id+2) with|true=>simp[qf,gm] at I|false=>simp only[qf,gm,jD] at I;exact h4 C c' I ht);cases e with|exit id'=>simp only[EO,jA] at h1;simp only[Exit.inBlock];rw[if_neg (by omega)];exact hP|_=>exact hP
inductive Sh where
 |val (τ:Ty)|own (t:Ty) (T:Nat) (m:Bool)|nl|cons (a b:Sh)|agg (f:Ty) (s:Sh)|box (τ:Ty) (s:Sh)|ref (s:Nat) (τ:Ty)|tup (s:Sh)|fn (f:Nat) (s:Sh)|any|nil|nn (b:Bool)|fptr (f:Nat) (caps:List (Option (Nat×Ty)))|ownh (t:Ty) (T U:Nat) (m:Bool)
@[reducible] def Sh.den:Sh->Type
 |.val τ=>τ.den|.own t _ _=>List t.den|.nl=>Unit|.cons a b=>a.den×b.den|.agg _ s=>s.den|.box _ s=>s.den|.ref _ _=>Unit|.tup s=>s.den|.fn _ s=>s.den|.any=>Unit|.nil=>Unit|.nn _=>Unit|.fptr _ _=>Unit|.ownh t _ _ _=>List (List t.den)×Nat
def Sh.mk:(s:Sh)->s.den->AVal
 |.val τ,x=>.val τ x
 |.own t T m,l=>.own t l T m
 |.nl,_=>.nl
 |.cons a b,x=>.cons (a.mk x.1) (b.mk x.2)
 |.agg f s,x=>.agg f (s.mk x)
 |.box τ s,x=>.box τ (s.mk x)
 |.ref s τ,_=>.ref s τ []
 |.tup s,x=>.tup (s.mk x)
 |.fn f s,x=>.fn f (s.mk x)
 |.any,_=>.junk
 |.nil,_=>.nil
 |.nn b,_=>.nn b
 |.fptr f caps,_=>.fptr f caps
 |.ownh t T U m,x=>.ownh t x.1 T x.2 U m
def N1 (t:Ty)(T:Nat)(m:Bool):AVal->Option (List t.den)
 |.nil=>cond (t.plain&&!t.isL) (some []) none
 |.own t' l T' m'=>cond (Nat.beq T T'&&(m==m')) (Ty.cast (a:=.sl t') (.sl t) l) none
 |_=>none
def yK (t:Ty)(T U:Nat)(m:Bool):AVal->Option (List (List t.den)×Nat)
 |.ownh t' l T' i U' m'=>cond (Nat.beq T T'&&Nat.beq U U'&&(m==m')) (match Ty.cast (a:=.sl (.sl t')) (.sl (.sl t)) l with|some l2=>some (l2,i)|none=>none) none
 |.own t' l T' true=>cond (Nat.beq T T'&&!(Nat.beq T U)&&t.plain&&!t.isL) (match Ty.cast (a:=.sl t') (.sl (.sl t)) l with|some l2=>some (l2,length (α:=List t.den) l2)|none=>none) none
 |_=>none
def eR:AVal->Bool
 |.nil=>true|_=>false
def eU (b:Bool):AVal->Bool
 |.nn b'=>b==b' | _=>false
def yI:List (Option (Nat×Ty))->List (Option (Nat×Ty))->Bool
 |[],[]=>true
 |none::r,none::r'=>yI r r'
 |some (k,τ)::r,some (k',τ')::r'=>Nat.beq k k'&&Ty.beq τ τ'&&yI r r'
 |_,_=>false
def eV (f:Nat)(caps:List (Option (Nat×Ty))):AVal->Bool
 |.fptr f' caps'=>Nat.beq f f'&&yI caps caps'
 |_=>false
def eW:AVal->Bool
 |.nl=>true|_=>false
def SJ (s:Nat)(τ:Ty):AVal->Bool
 |.ref s' τ' []=>Nat.beq s s'&&Ty.beq τ τ'
 |_=>false
def eX (f:Nat):AVal->Option AVal
 |.fn f' c=>cond (Nat.beq f f') (some c) none
 |_=>none
def SL (f:Ty):AVal->Option AVal
 |.agg f' c=>cond (Ty.beq f f') (some c) none
 |_=>none
def xO (τ:Ty):AVal->Option AVal
 |.box τ' c=>cond (Ty.beq τ τ') (some c) none
 |_=>none
def eY:AVal->Option AVal
 |.tup c=>some c
 |_=>none
def SM:AVal->Option (AVal×AVal)
 |.cons a b=>some (a,b)
 |_=>none
def Sh.parse:(s:Sh)->AVal->Option s.den
 |.val τ,A=>cond τ.isL none (AVal.as τ A)
 |.own t T m,A=>N1 t T m A
 |.nl,A=>cond (eW A) (some ()) none
 |.cons a b,A=>match SM A with
  |some (x,y)=>(match a.parse x,b.parse y with|some p,some q=>some (p,q)|_,_=>none)
  |none=>none
 |.agg f s,A=>match SL f A with
  |some c=>(match s.parse c with|some x=>cond ((s.mk x).fitsT f) (some x) none|none=>none)
  |none=>none
 |.box τ s,A=>match xO τ A with
  |some c=>(match s.parse c with|some x=>cond ((s.mk x).fitsT τ) (some x) none|none=>none)
  |none=>none
 |.ref s τ,A=>cond (SJ s τ A) (some ()) none
 |.tup s,A=>match eY A with
  |some c=>s.parse c
  |none=>none
 |.fn f s,A=>match eX f A with
  |some c=>s.parse c
  |none=>none
 |.any,_=>some ()
 |.nil,A=>cond (eR A) (some ()) none
 |.nn b,A=>cond (eU b A) (some ()) none
 |.fptr f caps,A=>cond (eV f caps A) (some ()) none
 |.ownh t T U m,A=>yK t T U m A
variable {gtab:GlobTab}{P:Program}{c:Ctx}{G:Gh}{w:World}{tm:Array Value}{n:Nat}{χ0:Nat->Nat->Nat}{w0:World}{S:St}{a:Act}
theorem xT9:∀{l l':List (Option (Nat×Ty))},yI l l'->l=l':=by intro l;induction l with|nil=>grind [yI]|cons q r J=>intro l' h;cases q with|none=>(cases l' with|nil=>grind [yI]|cons C I=>cases C<;>grind [yI])|some q=>cases l' with|nil=>grind [yI]|cons C I=>cases C<;>grind [yI,jC,Ty.eq_of_beq]
theorem yH3{m:Bool}{A:AVal}{l:List t.den}{os:Option Nat}(h:N1 t T m A=some l)(I:zA G w tm os A v):BS G w t l T m v:=by cases A with|nil=>grind [N1,zA,WD]|own t' l' T' C=>simp only[N1] at h;generalize hb:(Nat.beq T T'&&(m==C))=b at h;(cases b with|false=>grind|true=>simp at hb;grind [yN5,zA])|_=>grind [N1]
theorem yK2:∀{s:Sh}{A:AVal}{x:s.den}{τ:Ty}{vs:List Value},s.parse A=some x->(s.mk x).fitsT τ->AB G w τ A vs->AB G w τ (s.mk x) vs:=by intro s;induction s with|val τ'=>intro A x τ vs h C I;simp only[Sh.parse] at h;(cases hl:τ'.isL with|true=>grind|false=>simp[hl] at h;simp[Sh.mk,AVal.fitsT] at C;have e:=Ty.eq_of_beq C.1;subst e;simp only[Sh.mk,AB];exact⟨trivial,hl,JC h I⟩)|own t T m=>intro A x τ vs h C I;simp only[Sh.parse] at h;have e:=Ty.eq_of_beq C;subst e;simp only[Sh.mk,AB];refine⟨trivial,?_⟩;(cases A with|nil=>exact⟨_,I.2,yH3 (tm:=#[]) (os:=none) h (by grind [zA])⟩|own t' l' T' m'=>obtain⟨_,v,h1,h2⟩:=I;exact⟨v,h1,yH3 (tm:=#[]) (os:=none) h (by grind [zA])⟩|_=>grind [N1])|nl=>intro A x τ vs h C I;(cases A with|nl=>exact I|_=>grind [Sh.parse,eW])|cons p q J R=>intro A x τ vs h C I;(cases A with|cons a b=>simp[Sh.parse,SM] at h;split at h;rename_i y z hy hz;injection h with h;subst h;obtain⟨h1,t1,us,ws,rfl,rfl,h2,h3⟩:=I;simp[Sh.mk,AVal.fitsT,G6] at C;exact⟨_,_,_,_,rfl,rfl,J hy C.1 h2,R hz C.2 h3⟩;grind|_=>grind [Sh.parse,SM])|agg f s ih=>intro A x τ vs h C I;(cases A with|agg f' b=>simp[Sh.parse,SL] at h;(cases hb:Ty.beq f f' with|false=>grind|true=>simp[hb] at h;have e:=Ty.eq_of_beq hb;split at h;rename_i y hy;generalize ki:(s.mk y).fitsT f=bb at h;(cases bb with|false=>grind|true=>grind [AB,Sh.mk]);grind)|_=>grind [Sh.parse,SL])|nil=>intro A x τ vs h C I;(cases A with|nil=>exact I|_=>grind [Sh.parse,eR])|_=>grind [Sh.mk,AVal.fitsT]
theorem Fy:∀{s:Sh}{A:AVal}{x:s.den}{os:Option Nat}{v:Value},s.parse A=some x->zA G w tm os A v->zA G w tm os (s.mk x) v:=by intro s;induction s with|val τ'=>intro A x os v h C;simp only[Sh.parse] at h;(cases I:τ'.isL with|true=>simp[I] at h|false=>simp only[I,jD] at h;simp only[Sh.mk,zA];refine Ie h I (S6 C ?_ ?_);intro τ c e;subst e;simp[AVal.as,AVal.asT] at h;intro e;subst e;simp[AVal.as,AVal.asT] at h)|own t T m=>intro A x os v h C;simp only[Sh.parse] at h;simp only[Sh.mk,zA];exact yH3 h C|nl=>intro A x os v h C;(cases A with|nl=>exact C|_=>simp[Sh.parse,eW] at h)|cons p q ihp ihq=>intro A x os v h C;(cases A with|cons a b=>simp only[Sh.parse,SM] at h;split at h;rename_i y z hy hz;injection h with h;subst h;simp only[zA] at C;obtain⟨u,us,rfl,J,h3⟩:=C;simp only[Sh.mk,zA];exact⟨u,us,rfl,ihp hy J,ihq hz h3⟩;cases h|_=>simp[Sh.parse,SM] at h)|agg f s ih=>intro A x os v h C;(cases A with|agg R b=>simp only[Sh.parse,SL] at h;(cases hb:Ty.beq f R with|false=>simp[hb] at h|true=>simp only[hb,jE] at h;have e:=Ty.eq_of_beq hb;subst e;split at h;rename_i y hy;generalize ki:(s.mk y).fitsT f=bb at h;(cases bb with|false=>cases h|true=>simp only[jE,jA] at h;subst h;simp only[zA] at C;obtain⟨vs,h1,J⟩:=C;simp only[Sh.mk,zA];exact⟨vs,h1,yK2 hy ki J⟩);cases h)|_=>simp[Sh.parse,SL] at h)|box f s ih=>intro A x os v h C;(cases A with|box R b=>simp only[Sh.parse,xO] at h;(cases hb:Ty.beq f R with|false=>simp[hb] at h|true=>simp only[hb,jE] at h;have e:=Ty.eq_of_beq hb;subst e;split at h;rename_i y hy;generalize ki:(s.mk y).fitsT f=bb at h;(cases bb with|false=>cases h|true=>simp only[jE,jA] at h;subst h;cases os with|none=>simp only[zA] at C|some s=>simp only[zA] at C;obtain⟨h1,J,cur,e,h3,h4,h5⟩:=C;simp only[Sh.mk,zA];exact⟨h1,J,cur,e,h3,yK2 hy ki h4,h5⟩);cases h)|_=>simp[Sh.parse,xO] at h)|ref s τ=>intro A x os v h C;simp only[Sh.parse] at h;generalize hr:SJ s τ A=b at h;(cases b with|false=>cases h|true=>cases A with|ref s' τ' p=>(cases p with|nil=>simp only[SJ,jB] at hr;have e1:=jC hr.1;have e2:=Ty.eq_of_beq hr.2;subst e1;subst e2;exact C|cons _ _=>simp[SJ] at hr)|_=>simp[SJ] at hr)|tup s ih=>intro A x os v h C;(cases A with|tup b=>simp only[Sh.parse,eY] at h;simp only[Sh.mk,zA] at C ⊢;exact ih h C|_=>simp[Sh.parse,eY] at h)|fn f s ih=>intro A x os v h C;(cases A with|fn R cs=>simp only[Sh.parse,eX] at h;(cases hb:Nat.beq f R with|false=>simp[hb] at h|true=>simp only[hb,jE] at h;have e:=jC hb;subst e;simp only[Sh.mk,zA] at C ⊢;obtain⟨vs,h1,J⟩:=C;exact⟨vs,h1,ih h J⟩)|_=>simp[Sh.parse,eX] at h)|any=>intro A x os v _ _;simp only[Sh.mk,zA]|nil=>intro A x os v h C;(cases A with|nil=>exact C|_=>simp[Sh.parse,eR] at h)|nn b=>intro A x os v h C;(cases A with|nn b'=>simp only[Sh.parse,eU] at h;(cases hb:(b==b') with|false=>simp[hb] at h|true=>have:=beq_iff_eq.1 hb;subst this;exact C)|_=>simp[Sh.parse,eU] at h)|ownh t T U m=>intro A x os v h C;(cases A with|ownh t' l' T' i' U' m'=>simp only[Sh.parse,yK] at h;generalize hb:(Nat.beq T T'&&Nat.beq U U'&&(m==m'))=b at h;(cases b with|false=>cases h|true=>simp only[jE] at h;simp only[jB,beq_iff_eq] at hb;have e1:=jC hb.1.1;have e2:=jC hb.1.2;have e3:=hb.2;subst e1 e2 e3;split at h;rename_i l2 I;injection h with h;subst h;obtain⟨e,I⟩:=E2 I;injection e with e;injection e with e;subst e;have I:l'=l2:=I;subst I;exact C;cases h)|own t' l' T' m'=>(cases m' with|false=>simp[Sh.parse,yK] at h|true=>simp only[Sh.parse,yK] at h;generalize hb:(Nat.beq T T'&&!(Nat.beq T U)&&t.plain&&!t.isL)=b at h;cases b with|false=>cases h|true=>simp only[jE] at h;simp only[jB,jK] at hb;have e1:=jC hb.1.1.1;subst e1;split at h;rename_i l2 I;injection h with h;subst h;obtain⟨e,I⟩:=E2 I;injection e with e;subst e;have I:l'=l2:=I;subst I;simp only[zA] at C;simp only[Sh.mk,zA];refine⟨⟨hb.1.2,hb.2⟩,.inr ⟨λe=>by subst e;simp at hb,?_⟩⟩;rcases (EE C rfl).2 with h|⟨cap,cur,e,us,h1,J,h3,h4,h5,h6,h7,h8⟩;exact .inl h;obtain⟨k1,k2⟩:=yN (λy vs h=>by have:=CM h;simpa[Ty.size] using this) h6;refine .inr ⟨cap,cur,e,h1,J,h3,h4,by rw[h5];simp[Ty.size],λo=>by rw[h8,if_neg (by simp)],λj x hj=>?_⟩;have iv:j<length (α:=List t.den) l':=(List.getElem?_eq_some_iff.1 hj).1;obtain⟨u,hu,hc⟩:=k2 j x hj;refine⟨u,?_,by rw[if_neg (by omega)];exact hc⟩;rw[<-h7,List.getElem?_take] at hu;split at hu;exact hu;cases hu;cases h)|_=>simp[Sh.parse,yK] at h)|fptr f caps=>intro A x os v h C;cases A with|fptr R caps'=>simp only[Sh.parse,eV] at h;(cases hb:(Nat.beq f R&&yI caps caps') with|false=>simp[hb] at h|true=>simp only[jB] at hb;have e1:=jC hb.1;have e2:=xT9 hb.2;subst e1;subst e2;exact C)|_=>simp[Sh.parse,eV] at h
theorem eZ:∀{s:Sh}{x:s.den},(s.mk x).hasOpt=false:=by intro s;induction s<;>grind [Sh.mk,AVal.hasOpt]
@[reducible] def AH:List (Nat×Sh)->Type
 |[]=>Unit
 |(_,s)::r=>s.den×AH r
def xU:(l:List (Nat×Sh))->AH l->St
 |[],_=>[]
 |(k,s)::r,x=>(k,s.mk x.1)::xU r x.2
def Et:(l:List (Nat×Sh))->St->Option (AH l)
 |[],_=>some ()
 |(k,s)::r,S=>match s.parse (S.get k),Et r S with|some x,some y=>some (x,y)|_,_=>none
def N2:St:=[(BN,.junk)]
def Weaker (S' S:St):Prop:=∀(s:Nat),∀G w tm v,zA G w tm (some s) (S.get s) v->zA G w tm (some s) (S'.get s) v
theorem Weaker.rel{S':St}(h:Weaker S' S)(C:Rel n χ0 w0 S a w G):Rel n χ0 w0 S' a w G:=⟨C.len,C.defers,λs=>h s _ _ _ _ (C.reps s),C.frame,C.glob⟩
theorem fA:Weaker N2 S:=by intro s G w tm v _;simp[N2,St.get];grind [zA]
theorem SN:∀{l:List (Nat×Sh)}{x:AH l}{R:St},Et l S=some x->Weaker R S->Weaker (xU l x++R) S:=by intro l;induction l with|nil=>intro x R _ h;exact h|cons e r I=>intro x R C h;obtain⟨k,s⟩:=e;simp only[Et] at C;split at C;rename_i y z hy J;injection C with C;subst C;intro q G w tm v hA;simp[xU,St.get];(cases hk:Nat.beq k q with|true=>grind [jC,Fy]|false=>cases Nat.beq k BN with|true=>simp[zA]|false=>exact I J h q G w tm v hA);grind
variable {A:St}
theorem yX3(h:St.hasCut A):(A++S).get s=A.get s:=by induction A<;>grind [St.get,St.hasCut]
theorem WH{B:St}(h:St.hasCut B):St.hasCut (A++B):=by grind [St.hasCut]
variable {gtab:GlobTab}{P:Program}{c:Ctx}{G:Gh}{w:World}{tm:Array Value}{n:Nat}{χ0:Nat->Nat->Nat}{w0:World}{S:St}{a:Act}
def WI (ks:List Nat)(vs:Nat->Value)(a:Act):Prop:=∀i∈ks,a.tmps.getD i undef=vs i
def fB (ks:List Nat):List Oper->Bool
 |[]=>true
 |o::r=>(match o.dst with|some d=>!(ks.any (Nat.beq d))|none=>true)&&fB ks r
def ER (ks:List Nat):Code->Bool
 |.region _ ops _=>fB ks ops.toList
 |.seq a b=>ER ks a&&ER ks b
 |.cond _ a b=>ER ks a&&ER ks b
 |.block _ a=>ER ks a
 |.loop a=>ER ks a
 |_=>true
theorem yX4{ks:List Nat}{vs:Nat->Value}:∀{ops:List Oper},fB ks ops->∀o∈ops,∀a v,WI ks vs a->WI ks vs (a.put o.dst v):=by intro ops;induction ops with|nil=>grind|cons x r R=>intro h o C a v I;simp[fB] at h;rcases mem_cons.1 C with rfl|C;(cases hd:o.dst with|none=>exact I|some d=>intro i J;(have kj:d≠i:=by simp_all);rw[<-I i J];simp[Act.put,Array.getElem?_setIfInBounds_ne kj]);grind
def WJ [GlobTab] (P:Program)(c:Ctx)(code:Code)(S:St)(out:Out):Prop:=
 (∀q∈out.ok,q)->∀(rd:Option Nat) (χ0:Nat->Nat->Nat) (w0:World) (vs:Nat->Value) (a:Act) (w:World) (G:Gh),Rel c.n χ0 w0 S a w G->WI c.keep vs a ->
  code.wpIn (fz rd) 0 P (λe a' w'=>EP c.n χ0 w0 S out.comps e a' w'/\WI c.keep vs a') a w
def HD [GlobTab] (P:Program)(c:Ctx):Code->Prop
 |.seq a b=>HD P c a/\HD P c b
 |.cond _ a b=>HD P c a/\HD P c b
 |.block _ a=>HD P c a
 |.loop a=>∀S out,look (λ_=>none) c.loops (HY a) S=some out->WJ P c (.loop a) S out
 |_=>True
theorem fE(he:EO e=some k)(C:Rel n χ0 w0 (u++S) a w G):EP n χ0 w0 S [⟨k,none,u⟩] e a w:=by refine⟨k,⟨k,none,u⟩,G,he,by simp[B7],rfl,λI J R _=>?_,C⟩;grind [B7,Nat.beq,jC]
theorem zZ (hc:CtxOk P c)(hm:P.follows .mixedOrders):∀{code:Code}{S:St}{out:Out},HD P c code->ER c.keep code->eval c code S=some out->WJ P c code S out:=by intro code;induction code with|skip=>intro S out _ _ h _ rd χ0 w0 vs a w G I J;simp only[eval,jA] at h;subst h;exact wpIn_skip ⟨fE rfl I,J⟩|region id ops draw=>intro S out _ hw h kh rd χ0 w0 vs a w G I J;simp only[eval] at h;split at h;cases h;rename_i v hg;generalize hv:v.all (λe=>blt e.1 c.n)=bv at h;(cases bv with|false=>cases h|true=>simp only[Bool.not_true,jD] at h;split at h;rename_i p u hr;injection h with h;subst h;simp only[ER] at hw;obtain⟨G1,hR1⟩:=yJ8 hc.n I hg λe he=>Nat.blt_eq.mp (all_eq_true.1 hv e he);exact yS2 (yX4 (vs:=vs) hw) hc hm hr kh hR1 J λa' w' G' hR' gF=>⟨fE rfl (by rw[append_assoc];exact hR'),gF⟩;cases h)|seq x y kM kH=>intro S out R hw h kh rd χ0 w0 vs a w G I J;simp only[HD] at R;simp only[ER,jB] at hw;simp only[eval] at h;split at h;cases h;rename_i oa ha;split at h;rename_i h0;injection h with h;subst h;refine wpIn_seq (wpIn_mono (kM R.1 hw.1 ha kh rd χ0 w0 vs a w G I J) λe a' w' C=>?_);(cases e with|normal=>obtain⟨⟨k,cp,G',h1,h2,_⟩,_⟩:=C;simp only[EO,jA] at h1;subst h1;rw[h0] at h2;cases h2|_=>exact C);rename_i m h0;split at h;cases h;rename_i ob hb;injection h with h;subst h;simp only[S4,mem_append] at kh;refine wpIn_seq (wpIn_mono (kM R.1 hw.1 ha (λq hq=>kh q (.inl hq)) rd χ0 w0 vs a w G I J) λe a' w' C=>?_);obtain⟨C,gF⟩:=C;by_cases he:e=.normal;subst he;obtain⟨k,cp,G',h1,h2,h3,h4,h5⟩:=C;simp only[EO,jA] at h1;subst h1;rw[h0] at h2;injection h2 with h2;subst h2;simp only[Exit.then];refine wpIn_mono (kH R.2 hw.2 hb (λq hq=>?_) rd χ0 w0 vs a' w' G' h5 gF) λe'' a'' w'' hP'=>⟨xN9 h3 h4 hP'.1,hP'.2⟩;(cases hg:m.g with|none=>exact kh q (.inr (by simp only[imp,hg];exact hq))|some b=>(have qf:b:=by rw[hg] at h3;exact h3);exact yX0 (λq hq=>kh q (.inr (by simp only[imp,hg];exact hq))) qf q hq);(have kj:EO e≠some 0:=by cases e with|normal=>exact absurd rfl he|exit id=>simp[EO]|_=>simp[EO]);have:=xN8 (ob:=ob) h0 C kj;(cases e with|normal=>exact absurd rfl he|_=>exact⟨this,gF⟩)|cond x p q ihp ihq=>intro S out R hw h kh rd χ0 w0 vs a w G I J;simp only[HD] at R;simp only[ER,jB] at hw;simp only[eval] at h;split at h;rename_i t hx;split at h;rename_i oa ob ha hb;injection h with h;subst h;(have hv:a.eval x=.bool t:=by have:=IZ I x;rw[hx] at this;simp only[zA] at this;have:=(zC rfl).1 this;simpa only[AL,List.cons.injEq,and_true] using this);simp only[S1,mem_append] at kh;refine wpIn_cond_split hv (λht=>?_) (λht=>?_);subst ht;exact wpIn_mono (ihp R.1 hw.1 ha (yX0 (λq hq=>kh q (.inl hq)) rfl) rd χ0 w0 vs a w G I J) λe a' w' C=>⟨xF4 C.1,C.2⟩;subst ht;exact wpIn_mono (ihq R.2 hw.2 hb (yX0 (λq hq=>kh q (.inr hq)) rfl) rd χ0 w0 vs a w G I J) λe a' w' C=>⟨xF5 C.1,C.2⟩;cases h;cases h|block id x ih=>intro S out R hw h kh rd χ0 w0 vs a w G I J;simp only[HD] at R;simp only[ER] at hw;simp only[eval] at h;split at h;rename_i oa ha;injection h with h;subst h;(have hok':∀q∈oa.ok,q:=by intro q hq;refine kh q ?_;unfold cY;split<;>exact hq);refine wpIn_block (wpIn_mono (ih R hw ha hok' rd χ0 w0 vs a w G I J) λe a' w' C=>?_);have:=xF6 (id:=id) C.1;(cases e with|exit id'=>simp only[Exit.inBlock] at this ⊢;split;rename_i e;rw[if_pos e] at this;exact⟨this,C.2⟩;rename_i e;rw[if_neg e] at this;exact⟨this,C.2⟩|_=>exact⟨this,C.2⟩);cases h|loop x _=>intro S out R hw h;simp only[eval] at h;exact R S out h|exit id=>intro S out _ _ h _ rd χ0 w0 vs a w G I J;simp only[eval,jA] at h;subst h;exact wpIn_exit ⟨fE rfl I,J⟩|ret=>intro S out _ _ h _ rd χ0 w0 vs a w G I J;simp only[eval,jA] at h;subst h;exact wpIn_ret ⟨fE rfl I,J⟩|_=>intro S out _ _ h;simp[eval] at h
def loopN {X:Type}(g:X->Bool)(next:X->X):Nat->X->X
 |0,x=>x
 |k+1,x=>cond (g x) (loopN g next k (next x)) x
def AV:Nat:=18446744073709551616
def A3 {X:Type}(g:X->Bool)(next:X->X)(x:X):X:=loopN g next AV x
def Runs {X:Type}(g:X->Bool)(next:X->X)(ok:X->Prop):Nat->X->Prop
 |0,x=>ok x/\g x=false
 |k+1,x=>ok x/\g x/\Runs g next ok k (next x)
def AA {X:Type}(g:X->Bool)(next:X->X)(ok:X->Prop)(x:X):Prop:=∃k,k<AV/\Runs g next ok k x
theorem Runs.loopN {X:Type}{g:X->Bool}{next:X->X}{ok:X->Prop}:∀{k:Nat}{x:X}{F:Nat},Runs g next ok k x->k<F->g (loopN g next F x)=false/\ok (Am.loopN g next F x):=by intro k;induction k with|zero=>intro x F h C;(cases F with|zero=>omega|succ F=>simp only[Am.loopN,h.2,jD];exact⟨trivial,h.1⟩)|succ k I=>intro x F h C;cases F with|zero=>omega|succ F=>simp[Am.loopN,h.2.1];exact I h.2.2 (by omega)
theorem xO2{rd:Option Nat}{cd:Code}{Q:Exit->Act->World->Prop}(I:Nat->Act->World->Prop)(h₀:I k a w)(round:∀k a w,I k a w->cd.wpIn (fz rd) 0 P (Exit.then (λJ w'=>∃m,m<k/\I m J w') Q) a w):(Code.loop cd).wpIn (fz rd) 0 P Q a w:=by intro b kk cs R hb hr;(have key:∀n a w,I n a w->∃e J w',Q e J w'/\ArrivesIn (Machine.fenced P (fz rd)) P (lone (b.atR a (.code cd::.inLoop cd::kk)) cs w) b kk cs e J w':=by intro n;induction n using Nat.strongRecOn with|_ n ih=>intro a w hI;obtain⟨e,a₁,w₁,C,kX⟩:=round n a w hI b (.inLoop cd::kk) cs R hb hr;cases e with|normal=>obtain⟨m,hlt,hI₁⟩:=C;obtain⟨e₂,a₂,w₂,hq₂,harr₂⟩:=ih m hlt a₁ w₁ hI₁;exact⟨e₂,a₂,w₂,hq₂,.of_steps (StepsIn.trans kX (.one (fenced_calm hb hr rfl) stepR_inLoop)) harr₂⟩|exit id=>exact⟨_,a₁,w₁,C,.pass (x:=.inLoop cd) rfl (λ_ _=>.inl (by simp)) kX⟩|goto l=>exact⟨_,a₁,w₁,C,.pass (x:=.inLoop cd) rfl (λ_ _=>.inl (by simp)) kX⟩|ret=>exact⟨_,a₁,w₁,C,.pass (x:=.inLoop cd) rfl (λ_ _=>.inl (by simp)) kX⟩|panic ch=>exact⟨_,a₁,w₁,C,.pass (x:=.inLoop cd) rfl (λ_ _=>.inl (by simp)) kX⟩|outgrown=>exact⟨_,a₁,w₁,C,.pass (x:=.inLoop cd) rfl (λ_ _=>.inl (by simp)) kX⟩);obtain⟨e,J,w',C,kX⟩:=key _ a w h₀;exact⟨e,J,w',C,.of_steps (.one (fenced_calm hb hr rfl) stepR_loop) kX⟩
def Ey (ly lx:List (Nat×Sh))(y:AH ly)(x:AH lx):St:=xU ly y++(xU lx x++N2)
def Pf (L:St)(l:List Comp):List Comp:=(Ex 0 l).map λcp=>⟨cp.kind,cp.g,cp.d++L⟩
def fF (ly lx:List (Nat×Sh))(g:AH ly->AH lx->Bool)(next:AH ly->AH lx->AH lx)(ok:AH ly->AH lx->Prop)(comps:AH ly->AH lx->List Comp)(S:St):Option Out:=
 match Et ly S,Et lx S with
 |some y,some x=>some ⟨[AA (g y) (next y) (ok y) x],Pf (Ey ly lx y (A3 (g y) (next y) x)) (comps y (A3 (g y) (next y) x))⟩
 |_,_=>none
variable {lx ly:List (Nat×Sh)}
theorem xA6{y:AH ly}{x:AH lx}:St.hasCut (Ey ly lx y x):=WH (WH rfl)
theorem xF8(hc:CtxOk P c)(hm:P.follows .mixedOrders){body:Code}(hL:HD P c body)(hw:ER c.keep body){g:AH ly->AH lx->Bool}{next:AH ly->AH lx->AH lx}{ok:AH ly->AH lx->Prop}{comps:AH ly->AH lx->List Comp}{oks:AH ly->AH lx->List Prop}(ur:∀y x,eval c body (Ey ly lx y x)=some ⟨oks y x,comps y x⟩)(qy:∀y x,ok y x->JA (oks y x))(hZ:∀y x,∃m,B7 0 (comps y x)=some m/\tk m.g=g y x/\Et ly (m.d++Ey ly lx y x)=some y/\Et lx (m.d++Ey ly lx y x)=some (next y x)):∀S out,fF ly lx g next ok comps S=some out->WJ P c (.loop body) S out:=by intro S out h kh rd χ0 w0 vs a w G hR hk;unfold fF at h;split at h;rename_i y x hy hx;injection h with h;subst h;obtain⟨k,hkf,gY⟩:=kh _ (jQ ..);have hR0:Rel c.n χ0 w0 (Ey ly lx y x) a w G:=(SN hy (SN hx fA)).rel hR;refine xO2 (I:=λk a w=>∃C G F,Rel c.n χ0 w0 (Ey ly lx y C) a w G/\WI c.keep vs a/\Runs (g y) (next y) (ok y) k C/\k<F/\loopN (g y) (next y) F C=A3 (g y) (next y) x) (k:=k) ⟨x,G,AV,hR0,hk,gY,hkf,rfl⟩ ?_;rintro k a w ⟨C,G,F,hR,hk,gY,hF,qh⟩;(have nx:ok y C:=by cases k with|zero=>exact gY.1|succ k=>exact gY.1);refine wpIn_mono (zZ hc hm hL hw (ur y C) (AllP_iff.1 (qy y C nx)) rd χ0 w0 vs a w G hR hk) λe a' w' hP=>?_;obtain⟨hP,gF⟩:=hP;obtain⟨m,m1,m2,m3,m4⟩:=hZ y C;obtain⟨q,cp,G',h1,h2,h3,h4,h5⟩:=hP;by_cases he:e=.normal;subst he;simp only[EO,jA] at h1;subst h1;rw[m1] at h2;injection h2 with h2;subst h2;rw[m2] at h3;(cases k with|zero=>rw[gY.2] at h3;cases h3|succ k=>simp only[Exit.then];cases F with|zero=>omega|succ F=>refine⟨k,by omega,next y C,G',F,(SN m3 (SN m4 fA)).rel h5,gF,gY.2.2,by omega,?_⟩;rw[<-qh,Am.loopN,h3,jE]);(have hq:q≠0:=by intro e0;subst e0;cases e<;>simp[EO] at h1 he);(have hg:g y C=false:=by cases hg:g y C with|false=>rfl|true=>rw[<-m2] at hg;exact absurd (h4 0 m m1 hg).symm hq);(have kG:C=A3 (g y) (next y) x:=by rw[<-qh];cases F with|zero=>omega|succ F=>rw[Am.loopN,hg,jD]);subst kG;(have hq0:Nat.beq q 0=false:=by cases q with|zero=>exact absurd rfl hq|succ q=>rfl);(have kx:∀J,B7 J (Pf (Ey ly lx y (A3 (g y) (next y) x)) (comps y (A3 (g y) (next y) x)))=(cond (Nat.beq J 0) none (B7 J (comps y (A3 (g y) (next y) x)))).map λcp=>⟨cp.kind,cp.g,cp.d++Ey ly lx y (A3 (g y) (next y) x)⟩:=by intro J;unfold Pf;rw[eM (f:=λcp=>⟨cp.kind,cp.g,cp.d++Ey ly lx y (A3 (g y) (next y) x)⟩) (λ_=>rfl),Pd]);(have R:EP c.n χ0 w0 S (Pf (Ey ly lx y (A3 (g y) (next y) x)) (comps y (A3 (g y) (next y) x))) e a' w':=by refine⟨q,⟨cp.kind,cp.g,cp.d++Ey ly lx y (A3 (g y) (next y) x)⟩,G',h1,?_,h3,λJ c' hf ht=>?_,?_⟩;rw[kx,hq0,jD,h2];rfl;rw[kx] at hf;(cases gF:Nat.beq J 0 with|true=>simp[gF] at hf|false=>simp only[gF,jD] at hf;cases hx:B7 J (comps y (A3 (g y) (next y) x)) with|none=>simp[hx] at hf|some z=>simp only[hx,Option.map_some,jA] at hf;subst hf;exact h4 J z hx ht);exact eD (λs=>yX3 (WH xA6)) h5);(cases e with|normal=>exact absurd rfl he|_=>exact⟨R,gF⟩);cases h
end Go.Am
