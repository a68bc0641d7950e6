/- The abstract machine, part 3: a typed interpreter for the program's code, and that it is sound. No condition. -/
import Derived.Test.YtofmmkikplmlpaaGreatDoorMach2
import Derived.Orders
namespace Go.Am
open Go Go.RowKit
variable {rd:Option Nat}{gtab:GlobTab}{P:Program}{c:Ctx}{G:Gh}{w:World}{tm:Array Value}{n:Nat}{χ0:Nat→Nat→Nat}{w0:World}{S:St}{a:Act}
theorem zQ5:∀ (A:AVal) (s:Option Nat),¬ A.names (fun _=>False) (fun _=>False) s:=by
 intro A
 induction A with
 |opt _ _ _ A ih=>grind [AVal.names]
 |box τ a ih=>intro s;cases s<;>simp[AVal.names]<;>exact ih none
 |may m τ a ih=>intro s;cases s<;>simp[AVal.names]<;>exact ih none
 |cons a b iha ihb=>grind [AVal.names]
 |agg f a ih=>grind [AVal.names]
 |tup a ih=>grind [AVal.names]
 |fn f a ih=>grind [AVal.names]
 |raw=>intro s;cases s<;>simp[AVal.names]
 |_=>grind [AVal.names]
theorem xE2 (hR:Rel n χ0 w0 S a w G)(hn:n≤vNo){U:Nat}(hlt:∀ e∈zB7 U (AVal.lose U) S S,e.1<zA6):Rel n χ0 w0 (zB7 U (AVal.lose U) S S++S) a w G:=by
 refine yB4 (U:=U) (X:=fun _=>False) (Y:=fun _=>False) (Bad:=fun _=>False) hR hn (Ext.refl _ G w) id hR.frame ?_ (fun T h=>h.elim) (fun s _=>zQ5 _ _) hlt;refine⟨fun b o _ h=>⟨h,rfl⟩,fun s=>rfl,fun s hcol hlt=>⟨rfl,hcol⟩,fun t l T m v hB ho hf=>?_,fun t l T m v hB ho tm=>?_,fun s T t i p v hB tm ha=>?_⟩
 ·cases hb:Nat.beq U T with
  |true =>
   simp  at hf ⊢;cases m with
   |true=>grind [AVal.fitsT]
   |false=>simp only[cond_false,zA8];exact⟨trivial,rfl,zD2 ho⟩
  |false=>grind [zA8]
 all_goals grind [Nat.beq,zA,zN6,zD2]
theorem zW5 {HB HT KT KB:List (Nat×Nat)}:∀ {A:AVal}{os:Option Nat},(∀ T,(T∈HT.map (·.1)∨T∈KT.map (·.2))→A.hasTag T=false)→(∀ V,V∈KB.map (·.2)→A.hasRef V=false)→(∀ s,os=some s→s∉HB.map (·.1)∧s∉KB.map (·.2)) →
  ¬ A.names (fun x=>(∃ y,(x,y)∈zR3 HB HT)∨(∃ U,U∈KT.map (·.2)∧x=zB U)∨∃ V,V∈KB.map (·.2)∧x=zE V) (fun x=>(∃ U,U∈KT.map (·.2)∧x=zB U)∨∃ V,V∈KB.map (·.2)∧x=zE V) os:=by
 have karr:∀ K,(∀ T',(T'∈HT.map (·.1)∨T'∈KT.map (·.2))→Nat.beq T' K=false)→¬ ((∃ y,(zB K,y)∈zR3 HB HT)∨(∃ U,U∈KT.map (·.2)∧zB K=zB U)∨∃ V,V∈KB.map (·.2)∧zB K=zE V):=by
  intro K hK;rintro (⟨y,hy⟩ | ⟨U,hU,e⟩ | ⟨V,_,e⟩)
  ·obtain⟨U,_,hm⟩:=cols_arr.1 hy;have:=hK K (.inl (List.mem_map.2 ⟨_,hm,rfl⟩));simp_all
  ·have:=zA4 e;subst this;have:=hK K (.inr hU);simp_all
  ·exact zA7 _ _ e.symm
 have kbox:∀ s,(s∉HB.map (·.1)∧s∉KB.map (·.2))→¬ ((∃ y,(zE s,y)∈zR3 HB HT)∨(∃ U,U∈KT.map (·.2)∧zE s=zB U)∨∃ V,V∈KB.map (·.2)∧zE s=zE V):=by
  intro s hs;rintro (⟨y,hy⟩ | ⟨U,_,e⟩ | ⟨V,hV,e⟩)
  ·obtain⟨i,_,hm⟩:=cols_box.1 hy;exact hs.1 (List.mem_map.2 ⟨_,hm,rfl⟩)
  ·exact zA7 _ _ e
  ·have:=zD8 e;subst this;exact hs.2 hV
 have yref:∀ s,(∀ V,V∈KB.map (·.2)→Nat.beq V s=false)→¬ ((∃ U,U∈KT.map (·.2)∧zE s=zB U)∨∃ V,V∈KB.map (·.2)∧zE s=zE V):=by
  intro s hs;rintro (⟨U,_,e⟩ | ⟨V,hV,e⟩)
  ·exact zA7 _ _ e
  ·have:=zD8 e;subst this;have:=hs s hV;simp at this
 intro A
 induction A with
 |own t l T m=>intro os ht _ _;exact karr T ht
 |eref s T t i p=>intro os ht _ _ h;exact karr T ht (.inr h)
 |ref s τ p=>intro os _ hr _;exact yref s hr
 |pn b s τ=>intro os _ hr _;exact yref s hr
 |rref s=>intro os _ hr _;exact yref s hr
 |opt _ _ _ A ih=>intro os ht hr _;exact ih ht hr (fun s e=>by cases e)
 |box τ b ih =>
  intro os ht hr hs;cases os with
  |none=>exact ih ht hr (fun s e=>by cases e)
  |some s =>
   simp only[AVal.names,not_or];exact⟨by simpa only[not_or] using kbox s (hs s rfl),ih ht hr (fun s e=>by cases e)⟩
 |may m τ b ih =>
  intro os ht hr hs;cases os with
  |none=>exact ih ht hr (fun s e=>by cases e)
  |some s =>
   simp only[AVal.names,not_or];exact⟨by simpa only[not_or] using kbox s (hs s rfl),ih ht hr (fun s e=>by cases e)⟩
 |cons x y ihx ihy =>
  intro os ht hr _;simp only[AVal.hasTag,AVal.hasRef,Bool.or_eq_false_iff] at ht hr;simp only[AVal.names,not_or];exact⟨by simpa only[not_or] using ihx (fun T h=>(ht T h).1) (fun V h=>(hr V h).1) (fun s e=>by cases e),by simpa only[not_or] using ihy (fun T h=>(ht T h).2) (fun V h=>(hr V h).2) (fun s e=>by cases e)⟩
 |agg f b ih=>intro os ht hr _;exact ih ht hr (fun s e=>by cases e)
 |tup b ih=>intro os ht hr _;exact ih ht hr (fun s e=>by cases e)
 |fn f b ih=>intro os ht hr _;exact ih ht hr (fun s e=>by cases e)
 |raw =>
  intro os _ _ hs;cases os with
  |none=>exact fun h=>h
  |some s=>exact kbox s (hs s rfl)
 |ownh t l T i V m =>
  intro os ht _ _;have ht':=fun T' hT'=>ht T' hT';simp only[AVal.hasTag,Bool.or_eq_false_iff] at ht';rintro (h|h)
  ·exact karr T (fun T' hT'=>(ht' T' hT').1) h
  ·exact karr V (fun T' hT'=>(ht' T' hT').2) h
 |fptr f caps =>
  intro os _ hr _;rintro⟨k,τ,hm,h⟩;refine yref k (fun V hV=>?_) h;have h1:=hr V hV;simp only[AVal.hasRef,List.any_eq_false] at h1;have:=h1 _ hm;simp only[xV8] at this;exact Bool.eq_false_iff.2 this
 |_=>intro os _ _ _;exact fun h=>h
theorem xY {hb:List (Nat×Nat)}{wants:List Nat}:∀ {ys ks:List AVal}{i j:Nat}{Y k:AVal},ys[j]?=some Y→ks[j]?=some k→(yA7 hb wants i ys ks)[j]?=some (zK4 hb wants (i+j) Y k):=by
 intro ys
 induction ys with
 |nil=>grind
 |cons y r ih =>
  intro ks i j Y k hY hk;cases ks with
  |nil=>grind
  |cons q s =>
   simp only[yA7];cases j<;>grind
theorem yD2 {hb:List (Nat×Nat)}{wants:List Nat}:∀ {ys ks:List AVal}{i:Nat},ys.length=ks.length→(yA7 hb wants i ys ks).length=ys.length:=by
 intro ys
 induction ys with
 |nil=>grind [yA7]
 |cons y r ih=>intro ks i h;cases ks<;>grind [yA7,List.length_cons]
theorem xI6 {wants:List Nat}{p:Nat×Nat}:∀ {ys ks:List AVal}{i j:Nat}{Y k:AVal},ys[j]?=some Y→ks[j]?=some k→p∈yR0 wants (i+j) Y k→p∈zY1 wants i ys ks:=by
 intro ys
 induction ys with
 |nil=>grind
 |cons y r ih =>
  intro ks i j Y k hY hk hp;cases ks with
  |nil=>grind
  |cons q s =>
   simp[zY1];cases j with
   |zero=>grind
   |succ j=>exact .inr (ih (i:=i+1) hY hk (by grind))
theorem yM3 {p:Nat×Nat}:∀ {ys:List AVal}{i j:Nat}{Y:AVal},ys[j]?=some Y→p∈yQ7 (i+j) Y→p∈zK6 i ys:=by
 intro ys
 induction ys with
 |nil=>grind
 |cons y r ih =>
  intro i j Y hY hp;simp[zK6];cases j with
  |zero=>grind
  |succ j=>exact .inr (ih (i:=i+1) hY (by grind))
theorem yJ1 {s k:Nat}:∀ {ys:List AVal}{i:Nat},(s,k)∈zK6 i ys→i≤k∧∃ τ,ys[k-i]?=some (.ref s τ []):=by
 intro ys
 induction ys with
 |nil=>grind [zK6]
 |cons y r ih =>
  intro i h;simp[zK6] at h;rcases h with h|h
  ·cases y with
   |ref s' τ p =>
    cases p<;>simp_all [yQ7]
   |_=>grind [yQ7]
  grind
theorem xI7 {ys:List AVal}:yD1 (zG5 (zK6 0 ys)):=by
 intro a b b' h1 h2;obtain⟨_,τ,e1⟩:=yJ1 (mem_swap.1 h1);obtain⟨_,τ',e2⟩:=yJ1 (mem_swap.1 h2)
 grind
theorem xQ0 {ys:List AVal}:∀ {outs:List (Nat×AVal)}{u:St}{bs:List Bor}{K:List (Nat×Nat)},xM9 ys outs=some (u,bs,K) →
  (∀ i k,(i,k)∈outs→∃ Y u' bs' K',ys[i]?=some Y∧wB5 Y i k=some (u',bs',K')∧∀ e∈u',e∈u) ∧
  (∀ e∈u,∃ i k Y u' bs' K',(i,k)∈outs∧ys[i]?=some Y∧wB5 Y i k=some (u',bs',K')∧e∈u'∧∀ p∈K',p∈K) ∧
  (∀ b∈bs,∃ i k Y u' bs' K',(i,k)∈outs∧ys[i]?=some Y∧wB5 Y i k=some (u',bs',K')∧b∈bs'∧∀ p∈K',p∈K):=by
 intro outs
 induction outs with
 |nil=>grind [xM9]
 |cons q r ih =>
  intro u bs K h;obtain⟨i,k⟩:=q;simp only[xM9] at h;split at h
  ·rename_i Y u2 bs2 K2 hY hr;split at h
   ·rename_i u' bs' K' ho;obtain⟨rfl,rfl,rfl⟩:=h;obtain⟨g1,g2,g3⟩:=ih hr;refine⟨?_,?_,?_⟩
    ·grind
    ·intro e he;rcases List.mem_append.1 he with he|he
     ·exact⟨i,k,Y,u',bs',K',by simp,hY,ho,he,fun p hp=>List.mem_append_left _ hp⟩
     ·obtain⟨i',k',Y',u3,bs3,K3,q1,q2,q3,q4,q5⟩:=g2 e he;exact⟨i',k',Y',u3,bs3,K3,by simp[q1],q2,q3,q4,fun p hp=>List.mem_append_right _ (q5 p hp)⟩
    grind
   grind
  grind
theorem xE3:∀ {A:AVal}{τ:Ty}{vs:List Value},zA8 G w τ A vs→vs.length=τ.size:=by
 intro A
 induction A with
 |val τ' x=>intro τ vs h;obtain⟨rfl,_,h⟩:=h;exact zA1 h
 |nil=>intro τ vs h;obtain⟨h1,rfl⟩:=h;cases τ<;>simp[Ty.isSl] at h1;simp[Ty.size]
 |own t l T m=>intro τ vs h;obtain⟨rfl,v,rfl,_⟩:=h;simp[Ty.size]
 |agg f b ih=>grind [zA8,Ty.size]
 |nl=>grind [zA8,Ty.size]
 |junk=>grind [zB1]
 |cons x y ihx ihy=>grind [zA8,Ty.size]
 |_=>grind [zA8]
def xQ1 (G:Gh)(w:World)(G':Gh)(w':World)(b:Bor):Prop:=0<b.t.size∧∃ u m,zF7 G w b.t b.l b.U m u∧zF7 G' w' b.t b.l' b.T b.m u
theorem xE4 {t:Ty}{l:List t.den}{U:Nat}{m:Bool}{k:AVal}{bs:List Bor}{u:Value}{G':Gh}{w':World}(h:zI (.own t l U m) k=some bs)(h1:zF7 G w t l U m u)
  (h2:∀ t' l' T m',k=.own t' l' T m'→zF7 G' w' t' l' T m' u):∀ b∈bs,xQ1 G w G' w' b:=by
 simp only[zI] at h;split at h
 ·split at h
  ·rename_i l2 hl;cases hz:Nat.blt 0 t.size with
   |false=>grind
   |true =>
    simp[hz] at h;subst h;intro b hb;simp  at hb;subst hb;obtain⟨e,hl⟩:=zC7 hl;injection e with e
    subst e;subst hl;exact⟨Nat.le_of_ble_eq_true hz,u,m,h1,h2 _ _ _ _ rfl⟩
  grind
 grind
theorem xQ2 {G':Gh}{w':World}:∀ {A k:AVal}{τ:Ty}{vs:List Value}{bs:List Bor},zI A k=some bs→zA8 G w τ A vs→zA8 G' w' τ k vs→∀ b∈bs,xQ1 G w G' w' b:=by
 intro A
 induction A with
 |own t l U m =>
  grind [xE4,zA8]
 |agg f d ih =>
  intro k τ vs bs h h1 h2;simp only[zI] at h
  grind [Ty.beq,zA8]
 |cons x y ihx ihy =>
  intro k τ vs bs h h1 h2;simp only[zI] at h;split at h
  ·split at h
   ·obtain⟨h0,t0,us,ws,rfl,rfl,g1,g2⟩:=h1;obtain⟨h0',t0',us',ws',e,e2,g1',g2'⟩:=h2;injection e with e3 e4
    subst e3;subst e4;obtain⟨rfl,rfl⟩:=List.append_inj e2 (by rw[xE3 g1,xE3 g1'])
    grind
   grind
  grind
 |val _ _=>grind [zI,Option.some.injEq]
 |nil=>grind [zI,Option.some.injEq]
 |nl=>grind [zI,Option.some.injEq]
 |_=>grind [zI]
theorem yJ2 {G':Gh}{w':World}{tm':Array Value}{A k:AVal}{v:Value}{bs:List Bor}(h:zI A k=some bs)(h1:zA G w tm none A v)(h2:zA G' w' tm' none k v):∀ b∈bs,xQ1 G w G' w' b:=by
 cases A with
 |own t l U m=>grind [zA,xE4]
 |agg f d =>
  simp only[zI] at h
  grind [Ty.beq,Ty.eq_of_beq,zA,Value.agg.injEq,xQ2]
 |cons x y =>
  simp only[zI] at h;split at h
  ·obtain⟨u,us,e1,g1,g2⟩:=h1;obtain⟨u',us',e2,g1',g2'⟩:=h2;rw[e1] at e2;obtain⟨rfl,rfl⟩:=e2;split at h
   ·rename_i bx by' hx hy;simp  at h;subst h;intro b hb;rcases List.mem_append.1 hb with hb|hb
    ·exact yJ2 hx g1 g1' b hb
    ·exact yJ2 hy g2 g2' b hb
   grind
  grind
 |val _ _=>grind [zI,Option.some.injEq]
 |nil=>grind [zI,Option.some.injEq]
 |nl=>grind [zI,Option.some.injEq]
 |_=>grind [zI]
 termination_by A
theorem xQ3 {G':Gh}{w':World}{b:Bor}(hb:xQ1 G w G' w' b)(hpos:0<b.l.length){l:List b.t.den}{m:Bool}{v:Value}(h:zF7 G w b.t l b.U m v)(hlen:l.length=b.l.length):zF7 G' w' b.t b.l' b.T b.m v:=by
 obtain⟨hz,u,m0,h1,h2⟩:=hb;by_cases ht:b.t.isL=true
 ·rcases h1 with h1|⟨_,k,e,_,_,_,_,_,e1,_⟩
  ·exact absurd ht (by rw[h1.1.2];simp)
  rcases h with h|⟨_,k,e,_,_,_,_,_,e2,_⟩
  ·exact absurd ht (by rw[h.1.2];simp)
  grind
 have ht:b.t.isL=false:=by grind
 have h1:=zB0 h1 ht;have h:=zB0 h ht;rcases h1.2 with ⟨_,e⟩ | ⟨cap,cur,e,us,q1,q2,q3,q4,q5,_⟩
 ·grind
 ·rcases h.2 with ⟨_,e⟩ | ⟨cap',cur',e',us',p1,p2,p3,p4,p5,_⟩
  ·grind
  grind [Nat.eq_of_mul_eq_mul_right]
theorem yZ2 {T:Nat}{b:Bor}:∀ {bs:List Bor},yA8 bs T=some b→b∈bs∧b.U=T:=by
 intro bs
 induction bs with
 |nil=>intro h;cases h
 |cons x r ih =>
  intro h;simp only[yA8] at h;cases hb:Nat.beq x.U T<;>simp_all
structure TurnOk (bs:List Bor) (L:List Nat) (G:Gh) (w:World) (G':Gh) (w':World):Prop where
 prot:∀ b o,b<w.heap.size→G.χ b o=0→G'.χ b o=0∧w'.cell? ⟨b,o,none⟩=w.cell? ⟨b,o,none⟩
 ref:∀ s,G'.β s=G.β s
 keep:∀ t l T m v,T∉L→zF7 G w t l T m v→zF7 G' w' t l T m v
 tag:∀ T,T∉L→G'.γ T=G.γ T
 bor:∀ b∈bs,∀ (l:List b.t.den) m v,l.length=b.l.length→zF7 G w b.t l b.U m v→zF7 G' w' b.t b.l' b.U b.m v
 inL:∀ b∈bs,b.U∈L
 blk:∀ T,T∉L→(∀ o,G.χ (G.γ T) o=zB T)→G.γ T<w.heap.size→w'.heap[G.γ T]?=w.heap[G.γ T]?∧∀ o,G'.χ (G.γ T) o=zB T
theorem yZ3 {L:List Nat}{T:Nat}(h:L.any (Nat.beq T)=false):T∉L:=fun hm=>by grind [any_beq]
theorem xE5 {bs:List Bor}{L:List Nat}{G':Gh}{w':World}(H:TurnOk bs L G w G' w'){t:Ty}{l:List t.den}{T:Nat}{m:Bool}{v:Value}(ha:∀ q∈(AVal.own t l T m).borAsks bs,q)(h:zF7 G w t l T m v){os:Option Nat} :
  zA G' w' tm os ((AVal.own t l T m).turn bs L) v∧(((AVal.own t l T m).turn bs L).fitsT (.sl t)=true→zA8 G' w' (.sl t) ((AVal.own t l T m).turn bs L) [v]):=by
 simp[AVal.turn,AVal.mapOwn];cases hb:yA8 bs T with
 |some b =>
  obtain⟨h1,h2⟩:=yZ2 hb;subst h2;simp only[AVal.borAsks,hb,List.mem_singleton,forall_eq] at ha;simp only;split
  ·rename_i l2 hl;obtain⟨e,hl⟩:=zC7 hl;injection e with e
   subst e;have:=H.bor b h1 l m v ha h
   grind [zA,zA8]
  grind [zA,AVal.fitsT]
 |none =>
  cases hL:L.any (Nat.beq T) with
  |true =>
   simp;cases m with
   |true=>grind [zA,AVal.fitsT]
   |false =>
    have hc:=zA2 H.prot (zD2 h);exact⟨by exact zN6 hc,fun _=>by simp only[cond_false,zA8];exact⟨trivial,rfl,hc⟩⟩
  |false =>
   have:=H.keep t l T m v (yZ3 hL) h
   grind [zA,zA8]
theorem yU4 {bs:List Bor}{L:List Nat}{G':Gh}{w':World}(H:TurnOk bs L G w G' w'):∀ {A:AVal}{τ:Ty}{vs:List Value},(∀ q∈A.borAsks bs,q)→zA8 G w τ A vs→(A.turn bs L).laxT τ=true→zA8 G' w' τ (A.turn bs L) vs:=by
 intro A
 induction A with
 |val τ' x=>intro τ vs _ h _;exact⟨h.1,h.2.1,zA2 H.prot h.2.2⟩
 |nil=>simp_all [AVal.turn,AVal.mapOwn,zA8]
 |own t l T m=>intro τ vs ha h hf;obtain⟨rfl,v,rfl,ho⟩:=h;exact (xP0 hf).elim (xE5 (tm:=#[]) (os:=none) H ha ho).2 (fun e=>by rw[e];exact⟨rfl,v,rfl,zZ2 ho⟩)
 |agg f b ih =>
  intro τ vs ha h hf;obtain⟨rfl,h⟩:=h;have e:(AVal.agg f b).turn bs L=bif (b.turn bs L).laxT f then .agg f (b.turn bs L) else .junk:=rfl;rw[e] at hf ⊢;cases hc:(b.turn bs L).laxT f with
  |false=>grind [AVal.laxT,Ty.isSl]
  |true=>simp[zA8];simp_all [AVal.borAsks]
 |nl=>simp_all [AVal.turn,AVal.mapOwn,zA8]
 |junk=>simp_all [AVal.turn,AVal.mapOwn,zA8]
 |cons x y ihx ihy =>
  intro τ vs ha h hf;obtain⟨h1,t1,us,ws,rfl,rfl,h2,h3⟩:=h;have e:(AVal.cons x y).turn bs L=.cons (x.turn bs L) (y.turn bs L):=rfl;rw[e] at hf ⊢;simp[AVal.laxT,zE9] at hf;simp[AVal.borAsks] at ha;exact⟨_,_,us,ws,rfl,rfl,ihx (fun q hq=>ha q (.inl hq)) h2 hf.1,ihy (fun q hq=>ha q (.inr hq)) h3 hf.2⟩
 |_=>grind [zA8]
theorem xQ4 {bs:List Bor}{L:List Nat}{G':Gh}{w':World}(H:TurnOk bs L G w G' w'){s:Nat}{τ:Ty}{b:AVal}(ha:∀ q∈b.borAsks bs,q)
  (hbx:(∀ o,G.χ (G.β s) o=zE s)→G.β s<w.heap.size→w'.heap[G.β s]?=w.heap[G.β s]?∧∀ o,G'.χ (G.β s) o=zE s) (h:zP4 G w s τ b) (hc:(b.turn bs L).laxT τ=true):zP4 G' w' s τ (b.turn bs L):=by
 obtain⟨hvt,cur,e,h2,h3,h4⟩:=h;obtain⟨q1,q2⟩:=hbx h4 (zE4 h2);exact⟨hvt,cur,e,by rw[H.ref,q1];exact h2,yU4 H ha h3 hc,fun o=>by rw[H.ref];exact q2 o⟩
theorem xQ5 {bs:List Bor}{L:List Nat}{G':Gh}{w':World}(H:TurnOk bs L G w G' w'):∀ {A:AVal}{os:Option Nat}{v:Value},(∀ q∈A.borAsks bs,q) →
  (∀ s,os=some s→(∀ o,G.χ (G.β s) o=zE s)→G.β s<w.heap.size→w'.heap[G.β s]?=w.heap[G.β s]?∧∀ o,G'.χ (G.β s) o=zE s)→zA G w tm os A v→zA G' w' tm os (A.turn bs L) v:=by
 intro A
 induction A with
 |junk=>simp_all [AVal.turn,AVal.mapOwn,zA]
 |val τ x=>intro os v _ _ h;exact zC4 H.prot h
 |nil=>simp_all [AVal.turn,AVal.mapOwn,zA]
 |nn b=>simp_all [AVal.turn,AVal.mapOwn,zA]
 |own t l T m=>grind [zA,xE5]
 |eref s T t i p =>
  intro os v _ _ h;have e:(AVal.eref s T t i p).turn bs L=bif L.any (Nat.beq T) then .junk else .eref s T t i p:=rfl;rw[e];cases hL:L.any (Nat.beq T) with
  |true=>simp[zA]
  |false=>simp ;simp only[zA] at h ⊢;rw[H.tag T (yZ3 hL)];grind
 |opt s' want gg A ih =>
  intro os v ha _ h;exact⟨h.1,fun e=>ih ha (fun s e=>by grind) (h.2.1 e),h.2.2⟩
 |box τ b ih =>
  intro os v ha hbx h;have e:(AVal.box τ b).turn bs L=bif (b.turn bs L).laxT τ then .box τ (b.turn bs L) else .junk:=rfl;rw[e];cases os with
  |none=>grind [zA]
  |some s =>
   cases hc:(b.turn bs L).laxT τ with
   |false=>simp[zA]
   |true =>
    exact⟨by rw[H.ref];exact h.1,xQ4 H ha (hbx s rfl) h.2 hc⟩
 |may m τ b ih =>
  intro os v ha hbx h;have e:(AVal.may m τ b).turn bs L=bif (b.turn bs L).laxT τ then .may m τ (b.turn bs L) else .junk:=rfl;rw[e];cases os with
  |none=>grind [zA]
  |some s =>
   cases hc:(b.turn bs L).laxT τ with
   |false=>simp[zA]
   |true =>
    simp only[cond_true,zA] at h ⊢;exact fun hm=>xQ4 H ha (hbx s rfl) (h hm) hc
 |nilp=>simp_all [AVal.turn,AVal.mapOwn,zA]
 |pn m s' τ=>intro os v _ _ h;simp[AVal.turn,AVal.mapOwn,zA] at h ⊢;rw[H.ref];grind
 |ref s' τ p=>intro os v _ _ h;simp[AVal.turn,AVal.mapOwn,zA] at h ⊢;rw[H.ref];grind
 |raw =>
  intro os v _ hbx h;cases os with
  |none=>grind [zA]
  |some s =>
   obtain⟨h1,u,e,h2,h4⟩:=h;obtain⟨q1,q2⟩:=hbx s rfl h4 (zE4 h2);exact⟨by rw[H.ref];grind,u,e,by rw[H.ref,q1];grind,fun o=>by rw[H.ref];grind⟩
 |ownh t l T i U m=>simp[AVal.turn,AVal.mapOwn,zA]
 |rref s'=>intro os v _ _ h;simp[AVal.turn,AVal.mapOwn,zA] at h ⊢;rw[H.ref];grind
 |fptr f caps =>
  intro os v _ _ h;obtain⟨b,h1,h2,h3⟩:=h;have hb:b<w.heap.size:=by
   grind [World.cell?]
  obtain⟨h4,h5⟩:=H.prot b 0 hb h2;refine⟨b,h1,h4,?_⟩;rw[h5,h3];congr 3;refine List.map_congr_left fun q hq=>?_;cases q with
  |none=>rfl
  |some q=>simp only[xD2];rw[H.ref]
 |agg f b _ =>
  have e:(AVal.agg f b).turn bs L=bif (b.turn bs L).laxT f then .agg f (b.turn bs L) else .junk:=rfl
  grind [zA,yU4,AVal.borAsks]
 |nl=>intro os v _ _ h;exact h
 |cons x y ihx ihy =>
  intro os v ha _ h;have e:(AVal.cons x y).turn bs L=.cons (x.turn bs L) (y.turn bs L):=rfl;simp[AVal.borAsks] at ha
  grind [zA]
 |tup b ih =>
  have e:(AVal.tup b).turn bs L=.tup (b.turn bs L):=rfl
  grind [zA,AVal.borAsks]
 |fn f b ih =>
  have e:(AVal.fn f b).turn bs L=.fn f (b.turn bs L):=rfl
  grind [zA,AVal.borAsks]
theorem xI8 {bs:List Bor}{L:List Nat}{G':Gh}{w':World}(H:TurnOk bs L G w G' w'){A:AVal}{os:Option Nat}{v:Value}(ha:∀ q∈A.borAsks bs,q)
  (hb:∀ s,os=some s→(∀ o,G.χ (G.β s) o=zE s)→G.β s<w.heap.size→w'.heap[G.β s]?=w.heap[G.β s]?∧∀ o,G'.χ (G.β s) o=zE s) (h:zA G w tm os A v):zA G' w' tm os (A.turnH bs L) v:=by
 cases A with
 |ownh t l T i U m =>
  simp only[AVal.turnH];cases hc:(!(Nat.beq T U)&&!(L.any (Nat.beq T))) with
  |false=>simp[zA]
  |true =>
   simp only[Bool.and_eq_true,Bool.not_eq_true'] at hc;have hTL:=yZ3 hc.2;obtain⟨hv,⟨he,_⟩ | ⟨hne,h|⟨cap,cur,e,h1,h2,h3,h4,h5,h6,h7⟩⟩⟩:=h
   ·simp_all
   ·exact⟨hv,.inl ⟨rfl,.inr ⟨rfl,.inl h⟩⟩⟩
   ·obtain⟨b1,b2⟩:=H.blk T hTL h6 (zE4 h2);have hg:=H.tag T hTL;refine⟨hv,.inl ⟨rfl,.inr ⟨rfl,.inr ⟨cap,cur,e,by grind,by grind,h3,h4,h5,fun o=>by grind,fun j x hj hji=>?_⟩⟩⟩⟩;obtain⟨u,hu,hr⟩:=h7 j x hj;rw[if_neg hji] at hr;exact⟨u,hu,zA2 H.prot hr⟩
 |_=>exact xQ5 H ha hb h
theorem xQ6 {bs:List Bor}{L:List Nat}{A:AVal}{d:Nat}(h:A.hung d=false):(A.turn bs L).hung d=false:=by
 refine yI8 h (fun t l T m=>?_) (fun s T t i p=>?_)
 all_goals grind [AVal.hung]
theorem xI9 {bs:List Bor}{L:List Nat}{A:AVal}{d:Nat}(h:A.hung d=false):(A.turnH bs L).hung d=false:=by
 cases A with
 |ownh t l T i U m=>simp only[AVal.turnH];cases (!(Nat.beq T U)&&!(L.any (Nat.beq T)))<;>simp[AVal.hung]
 |_=>exact xQ6 h
theorem xJ {g:(t:Ty)→List t.den→Nat→Bool→AVal}{h:Nat→Nat→Ty→Int→yK1→AVal}:∀ {A:AVal}{d:Nat},A.hasRef d=false→(∀ t l T m,(g t l T m).hasRef d=false)→(∀ s T t i p,(h s T t i p).hasRef d=false)→(A.mapOwn g h).hasRef d=false:=by
 intro A
 induction A with
 |own t l T m=>grind [AVal.mapOwn]
 |eref s T t i p=>grind [AVal.mapOwn]
 |opt s' want gg A ih=>grind [AVal.hasRef,AVal.mapOwn]
 |box τ b _=>grind [AVal.mapOwn,AVal.hasRef]
 |may m τ b _=>grind [AVal.mapOwn,AVal.hasRef]
 |agg f b _=>grind [AVal.mapOwn,AVal.hasRef]
 |cons x y ihx ihy=>grind [AVal.hasRef,Bool.or_eq_false_iff,AVal.mapOwn]
 |tup b ih=>intro d hh h1 h2;exact ih hh h1 h2
 |fn f b ih=>intro d hh h1 h2;exact ih hh h1 h2
 |ownh _ _ _ _ _ _=>intro d _ _ _;rfl
 |_=>intro d hh _ _;exact hh
theorem xQ7 {bs:List Bor}{L:List Nat}{A:AVal}{d:Nat}(h:A.hasRef d=false):(A.turnH bs L).hasRef d=false:=by
 have key:(A.turn bs L).hasRef d=false:=by
  refine xJ h (fun t l T m=>?_) (fun s T t i p=>?_)
  all_goals grind [AVal.hasRef]
 cases A with
 |ownh t l T i U m=>simp only[AVal.turnH];cases (!(Nat.beq T U)&&!(L.any (Nat.beq T)))<;>simp[AVal.hasRef]
 |_=>exact key
theorem yZ4 {bs:List Bor}{L:List Nat}{s:Nat}(ht:zO1 L (S.get s)=true)(hs:¬ s<c.n):∀ {R:St},St.has s R=true→(∀ q∈zY3 c bs L S R,q)→∀ q∈(S.get s).borAsks bs,q:=by
 intro R
 induction R with
 |nil=>intro h;cases h
 |cons e r ih =>
  intro h hq q hqs;obtain⟨k,A⟩:=e;simp only[zY3,List.mem_append] at hq;simp only[St.has,List.any_cons,Bool.or_eq_true] at h;rcases h with h|h
  ·have:=Nat.eq_of_beq_eq_true h;subst this;refine hq q (.inl ?_);have hb:Nat.blt k c.n=false:=by
    cases hb:Nat.blt k c.n with
    |false=>rfl
    |true=>exact absurd (Nat.le_of_ble_eq_true hb) hs
   rw[hb,ht];exact hqs
  ·exact ih h (fun q hq'=>hq q (.inr hq')) q hqs
theorem xJ0 {outs:List (Nat×AVal)}:∀ {ys L:List AVal}{i:Nat},∀ e∈zH3 outs i ys L,e.2=.junk:=by
 intro ys
 induction ys with
 |nil=>intro L i e he;simp[zH3] at he
 |cons Y r ih =>
  intro L i e he;cases L with
  |nil=>cases Y<;>simp[zH3] at he
  |cons A l =>
   cases Y with
   |ref s τ p =>
    simp only[zH3,List.mem_append] at he;rcases he with he|he
    ·cases hb:(zF8 A&&!(outs.any (fun e=>Nat.beq e.1 i))) with
     |false=>simp[hb] at he
     |true=>simp[hb] at he;rw[he]
    ·exact ih e he
   |_=>simp only[zH3] at he;exact ih e he
theorem xQ8 {outs:List (Nat×AVal)}{s:Nat}{τ:Ty}{p:yK1}{A:AVal}:∀ {ys L:List AVal}{i j:Nat},ys[j]?=some (.ref s τ p)→L[j]?=some A→zF8 A=true→outs.any (fun e=>Nat.beq e.1 (i+j))=false→(s,.junk)∈zH3 outs i ys L:=by
 intro ys
 induction ys with
 |nil=>intro L i j h;simp at h
 |cons Y r ih =>
  intro L i j hy hL hA ho;cases L with
  |nil=>simp at hL
  |cons B l =>
   cases j with
   |zero =>
    simp only[List.getElem?_cons_zero,Option.some.injEq] at hy hL;subst hy;subst hL;simp only[zH3,List.mem_append];left;rw[hA,show outs.any (fun e=>Nat.beq e.1 i)=false from ho];simp
   |succ j =>
    have:=ih (i:=i+1) (by simpa using hy) (by simpa using hL) hA (by rw[show i+1+j=i+(j+1) by omega];exact ho);cases Y with
    |ref _ _ _=>simp only[zH3,List.mem_append];exact .inr this
    |_=>simp only[zH3];exact this
theorem xY0 {dst:Option Nat}{co:CallOut}:yD1 (zG5 (nbK dst co)):=by
 unfold nbK;cases dst with
 |none=>intro a b b' h;simp[zG5] at h
 |some d =>
  cases (co.nb.isEmpty&&zF9 co.res) with
  |true=>intro a b b' h;simp[zG5] at h
  |false =>
   intro a b b' h h';simp[zG5,vTo] at h h';omega
theorem wG0 {dst:Option Nat}{co:CallOut}{k V:Nat}(h:(k,V)∈nbK dst co):vNo≤k∧vNo≤V∧∃ d,dst=some d∧V=vTo d k:=by
 unfold nbK at h;cases dst with
 |none=>simp at h
 |some d =>
  cases hb:(co.nb.isEmpty&&zF9 co.res) with
  |true=>simp[hb] at h
  |false =>
   simp only[hb,cond_false,List.mem_cons,Prod.mk.injEq,List.not_mem_nil,or_false] at h;rcases h with ⟨rfl,rfl⟩ | ⟨rfl,rfl⟩ | ⟨rfl,rfl⟩ | ⟨rfl,rfl⟩<;>exact⟨by omega,by unfold vTo;omega,d,rfl,rfl⟩
theorem wB8 {d:Nat}{co:CallOut}{k:Nat}(h1:vNo≤k)(h2:k<vNo+4)(hb:(co.nb.isEmpty&&zF9 co.res)=false):(k,vTo d k)∈nbK (some d) co:=by
 unfold nbK;simp only[hb,cond_false,List.mem_cons,Prod.mk.injEq,List.not_mem_nil,or_false];have:k=vNo∨k=vNo+1∨k=vNo+2∨k=vNo+3:=by omega
 rcases this with rfl|rfl|rfl|rfl<;>simp
theorem xQ9 {bs:List Bor}{L:List Nat}{s:Nat}:∀ {R:St},St.has s (zK7 bs L S R)=true→(∀ e∈zK7 bs L S R,e.1≠zA6)→(zK7 bs L S R).get s=(S.get s).turnH bs L:=by
 intro R
 induction R<;>grind [zK7,St.has,zO1,St.get,Nat.beq,Nat.eq_of_beq_eq_true,absurd,List.mem_cons_self]
theorem xJ1 {bs:List Bor}{L:List Nat}{s:Nat}(ht:zO1 L (S.get s)=true):∀ {R:St},St.has s R=true→St.has s (zK7 bs L S R)=true:=by
 intro R
 induction R with
 |nil=>grind [St.has]
 |cons e r ih =>
  intro h;obtain⟨s',A⟩:=e;simp only[zK7];simp only[St.has,List.any_cons,Bool.or_eq_true] at h;cases ht':zO1 L (S.get s') with
  |false =>
   rcases h with h|h
   ·simp_all
   ·exact ih h
  |true =>
   simp only[cond_true,St.has,List.any_cons,Bool.or_eq_true];rcases h with h|h
   ·grind
   ·exact .inr (ih h)
theorem yZ5 {bs:List Bor}{L:List Nat}{s:Nat}(ht:zO1 L (S.get s)=true):∀ {k:Nat},s<k→(∀ q∈zY2 bs L S k,q)→∀ q∈(S.get s).borAsks bs,q:=by
 intro k
 induction k with
 |zero=>grind
 |succ k ih =>
  intro h hq;simp[zY2] at hq;by_cases e:s=k
  ·grind
  grind
theorem yU5 {L:List Nat}{A:AVal}(h:zO1 L A=true):A≠.junk:=by
 intro e;subst e;obtain⟨T,_,h⟩:=List.any_eq_true.1 h
 grind [AVal.hasTag]
theorem yU6 {hb:List (Nat×Nat)}{wants:List Nat}{i:Nat}{Y k A:AVal}(h:zK4 hb wants i Y k=A)(hA:zF8 A=true):∃ s τ k',Y=.ref s τ []∧k=.box τ k'∧A=.box τ (k'.pos τ (zV1 i)):=by
 subst h;cases Y with
 |ref s τ p =>
  cases p with
  |nil =>
   cases k with
   |box τ' k' =>
    simp only[zK4] at hA ⊢;cases hb:Ty.beq τ' τ with
    |false=>grind [zF8]
    |true=>have:=Ty.eq_of_beq hb;subst this;exact⟨s,τ',k',rfl,rfl,rfl⟩
   |_=>grind [zK4,zF8]
  |cons _ _=>grind [zK4,zF8]
 |own t l T m=>grind [zK4,zF8]
 |agg f d =>
  grind [zK4,Nat.beq,zF8]
 |fn f cs=>grind [zK4,zF8]
 |fptr f caps=>grind [zK4,zF8]
 |_=>grind [zK4,zF8]
theorem yJ3 (hc:CtxOk P c)(hR:Rel c.n χ0 w0 S a w G){o:Oper}{fo:Operand}{args:Array Operand}{ats:Array TypeId}{f:Nat}{cs:AVal}{r:List AVal}{p:List Prop}{u:St}{hv:Bool}
  (ho:o.op=.call { callee:=.value fo,args,argTypes:=ats }) (hf:zA G w a.tmps none (.fn f cs) (a.eval fo)) (hr:zH6 (zA G w a.tmps none) r (args.toList.map a.eval)) (hcs:zI3 cs=true)
  (h:xF6 c o.dst f (r++cs.toL) S=some (p,u,hv))
  (hlt:∀ e∈u,e.1<zA6) (hdo:∀ d,o.dst=some d→d<c.n) (hh:∀ s,∀ e∈u,(S.get s).hung e.1=false) (hp:∀ q∈p,q)
  {next:Act→World→Prop}{Q:Exit→Act→World→Prop}(hnext:∀ v w' G',Rel c.n χ0 w0 (u++S) (a.put o.dst v) w' G'→next (a.put o.dst v) w'):o.wpIn (fz rd) 0 P a w next Q:=by
 simp only[zA] at hf;obtain⟨vs,hfv,hcv⟩:=hf;have hcl:=yJ0 (vs:=vs.toList) hcs (by simpa using hcv);have hys:=zM4 hr hcl;generalize hysd:r++cs.toL=ys at h hys;generalize hwd:look [] c.wants f=wants at h;unfold xF6 at h;rw[hwd] at h;split at h
 ·cases h
 ·rename_i co hco;split at h
  ·cases h
  ·rename_i u1 bs K hout;obtain⟨sp,hmem,hsp⟩:=zQ1 hco;have hok:=hc.fns f sp hmem;obtain⟨fn,h1,h2,h3⟩:=hok.1;have hrun:(execOp a.eval o).run P w=.ok (.enter f (args.toList.map a.eval++vs.toList).toArray) w:=by
    have harr:(args.toList.map a.eval++vs.toList).toArray=args.map a.eval++vs:=by apply Array.toList_inj.1;simp
    rw[harr];unfold execOp;have hbn:fn.body.isNone=false:=by cases hb:fn.body<;>simp_all
    simp[ho,resolve,hfv,Deferred.ofValue,invoke,callFunc,h1,h3];intro hb;simp[hb] at hbn
   generalize hvals:args.toList.map a.eval++vs.toList=vals at hys hrun;generalize hks:ys.map (zA3 S)=ks at h hsp;have hksl:ys.length=ks.length:=by rw[← hks];simp
   have hysl:=zG2 hys;generalize hE:zH3 co.outs 0 ys (yA7 (zK6 0 ys) wants 0 ys ks)=E at h;generalize hbb:(_&&zR (_++(nbK o.dst co).map (·.1)))=bb at h;cases bb with
   |false=>cases h
   |true =>
    simp only[Bool.and_eq_true] at hbb;obtain⟨⟨⟨⟨⟨⟨⟨⟨⟨b1,b2⟩,bf⟩,b3⟩,b4⟩,b5⟩,b6⟩,b7⟩,b8⟩,b9⟩:=hbb;simp only[cond_true,Option.some.injEq,Prod.mk.injEq] at h;obtain⟨hpe,hu,_⟩:=h;generalize hHT:zY1 wants 0 ys ks=HT at b5 b6 hu hpe;generalize hHB:zK6 0 ys=HB at b3 b4 b9 hsp hE;generalize hKT:xN o.dst++K=KT at b7 b8 hu hpe;generalize hL:HT.map (·.1)++KT.map (·.2)=L at hu hpe;generalize hKB:nbK o.dst co=KB at bf b9 hu;subst hpe;have hpok:∀ q∈co.ok,q:=fun q hq=>hp q (List.mem_append_left _ hq);have hppos:∀ b∈bs,0<b.l.length:=fun b hb=>hp _ (List.mem_append_right _ (List.mem_append_left _ (List.mem_append_left _ (List.mem_map.2 ⟨b,hb,rfl⟩))));have hpask:∀ q∈zY2 bs L S c.n,q:=fun q hq=>hp q (List.mem_append_right _ (List.mem_append_left _ (List.mem_append_right _ hq)));have hpvirt:∀ q∈zY3 c bs L S S,q:=fun q hq=>hp q (List.mem_append_right _ (List.mem_append_right _ hq));have f1:=zS6 b4;have f1':yD1 (zG5 HB):=by rw[← hHB];exact xI7
    have f1b:yD1 (zG5 HB++KB):=zS6 (by rw[List.map_append,zG5,List.map_map];exact b9);have f2:=zS6 b5;have f2':=yM0 b6;have f3:=zS6 b7;have f3':=yM0 b8;have fK:yD1 (zG5 KB):=by rw[← hKB];exact xY0
    have hKBat:∀ k V,(k,V)∈KB→vNo≤k∧vNo≤V∧∃ d,o.dst=some d∧V=vTo d k:=fun k V h=>wG0 (by rw[hKB];exact h);have harg:∀ (i:Nat) Y,ys[i]?=some Y→(yA7 HB wants 0 ys ks)[i]?=some (zK4 HB wants i Y (zA3 S Y)):=fun i Y hY=>by
     have:=xY (hb:=HB) (wants:=wants) (ks:=ks) (i:=0) hY (show ks[i]?=some (zA3 S Y) by rw[← hks];simp[hY])
     rwa [Nat.zero_add] at this
    refine zU1 hrun ((hok.2 _ co hsp hpok (G.calleeH HB HT) w vals (by rw[yD2 hksl,hysl]) (zH4 zQ4 hR.glob) (fun i A v hA hv=>?_)).mono ?_)
    ·have hil:i<ys.length:=by have:=(List.getElem?_eq_some_iff.1 hA).1;rwa [yD2 hksl] at this
     obtain⟨Y,hY⟩:∃ Y,ys[i]?=some Y:=⟨_,List.getElem?_eq_getElem hil⟩;rw[harg i Y hY] at hA;injection hA with hA
     subst hA;refine xP6 (kv:=match zD0 Y with|some s=>a.tmps.getD s undef|none=>undef) f1 f1' f2 f2' (zQ3 hys hY hv) (fun s hs=>by rw[hs];exact zG3 hR hs) (fun q hq=>?_) (fun q hq=>?_)
     ·rw[← hHT];exact xI6 (i:=0) hY (show ks[i]?=some (zA3 S Y) by rw[← hks];simp[hY]) (by rwa [Nat.zero_add])
     ·rw[← hHB];exact yM3 (i:=0) hY (by rwa [Nat.zero_add])
    ·rintro e w' ⟨v,G',rfl,hF,hres,houts,hnb⟩;refine⟨v,rfl,hnext v w' (G.backH G' w.heap.size HB HT KT KB) ?_⟩;generalize hW:xW o.dst co.nb KB (u1++E)=W;have hu':u=zH0 o.dst co.res W++zK7 bs L S S:=by
      rw[← hu,← hW];unfold zH0;cases o.dst<;>rfl
     subst hu';have hltU:∀ e∈zH0 o.dst co.res W,e.1<zA6:=fun e he=>hlt e (List.mem_append_left _ he);have hcutU:∀ e∈zH0 o.dst co.res W,e.1≠zA6:=fun e he=>by have:=hltU e he;omega
     have hcutT:∀ e∈zK7 bs L S S,e.1≠zA6:=fun e he=>by have:=hlt e (List.mem_append_right _ he);omega
     have hsubU:∀ e∈W,e∈zH0 o.dst co.res W:=by intro e he;unfold zH0;split;exact List.mem_cons_of_mem _ he;exact he
     have hsubW:∀ e∈u1++E,e∈W:=by intro e he;rw[← hW];unfold xW;split;exact List.mem_append_right _ (List.mem_append_right _ he);exact he
     obtain⟨g1,g2,g3⟩:=xQ0 hout;have hprot:=zU3 (KT:=KT) (KB:=KB) hF;have hown:∀ U T,(U,T)∈KT→∀ (t:Ty) (l:List t.den) m v,zF7 G' w' t l U m v→zF7 (G.backH G' w.heap.size HB HT KT KB) w' t l T m v:=fun U T hm t l m v h=>yU3 hF f1b f3 f3' hm h;have hext:=xP8 (G:=G) (KT:=KT) (KB:=KB) hF;have hextO:=xP9 (G:=G) (KT:=KT) (KB:=KB) hF;have h0:¬ ((∃ y,((0:Nat),y)∈zR3 HB HT)∨(∃ U,U∈KT.map (·.2)∧0=zB U)∨∃ V,V∈KB.map (·.2)∧0=zE V):=by
      rintro (⟨y,hy⟩ | ⟨U,_,e⟩ | ⟨V,_,e⟩)
      ·have:=yB6 hy;omega
      ·exact zA9 _ e
      ·exact zD4 _ e
     have hfresh:∀ V,V∈KB.map (·.2)→V<zA6∧St.has V (u1++E)=false∧∀ s,St.has s (zH0 o.dst co.res W)=false→(S.get s).hasRef V=false:=by
      intro V hV;obtain⟨q,hq,rfl⟩:=List.mem_map.1 hV;have h1:=List.all_eq_true.1 bf q hq;simp only[Bool.and_eq_true,Bool.not_eq_true'] at h1;refine⟨Nat.le_of_ble_eq_true h1.1,h1.2.1,fun s hs=>?_⟩;cases hr:(S.get s).hasRef q.2 with
      |false=>rfl
      |true =>
       exfalso;have hne:S.get s≠.junk:=fun e=>by rw[e] at hr;simp[AVal.hasRef] at hr
       obtain⟨e,he,hes⟩:=List.any_eq_true.1 (zN8 hne);have hes:=Nat.eq_of_beq_eq_true hes;have h2:=List.all_eq_true.1 h1.2.2 e he;rw[hes,hr] at h2;simp only[Bool.not_true,Bool.or_false,Bool.or_eq_true] at h2;rcases h2 with h2|h2
       ·cases hd:o.dst with
        |none=>rw[hd] at h2;cases h2
        |some d =>
         rw[hd] at h2 hs;have:=Nat.eq_of_beq_eq_true h2;subst this;simp[zH0,St.has] at hs
       ·obtain⟨e',he',hes'⟩:=List.any_eq_true.1 h2;have:St.has s (zH0 o.dst co.res W)=true:=List.any_eq_true.2 ⟨e',hsubU _ (hsubW _ he'),hes'⟩;rw[hs] at this;cases this
     have hVW:∀ V,V∈KB.map (·.2)→∀ e∈u1,e.1≠V:=fun V hV e he e2=>by
      have:=(hfresh V hV).2.1;have h2:St.has V (u1++E)=true:=List.any_eq_true.2 ⟨e,List.mem_append_left _ he,by rw[e2];exact Nat.beq_refl _⟩;rw[this] at h2;cases h2
     have hlkK:∀ s,s∉KB.map (·.2)→lk (zG5 KB) s=none:=fun s hs=>by
      cases hl:lk (zG5 KB) s with
      |none=>rfl
      |some k=>exact absurd (List.mem_map.2 ⟨_,mem_swap.1 (zK5 hl),rfl⟩) hs
     have hβK:∀ k V,(k,V)∈KB→(G.backH G' w.heap.size HB HT KT KB).β V=G'.β k:=fun k V hm=>by
      simp only[Gh.backH];rw[zN0 fK (mem_swap.2 hm)]
     have hboxback:∀ s i,(s,i)∈HB→∃ e∈u1++E,e.1=s:=by
      intro s i hm;rw[← hHB] at hm;obtain⟨_,τ,hY⟩:=yJ1 hm;simp only[Nat.sub_zero] at hY;have hA:=harg i _ hY;have hbx:=zQ2 b3 hY hA;cases hc:co.outs.any (fun e=>Nat.beq e.1 i) with
      |false =>
       have:=xQ8 (outs:=co.outs) (i:=0) hY hA hbx (by rw[Nat.zero_add];exact hc);rw[hE] at this;exact⟨_,List.mem_append_right _ this,rfl⟩
      |true =>
      obtain⟨⟨i',k⟩,hk,hik⟩:=List.any_eq_true.1 hc;have:=Nat.eq_of_beq_eq_true hik;simp only at this;subst this;obtain⟨Y',u',bs',K',q1,q2,q3⟩:=g1 i' k hk;rw[hY] at q1;injection q1 with q1
      subst q1;simp only[wB5] at q2;generalize (AVal.fits τ k&&xV9 (k.tags τ (zV1 i')))=bb at q2;cases bb with
      |false=>cases q2
      |true =>
       simp only[cond_true,Option.some.injEq,Prod.mk.injEq] at q2;exact⟨_,List.mem_append_left _ (q3 _ (by rw[← q2.1];exact List.mem_cons_self ..)),rfl⟩
     have hentry1:∀ e∈u1,∀ tm',zA (G.backH G' w.heap.size HB HT KT KB) w' tm' (some e.1) e.2 (a.tmps.getD e.1 undef):=by
      intro e he tm';obtain⟨i,k,Y,u',bs',K',q1,hY,q3,q4,q5⟩:=g2 e he;have hA:=harg i Y hY;have hil:i<vals.length:=by rw[← hysl];exact (List.getElem?_eq_some_iff.1 hY).1
      obtain⟨uv,huv⟩:∃ uv,vals[i]?=some uv:=⟨_,List.getElem?_eq_getElem hil⟩;obtain⟨c1,c2⟩:=houts i k _ uv q1 hA huv;have hYv:=zQ3 hys hY huv;have hKT':∀ q∈K',q∈KT:=fun q hq=>by rw[← hKT];exact List.mem_append_right _ (q5 q hq)
      have hcase:(∃ s τ,Y=.ref s τ [])∨u'=[]:=by
       unfold wB5 at q3;split at q3
       ·exact .inl ⟨_,_,rfl⟩
       ·right;split at q3
        ·simp only[Option.some.injEq,Prod.mk.injEq] at q3;exact q3.1.symm
        ·cases q3
      rcases hcase with ⟨s,τ,rfl⟩ | e1
      ·have hbx:=zQ2 b3 hY hA;obtain⟨s',τ',k',e1,e2,e3⟩:=yU6 rfl hbx;injection e1 with e1 e4 _
       subst e1;subst e4;obtain⟨hb1,hb2⟩:=c1 τ _ e3;simp only[wB5] at q3;generalize hfb:(AVal.fits τ k&&xV9 (k.tags τ (zV1 i)))=bb at q3;cases bb with
       |false=>cases q3
       |true =>
        simp only[cond_true,Option.some.injEq,Prod.mk.injEq] at q3;obtain⟨rfl,rfl,rfl⟩:=q3;simp only[List.mem_singleton] at q4;subst q4;have hm:(s,i)∈HB:=by rw[← hHB];exact yM3 (i:=0) hY (by simp[yQ7])
        have hβ:G'.β i=G.β s:=by rw[hb2];simp only[Gh.calleeH];rw[zN0 f1' (mem_swap.2 hm)]
        have hr0:=hR.reps s;simp only[zA3] at e2;rw[e2] at hr0;simp only[zA] at hr0 hb1;have hnew:lk (zG5 KB) s=none:=hlkK s (fun hV=>hVW s hV _ he rfl);have hb:=(xP7 (KT:=KT) (KB:=KB) (tm:=tm') (u:=.pointer (some ⟨G.β s,0,none⟩)) hF f1b f3 f3' hm hnew hβ (fun _=>rfl) hKT' (by simp only[zA];exact⟨fun _=>by rw[hβ],hb1.2⟩));simp only[zA] at hb ⊢;refine⟨fun hs=>?_,hb.2⟩;rw[hr0.1 hs];exact hb.1 hs
      ·subst e1;cases q4
     have hentry:∀ e∈W,∀ tm',zA (G.backH G' w.heap.size HB HT KT KB) w' tm' (some e.1) e.2 (a.tmps.getD e.1 undef):=by
      intro e he tm';have hold:∀ e∈u1++E,zA (G.backH G' w.heap.size HB HT KT KB) w' tm' (some e.1) e.2 (a.tmps.getD e.1 undef):=fun e he=>by
       rcases List.mem_append.1 he with he|he
       ·exact hentry1 e he tm'
       ·rw[← hE] at he;rw[xJ0 e he];simp only[zA]
      rw[← hW] at he;cases hd:o.dst with
      |none=>rw[hd] at he;exact hold e he
      |some d =>
       rw[hd] at he;rcases List.mem_append.1 he with he|he
       ·obtain⟨⟨k,B⟩,hq,rfl⟩:=List.mem_map.1 he;have h1:=List.all_eq_true.1 b1 _ hq;simp only[Bool.and_eq_true] at h1;have hv1:=Nat.le_of_ble_eq_true h1.1;have hv2:=Nat.le_of_ble_eq_true h1.2.1;have hne:(co.nb.isEmpty&&zF9 co.res)=false:=by
         cases hn:co.nb with
         |nil=>rw[hn] at hq;cases hq
         |cons _ _=>rfl
        have hm:(k,vTo d k)∈KB:=by rw[← hKB,hd];exact wB8 hv1 hv2 hne
        have hge:=(hKBat _ _ hm).2.1;have hB:=hnb k B hq;have hresT:∀ T:Nat,T<4→(T,T*100000+d)∈KT:=by
         intro T hT;rw[← hKT,hd];refine List.mem_append_left _ ?_
         match T,hT with
         |0,_=>simp[xN]
         |1,_=>simp[xN]
         |2,_=>simp[xN]
         |3,_=>simp[xN]
        have hcon:∀ {c:AVal}{τ:Ty},zF9 c=true→∀ vs,zA8 G' w' τ c vs→zA8 (G.backH G' w.heap.size HB HT KT KB) w' τ (c.tagTo d) vs:=fun hc vs ht =>
         yM1 hprot (fun T hT t l m v h=>hown T (T*100000+d) (hresT T hT) t l m v h) hc ht
        cases B with
        |box τ c =>
         simp only[AVal.tagTo,zA] at hB ⊢;exact⟨fun h=>absurd h (Nat.not_lt.2 hge),zW4 hF f1b f3 (List.mem_append_right _ hm) (hβK _ _ hm) (hcon h1.2.2) hB.2⟩
        |may m τ c =>
         simp only[AVal.tagTo,zA] at hB ⊢;exact fun h=>zW4 hF f1b f3 (List.mem_append_right _ hm) (hβK _ _ hm) (hcon h1.2.2) (hB h)
        |_=>simp at h1
       ·rcases List.mem_append.1 he with he|he
        ·obtain⟨q,_,rfl⟩:=List.mem_map.1 he;simp only[zA]
        ·exact hold e he
     have hbor:∀ b∈bs,xQ1 G w G' w' b∧(b.T,b.U)∈KT:=by
      intro b hb;obtain⟨i,k,Y,u',bs',K',q1,hY,q3,q4,q5⟩:=g3 b hb;have hA:=harg i Y hY;have hil:i<vals.length:=by rw[← hysl];exact (List.getElem?_eq_some_iff.1 hY).1
      obtain⟨uv,huv⟩:∃ uv,vals[i]?=some uv:=⟨_,List.getElem?_eq_getElem hil⟩;obtain⟨c1,c2⟩:=houts i k _ uv q1 hA huv;have hYv:=zQ3 hys hY huv;unfold wB5 at q3;split at q3
      ·rename_i s τ;generalize (AVal.fits τ k&&xV9 (k.tags τ (zV1 i)))=bb at q3;cases bb with
       |false=>cases q3
       |true =>
        simp only[cond_true,Option.some.injEq,Prod.mk.injEq] at q3;rw[← q3.2.1] at q4;cases q4
      ·rename_i hnr;split at q3
       ·rename_i bs2 hbs;simp only[Option.some.injEq,Prod.mk.injEq] at q3;obtain⟨_,rfl,rfl⟩:=q3;have hnb:zF8 (zK4 HB wants i Y (zA3 S Y))=false:=by
         cases hbx:zF8 (zK4 HB wants i Y (zA3 S Y)) with
         |false=>rfl
         |true=>obtain⟨s,τ,_,e1,_⟩:=yU6 rfl hbx;exact absurd e1 (hnr s τ)
        refine⟨yJ2 hbs hYv (c2 hnb) b q4,?_⟩;rw[← hKT];exact List.mem_append_right _ (q5 _ (List.mem_map.2 ⟨b,q4,rfl⟩))
       ·cases q3
     have h0O:¬ ((∃ y,((0:Nat),y)∈zR3 HB HT)∨∃ U,U∈KT.map (·.2)∧0=zB U):=fun h=>h0 (h.elim .inl (fun h=>.inr (.inl h)));have hnames:∀ T,T∉L→¬ ((∃ y,(zB T,y)∈zR3 HB HT)∨∃ U,U∈KT.map (·.2)∧zB T=zB U):=by
      intro T hT;rw[← hL] at hT;rintro (⟨y,hy⟩ | ⟨U,hU,e⟩)
      ·obtain⟨U,_,hm⟩:=cols_arr.1 hy;exact hT (List.mem_append_left _ (List.mem_map.2 ⟨_,hm,rfl⟩))
      ·have:=zA4 e;subst this;exact hT (List.mem_append_right _ hU)
     have hturn:TurnOk bs L G w (G.backO G' w.heap.size HB HT KT KB) w':=by
      refine⟨hextO.prot,fun s=>rfl,fun t l T m v hT h=>zF hextO h0O (hnames T hT) h,fun T hT=>hextO.tag T (fun hY=>hnames T hT (.inr hY)),fun b hb l m v hlen h=>?_,fun b hb=>?_,fun T hT hcol hlt'=>?_⟩
      ·exact hown _ _ (hbor b hb).2 _ _ _ _ (xQ3 (hbor b hb).1 (hppos b hb) h hlen)
      ·rw[← hL];exact List.mem_append_right _ (List.mem_map.2 ⟨_,(hbor b hb).2,rfl⟩)
      ·have:=hextO.block _ hlt' (fun o hX=>by rw[hcol o] at hX;exact hnames T hT hX);exact⟨this.1,fun o=>by rw[this.2 o];exact hcol o⟩
     have htag0:∀ s,St.has s (zH0 o.dst co.res W++zK7 bs L S S)=false→∀ T,T∈L→(S.get s).hasTag T=false:=by
      intro s hs T hT;cases ht:(S.get s).hasTag T with
      |false=>rfl
      |true =>
       have hany:zO1 L (S.get s)=true:=List.any_eq_true.2 ⟨T,hT,ht⟩;have:=xJ1 (bs:=bs) hany (zN8 (yU5 hany));simp only[St.has,List.any_append,Bool.or_eq_false_iff] at hs;rw[St.has] at this;rw[hs.2] at this;cases this
     have hsplit:∀ s,St.has s (zH0 o.dst co.res W++zK7 bs L S S)=false→St.has s (zH0 o.dst co.res W)=false:=fun s hs=>by
      simp only[St.has,List.any_append,Bool.or_eq_false_iff] at hs;exact hs.1
     have hnotHB:∀ s,St.has s (zH0 o.dst co.res W)=false→s∉HB.map (·.1):=fun s hs hm=>by
      obtain⟨q,hq,e2⟩:=List.mem_map.1 hm;obtain⟨e,he,e3⟩:=hboxback q.1 q.2 hq;have:St.has s (zH0 o.dst co.res W)=true:=List.any_eq_true.2 ⟨e,hsubU _ (hsubW _ he),by rw[e3,e2];exact Nat.beq_refl _⟩;rw[hs] at this;cases this
     have hdd:∀ d,o.dst=some d→d<a.tmps.size:=fun d e=>by rw[hR.len];exact hdo d e
     have hnotKB:∀ s,St.has s (zH0 o.dst co.res W)=false→s∉KB.map (·.2):=fun s hs hm=>by
      obtain⟨q,hq,rfl⟩:=List.mem_map.1 hm;obtain⟨_,_,d,hd,_⟩:=hKBat q.1 q.2 hq;have:St.has q.2 (zH0 o.dst co.res W)=true:=List.any_eq_true.2 ⟨(q.2,.junk),hsubU _ (by rw[← hW,hd];exact List.mem_append_right _ (List.mem_append_left _ (List.mem_map.2 ⟨q,hq,rfl⟩))),Nat.beq_refl _⟩;rw[hs] at this;cases this
     refine zD6 hR hc.n hlt hdo (fun d e=>by rw[e];simp[zH0,St.has]) hext h0 (yY9 hF hR.frame) (fun s hs=>?_) (fun s d e _=>?_) (fun s hs=>?_)
     ·refine zW5 (fun T hT=>htag0 s hs T (by rw[← hL];exact List.mem_append.2 hT)) (fun V hV=>(hfresh V hV).2.2 s (hsplit s hs)) (fun s' e=>?_);injection e with e
      subst e;exact⟨hnotHB s (hsplit s hs),hnotKB s (hsplit s hs)⟩
     ·exact hh s (d,co.res.tagTo d) (List.mem_append_left _ (by rw[e];simp[zH0]))
     ·cases hsU:St.has s (zH0 o.dst co.res W) with
      |true =>
       rw[zZ4 hcutU hsU];have hm:=yY3 hsU hcutU;cases hd:o.dst with
       |none =>
        rw[hd] at hm hsU;simp only[zH0] at hm hsU ⊢;exact hentry _ hm _
       |some d =>
        rw[hd] at hm hsU;simp only[zH0] at hm hsU ⊢;have hdn:d<a.tmps.size:=hdd d hd;by_cases e:s=d
        ·subst e;have:St.get ((s,co.res.tagTo s)::W) s=co.res.tagTo s:=by simp[St.get]
         rw[this,zD5 hdn,if_pos rfl];have hresT:∀ T,T<4→(T,T*100000+s)∈KT:=fun T hT=>by
          rw[← hKT,hd];refine List.mem_append_left _ ?_;obtain rfl|rfl|rfl|rfl:T=0∨T=1∨T=2∨T=3:=by omega
          all_goals simp[xN]
         have hownT:∀ T,T<4→∀ (t:Ty) (l:List t.den) m v,zF7 G' w' t l T m v→zF7 (G.backH G' w.heap.size HB HT KT KB) w' t l (T*100000+s) m v:=fun T hT t l m v h=>hown T (T*100000+s) (hresT T hT) t l m v h;cases hro:zF9 co.res with
         |true=>exact zK3 (yM2 (tm:=#[]) hprot hownT hro hres)
         |false =>
          refine zK3 (yZ (tm:=#[]) hprot hownT (fun k k1 k2=>hβK k _ ?_) b2 hres);rw[← hKB,hd];exact wB8 k1 k2 (by rw[hro,Bool.and_false])
        ·rcases List.mem_cons.1 hm with hm|hm
         ·injection hm with hm _;exact absurd hm e
         ·rw[zD5 hdn,if_neg e];exact hentry _ hm _
      |false =>
       rw[zJ8 hcutU hsU];have hsT:St.has s (zK7 bs L S S)=true:=by
        simp only[St.has,List.any_append,Bool.or_eq_true] at hs;rcases hs with hs|hs
        ·rw[St.has] at hsU;rw[hsU] at hs;cases hs
        ·exact hs
       rw[xQ9 hsT hcutT];have hmem:=yY3 hsT hcutT;have hne:∀ d,o.dst=some d→s≠d:=by
        intro d e e2;subst e2;rw[e] at hsU;simp[zH0,St.has] at hsU
       have hval:(a.put o.dst v).tmps.getD s undef=a.tmps.getD s undef:=by
        cases hd:o.dst with
        |none=>rfl
        |some d=>rw[zD5 (hdd d hd),if_neg (hne d hd)]
       rw[hval];have hany:zO1 L (S.get s)=true:=by
        cases ht:zO1 L (S.get s) with
        |true=>rfl
        |false =>
         exfalso;have key:∀ R:St,St.has s (zK7 bs L S R)=false:=by
          intro R
          induction R with
          |nil=>rfl
          |cons e r ih =>
           obtain⟨s',A⟩:=e;simp only[zK7];cases ht':zO1 L (S.get s') with
           |false=>exact ih
           |true =>
            simp only[cond_true,St.has,List.any_cons,Bool.or_eq_false_iff];refine⟨?_,ih⟩;cases hb:Nat.beq s' s with
            |false=>rfl
            |true=>have:=Nat.eq_of_beq_eq_true hb;subst this;rw[ht] at ht';cases ht'
         rw[key S] at hsT;cases hsT
       have hasks:∀ q∈(S.get s).borAsks bs,q:=by
        by_cases hsn:s<c.n
        ·exact yZ5 (bs:=bs) hany hsn hpask
        ·exact yZ4 (bs:=bs) hany hsn (zN8 (yU5 hany)) hpvirt
       have hbx:∀ s',some s=some s'→(∀ o,G.χ (G.β s') o=zE s')→G.β s'<w.heap.size→w'.heap[G.β s']?=w.heap[G.β s']?∧∀ o,(G.backO G' w.heap.size HB HT KT KB).χ (G.β s') o=zE s':=by
        intro s' e hcol hlt';injection e with e
        subst e;have:=hextO.block (G.β s) hlt' (fun o' hX=>by
         rw[hcol o'] at hX;rcases hX with ⟨y,hy⟩ | ⟨U,_,e⟩
         ·obtain⟨i,_,hm⟩:=cols_box.1 hy;exact hnotHB s hsU (List.mem_map.2 ⟨_,hm,rfl⟩)
         ·exact zA7 _ _ e)
        exact⟨this.1,fun o=>by rw[this.2 o];exact hcol o⟩
       have hTO:=xI8 hturn hasks hbx (hR.reps s);have hTB:zA (G.backH G' w.heap.size HB HT KT KB) w' a.tmps (some s) ((S.get s).turnH bs L) (a.tmps.getD s undef):=by
        refine zT2 xI1 ?_ a.tmps (zW5 (fun T hT=>by simp at hT) (fun V hV=>xQ7 ((hfresh V hV).2.2 s hsU)) (fun s' e=>?_)) hTO
        ·rintro (⟨y,hy⟩ | ⟨U,hU,_⟩ | ⟨V,_,e⟩)
         ·simp[zR3] at hy
         ·simp at hU
         ·exact zD4 _ e
        ·injection e with e
         subst e;exact⟨by simp,hnotKB s hsU⟩
       refine zN5 (tm:=a.tmps) (fun k hk=>?_) hTB;cases hd:o.dst with
       |none=>rfl
       |some d =>
        rw[zD5 (hdd d hd),if_neg];intro e;subst e;have:=xI9 (bs:=bs) (L:=L) (hh s (k,co.res.tagTo k) (List.mem_append_left _ (by rw[hd];simp[zH0])));rw[this] at hk;cases hk
end Go.Am
namespace Go.Am
open Go Go.RowKit
variable {rd:Option Nat}{gtab:GlobTab}{P:Program}{c:Ctx}{G:Gh}{w:World}{tm:Array Value}{n:Nat}{χ0:Nat→Nat→Nat}{w0:World}{S:St}{a:Act}
def Gh.frozen (w:World):Gh:=⟨fun b _=>if b<w.heap.size then 0 else 2,fun _=>0,fun _=>0⟩
theorem zE5 {b o:Nat}(h:b<w.heap.size):(Gh.frozen w).χ b o=0:=by grind [Gh.frozen]
theorem zM5:∀ b o,b<w.heap.size→G.χ b o=0→(Gh.frozen w).χ b o=0∧w.cell? ⟨b,o,none⟩=w.cell? ⟨b,o,none⟩:=fun _ _ h _=>⟨zE5 h,rfl⟩
theorem yU7 {t:Ty}(ht:t.isL=false){l:List t.den}{T:Nat}{m:Bool}{v:Value}(h:zF7 G w t l T m v):zB4 (Gh.frozen w).χ w (.sl t) l [v]:=by
 simp only[zB4];rcases (zB0 h ht).2 with ⟨rfl,rfl⟩ | ⟨cap,cur,e,us,rfl,h2,h3,h4,h5,h6,h7,h8⟩
 ·grind
 ·refine⟨_,cap,rfl,?_⟩;refine .inr ⟨G.γ T,0,us,rfl,h3,zB5 (fun _ _ hc=>zA2 (χ:=G.χ) zM5 hc) h6,fun j u hu=>?_⟩
  grind [zE5,zE4,World.cell?]
theorem yU8:∀ {A:AVal}{τ:Ty}{vs:List Value},zA8 G w τ A vs→(A.lent).laxT τ=true→zA8 (Gh.frozen w) w τ A.lent vs:=by
 intro A
 induction A with
 |val τ' x=>intro τ vs h _;simp[AVal.lent,AVal.mapOwn,zA8] at h ⊢;grind [zA2,zM5]
 |nil=>simp_all [AVal.lent,AVal.mapOwn,zA8]
 |own t l T m =>
  intro τ vs h hf;simp[AVal.lent,AVal.mapOwn] at h hf ⊢;obtain⟨rfl,v,rfl,ho⟩:=h;cases ht:t.isL with
  |true=>exact⟨rfl,v,rfl,zZ2 ho⟩
  |false=>simp only[cond_false,zA8];exact⟨trivial,rfl,yU7 ht ho⟩
 |agg f b ih =>
  have e:(AVal.agg f b).lent=bif b.lent.laxT f then .agg f b.lent else .junk:=rfl
  grind [AVal.laxT,Ty.isSl,zA8]
 |nl=>simp_all [AVal.lent,AVal.mapOwn,zA8]
 |junk=>simp_all [AVal.lent,AVal.mapOwn,zA8]
 |cons x y ihx ihy =>
  intro τ vs h hf;obtain⟨h1,t1,us,ws,rfl,rfl,h2,h3⟩:=h;have e:(AVal.cons x y).lent=.cons x.lent y.lent:=rfl;rw[e] at hf ⊢;simp[AVal.laxT,zE9] at hf;exact⟨_,_,us,ws,rfl,rfl,ihx h2 hf.1,ihy h3 hf.2⟩
 |_=>grind [zA8]
theorem xR {Y k:AVal}{i:Nat}{v kv:Value}(hY:zA G w tm none Y v)(hk:∀ s,zD0 Y=some s→zA G w tm (some s) k kv):zA (Gh.frozen w) w #[] (some i) (yE Y k) v:=by
 have hp:∀ b o,b<w.heap.size→G.χ b o=0→(Gh.frozen w).χ b o=0∧w.cell? ⟨b,o,none⟩=w.cell? ⟨b,o,none⟩:=zM5;cases Y with
 |val τ x=>grind [yE,zA,zC4]
 |nil=>grind [yE,zA]
 |own t l T m =>
  grind [yE,zA,zN6,yU7]
 |ownh t l T j U m =>
  simp only[yE];cases hTU:(Nat.beq T U&&!m) with
  |false=>simp[zA]
  |true =>
   obtain⟨hvt,⟨_,⟨_,x,ad,cap,rfl,rfl,h3⟩ | ⟨hm,_⟩⟩ | ⟨hne,_⟩⟩:=hY
   rotate_left
   ·grind
   rotate_right
   ·refine zN6 ?_;refine⟨ad,cap,rfl,?_⟩;rcases h3 with rfl|⟨o,us,cur,e,rfl,g2,g3,g4,g5,g6⟩
    ·grind
    ·exact .inr ⟨G.γ T,o,us,rfl,g2,zB5 (fun _ _ hc=>zA2 (χ:=G.χ) zM5 hc) g4,fun j u hu=>⟨by grind [World.cell?],zE5 (zE4 g3)⟩⟩
   simp_all
 |agg f d =>
  simp only[yE];split
  ·rename_i x hx;have hfit:=zR7 hx;simp[AVal.fitsT] at hfit;exact zJ4 (G:=Gh.frozen w) (tm:=#[]) hx rfl (by grind [zA,yU8,zP6])
  grind [zA]
 |fn f cs =>
  grind [yE,zA,yI4]
 |ref s τ p =>
  cases p with
  |nil =>
   cases k with
   |box τ' k =>
    simp only[yE];cases hb:Ty.beq τ' τ with
    |false=>simp[zA]
    |true =>
     have e:=Ty.eq_of_beq hb;subst e;split
     ·rename_i x hx;obtain⟨hvt,cur,e,g1,g2,g3⟩:=zH5 (hk s rfl);simp only[zA] at hY;have hv:v=.pointer (some ⟨G.β s,0,none⟩):=by grind [Ty.poff]
      rw[hv];have hc:=zL8 (G:=Gh.frozen w) hx (yU8 g2 (zP6 (zR7 hx)));exact zT4 hc (fun j u hu=>⟨by grind [World.cell?],zE5 (zE4 g1)⟩)
     grind [zA]
   |_=>grind [yE,zA]
  |cons _ _=>simp[yE,zA]
 |_=>simp[yE,zA]
theorem zU4 {χ χ':Nat→Nat→Nat}{w w':World}:∀ {τ:Ty}{x:τ.den}{vs:List Value},τ.noMem=true→zB4 χ w τ x vs→zB4 χ' w' τ x vs:=by
 intro τ
 induction τ with
 |int k=>intro x vs _ hc;exact hc
 |bool=>intro x vs _ hc;exact hc
 |str=>intro x vs _ hc;exact hc
 |nl=>intro x vs _ hc;exact hc
 |cons a b ha hb=>intro x vs hn hc;simp[Ty.noMem] at hn;obtain⟨us,ws,rfl,h1,h2⟩:=hc;exact⟨us,ws,rfl,ha hn.1 h1,hb hn.2 h2⟩
 |st f hf=>intro x vs hn hc;exact hf hn hc
 |arr n t ht=>intro x vs hn hc;exact⟨hc.1,zB5 (fun _ _ h=>ht hn h) hc.2⟩
 |sl t ht=>grind [Ty.noMem]
 |ptr t ht=>grind [Ty.noMem]
def Gh.unlend (G G':Gh)(b0:Nat):Gh:={ G' with χ:=fun b o=>if b<b0 then (G.callee []).χ b o else G'.χ b o }
theorem xJ2 {χ χ':Nat→Nat→Nat}{w w':World}{k v:Ty}(hk:k.noMem=true)(hv:v.noMem=true):∀ {l:List (k.den×v.den×Unit)}{es:List MapEntry},xG χ w k v l es→xG χ' w' k v l es:=by
 intro l
 induction l with
 |nil=>intro es h;exact h
 |cons x l ih=>rintro es ⟨e,r,rfl,⟨a1,a2,a3⟩,⟨b1,b2,b3⟩,h3⟩;exact⟨e,r,rfl,⟨a1,zU4 hk a2,a3⟩,⟨b1,zU4 hv b2,b3⟩,ih h3⟩
theorem xY1 {G':Gh}{w':World}(hF:Frame0 (Gh.frozen w).χ w G'.χ w'):∀ {A:AVal}{v:Value},A.scal=true→zA G' w' #[] none A v→zA (G.unlend G' w.heap.size) w' #[] none A v:=by
 intro A
 induction A with
 |val τ x=>intro v hs h;obtain⟨vs,h1,h2⟩:=h;exact⟨vs,zU4 hs h1,h2⟩
 |nil=>grind [zA]
 |own t l T m =>
  intro v hs h;simp only[AVal.scal] at hs;rcases h with h|⟨hmm,hM⟩
  rotate_left
  ·refine .inr ⟨hmm,?_⟩;obtain⟨k,e,l',ht,hl,es,clock,h1,h2,h3,h4⟩:=hM;have hnew:¬ G'.γ T<w.heap.size:=by
    intro hb;have h9:=(hF.cell _ 0 hb (by grind [zE5])).1
    grind [zE5,zA9]
   subst ht;simp only[Ty.noMem,Bool.and_eq_true] at hs;refine⟨k,e,l',rfl,hl,es,clock,h1,h2,xJ2 hs.1 hs.2.1 h3,fun o=>?_⟩;simp_all [Gh.unlend,if_neg]
  refine .inl ⟨h.1,?_⟩;rcases h.2 with h|⟨cap,cur,e,us,h1,h2,h3,h4,h5,h6,h7,h8⟩
  ·grind
  ·have hnew:¬ G'.γ T<w.heap.size:=by
    intro hb;have h9:=(hF.cell _ (l.length*t.size) hb (by grind [zE5])).1;rw[zE5 hb,h8,if_neg (by omega)] at h9
    grind [zA9]
   refine .inr ⟨cap,cur,e,us,h1,h2,h3,h4,h5,zB5 (fun _ _ hc=>zU4 hs hc) h6,h7,fun o=>?_⟩;simp_all [Gh.unlend,if_neg]
 |tup b ih=>grind [AVal.scal,zA]
 |nl=>grind [zA]
 |cons x y ihx ihy=>grind [AVal.scal,zA]
 |_=>grind [AVal.scal]
theorem yZ6 {G':Gh}{w':World}(hF:Frame0 (Gh.frozen w).χ w G'.χ w'):Back G w [] (G.unlend G' w.heap.size) w':=by
 refine⟨⟨hF.os,hF.tape,hF.output,hF.size,fun b hb _=>hF.block b hb (fun o=>by grind [zE5]),fun b o hb _=>⟨by simp_all [Gh.unlend],(hF.cell b o hb (by grind [zE5])).2⟩⟩,fun b hb=>?_⟩
 grind [zQ0,zG4]
theorem zW6 (hc:CtxOk P c)(hR:Rel c.n χ0 w0 S a w G){o:Oper}{fo:Operand}{args:Array Operand}{ats:Array TypeId}{f:Nat}{cs:AVal}{r:List AVal}{p:List Prop}{u:St}{hv:Bool}
  (ho:o.op=.call { callee:=.value fo,args,argTypes:=ats }) (hf:zA G w a.tmps none (.fn f cs) (a.eval fo)) (hr:zH6 (zA G w a.tmps none) r (args.toList.map a.eval)) (hcs:zI3 cs=true)
  (h:yE0 c o.dst f (r++cs.toL) ((r++cs.toL).map (zA3 S)) S=some (p,u,hv))
  (hlt:∀ e∈u,e.1<zA6) (hdo:∀ d,o.dst=some d→d<c.n) (hh:∀ s,∀ e∈u,(S.get s).hung e.1=false) (hp:∀ q∈p,q)
  {next:Act→World→Prop}{Q:Exit→Act→World→Prop}(hnext:∀ v w' G',Rel c.n χ0 w0 (u++S) (a.put o.dst v) w' G'→next (a.put o.dst v) w'):o.wpIn (fz rd) 0 P a w next Q:=by
 simp only[zA] at hf;obtain⟨vs,hfv,hcv⟩:=hf;have hcl:=yJ0 (vs:=vs.toList) hcs (by simpa using hcv);have hys:=zM4 hr hcl;generalize hysd:r++cs.toL=ys at h hys;unfold yE0 at h;split at h
 ·cases h
 ·rename_i co hco;split at h
  ·rename_i d houts hd;obtain⟨sp,hmem,hsp⟩:=zQ1 hco;have hok:=hc.fns f sp hmem;obtain⟨fn,h1,h2,h3⟩:=hok.1;have hrun:(execOp a.eval o).run P w=.ok (.enter f (args.toList.map a.eval++vs.toList).toArray) w:=by
    have harr:(args.toList.map a.eval++vs.toList).toArray=args.map a.eval++vs:=by apply Array.toList_inj.1;simp
    rw[harr];unfold execOp;have hbn:fn.body.isNone=false:=by cases hb:fn.body<;>simp_all
    simp[ho,resolve,hfv,Deferred.ofValue,invoke,callFunc,h1,h3];intro hb;simp[hb] at hbn
   generalize hvals:args.toList.map a.eval++vs.toList=vals at hys hrun;generalize hbb:(_&&zC0 (300000+d) S)=bb at h;cases bb with
   |false=>cases h
   |true =>
    simp only[Bool.and_eq_true] at hbb;obtain⟨⟨⟨⟨⟨⟨_,b1⟩,b2⟩,b3⟩,b4⟩,b5⟩,b6⟩:=hbb;simp only[cond_true,Option.some.injEq,Prod.mk.injEq] at h;obtain⟨rfl,rfl,_⟩:=h;refine zU1 hrun ((hok.2 _ co hsp hp (Gh.frozen w) w vals (by simp[zG2 hys]) (zH4 (χ:=G.χ) zM5 hR.glob) (fun i A v hA hv=>?_)).mono ?_)
    ·obtain⟨Y,k,hY,hk,rfl⟩:=yD0 hA;have hk':k=zA3 S Y:=by simp[hY] at hk;exact hk.symm
     subst hk';exact xR (kv:=match zD0 Y with|some s=>a.tmps.getD s undef|none=>undef) (zQ3 hys hY hv) (fun s hs=>by rw[hs];exact zG3 hR hs)
    ·rintro e w' ⟨v,G',rfl,hF,hres,_⟩;refine⟨v,rfl,hnext v w' (G.back (G.unlend G' w.heap.size) w.heap.size (some d)) ?_⟩;rw[hd];refine yP4 (dst:=some d) (res:=co.res) (ys:=[]) (u:=[]) hR hc.n (yZ6 hF) (xY1 hF b2 hres) b1 (fun b hb=>by simp[zQ0,zG4] at hb) (fun e he=>by cases he) hlt (fun d' e=>by injection e with e;subst e;exact hdo _ hd)
      (fun s d' e=>by injection e with e;subst e;exact hh s _ (List.mem_cons_self ..)) (fun d' e s j hj=>?_)
     injection e with e;subst e
     obtain rfl|rfl|rfl|rfl:j=0∨j=1∨j=2∨j=3:=by omega
     ·simpa using zF5 b3 s
     ·simpa using zF5 b4 s
     ·simpa using zF5 b5 s
     ·simpa using zF5 b6 s
  ·cases h
theorem yZ7 (hc:CtxOk P c)(hR:Rel c.n χ0 w0 S a w G){o:Oper}{fo:Operand}{args:Array Operand}{ats:Array TypeId}{f:Nat}{cs:AVal}{r:List AVal}{p:List Prop}{u:St}{hv:Bool}
  (ho:o.op=.call { callee:=.value fo,args,argTypes:=ats }) (hf:zA G w a.tmps none (.fn f cs) (a.eval fo)) (hr:zH6 (zA G w a.tmps none) r (args.toList.map a.eval)) (hcs:zI3 cs=true)
  (h:xF7 c o.dst f (r++cs.toL) S=some (p,u,hv))
  (hlt:∀ e∈u,e.1<zA6) (hdo:∀ d,o.dst=some d→d<c.n) (hh:∀ s,∀ e∈u,(S.get s).hung e.1=false) (hp:∀ q∈p,q)
  {next:Act→World→Prop}{Q:Exit→Act→World→Prop}(hnext:∀ v w' G',Rel c.n χ0 w0 (u++S) (a.put o.dst v) w' G'→next (a.put o.dst v) w'):o.wpIn (fz rd) 0 P a w next Q:=by
 simp only[zA] at hf;obtain⟨vs,hfv,hcv⟩:=hf;have hcl:=yJ0 (vs:=vs.toList) hcs (by simpa using hcv);have hys:=zM4 hr hcl;generalize hysd:r++cs.toL=ys at h hys;unfold xF7 at h;split at h
 ·rename_i t x T i U d hd;generalize hbb:(_&&zC0 d S)=bb at h;cases bb with
  |false=>cases h
  |true =>
   simp only[Bool.and_eq_true,List.any_eq_true] at hbb;obtain⟨⟨b1,⟨f',k'⟩,hm,b2⟩,b3⟩:=hbb;simp only at b2;have e:=Nat.eq_of_beq_eq_true b1;subst e;have e:=Nat.eq_of_beq_eq_true b2.1;subst e;have e:=Nat.eq_of_beq_eq_true b2.2;subst e;simp only[cond_true,Option.some.injEq,Prod.mk.injEq] at h;obtain⟨rfl,rfl,_⟩:=h;obtain⟨q1,q2⟩:=hp _ (List.mem_singleton.2 rfl);obtain⟨hok1,hok⟩:=hc.clones f' t.size hm;obtain⟨fn,h1,h2,h3⟩:=hok1;have hrun:(execOp a.eval o).run P w=.ok (.enter f' (args.toList.map a.eval++vs.toList).toArray) w:=by
    have harr:(args.toList.map a.eval++vs.toList).toArray=args.map a.eval++vs:=by apply Array.toList_inj.1;simp
    rw[harr];unfold execOp;have hbn:fn.body.isNone=false:=by cases hb:fn.body<;>simp_all
    simp[ho,resolve,hfv,Deferred.ofValue,invoke,callFunc,h1,h3];intro hb;simp[hb] at hbn
   generalize hvals:args.toList.map a.eval++vs.toList=vals at hys hrun;obtain⟨v,rfl⟩:∃ v,vals=[v]:=by
    have:=zG2 hys
    match vals,this with
    |[v],_=>exact⟨v,rfl⟩
   have hA:=zQ3 hys (i:=0) rfl rfl;simp only[zA] at hA;obtain⟨hvt,⟨_,⟨_,y,ad,cap,hy,rfl,h4⟩ | ⟨hm,_⟩⟩ | ⟨hne,_⟩⟩:=hA
   rotate_left
   ·cases hm
   rotate_right
   ·simp only[List.cons.injEq,and_true] at hy;subst hy;rcases h4 with rfl|⟨o',us,cur,e,rfl,g2,g3,g4,g5,g6⟩
    ·simp at q1
    ·have hul:=zC6 (k:=t.size) (fun _ _ h=>zA1 h) g4;refine zU1 hrun ((hok (G.γ T) o' _ cap cur e us w q1 (by omega) g2 hul (yO8 (fun _ _ h=>yF4 h) g4) g3 g5).mono ?_);rintro e' w' ⟨B,cap',cells,ty,rfl,z1,z2,z3,z4,z5,z6⟩;obtain⟨hx,hfr,hown⟩:=wD0 (d:=d) hR.frame hvt g4 z2 z1 z3 z4 z5 z6;refine⟨_,rfl,hnext _ w' (G.reown B d 0 true) ?_⟩;rw[hd];have htd:∀ R:St,zB7 d (AVal.lose d) S R=[]:=by
      intro R
      induction R with
      |nil=>rfl
      |cons e r ih=>obtain⟨s,A⟩:=e;simp only[zB7,zF5 b3 s,cond_false,ih]
     have:=zU (d:=d) (U:=d) (R:=.own t x d true) hR hc.n b3 hx hfr (fun tm=>by simp only[zA];exact hown) (by rw[htd];exact hlt) (hdo _ hd) (fun s=>hh s _ (List.mem_singleton.2 rfl));rw[htd] at this;exact this
   ·exact absurd rfl hne
 ·cases h
theorem yU9 {d:Nat}{v:Value}{G':Gh}{w':World}{gd:Gd}{A:AVal}(hs0:∀ {G:Gh}{w:World}{tm:Array Value}{v:Value},zA G w tm (some d) A v→zA G w tm none A v)(hlen:a.tmps.size=n)(hd:d<n)(hi:xE1 a.tmps gd)(hon:yP1 a.tmps gd)(hA:(zG0 gd A).hung d=false)
  (h:Rel n χ0 w0 ([(d,A)]++S) (a.put (some d) v) w' G'):Rel n χ0 w0 ([(d,zG0 gd A)]++S) (a.put (some d) v) w' G':=by
 refine⟨h.len,h.defers,fun s=>?_,h.frame,h.glob⟩;have hs:=h.reps s;by_cases e:d=s
 ·subst e;simp[St.get] at hs ⊢;cases gd with
  |none=>exact hs
  |some q =>
   obtain⟨s',want,g⟩:=q;have hg:g=true:=(hi s' want g rfl).1 (hon s' want g rfl);have hne:s'≠d:=by
    intro e;simp_all [zG0,AVal.hung]
   refine⟨?_,fun _=>hs0 hs,fun e=>by grind⟩;rw[zD5 (by grind),if_neg hne];exact hi s' want g rfl
 ·have hb:Nat.beq d s=false:=by
   grind [Nat.beq,absurd,Nat.eq_of_beq_eq_true]
  simp_all [St.get]
theorem zZ8 {dst:Option Nat}{f:Nat}{ys ks:List AVal}{p:List Prop}{d:Nat}{A:AVal}{u:St}{hv:Bool}(h:yE0 c dst f ys ks S=some (p,(d,A)::u,hv)):dst=some d:=by
 unfold yE0 at h;split at h
 ·cases h
 ·split at h
  ·rename_i d' _ _;generalize (_&&zC0 _ S)=bb at h;cases bb with
   |false=>cases h
   |true =>
    simp only[cond_true,Option.some.injEq,Prod.mk.injEq,List.cons.injEq] at h;obtain⟨_,⟨⟨rfl,_⟩,_⟩,_⟩:=h;rfl
  ·cases h
theorem yZ8 (hc:CtxOk P c)(hR:Rel c.n χ0 w0 S a w G){gd:Gd}(hi:xE1 a.tmps gd)(hon:yP1 a.tmps gd){o:Oper}{fo:Operand}{args:Array Operand}{ats:Array TypeId}{f:Nat}{cs:AVal}{r:List AVal}{p:List Prop}{u:St}{hv:Bool}
  (ho:o.op=.call { callee:=.value fo,args,argTypes:=ats }) (hf:zA G w a.tmps none (.fn f cs) (a.eval fo)) (hr:zH6 (zA G w a.tmps none) r (args.toList.map a.eval)) (hcs:zI3 cs=true)
  (h:yR1 c gd o.dst f (r++cs.toL) S=some (p,u,hv))
  (hlt:∀ e∈u,e.1<zA6) (hdo:∀ d,o.dst=some d→d<c.n) (hh:∀ s,∀ e∈u,(S.get s).hung e.1=false) (huu:∀ e∈u,∀ e'∈u,e.2.hung e'.1=false) (hp:∀ q∈p,q)
  {next:Act→World→Prop}{Q:Exit→Act→World→Prop}(hnext:∀ v w' G',Rel c.n χ0 w0 (u++S) (a.put o.dst v) w' G'→next (a.put o.dst v) w'):o.wpIn (fz rd) 0 P a w next Q:=by
 unfold yR1 at h;split at h
 ·rename_i p0 d t l T m _ hl;obtain⟨rfl,rfl,_⟩:=h;have hdst:o.dst=some d:=zZ8 hl;have hd:d<c.n:=hdo d hdst;refine zW6 hc hR ho hf hr hcs hl (fun e he=>by simp at he;subst he;exact hlt (d,zG0 gd (.own t l T m)) (List.mem_singleton.2 rfl)) hdo (fun s e he=>by simp_all) (zM3 hi hon hp) (fun v w' G' h'=>?_);refine hnext v w' G' ?_;rw[hdst] at h' ⊢;exact yU9 (fun h=>h) hR.len hd hi hon (huu _ (List.mem_singleton.2 rfl) _ (List.mem_singleton.2 rfl)) h'
 ·rename_i p0 d τ x _ hl;obtain⟨rfl,rfl,_⟩:=h;have hdst:o.dst=some d:=zZ8 hl;have hd:d<c.n:=hdo d hdst;refine zW6 hc hR ho hf hr hcs hl (fun e he=>by simp at he;subst he;exact hlt (d,zG0 gd (.val τ x)) (List.mem_singleton.2 rfl)) hdo (fun s e he=>by simp_all) (zM3 hi hon hp) (fun v w' G' h'=>?_);refine hnext v w' G' ?_;rw[hdst] at h' ⊢;exact yU9 (fun h=>h) hR.len hd hi hon (huu _ (List.mem_singleton.2 rfl) _ (List.mem_singleton.2 rfl)) h'
 ·cases h
theorem yD3 {f:Nat}{ys:List AVal}{q:List Prop×AVal}:∀ {exts:List (Nat×(List AVal→Option (List Prop×AVal)))},yG6 exts f ys=some q→∃ e,(f,e)∈exts∧e ys=some q:=by
 intro exts
 induction exts with
 |nil=>grind [yG6]
 |cons x r ih =>
  intro h;obtain⟨g,e⟩:=x;simp only[yG6] at h;cases hg:Nat.beq g f with
  |false=>grind
  |true=>simp_all
theorem xR0 (hc:CtxOk P c)(hR:Rel c.n χ0 w0 S a w G){gd:Gd}(hi:xE1 a.tmps gd)(hon:yP1 a.tmps gd){o:Oper}{fo:Operand}{args:Array Operand}{ats:Array TypeId}{f:Nat}{cs:AVal}{r:List AVal}{p:List Prop}{u:St}{hv:Bool}
  (ho:o.op=.call { callee:=.value fo,args,argTypes:=ats }) (hf:zA G w a.tmps none (.fn f cs) (a.eval fo)) (hr:zH6 (zA G w a.tmps none) r (args.toList.map a.eval)) (hcs:zI3 cs=true)
  (h:zV8 c gd o.dst f (r++cs.toL)=some (p,u,hv))
  (hlt:∀ e∈u,e.1<zA6) (hdo:∀ d,o.dst=some d→d<c.n) (hh:∀ s,∀ e∈u,(S.get s).hung e.1=false) (huu:∀ e∈u,∀ e'∈u,e.2.hung e'.1=false) (hp:∀ q∈p,q)
  {next:Act→World→Prop}{Q:Exit→Act→World→Prop}(hnext:∀ v w' G',Rel c.n χ0 w0 (u++S) (a.put o.dst v) w' G'→next (a.put o.dst v) w'):o.wpIn (fz rd) 0 P a w next Q:=by
 obtain⟨vs,hfv,hcv⟩:=hf;have hcl:=yJ0 (vs:=vs.toList) hcs (by simpa using hcv);have hys:=zM4 hr hcl;have hrun:∀ v,(callFunc f (args.toList.map a.eval++vs.toList).toArray).run P w=.ok (.value v) w→(execOp a.eval o).run P w=.ok (.value v) w:=by
  have harr:(args.toList.map a.eval++vs.toList).toArray=args.map a.eval++vs:=by grind
  grind [execOp,resolve,Deferred.ofValue,invoke]
 unfold zV8 at h;split at h
 ·rename_i p0 τ x d he hd;obtain⟨e,hm,he⟩:=yD3 he;obtain⟨rfl,rfl,rfl⟩:=h;obtain⟨v,h1,h2⟩:=hc.exts f e hm _ _ _ he (zM3 hi hon hp) G w a.tmps _ hys;refine zL4 (hrun v h1) (hnext v w G ?_);rw[hd];exact zZ5 hR hc.n (hdo d hd) (fun s=>hh s (d,zG0 gd (.val τ x)) (by simp)) (huu (d,zG0 gd (.val τ x)) (by simp) (d,zG0 gd (.val τ x)) (by simp)) (zS4 hi hon h2)
 ·rename_i p0 b d he hd;obtain⟨e,hm,he⟩:=yD3 he;split at h
  ·generalize hbb:(_&&!(b.hung d))=bb at h;cases bb with
   |false=>grind
   |true =>
    obtain⟨rfl,rfl,rfl⟩:=h;obtain⟨v,h1,h2⟩:=hc.exts f e hm _ _ _ he hp G w a.tmps _ hys;refine zL4 (hrun v h1) (hnext v w G ?_);rw[hd];exact zZ5 hR hc.n (hdo d hd) (fun s=>hh s (d,.tup b) (by simp)) (huu (d,.tup b) (by simp) (d,.tup b) (by simp)) h2
  grind
 grind
end Go.Am
namespace Go.Am
open Go Go.RowKit
variable {rd:Option Nat}{gtab:GlobTab}{P:Program}{c:Ctx}{G:Gh}{w:World}{tm:Array Value}{n:Nat}{χ0:Nat→Nat→Nat}{w0:World}{S:St}{a:Act}
theorem yF6 {χ:Nat→Nat→Nat}{t:Ty}:zB4 χ w (.sl t) ([]:List t.den) [.slice none 0 0]:=by
 grind [zB4]
theorem zZ9 {t:Ty}{T:Nat}{m:Bool}(h:(t.plain&&!t.isL)=true):zF7 G w t [] T m (.slice none 0 0):=by
 simp  at h;exact .inl ⟨h,.inl ⟨rfl,rfl⟩⟩
theorem yP8 {t t':Ty}{l':List t'.den}{l2:(Ty.sl t).den}(h:Ty.cast (a:=.sl t') (.sl t) l'=some l2):t'=t∧HEq l' l2:=by
 grind [zC7]
theorem zW7:∀ {A B:AVal}{τ:Ty}{vs:List Value},(zA0 true A B).fitsT τ=true→zA8 G w τ A vs→zA8 G w τ (zA0 true A B) vs:=by
 intro A
 induction A with
 |val τ' x =>
  intro B τ vs hf h;cases B with
  |val τ2 y =>
   grind [zA0,AVal.fitsT]
  |nil =>
   cases τ'<;>simp[zA0,AVal.fitsT] at hf
   grind [zA0]
  |agg f b =>
   cases τ'<;>simp[zA0,AVal.fitsT] at hf
   grind [zA0,AVal.fitsT]
  |own t l T m =>
   grind [zA0,voA,AVal.fitsT]
  |_=>grind [zA0,AVal.fitsT]
 |nil =>
  intro B τ vs hf h;obtain⟨h1,rfl⟩:=h;cases B with
  |nil=>grind [zA0,zA8]
  |val τ2 y =>
   cases τ2<;>simp only[zA0,AVal.fitsT,Bool.false_eq_true] at hf;simp  at hf;have e:=Ty.eq_of_beq hf.1;subst e;exact⟨rfl,rfl,yF6⟩
  |own t l T m =>
   simp only[zA0] at hf ⊢;generalize hp:(t.plain&&!t.isL)=b at hf;cases b with
   |false=>grind [AVal.fitsT]
   |true =>
    simp  at hf ⊢;have e:=Ty.eq_of_beq hf;subst e;simp only[zA8];exact⟨trivial,_,rfl,zZ9 hp⟩
  |_=>grind [zA0,AVal.fitsT]
 |own t l T m =>
  intro B τ vs hf h;cases B with
  |nil =>
   grind [zA0,AVal.fitsT]
  |own t' l' T' m' =>
   grind [zA0,Nat.beq,AVal.fitsT]
  |val τ2 y =>
   simp[zA0,ovA] at hf ⊢;cases m with
   |true=>grind [AVal.fitsT]
   |false =>
    simp  at hf ⊢;split at hf
    ·obtain⟨rfl,v,rfl,ho⟩:=h;simp only[zA8];exact⟨trivial,rfl,zD2 ho⟩
    grind [AVal.fitsT]
  |_=>grind [zA0,AVal.fitsT]
 |agg f x ih =>
  intro B τ vs hf h;cases B with
  |agg f' b =>
   grind [zA0,AVal.fitsT,zA8]
  |val τ2 y =>
   cases τ2<;>simp[zA0,AVal.fitsT] at hf;simp only[zA0] at hf ⊢;split at hf
   ·rename_i x' hx;have hfit:=zR7 hx;simp[AVal.fitsT] at hfit;have e:=Ty.eq_of_beq hfit.1;injection e with e
    subst e;obtain⟨rfl,h⟩:=h;simp only[zA8];exact⟨trivial,rfl,zL8 (A:=.agg f x) hx (by grind [zA8])⟩
   grind [AVal.fitsT]
  |_=>grind [zA0,AVal.fitsT]
 |nl =>
  intro B τ vs hf h;cases B<;>grind [zA0,AVal.fitsT]
 |cons x y ihx ihy =>
  intro B τ vs hf h;cases B with
  |cons x' y' =>
   obtain⟨h1,t1,us,ws,rfl,rfl,h2,h3⟩:=h;simp[zA0,AVal.fitsT,zE9] at hf;exact⟨_,_,_,_,rfl,rfl,ihx hf.1 h2,ihy hf.2 h3⟩
  |_=>grind [zA0,AVal.fitsT]
 |junk=>grind [zA0,AVal.fitsT]
 |_=>grind [zA8]
theorem zW8:∀ {A B:AVal}{τ:Ty}{vs:List Value},(zA0 false A B).fitsT τ=true→zA8 G w τ B vs→zA8 G w τ (zA0 false A B) vs:=by
 intro A
 induction A with
 |val τ' x =>
  intro B τ vs hf h;cases B with
  |val τ2 y =>
   grind [zA0,zC7,AVal.fitsT]
  |nil =>
   obtain⟨h1,rfl⟩:=h;cases τ'<;>simp only[zA0,AVal.fitsT,Bool.false_eq_true] at hf;simp  at hf;have e:=Ty.eq_of_beq hf.1;subst e;simp only[zA0,zA8];exact⟨trivial,rfl,yF6⟩
  |agg f b =>
   cases τ'<;>simp[zA0,AVal.fitsT] at hf;simp[zA0] at hf ⊢;split at hf
   ·rename_i x' hx;have hfit:=zR7 hx;simp[AVal.fitsT] at hfit;have e:=Ty.eq_of_beq hfit.1;injection e with e
    subst e;obtain⟨rfl,h⟩:=h;simp only[zA8];exact⟨trivial,rfl,zL8 (A:=.agg f b) hx (by grind [zA8])⟩
   grind [AVal.fitsT]
  |own t l T m =>
   simp[zA0,voA] at hf ⊢;cases m with
   |true=>grind [AVal.fitsT]
   |false =>
    simp  at hf ⊢;split at hf
    ·rename_i z hz;obtain⟨e,hz⟩:=zC7 hz;subst e;subst hz;obtain⟨rfl,v,rfl,ho⟩:=h;simp only[zA8];exact⟨trivial,rfl,zD2 ho⟩
    grind [AVal.fitsT]
  |_=>grind [zA0,AVal.fitsT]
 |nil =>
  intro B τ vs hf h;cases B with
  |nil=>exact h
  |val τ2 y =>
   cases τ2<;>simp[zA0,AVal.fitsT] at hf
   grind [zA0]
  |own t l T m =>
   grind [zA0,AVal.fitsT]
  |_=>grind [zA0,AVal.fitsT]
 |own t l T m =>
  intro B τ vs hf h;cases B with
  |nil =>
   obtain⟨h1,rfl⟩:=h;simp only[zA0] at hf ⊢;generalize hp:(t.plain&&!t.isL)=b at hf;cases b with
   |false=>grind [AVal.fitsT]
   |true =>
    simp  at hf ⊢;have e:=Ty.eq_of_beq hf;subst e;simp only[zA8];exact⟨trivial,_,rfl,zZ9 hp⟩
  |own t' l' T' m' =>
   simp only[zA0] at hf ⊢;generalize hb:(Nat.beq T T'&&(m==m'))=b at hf;cases b with
   |false=>grind [AVal.fitsT]
   |true =>
    simp  at hb
    grind [yP8,AVal.fitsT]
  |val τ2 y =>
   grind [zA0,ovA,AVal.fitsT,zC7]
  |_=>grind [zA0,AVal.fitsT]
 |agg f x ih =>
  intro B τ vs hf h;cases B with
  |agg f' b =>
   simp only[zA0] at hf ⊢;generalize hb:(Ty.beq f f'&&AVal.fits f (zA0 false x b))=bb at hf;cases bb with
   |false=>grind [AVal.fitsT]
   |true =>
    simp  at hb;have e:=Ty.eq_of_beq hb.1;subst e;exact⟨h.1,ih hb.2 h.2⟩
  |val τ2 y =>
   cases τ2<;>simp[zA0,AVal.fitsT] at hf
   grind [zA0,AVal.fitsT]
  |_=>grind [zA0,AVal.fitsT]
 |nl =>
  intro B τ vs hf h;cases B<;>grind [zA0,AVal.fitsT]
 |cons x y ihx ihy =>
  intro B τ vs hf h;cases B with
  |cons x' y' =>
   obtain⟨h1,t1,us,ws,rfl,rfl,h2,h3⟩:=h;simp[zA0,AVal.fitsT,zE9] at hf;exact⟨_,_,_,_,rfl,rfl,ihx hf.1 h2,ihy hf.2 h3⟩
  |_=>grind [zA0,AVal.fitsT]
 |_=>intro B τ vs hf h;cases B<;>simp[zA0,AVal.fitsT,zA8] at hf h
theorem zW9:∀ {A B:AVal}{os:Option Nat}{v:Value},zA G w tm os A v→zA G w tm os (zA0 true A B) v:=by
 intro A
 induction A with
 |val τ' x =>
  intro B os v h;cases B with
  |val τ2 y =>
   grind [zA0,zA]
  |nil=>cases τ'<;>simp only[zA0,cond_true,zA];exact h
  |agg f b =>
   cases τ'<;>simp only[zA0,cond_true,zA]
   grind [zA]
  |own t l T m =>
   simp only[zA0,voA];cases m with
   |true=>simp only[cond_true,zA]
   |false =>
    simp only[cond_false]
    grind [zA]
  |_=>grind [zA0,zA]
 |nil =>
  intro B os v h;simp only[zA] at h;subst h;cases B with
  |nil=>grind [zA0,zA]
  |val τ2 y =>
   cases τ2<;>simp only[zA0,cond_true]<;>first|exact zN6 yF6|grind [zA]
  |own t l T m =>
   simp only[zA0];generalize hp:(t.plain&&!t.isL)=b;cases b with
   |false=>simp only[cond_false,zA]
   |true=>simp only[cond_true,zA];exact zZ9 hp
  |_=>grind [zA0,zA]
 |own t l T m =>
  intro B os v h;cases B with
  |nil =>
   simp only[zA0];cases (t.plain&&!t.isL)<;>simp_all [cond_false,zA,cond_true]
  |own t' l' T' m' =>
   simp only[zA0];cases (Nat.beq T T'&&(m==m')) with
   |false=>simp only[cond_false,zA]
   |true =>
    simp only[cond_true]
    grind [zA]
  |val τ2 y =>
   simp only[zA0,ovA];cases m with
   |true=>simp only[cond_true,zA]
   |false =>
    simp only[cond_false]
    grind [zA,zN6,zD2]
  |_=>simp only[zA0,zA]
 |box τ x _ =>
  intro B os v h;cases B with
  |box τ' y =>
   simp only[zA0];generalize hb:(Ty.beq τ τ'&&AVal.fits τ (zA0 true x y))=b;cases b with
   |false=>simp only[cond_false,zA]
   |true =>
    simp only[Bool.and_eq_true] at hb;simp only[cond_true];cases os with
    |none=>grind [zA]
    |some s =>
     simp only[zA] at h ⊢;obtain⟨h1,h2,cur,e,h3,h4,h5⟩:=h;exact⟨h1,h2,cur,e,h3,zW7 hb.2 h4,h5⟩
  |_=>simp only[zA0,zA]
 |ref s τ p =>
  intro B os v h;cases p with
  |nil =>
   cases B with
   |ref s' τ' p' =>
    cases p' with
    |nil =>
     simp only[zA0];cases (Nat.beq s s'&&Ty.beq τ τ')<;>simp_all [cond_false,zA,cond_true]
    |cons _ _=>grind [zA0,zA]
   |nilp=>simp only[zA0,zA] at h ⊢;exact h.2
   |pn b s' τ' =>
    simp only[zA0];cases (Nat.beq s s'&&Ty.beq τ τ') with
    |false=>simp only[cond_false,zA]
    |true=>simp only[cond_true,zA] at h ⊢;exact h.2
   |_=>simp only[zA0,zA]
  |cons _ _=>grind [zA0,zA]
 |nilp =>
  intro B os v h;cases B with
  |ref s τ p=>cases p<;>simp only[zA0,zA,if_true] at h ⊢;exact h
  |pn b s τ=>simp only[zA0,zA,cond_true,if_true] at h ⊢;exact h
  |nilp=>exact h
  |_=>simp only[zA0,zA]
 |pn b s τ =>
  intro B os v h;cases B with
  |ref s' τ' p =>
   cases p with
   |nil =>
    simp only[zA0];cases (Nat.beq s s'&&Ty.beq τ τ') with
    |false=>simp only[cond_false,zA]
    |true=>exact h
   |cons _ _=>simp only[zA0,zA]
  |pn b' s' τ' =>
   simp only[zA0];cases (Nat.beq s s'&&Ty.beq τ τ') with
   |false=>simp only[cond_false,zA]
   |true=>exact h
  |nilp=>exact h
  |_=>simp only[zA0,zA]
 |nl =>
  intro B os v h;cases B<;>simp_all [zA0,zA]
 |cons x y ihx ihy =>
  intro B os v h;cases B with
  |cons x' y' =>
   obtain⟨u,us,rfl,h1,h2⟩:=h;simp only[zA0,zA];exact⟨u,us,rfl,ihx h1,ihy h2⟩
  |_=>simp[zA0,zA]
 |agg f x _ =>
  intro B os v h;cases B with
  |agg f' b =>
   simp only[zA0];generalize hb:(Ty.beq f f'&&AVal.fits f (zA0 true x b))=bb;cases bb with
   |false=>simp[zA]
   |true =>
    simp  at hb;obtain⟨vs,h1,h2⟩:=h;exact⟨vs,h1,zW7 hb.2 h2⟩
  |val τ2 y =>
   cases τ2<;>simp[zA0,zA];split
   ·rename_i x' hx;exact zJ4 hx rfl (zO2 h (by grind) (by grind) (by grind))
   grind [zA]
  |_=>simp[zA0,zA]
 |tup x ih =>
  intro B os v h;cases B<;>simp_all [zA0,zA]
 |ownh t l T i U m =>
  intro B os v h;cases B with
  |ownh t' l' T' i' U' m' =>
   simp only[zA0];cases (Nat.beq T T'&&Nat.beq U U'&&(m==m')) with
   |false=>simp[zA]
   |true =>
    grind [zA]
  |_=>simp only[zA0,zA]
 |_=>intro B os v h;cases B<;>simp only[zA0,zA]
theorem zX:∀ {A B:AVal}{os:Option Nat}{v:Value},zA G w tm os B v→zA G w tm os (zA0 false A B) v:=by
 intro A
 induction A with
 |val τ' x =>
  intro B os v h;cases B with
  |val τ2 y =>
   simp only[zA0];split
   ·rename_i z hz;obtain⟨e,hz⟩:=zC7 hz;subst e;subst hz;exact h
   ·simp only[zA]
  |nil =>
   simp only[zA] at h;subst h;cases τ'<;>simp only[zA0,cond_false]<;>first|exact zN6 yF6|simp only[zA]
  |agg f b =>
   cases τ'<;>simp only[zA0,cond_false,zA];split
   ·rename_i x' hx;simp only[zA];exact zJ4 hx rfl (zO2 h (by intro _ _ e;cases e) (by intro e;cases e) (by intro _ _ _ e;cases e))
   ·simp only[zA]
  |own t l T m =>
   simp only[zA0,voA];cases m with
   |true=>simp only[cond_true,zA]
   |false =>
    simp only[cond_false];split
    ·rename_i z hz;obtain⟨e,hz⟩:=zC7 hz;subst e;subst hz;simp only[zA] at h;exact zN6 (zD2 h)
    ·simp only[zA]
  |_=>cases τ'<;>simp only[zA0,zA]
 |nil =>
  intro B os v h;cases B with
  |nil=>exact h
  |val τ2 y=>cases τ2<;>simp only[zA0,cond_false,zA];exact h
  |own t l T m =>
   simp only[zA0];cases (t.plain&&!t.isL) with
   |false=>simp only[cond_false,zA]
   |true=>exact h
  |_=>simp only[zA0,zA]
 |own t l T m =>
  intro B os v h;cases B with
  |nil =>
   simp only[zA] at h;subst h;simp only[zA0];generalize hp:(t.plain&&!t.isL)=b;cases b with
   |false=>simp only[cond_false,zA]
   |true=>simp only[cond_true,cond_false,zA];exact zZ9 hp
  |own t' l' T' m' =>
   simp only[zA0];generalize hb:(Nat.beq T T'&&(m==m'))=b;cases b with
   |false=>simp only[cond_false,zA]
   |true =>
    simp only[Bool.and_eq_true,beq_iff_eq] at hb;have e:=Nat.eq_of_beq_eq_true hb.1;obtain⟨_,hb⟩:=hb;subst e;subst hb;simp only[cond_true];split
    ·rename_i z hz;obtain⟨e,hz⟩:=yP8 hz;subst e;have:=eq_of_heq hz;subst this;exact h
    ·simp only[zA]
  |val τ2 y =>
   simp only[zA0,ovA];cases m with
   |true=>simp only[cond_true,zA]
   |false =>
    simp only[cond_false];split
    ·rename_i z hz;obtain⟨e,hz⟩:=zC7 hz;subst e;subst hz;exact h
    ·simp only[zA]
  |_=>simp only[zA0,zA]
 |box τ x _ =>
  intro B os v h;cases B with
  |box τ' y =>
   simp only[zA0];generalize hb:(Ty.beq τ τ'&&AVal.fits τ (zA0 false x y))=b;cases b with
   |false=>simp only[cond_false,zA]
   |true =>
    simp only[Bool.and_eq_true] at hb;have e:=Ty.eq_of_beq hb.1;subst e;simp only[cond_true];cases os with
    |none=>simp only[zA] at h
    |some s =>
     simp only[zA] at h ⊢;obtain⟨h1,h2,cur,e,h3,h4,h5⟩:=h;exact⟨h1,h2,cur,e,h3,zW8 hb.2 h4,h5⟩
  |_=>simp only[zA0,zA]
 |ref s τ p =>
  intro B os v h;cases p with
  |nil =>
   cases B with
   |ref s' τ' p' =>
    cases p' with
    |nil =>
     simp only[zA0];generalize hb:(Nat.beq s s'&&Ty.beq τ τ')=b;cases b with
     |false=>simp only[cond_false,zA]
     |true =>
      simp only[Bool.and_eq_true] at hb;have e:=Nat.eq_of_beq_eq_true hb.1;have e':=Ty.eq_of_beq hb.2;subst e;subst e';exact h
    |cons _ _=>simp only[zA0,zA]
   |nilp=>simp only[zA0,zA,Bool.not_false,if_true] at h ⊢;exact h
   |pn b s' τ' =>
    simp only[zA0];generalize hb:(Nat.beq s s'&&Ty.beq τ τ')=bb;cases bb with
    |false=>simp only[cond_false,zA]
    |true =>
     simp only[Bool.and_eq_true] at hb;have e:=Nat.eq_of_beq_eq_true hb.1;subst e;simp only[cond_true,cond_false,zA] at h ⊢;exact h
   |_=>simp only[zA0,zA]
  |cons _ _=>cases B<;>simp only[zA0,zA]
 |nilp =>
  intro B os v h;cases B with
  |ref s τ p=>cases p<;>simp only[zA0,zA] at h ⊢;exact h.2
  |pn b s τ=>simp only[zA0,zA,cond_false] at h ⊢;exact h
  |nilp=>exact h
  |_=>simp only[zA0,zA]
 |pn b s τ =>
  intro B os v h;cases B with
  |ref s' τ' p =>
   cases p with
   |nil =>
    simp only[zA0];generalize hb:(Nat.beq s s'&&Ty.beq τ τ')=bb;cases bb with
    |false=>simp only[cond_false,zA]
    |true =>
     simp only[Bool.and_eq_true] at hb;have e:=Nat.eq_of_beq_eq_true hb.1;subst e;simp only[cond_true,cond_false,zA] at h ⊢;exact h.2
   |cons _ _=>simp only[zA0,zA]
  |pn b' s' τ' =>
   simp only[zA0];generalize hb:(Nat.beq s s'&&Ty.beq τ τ')=bb;cases bb with
   |false=>simp only[cond_false,zA]
   |true =>
    simp only[Bool.and_eq_true] at hb;have e:=Nat.eq_of_beq_eq_true hb.1;subst e;exact h
  |nilp=>simp only[zA0,zA,cond_false,if_true] at h ⊢;exact h
  |_=>simp only[zA0,zA]
 |nl =>
  intro B os v h;cases B with
  |nl=>exact h
  |_=>simp only[zA0,zA]
 |cons x y ihx ihy =>
  intro B os v h;cases B with
  |cons x' y' =>
   simp only[zA] at h;obtain⟨u,us,rfl,h1,h2⟩:=h;simp only[zA0,zA];exact⟨u,us,rfl,ihx h1,ihy h2⟩
  |_=>simp only[zA0,zA]
 |agg f x _ =>
  intro B os v h;cases B with
  |agg f' b =>
   simp only[zA0];generalize hb:(Ty.beq f f'&&AVal.fits f (zA0 false x b))=bb;cases bb with
   |false=>simp only[cond_false,zA]
   |true =>
    simp only[Bool.and_eq_true] at hb;have e:=Ty.eq_of_beq hb.1;subst e;simp only[cond_true,zA] at h ⊢;obtain⟨vs,h1,h2⟩:=h;exact⟨vs,h1,zW8 hb.2 h2⟩
  |val τ2 y =>
   cases τ2<;>simp only[zA0,zA];split
   ·exact h
   ·simp only[zA]
  |_=>simp only[zA0,zA]
 |tup x ih =>
  intro B os v h;cases B with
  |tup b=>simp only[zA0,zA] at h ⊢;exact ih h
  |_=>simp only[zA0,zA]
 |ownh t l T i U m =>
  intro B os v h;cases B with
  |ownh t' l' T' i' U' m' =>
   simp only[zA0];generalize hb:(Nat.beq T T'&&Nat.beq U U'&&(m==m'))=b;cases b with
   |false=>simp only[cond_false,zA]
   |true =>
    simp only[Bool.and_eq_true,beq_iff_eq] at hb;have e1:=Nat.eq_of_beq_eq_true hb.1.1;have e2:=Nat.eq_of_beq_eq_true hb.1.2;obtain⟨_,e3⟩:=hb;subst e1;subst e2;subst e3;simp only[cond_true];split
    ·rename_i z hz;obtain⟨e,hz⟩:=zC7 hz;injection e with e
     injection e with e
     subst e;have hz:l'=z:=hz;subst hz;exact h
    ·simp only[zA]
  |_=>simp only[zA0,zA]
 |_=>intro B os v h;cases B<;>simp only[zA0,zA]
def yV (g:Bool)(s:Nat)(A B:AVal):AVal:=bif Nat.blt s vNo then zA0 g A B else zK8 g A B
theorem zU5 {m g:Bool}{τ τ':Ty}{x y:AVal}{s:Nat}{v:Value}(h:m=true→AVal.fits τ (zA0 g x y)=true→Ty.beq τ τ'=true→zP4 G w s τ (zA0 g x y)):zA G w tm (some s) (wF8 m τ τ' g x y) v:=by
 unfold wF8;generalize hb:(Ty.beq τ τ'&&AVal.fits τ (zA0 g x y))=b;cases b with
 |false=>simp only[cond_false,zA]
 |true =>
  simp only[Bool.and_eq_true] at hb;simp only[cond_true,zA];exact fun hm=>h hm hb.2 hb.1
theorem yB9 {s:Nat}{τ:Ty}{x y:AVal}(hf:AVal.fits τ (zA0 true x y)=true)(h:zP4 G w s τ x):zP4 G w s τ (zA0 true x y):=by
 obtain⟨h2,cur,e,h3,h4,h5⟩:=h;exact⟨h2,cur,e,h3,zW7 hf h4,h5⟩
theorem yC {s:Nat}{τ τ':Ty}{x y:AVal}(hf:AVal.fits τ (zA0 false x y)=true)(he:Ty.beq τ τ'=true)(h:zP4 G w s τ' y):zP4 G w s τ (zA0 false x y):=by
 have e:=Ty.eq_of_beq he;subst e;obtain⟨h2,cur,e,h3,h4,h5⟩:=h;exact⟨h2,cur,e,h3,zW8 hf h4,h5⟩
theorem yD4 {s:Nat}{A B:AVal}{v:Value}(h:zA G w tm (some s) A v):zA G w tm (some s) (yV true s A B) v:=by
 unfold yV;cases Nat.blt s vNo with
 |true=>exact zW9 h
 |false =>
  simp only[cond_false];cases A with
  |box τ x =>
   simp only[zA] at h;cases B with
   |junk=>simp only[zK8,zA];exact fun _=>h.2
   |may m τ' y=>exact zU5 fun _ hf _=>yB9 hf h.2
   |box τ' y=>exact zW9 (A:=.box τ x) (B:=.box τ' y) (by simp only[zA];exact h)
   |_=>simp only[zK8,zA0,zA]
  |may m τ x =>
   simp only[zA] at h;cases B with
   |junk=>simp only[zK8,cond_true,zA];exact h
   |box τ' y=>exact zU5 fun hm hf _=>yB9 hf (h hm)
   |may m' τ' y=>exact zU5 fun hm hf _=>yB9 hf (h hm)
   |_=>simp only[zK8,zA0,zA]
  |junk =>
   cases B with
   |box τ' y=>simp only[zK8,zA];exact fun h=>by cases h
   |may m' τ' y=>simp only[zK8,cond_true,zA];exact fun h=>by cases h
   |_=>simp only[zK8,zA0,zA]
  |_=>exact zW9 h
theorem yV0 {s:Nat}{A B:AVal}{v:Value}(h:zA G w tm (some s) B v):zA G w tm (some s) (yV false s A B) v:=by
 unfold yV;cases Nat.blt s vNo with
 |true=>exact zX h
 |false =>
  simp only[cond_false];cases A with
  |box τ x =>
   cases B with
   |junk=>simp only[zK8,zA];exact fun h=>by cases h
   |may m τ' y=>simp only[zA] at h;exact zU5 fun hm hf he=>yC hf he (h hm)
   |box τ' y=>exact zX (A:=.box τ x) (B:=.box τ' y) h
   |_=>simp only[zK8,zA0,zA]
  |may m τ x =>
   cases B with
   |junk=>simp only[zK8,cond_false,zA];exact fun h=>by cases h
   |box τ' y=>simp only[zA] at h;exact zU5 fun _ hf he=>yC hf he h.2
   |may m' τ' y=>simp only[zA] at h;exact zU5 fun hm hf he=>yC hf he (h hm)
   |_=>simp only[zK8,zA0,zA]
  |junk =>
   cases B with
   |box τ' y=>simp only[zK8,zA] at h ⊢;exact fun _=>h.2
   |may m' τ' y=>simp only[zK8,cond_false,zA] at h ⊢;exact h
   |_=>simp only[zK8,zA0,zA]
  |_=>exact zX h
def St.hasCut (d:St):Bool:=d.any fun e=>Nat.beq e.1 zA6
theorem yC0 {g:Bool}{d1 d2:St}{s:Nat}:∀ {ks:St}{R:St},(yG7 g d1 d2 S ks++R).get s=.junk∨(yG7 g d1 d2 S ks++R).get s=yV g s ((d1++S).get s) ((d2++S).get s) ∨
  (St.has s ks=false∧St.hasCut ks=false∧(yG7 g d1 d2 S ks++R).get s=R.get s):=by
 intro ks
 induction ks with
 |nil=>exact .inr (.inr ⟨rfl,rfl,rfl⟩)
 |cons e r ih =>
  obtain⟨k,A⟩:=e;simp only[yG7,St.get,List.cons_append];cases hk:Nat.beq k s with
  |true =>
   have:=Nat.eq_of_beq_eq_true hk;subst this;simp only[cond_true];cases Nat.beq k zA6 with
   |true=>exact fun {_}=>.inl rfl
   |false=>exact fun {_}=>.inr (.inl rfl)
  |false =>
   cases hc:Nat.beq k zA6<;>simp_all [St.has,St.hasCut]
theorem yP9 {d1 d2:St}{s:Nat}(h1:St.has s (zY4 d1++(zY4 d2++(zI5 d1++zI5 d2)))=false)(h2:St.hasCut (zY4 d1++(zY4 d2++(zI5 d1++zI5 d2)))=false) :
  (d1++S).get s=S.get s∧(d2++S).get s=S.get s:=by
 have hc:∀ d:St,(∀ e∈d,e∈d1∨e∈d2)→(∀ e∈d,e.1≠zA6)∧St.has s d=false:=by
  intro d hd;have key:∀ e∈d,e.1≠zA6∧Nat.beq e.1 s=false:=by
   intro e he;simp only[St.has,St.hasCut,List.any_eq_false,List.mem_append,zY4,zI5,List.mem_filter] at h1 h2;have hcut:e.1≠zA6:=by
    grind [Nat.beq,Nat.beq_refl]
   have hb:(!(Nat.beq e.1 zA6))=true:=by
    grind
   refine⟨hcut,?_⟩;rcases hd e he with h|h
   ·exact Bool.eq_false_iff.2 (h1 e (.inl ⟨h,hb⟩))
   ·exact Bool.eq_false_iff.2 (h1 e (.inr (.inl ⟨h,hb⟩)))
  grind [St.has,List.any_eq_false]
 grind [zJ8]
theorem zQ6 {d1 d2:St}(hR:Rel n χ0 w0 (d1++S) a w G):Rel n χ0 w0 (zE7 true d1 d2 S++S) a w G:=by
 refine⟨hR.len,hR.defers,fun s=>?_,hR.frame,hR.glob⟩;have h:=hR.reps s;unfold zE7;rcases yC0 (g:=true) (d1:=d1) (d2:=d2) (S:=S) (s:=s) (ks:=zY4 d1++(zY4 d2++(zI5 d1++zI5 d2))) (R:=S) with e|e|⟨e1,e2,e⟩
 ·grind [zA]
 ·rw[e];exact yD4 h
 ·rw[e,← (yP9 e1 e2).1];grind
theorem zM6 {d1 d2:St}(hR:Rel n χ0 w0 (d2++S) a w G):Rel n χ0 w0 (zE7 false d1 d2 S++S) a w G:=by
 refine⟨hR.len,hR.defers,fun s=>?_,hR.frame,hR.glob⟩;have h:=hR.reps s;unfold zE7;rcases yC0 (g:=false) (d1:=d1) (d2:=d2) (S:=S) (s:=s) (ks:=zY4 d1++(zY4 d2++(zI5 d1++zI5 d2))) (R:=S) with e|e|⟨e1,e2,e⟩
 ·grind [zA]
 ·rw[e];exact yV0 h
 ·rw[e,← (yP9 e1 e2).2];grind
theorem xJ3 {g:Bool}{d1 d2:St}{e:Nat×AVal}:∀ {ks:St},e∈ks→∃ A,(e.1,A)∈yG7 g d1 d2 S ks:=by
 intro ks
 induction ks with
 |nil=>intro h;cases h
 |cons e' r ih =>
  intro h;rcases List.mem_cons.1 h with h|h
  ·subst h;exact⟨_,List.mem_cons_self⟩
  ·obtain⟨A,hA⟩:=ih h;exact⟨A,List.mem_cons_of_mem _ hA⟩
theorem xJ4 {g:Bool}{u:St}{e:Nat×AVal}(h:e∈u):∃ A,(e.1,A)∈zE7 g u [] S:=by
 unfold zE7;refine xJ3 ?_;simp only[zY4,zI5,List.mem_append,List.mem_filter];cases hc:Nat.beq e.1 zA6 with
 |true=>exact .inr (.inr (.inl ⟨h,rfl⟩))
 |false=>exact .inl ⟨h,by simp⟩
theorem xJ5 {d s:Nat}{want:Bool}{τ:Ty}{x:τ.den}{u:St}{v:Value}{G':Gh}{w':World}(hlen:a.tmps.size=n)(hd:d<n)(hdc:Nat.beq d zA6=false)(hi:xE1 a.tmps (some (s,want,true)))(hA:(zG0 (some (s,want,true)) (.val τ x)).hung d=false)
  (h:Rel n χ0 w0 ((d,.val τ x)::u++S) (a.put (some d) v) w' G'):Rel n χ0 w0 ((d,zG0 (some (s,want,true)) (.val τ x))::zE7 true u [] S++S) (a.put (some d) v) w' G':=by
 refine⟨h.len,h.defers,fun k=>?_,h.frame,h.glob⟩;have hs:=h.reps k;by_cases e:d=k
 ·subst e;simp[St.get] at hs ⊢;have hne:s≠d:=by
   intro e;simp_all [zG0,AVal.hung]
  refine⟨?_,fun _=>hs,fun e=>by grind⟩;rw[zD5 (by grind),if_neg hne];exact hi s want true rfl
 ·have hb:Nat.beq d k=false:=by
   grind [Nat.beq,absurd,Nat.eq_of_beq_eq_true]
  have hs:zA G' w' (a.put (some d) v).tmps (some k) (St.get (u++S) k) ((a.put (some d) v).tmps.getD k undef):=by simpa[St.get,hb,hdc] using hs
  have hg:St.get ((d,zG0 (some (s,want,true)) (.val τ x))::zE7 true u [] S++S) k=St.get (zE7 true u [] S++S) k:=by simp[St.get,hb,hdc]
  rw[hg];unfold zE7;rcases yC0 (g:=true) (d1:=u) (d2:=[]) (S:=S) (s:=k) (ks:=zY4 u++(zY4 []++(zI5 u++zI5 []))) (R:=S) with e|e|⟨e1,e2,e⟩
  ·rw[e];simp only[zA]
  ·rw[e];exact yD4 hs
  ·rw[e,← (yP9 e1 e2).1];exact hs
theorem yV1 (hc:CtxOk P c)(hR:Rel c.n χ0 w0 S a w G){q:Nat×Bool×Bool}(hi:xE1 a.tmps (some q))(hon:yP1 a.tmps (some q)){o:Oper}{fo:Operand}{args:Array Operand}{ats:Array TypeId}{f:Nat}{cs:AVal}{r:List AVal}{p:List Prop}{u:St}{hv:Bool}
  (ho:o.op=.call { callee:=.value fo,args,argTypes:=ats }) (hf:zA G w a.tmps none (.fn f cs) (a.eval fo)) (hr:zH6 (zA G w a.tmps none) r (args.toList.map a.eval)) (hcs:zI3 cs=true)
  (h:yR2 c q o.dst f (r++cs.toL) S=some (p,u,hv))
  (hlt:∀ e∈u,e.1<zA6) (hdo:∀ d,o.dst=some d→d<c.n) (hh:∀ s,∀ e∈u,(S.get s).hung e.1=false) (huu:∀ e∈u,∀ e'∈u,e.2.hung e'.1=false) (hp:∀ q∈p,q)
  {next:Act→World→Prop}{Q:Exit→Act→World→Prop}(hnext:∀ v w' G',Rel c.n χ0 w0 (u++S) (a.put o.dst v) w' G'→next (a.put o.dst v) w'):o.wpIn (fz rd) 0 P a w next Q:=by
 obtain⟨s,want,g⟩:=q;have hg:g=true:=(hi s want g rfl).1 (hon s want g rfl);subst hg;unfold yR2 at h;split at h
 ·rename_i p0 d' τ x u0 hv0 d hl hd;cases hdd:Nat.beq d' d with
  |false=>simp only[hdd,cond_false] at h;cases h
  |true =>
   have hdd:=Nat.eq_of_beq_eq_true hdd;subst hdd;simp only[Nat.beq_refl,cond_true,Option.some.injEq,Prod.mk.injEq] at h;obtain⟨rfl,rfl,_⟩:=h;have hkey:∀ e∈(d',AVal.val τ x)::u0,∃ A,(e.1,A)∈(d',zG0 (some (s,want,true)) (.val τ x))::zE7 true u0 [] S:=by
    intro e he;rcases List.mem_cons.1 he with he|he
    ·subst he;exact⟨_,List.mem_cons_self⟩
    ·obtain⟨A,hA⟩:=xJ4 (g:=true) (S:=S) he;exact⟨A,List.mem_cons_of_mem _ hA⟩
   refine yJ3 hc hR ho hf hr hcs hl (fun e he=>?_) hdo (fun k e he=>?_) (zM3 hi hon hp) (fun v w' G' h'=>?_)
   ·obtain⟨A,hA⟩:=hkey e he;have:=hlt (e.1,A) hA;exact this
   ·obtain⟨A,hA⟩:=hkey e he;have:=hh k (e.1,A) hA;exact this
   ·refine hnext v w' G' ?_;rw[hd] at h' ⊢;exact xJ5 hR.len (hdo _ hd) (by
     have h1:d'<zA6:=hlt _ List.mem_cons_self;cases h2:Nat.beq d' zA6 with
     |false=>rfl
     |true=>exact absurd (Nat.eq_of_beq_eq_true h2) (Nat.ne_of_lt h1)) hi (huu _ List.mem_cons_self _ List.mem_cons_self) h'
 ·cases h
end Go.Am
namespace Go.Am
open Go Go.RowKit
variable {rd:Option Nat}{gtab:GlobTab}{P:Program}{c:Ctx}{G:Gh}{w:World}{tm:Array Value}{n:Nat}{χ0:Nat→Nat→Nat}{w0:World}{S:St}{a:Act}
theorem xR1 {tm:Array Value}{s:Nat}{b:Bool}:tm.getD s undef=.bool b↔tm[s]?=some (.bool b):=by
 simp;cases h:tm[s]? with
 |none=>simp[undef]
 |some v=>simp
theorem xJ6 {ops:Array Oper}{tm:Array Value}{j s:Nat}{b:Bool}(h:(ops.toList.map (·.dst))[j]?=some (some s)):(yielded ops tm j==some b)=true↔tm.getD s undef=.bool b:=by
 grind [bind,xR1,yielded]
theorem yV2 {ops:Array Oper}{o:Oper}{gd:Gd}(h:zN4 (ops.toList.map (·.dst)) S o.guard=some gd) :
  Region.wanted o (yielded ops a.tmps)=true↔yP1 a.tmps gd:=by
 unfold Region.wanted
 grind [zN4,Option.some.injEq,yP1,xJ6]
theorem xY2 {s:Nat}:∀ {u:St},(∀ e∈u,e.1≠zA6)→St.has s u=true→∃ B,(s,B)∈u∧u.get s=B:=by
 intro u
 induction u with
 |nil=>intro _ h;cases h
 |cons e r ih =>
  obtain⟨k,A⟩:=e;intro hc h;cases hk:Nat.beq k s with
  |true =>
   have:=Nat.eq_of_beq_eq_true hk;subst this;exact⟨A,List.mem_cons_self,by simp[St.get]⟩
  |false =>
   have hr:St.has s r=true:=by simpa[St.has,hk] using h
   obtain⟨B,h1,h2⟩:=ih (fun e he=>hc e (List.mem_cons_of_mem _ he)) hr;have hcut:Nat.beq k zA6=false:=by
    have:=hc (k,A) List.mem_cons_self;cases h3:Nat.beq k zA6 with
    |false=>rfl
    |true=>exact absurd (Nat.eq_of_beq_eq_true h3) this
   exact⟨B,List.mem_cons_of_mem _ h1,by simp[St.get,hk,hcut,h2]⟩
theorem xR2 {gd:Gd}{o:Oper}{xs0 xs:List AVal}{p:List Prop}{u:St}{hv:Bool}(hgd:gd≠none)(h:yO c gd o S xs0 xs=some (p,u,hv)) :
  ∃ d A u0,o.dst=some d∧(u=[(d,zG0 gd A)]∨∃ s want g,gd=some (s,want,g)∧u=(d,zG0 gd A)::zE7 g u0 [] S):=by
 cases gd with
 |none=>exact absurd rfl hgd
 |some q =>
 unfold yO at h;split at h
 ·split at h
  ·unfold yE8 at h;split at h
   ·rename_i d C A B hd;split at h
    ·split at h
     ·simp only[Option.some.injEq,Prod.mk.injEq] at h;obtain⟨_,rfl,_⟩:=h;exact⟨d,_,[],hd,.inl rfl⟩
     ·cases h
    ·cases h
   ·cases h
  ·cases h
 ·split at h
  ·simp_all
  ·simp_all
  ·cases h
 ·split at h
  ·simp_all
  ·cases h
 ·split at h
  ·rename_i f cs r;cases hpl:zI3 cs with
   |false=>simp only[hpl,cond_false] at h;cases h
   |true =>
    simp only[hpl,cond_true] at h;unfold yN9 at h;generalize hx:zV8 c (some q) o.dst f (r++cs.toL)=y at h;cases y with
    |some q' =>
     simp only[zF1,Option.some.injEq] at h;subst h;unfold zV8 at hx;split at hx
     ·rename_i p0 τ x d he hd;simp only[Option.some.injEq,Prod.mk.injEq] at hx;obtain⟨_,rfl,_⟩:=hx;exact⟨_,_,[],by assumption,.inl rfl⟩
     ·cases hx
     ·cases hx
    |none =>
     simp only[zF1] at h;generalize hcs:zI4 c (some q) o.dst f (r++cs.toL) ((r++cs.toL).map (zA3 S)) S=x at h;cases x with
     |none =>
      simp only at h;unfold yL0 at h;simp only at h;generalize hcg:yR1 c (some q) o.dst f (r++cs.toL) S=z at h;cases z with
      |none =>
      simp only[zF1] at h;unfold yR2 at h;split at h
      ·rename_i p0 d' τ x u0 hv0 d hl hd;cases hdd:Nat.beq d' d with
       |false=>simp only[hdd,cond_false] at h;cases h
       |true =>
        simp only[hdd,cond_true,Option.some.injEq,Prod.mk.injEq] at h;obtain⟨_,rfl,_⟩:=h;exact⟨d,_,u0,by assumption,.inr ⟨q.1,q.2.1,q.2.2,rfl,rfl⟩⟩
      ·cases h
      |some q' =>
      simp only[zF1,Option.some.injEq] at h;subst h;rename_i h;replace h:=hcg;unfold yR1 at h;split at h
      ·rename_i p0 d t l T m _ hl;simp only[Option.some.injEq,Prod.mk.injEq] at h;obtain⟨_,rfl,_⟩:=h;exact⟨_,_,[],zZ8 hl,.inl rfl⟩
      ·rename_i p0 d τ x _ hl;simp only[Option.some.injEq,Prod.mk.injEq] at h;obtain⟨_,rfl,_⟩:=h;exact⟨_,_,[],zZ8 hl,.inl rfl⟩
      ·cases h
     |some q' =>
      simp only[Option.some.injEq] at h;subst h;unfold zI4 at hcs;split at hcs
      ·cases hcs
      ·rename_i co hco;generalize (yC6 co.outs 0 _&&zF9 co.res&&_&&_)=b at hcs;cases b with
       |false=>simp only[Bool.not_false,cond_true] at hcs;cases hcs
       |true =>
        simp only[Bool.not_true,cond_false] at hcs;split at hcs
        ·split at hcs
         ·rename_i d τ x hd;simp only[Option.some.injEq,Prod.mk.injEq] at hcs;obtain⟨_,rfl,_⟩:=hcs;exact⟨_,_,[],by assumption,.inl rfl⟩
         ·cases hcs
        ·cases hcs
  ·cases h
 ·simp at h
 ·unfold zL at h;split at h
  ·cases h
  ·rename_i d hd;split at h
   ·cases h
   ·rename_i p' A hA;cases hf:zY5 o.op with
    |true =>
     simp only[hf,cond_true,Option.isNone_some,Bool.false_and,cond_false] at h;unfold gMk at h;split at h
     ·rename_i q' t l T m e;cases hb':(zV0 d S&&zC0 d S&&Nat.beq T d&&!t.isL) with
      |false=>simp only[hb',cond_false] at h;cases h
      |true =>
       simp only[hb',cond_true,Option.some.injEq,Prod.mk.injEq] at h;injection e with e
       subst e;exact⟨d,_,[],hd,.inl h.2.1.symm⟩
     ·cases h
    |false =>
     simp only[hf,cond_false,Option.some.injEq,Prod.mk.injEq] at h;obtain⟨_,rfl,_⟩:=h;exact⟨d,A,[],hd,.inl rfl⟩
theorem yZ9 (hc:CtxOk P c)(hR:Rel c.n χ0 w0 S a w G){gd:Gd}(hi:xE1 a.tmps gd)(hon:yP1 a.tmps gd){o:Oper}{p:List Prop}{u:St}{hv:Bool}
  (h:yO c gd o S ((zD9 o.op).map (arg S)) (((zD9 o.op).map (arg S)).map (zF3 gd))=some (p,u,hv))
  (hlt:∀ e∈u,e.1<zA6) (hdo:∀ d,o.dst=some d→d<c.n) (hh:∀ s,∀ e∈u,(S.get s).hung e.1=false) (huu:∀ e∈u,∀ e'∈u,e.2.hung e'.1=false) (hp:∀ q∈p,q)
  {next:Act→World→Prop}{Q:Exit→Act→World→Prop}(hnext:∀ v w' G',Rel c.n χ0 w0 (u++S) (a.put o.dst v) w' G'→next (a.put o.dst v) w'):o.wpIn (fz rd) 0 P a w next Q:=by
 have hargs:=xE hR hon (zD9 o.op);unfold yO at h;split at h
 ·split at h
  ·rename_i x y z ho;rw[ho] at h;exact xH7 hR hc.n hi hon ho h hlt hdo hh huu hnext
  ·cases h
 ·split at h
  ·rename_i T x y A v hd ho hl;rw[ho] at hargs hl;simp only[zD9,List.map_cons,List.map_nil,List.cons.injEq,and_true] at hl hargs;obtain⟨rfl,rfl⟩:=hl;simp only[zH6] at hargs;exact yZ1 hc hR ho hd hargs.1 hargs.2.1 h hlt hp hnext
  ·rename_i T x y z A k v hd ho hl;rw[ho] at hargs hl;simp only[zD9,List.map_cons,List.map_nil,List.cons.injEq,and_true] at hl hargs;obtain⟨rfl,rfl,rfl⟩:=hl;simp only[zH6] at hargs;exact yP7 hc hR ho hd hargs.1 hargs.2.1 hargs.2.2.1 h hlt hnext
  ·cases h
 ·rename_i hk;split at h
  ·rename_i d cl args ats A B hd ho hl;split at h
   ·rename_i T T' hats;cases hT:Nat.beq T T' with
    |false=>simp[hT] at h
    |true =>
     have:=Nat.eq_of_beq_eq_true hT;subst this;simp only[hT,cond_true] at h;have hcl:cl=.builtin .append:=by
      rw[ho] at hk;unfold zR0 at hk;split at hk<;>simp_all
     subst hcl;rw[ho] at hl hargs;simp only[zD9] at hl hargs;rw[hl] at hargs;have:∃ va vb,args.toList.map a.eval=[va,vb]∧zA G w a.tmps none A va∧zA G w a.tmps none B vb:=by
      generalize hm:args.toList.map a.eval=m at hargs;cases m with
      |nil=>simp[zH6] at hargs
      |cons va m =>
       cases m with
       |nil=>simp[zH6] at hargs
       |cons vb m =>
        cases m with
        |nil=>simp only[zH6] at hargs;exact⟨va,vb,rfl,hargs.1,hargs.2.1⟩
        |cons _ _=>simp[zH6] at hargs
     obtain⟨va,vb,hm,hA,hB⟩:=this;exact yB8 hc hR ho hats hd hm hA hB h hlt (hdo _ hd) hh hp hnext
   ·cases h
  ·cases h
 ·rename_i hk;split at h
  ·rename_i f cs r hl;cases hpl:zI3 cs with
   |false=>simp[hpl] at h
   |true =>
    simp only[hpl,cond_true] at h;have:∃ fo args ats,o.op=.call { callee:=.value fo,args,argTypes:=ats }:=by
     unfold zR0 at hk;split at hk<;>first|exact absurd hk (by decide) | (rename_i fo args ats ho;exact⟨_,_,_,ho⟩)
    obtain⟨fo,args,ats,ho⟩:=this;rw[ho] at hl hargs;simp only[zD9] at hl hargs;rw[hl] at hargs;simp only[List.map_cons,zH6] at hargs;unfold yN9 at h;generalize hx:zV8 c gd o.dst f (r++cs.toL)=y at h;cases y with
    |some q' =>
     simp only[zF1,Option.some.injEq] at h;subst h;exact xR0 hc hR hi hon ho hargs.1 hargs.2 hpl hx hlt hdo hh huu hp hnext
    |none =>
     simp only[zF1] at h;generalize hcs:zI4 c gd o.dst f (r++cs.toL) ((r++cs.toL).map (zA3 S)) S=x at h;cases x with
     |some q' =>
      simp only[Option.some.injEq] at h;subst h;exact xI5 hc hR hi hon ho hargs.1 hargs.2 hpl hcs hlt hdo hh huu hp hnext
     |none =>
      simp only at h;unfold yL0 at h;cases gd with
      |some q =>
       simp only at h;generalize hcg:yR1 c (some q) o.dst f (r++cs.toL) S=z at h;cases z with
       |some q' =>
        simp only[zF1,Option.some.injEq] at h;subst h;exact yZ8 hc hR hi hon ho hargs.1 hargs.2 hpl hcg hlt hdo hh huu hp hnext
       |none =>
        simp only[zF1] at h;exact yV1 hc hR hi hon ho hargs.1 hargs.2 hpl h hlt hdo hh huu hp hnext
      |none =>
       simp only[zF1] at h;generalize hl:yE0 c o.dst f (r++cs.toL) ((r++cs.toL).map (zA3 S)) S=z at h;cases z with
       |some q' =>
        simp only[Option.some.injEq] at h;subst h;exact zW6 hc hR ho hargs.1 hargs.2 hpl hl hlt hdo hh hp hnext
       |none =>
        simp only at h;generalize hl2:xF7 c o.dst f (r++cs.toL) S=z at h;cases z with
        |some q' =>
         simp only[Option.some.injEq] at h;subst h;exact yZ7 hc hR ho hargs.1 hargs.2 hpl hl2 hlt hdo hh hp hnext
        |none =>
         simp only at h;exact yJ3 hc hR ho hargs.1 hargs.2 hpl h hlt hdo hh hp hnext
  ·cases h
 ·split at h
  ·simp only[Option.some.injEq,Prod.mk.injEq] at h;exact (hp False (by rw[← h.1];simp)).elim
  ·cases h
 ·exact xH9 hc hR hi hon h hlt hdo hh huu hp hnext
theorem zN1 (hc:CtxOk P c)(hR:Rel c.n χ0 w0 S a w G){ops:Array Oper}{i:Nat}{o:Oper}(ho:ops[i]?=some o){p:List Prop}{u:St}{hv:Bool}
  (h:zR4 c (ops.toList.map (·.dst)) o S=some (p,u,hv))
  (hlt:∀ e∈u,e.1<zA6) (hdo:∀ d,o.dst=some d→d<c.n) (hh:∀ s,∀ e∈u,(S.get s).hung e.1=false) (huu:∀ e∈u,∀ e'∈u,e.2.hung e'.1=false) (hp:∀ q∈p,q)
  {next:Act→World→Prop}{Q:Exit→Act→World→Prop}(hnext:∀ v w' G',Rel c.n χ0 w0 (u++S) (a.put o.dst v) w' G'→next (a.put o.dst v) w'):wpOpIn (fz rd) 0 P ops Q i next a w:=by
 unfold zR4 at h;split at h
 ·grind
 ·rename_i gd hgd;have hi:=xH3 hR hgd;unfold wpOpIn;rw[ho];simp only;by_cases hw:Region.wanted o (yielded ops a.tmps)=true
  ·grind [yZ9,yV2]
  ·rw[if_neg hw];have hoff:¬ yP1 a.tmps gd:=fun e=>hw ((yV2 hgd).2 e);cases gd with
   |none=>grind [yP1]
   |some q =>
    obtain⟨s,want,g⟩:=q;have hoff':a.tmps.getD s undef≠.bool want:=fun e=>hoff (by intro s' want' g' e';obtain⟨rfl,rfl,rfl⟩:=e';exact e);obtain⟨d,A,u0,hd,rfl|⟨s',want',g',e',rfl⟩⟩:=xR2 (by simp) h
    ·rw[hd];have:=zZ6 (A:=A) hR hc.n hi hoff' (hdo d hd) (fun s=>hh s _ (List.mem_singleton.2 rfl)) (huu _ (List.mem_singleton.2 rfl) _ (List.mem_singleton.2 rfl));rw[← hd] at this ⊢;exact⟨fun _ _=>trivial,hnext _ _ _ this⟩
    ·obtain⟨rfl,rfl,rfl⟩:s=s'∧want=want'∧g=g':=by simpa using e'
     have hg:g=false:=by
      cases g with
      |false=>rfl
      |true=>exact absurd ((hi s want true rfl).2 rfl) hoff'
     subst hg;have hm:Rel c.n χ0 w0 (zE7 false u0 [] S++S) a w G:=zM6 (d1:=u0) (d2:=[]) hR;have hgm:∀ k,((zE7 false u0 [] S++S).get k).hung d=false:=fun k=>by
      cases hk:St.has k (zE7 false u0 [] S) with
      |true =>
       have hcut:∀ e∈zE7 false u0 [] S,e.1≠zA6:=fun e he=>Nat.ne_of_lt (hlt e (List.mem_cons_of_mem _ he));rw[zZ4 hcut hk];obtain⟨B,hB,e⟩:=xY2 hcut hk;rw[e];exact huu _ (List.mem_cons_of_mem _ hB) _ List.mem_cons_self
      |false =>
       have hcut:∀ e∈zE7 false u0 [] S,e.1≠zA6:=fun e he=>Nat.ne_of_lt (hlt e (List.mem_cons_of_mem _ he));rw[zJ8 hcut hk];exact hh k _ List.mem_cons_self
     have:=zZ6 (A:=A) hm hc.n hi hoff' (hdo d hd) hgm (huu _ List.mem_cons_self _ List.mem_cons_self);rw[hd];rw[← hd] at this ⊢;exact⟨fun _ _=>trivial,hnext _ _ _ this⟩
end Go.Am
namespace Go.Am
open Go Go.RowKit
variable {rd:Option Nat}{gtab:GlobTab}{P:Program}{c:Ctx}{G:Gh}{w:World}{tm:Array Value}{n:Nat}{χ0:Nat→Nat→Nat}{w0:World}{S:St}{a:Act}
theorem xY3 {u u':St}(h:wB6 c S u=some u')(hR:Rel c.n χ0 w0 (u++S) a w G)(hn:c.n≤vNo)(hlt:∀ e∈u',e.1<zA6):∃ G',Rel c.n χ0 w0 (u'++S) a w G':=by
 unfold wB6 at h;split at h
 ·rename_i d t l T r;generalize (Nat.beq T d&&!(c.wr.any (Nat.beq d)))=b at h;cases b with
  |false=>grind
  |true =>
   generalize ht:(zC0 T (r++S)&&!t.isL)=b at h;cases b with
   |false=>grind
   |true =>
    simp  at ht;simp  at h;subst h;exact xP5 hR hn (hlt _ (List.mem_cons_self ..)) ht.1 ht.2
 grind
theorem xR3 {u u':St}(h:wB6 c S u=some u'):u=u'∨∃ d t l T r,u=(d,.own t l T true)::r∧u'=(d,.own t l T false)::r∧T=d∧zC0 T (r++S)=true:=by
 unfold wB6 at h;split at h
 ·rename_i d t l T r;generalize hb:(Nat.beq T d&&!(c.wr.any (Nat.beq d)))=b at h;cases b with
  |false=>grind
  |true =>
   simp only[Bool.and_eq_true] at hb;generalize ht:(zC0 T (r++S)&&!t.isL)=b at h;cases b with
   |false=>grind
   |true =>
    simp  at ht;simp  at h;exact .inr ⟨d,t,l,T,r,rfl,h.symm,Nat.eq_of_beq_eq_true hb.1,ht.1⟩
 grind
theorem xY4 (u:St)(h:Bool):xW0 c u h=u∨∃ d τ x,u=[(d,.val τ x)]∧xW0 c u h=[(d,.junk)]:=by
 unfold xW0;split
 ·rename_i d τ x;cases c.dead.any (Nat.beq d) with
  |true=>exact .inr ⟨d,τ,x,rfl,rfl⟩
  |false=>exact .inl rfl
 ·exact .inl rfl
theorem yJ4 (hc:CtxOk P c)(hR:Rel c.n χ0 w0 S a w G){ops:Array Oper}{i:Nat}{o:Oper}(ho:ops[i]?=some o){p:List Prop}{u:St}{hv:Bool}
  (h:yE1 c (ops.toList.map (·.dst)) o S=some (p,u,hv))
  (hlt:∀ e∈u,e.1<zA6) (hdo:∀ d,o.dst=some d→d<c.n) (hh:∀ s,∀ e∈u,(S.get s).hung e.1=false) (huu:∀ e∈u,∀ e'∈u,e.2.hung e'.1=false) (hp:∀ q∈p,q)
  {next:Act→World→Prop}{Q:Exit→Act→World→Prop}(hnext:∀ v w' G',Rel c.n χ0 w0 (u++S) (a.put o.dst v) w' G'→next (a.put o.dst v) w'):wpOpIn (fz rd) 0 P ops Q i next a w:=by
 unfold yE1 at h;split at h
 ·grind
 ·rename_i p0 u0 h0 hst;cases hmk:wE3 o.op with
  |false =>
   simp only[hmk,cond_false,Option.some.injEq,Prod.mk.injEq] at h;obtain⟨rfl,rfl,rfl⟩:=h;rcases xY4 (c:=c) u0 h0 with e|⟨d,τ,x,rfl,e⟩
   ·rw[e] at hlt hh huu hnext;exact zN1 hc hR ho hst hlt hdo hh huu hp hnext
   ·rw[e] at hlt hh huu hnext;refine zN1 hc hR ho hst (fun e he=>?_) hdo (fun s e he=>?_) (fun e he e' he'=>?_) hp fun v w' G' hR'=>?_
    ·rw[List.mem_singleton] at he;subst he;have:=hlt (d,.junk) (List.mem_singleton.2 rfl);exact this
    ·rw[List.mem_singleton] at he;subst he;have:=hh s (d,.junk) (List.mem_singleton.2 rfl);exact this
    ·rw[List.mem_singleton] at he;subst he;rfl
    ·refine hnext v w' G' ⟨hR'.len,hR'.defers,fun s=>?_,hR'.frame,hR'.glob⟩;have hs:=hR'.reps s;simp only[List.cons_append,List.nil_append,St.get] at hs ⊢;cases hb:Nat.beq d s with
     |true=>simp only[cond_true,zA]
     |false=>simpa only[hb,cond_false] using hs
  |true =>
   simp[hmk,cond_true] at h;split at h
   ·rename_i u' hu';obtain⟨rfl,rfl,rfl⟩:=h;rcases xR3 hu' with rfl|⟨d,t,l,T,r,rfl,rfl,_,_⟩
    ·grind [zN1]
    ·refine zN1 hc hR ho hst (fun e he=>?_) hdo (fun s e he=>?_) (fun e he e' he'=>?_) hp fun v w' G' hR'=>?_
     ·grind [List.mem_cons_self,List.mem_cons_of_mem]
     ·grind [List.mem_cons_self,List.mem_cons_of_mem]
     ·have hk:∀ e∈((d,AVal.own t l T true)::r),∃ e''∈((d,AVal.own t l T false)::r),e''.1=e.1∧∀ q,e''.2.hung q=e.2.hung q:=by
       intro e he;rcases List.mem_cons.1 he with rfl|he
       ·exact⟨_,List.mem_cons_self ..,rfl,fun q=>rfl⟩
       ·exact⟨e,List.mem_cons_of_mem _ he,rfl,fun q=>rfl⟩
      grind
     ·obtain⟨G'',hR''⟩:=xY3 hu' hR' hc.n hlt
      grind
   grind
end Go.Am
namespace Go.Am
open Go Go.RowKit
variable {rd:Option Nat}{gtab:GlobTab}{P:Program}{c:Ctx}{G:Gh}{w:World}{tm:Array Value}{n:Nat}{χ0:Nat→Nat→Nat}{w0:World}{S:St}{a:Act}
theorem yA {S':St}(h:∀ s,S'.get s=S.get s)(hR:Rel n χ0 w0 S a w G):Rel n χ0 w0 S' a w G:=
 ⟨hR.len,hR.defers,fun s=>by rw[h];exact hR.reps s,hR.frame,hR.glob⟩
def uAt (ts:List Tr)(i:Nat):St:=match ts[i]? with|some t=>t.u|none=>[]
def exe (ts:List Tr):List Nat→St
 |[]=>[]
 |i::l=>uAt ts i++exe ts l
def tex (ts:List Tr):Nat→St
 |0=>[]
 |k+1=>uAt ts k++tex ts k
theorem yA0 {t:Tr}{ts:List Tr}:∀ {k:Nat},tex (t::ts) (k+1)=tex ts k++t.u:=by
 intro k
 induction k<;>grind [tex,uAt]
def Fam [GlobTab] (c:Ctx)(dsts:List (Option Nat))(ops:List Oper)(S U:St)(ts:List Tr)(p:List Prop):Prop:=
 ∀ i o,ops[i]?=some o→∃ pi hv,yE1 c dsts o ((tex ts i++U)++S)=some (pi,uAt ts i,hv)∧ts[i]?=some (yK3 dsts o ((tex ts i++U)++S) (uAt ts i) hv) ∧
  (∀ q∈pi,q∈p)∧(∀ e∈uAt ts i++(tex ts i++U),xF8 (uAt ts i) e.2=false)∧(∀ e∈uAt ts i,e.1<zA6)∧∀ d,o.dst=some d→d<c.n
theorem xJ7 {dsts:List (Option Nat)}:∀ {ops:List Oper}{U:St}{p:List Prop}{U':St}{ts:List Tr},xD0 c dsts ops S U=some (p,U',ts) →
  ts.length=ops.length∧U'=tex ts ops.length++U∧Fam c dsts ops S U ts p:=by
 intro ops
 induction ops with
 |nil =>
  intro U p U' ts h;obtain⟨rfl,rfl,rfl⟩:=h;exact⟨rfl,rfl,fun i o ho=>by grind⟩
 |cons o r ih =>
  intro U p U' ts h;unfold xD0 at h;split at h
  ·grind
  ·rename_i p0 u hv hst;rw[St.force_eq] at h;cases hb:((u++U).any (fun e=>xF8 u e.2)||(!(u.all fun e=>Nat.blt e.1 zA6)||!(wF9 c o.dst))) with
   |true=>simp only[hb,cond_true] at h;grind
   |false =>
    simp only[hb,cond_false] at h;split at h
    ·grind
    ·rename_i p' u' t' hr;simp only[Option.some.injEq,Prod.mk.injEq] at h;obtain⟨rfl,rfl,rfl⟩:=h;obtain⟨h1,h2,h3⟩:=ih hr;simp only[Bool.or_eq_false_iff,Bool.not_eq_false',List.any_eq_false,List.all_eq_true] at hb;refine⟨by grind,by grind [List.length_cons,yA0,yK3],fun i o' ho=>?_⟩;cases i with
     |zero =>
      simp only[List.getElem?_cons_zero,Option.some.injEq] at ho;subst ho;refine⟨p0,hv,?_,?_,fun q hq=>List.mem_append_left _ hq,fun e he=>?_,fun e he=>?_,fun d hd=>?_⟩
      ·grind [tex,uAt,yK3]
      ·simp[tex,uAt,yK3]
      ·grind [tex,uAt,yK3]
      ·have:=hb.2.1 e (by simpa[uAt,yK3] using he);exact Nat.le_of_ble_eq_true this
      ·have:=hb.2.2;rw[hd] at this;exact Nat.le_of_ble_eq_true this
     |succ i =>
      simp only[List.getElem?_cons_succ] at ho;obtain⟨pi,hv',q1,q2,q3,q4,q5⟩:=h3 i o' ho;have e1:∀ t:Tr,uAt (t::t') (i+1)=uAt t' i:=fun t=>by simp[uAt]
      refine⟨pi,hv',?_,?_,fun q hq=>List.mem_append_right _ (q3 q hq),fun e he=>?_,fun e he=>?_,q5.2⟩
      ·rw[yA0,e1];simpa[yK3] using q1
      ·rw[yA0,e1];simpa[yK3] using q2
      ·rw[yA0,e1] at he;rw[e1];exact q4 e (by simpa[yK3] using he)
      ·rw[e1] at he;exact q5.1 e he
theorem zL5:∀ {A:AVal}{d:Nat},A.hasOpt=false→A.hung d=false:=by
 intro A
 induction A<;>grind [AVal.hasOpt,Bool.or_eq_false_iff,AVal.hung]
theorem zO8 {u:St}{A:AVal}(h:xF8 u A=false):∀ e∈u,A.hung e.1=false:=by
 grind [xF8,List.any_eq_false]
theorem zX0 {q:AVal→Prop}(hj:q .junk):∀ {S:St}{s:Nat},(∀ e∈S,q e.2)→q (S.get s):=by
 intro S
 induction S<;>grind [St.get]
section region
variable {ops:Array Oper}{ts:List Tr}{p:List Prop}
theorem yQ (hc:CtxOk P c)(hF:Fam c (ops.toList.map (·.dst)) ops.toList S [] ts p)(hS:∀ e∈S,e.2.hasOpt=false)(hp:∀ q∈p,q){i:Nat}{o:Oper}(ho:ops[i]?=some o)
  (hR:Rel c.n χ0 w0 (tex ts i++S) a w G){next:Act→World→Prop}{Q:Exit→Act→World→Prop}
  (hnext:∀ v w' G',Rel c.n χ0 w0 (uAt ts i++(tex ts i++S)) (a.put o.dst v) w' G'→next (a.put o.dst v) w'):wpOpIn (fz rd) 0 P ops Q i next a w:=by
 obtain⟨pi,hv,q1,q2,q3,q4,q5⟩:=hF i o (by grind);simp only[List.append_nil] at q1 q2 q4;refine yJ4 hc hR ho q1 q5.1 q5.2 (fun s e he=>?_) (fun e he e' he'=>?_) (fun q hq=>hp q (q3 q hq)) hnext
 ·refine zX0 (q:=fun A=>A.hung e.1=false) rfl fun e' he'=>?_;rcases List.mem_append.1 he' with h|h
  ·exact zO8 (q4 e' (List.mem_append_right _ h)) e he
  ·exact zL5 (hS e' h)
 grind [zO8,List.mem_append_left]
theorem xY5 {K:Act→Prop}(hK:∀ o∈ops.toList,∀ a v,K a→K (a.put o.dst v))(hc:CtxOk P c)(hF:Fam c (ops.toList.map (·.dst)) ops.toList S [] ts p)(hS:∀ e∈S,e.2.hasOpt=false)(hp:∀ q∈p,q){Q:Exit→Act→World→Prop}
  (hQ:∀ a' w' G',Rel c.n χ0 w0 (tex ts ops.size++S) a' w' G'→K a'→Q .normal a' w') :
  ∀ k i,i+k=ops.size→∀ a w G,Rel c.n χ0 w0 (tex ts i++S) a w G→K a→wpOpsIn (fz rd) 0 P ops Q (List.range' i k) a w:=by
 intro k
 induction k with
 |zero=>grind [wpOpsIn]
 |succ k ih =>
  intro i e a w G hR hk;have hlt:i<ops.size:=by omega
  refine yQ hc hF hS hp (Array.getElem?_eq_getElem hlt) hR fun v w' G' hR'=>?_;refine ih (i+1) (by omega) _ _ G' ?_ (hK _ (by simp) _ _ hk)
  grind [tex,List.append_assoc]
end region
end Go.Am
namespace Go.Am
open Go Go.RowKit
variable {gtab:GlobTab}{P:Program}{c:Ctx}{S S':St}
theorem xY6 {t:Nat}:∀ {l:List Operand},Operand.tmp t∈l→t∈zV5 l:=by
 intro l
 induction l with
 |nil=>grind
 |cons y l ih =>
  intro hx;rcases List.mem_cons.1 hx with rfl|hx
  ·simp[zV5]
  ·cases y<;>simp[zV5]<;>first|grind|grind
theorem xR4 {x:Operand}{l:List Operand}(hx:x∈l)(h:∀ r∈zV5 l,S'.get r=S.get r):arg S' x=arg S x:=by
 cases x<;>grind [arg,xY6]
theorem xJ8 {l:List Operand}(h:∀ r∈zV5 l,S'.get r=S.get r):l.map (arg S')=l.map (arg S):=
 List.map_congr_left fun _ hx=>xR4 hx h
theorem xA {dsts:List (Option Nat)}{g:Option (Nat×Bool)}(h:∀ r∈zR5 dsts g,S'.get r=S.get r):zN4 dsts S' g=zN4 dsts S g:=by
 cases g<;>grind [zN4,zR5]
theorem xY7 {A:AVal}{s:Nat}:∀ {l:List AVal},A∈l→zD0 A=some s→s∈yK2 l:=by
 intro l
 induction l with
 |nil=>grind
 |cons B l ih =>
  intro h hs;rcases List.mem_cons.1 h with rfl|h
  ·cases A<;>simp[zD0] at hs<;>simp[yK2,hs]
  ·cases B<;>simp[yK2]<;>first|grind|grind
theorem yV3 {A:AVal}(h:zD0 A=none):zA3 S' A=zA3 S A:=by
 cases A<;>first|rfl|grind [zD0]
theorem yA1 {A:AVal}{l:List AVal}(hA:A∈l)(h:∀ r∈yK2 l,S'.get r=S.get r):zA3 S' A=zA3 S A:=by
 cases hs:zD0 A with
 |none=>exact yV3 hs
 |some s =>
  have:=h s (xY7 hA hs);cases A<;>simp[zD0] at hs<;>(grind [zA3])
theorem yJ5 {gd:Gd}{A:AVal}:zF3 gd A=bare A∨zF3 gd A=.junk:=by
 cases A with
 |opt s w g A =>
  simp[zF3,bare]
  grind
 |_=>exact .inl rfl
theorem zQ7 {gd:Gd}{l:List AVal}(h:∀ r∈yK2 (l.map bare),S'.get r=S.get r):((l.map (zF3 gd)).map (zA3 S'))=((l.map (zF3 gd)).map (zA3 S)):=by
 rw[List.map_map,List.map_map];refine List.map_congr_left fun A hA=>?_;simp;rcases yJ5 (gd:=gd) (A:=A) with e|e
 ·grind [yA1,List.mem_map_of_mem]
 ·rw[e];rfl
theorem xA0 {l r:List AVal}:yK2 (l++r)=yK2 l++yK2 r:=by
 induction l with
 |nil=>rfl
 |cons A l ih=>cases A<;>simp[yK2,ih]
theorem yD5 {dsts:List (Option Nat)}{o:Oper}{p:List Prop}{u:St}(h:zR4 c dsts o S=some (p,u,false))(hr:∀ r∈(yK3 dsts o S u false).rd,S'.get r=S.get r)
  (hq:∀ e∈S',e∈S∨∀ d,o.dst=some d→yL1 d e.2=true):zR4 c dsts o S'=some (p,u,false):=by
 simp only[yK3] at hr;have h1:=xJ8 (gtab:=gtab) (l:=zD9 o.op) (S:=S) (S':=S') fun r hr'=>hr r (List.mem_append_left _ hr');have h2:=xA (dsts:=dsts) (g:=o.guard) (S:=S) (S':=S') fun r hr'=>hr r (List.mem_append_right _ (List.mem_append_left _ hr'));have h3:∀ r∈yK2 (wC6 o.op ((zD9 o.op).map (fun x=>bare (arg S x)))),S'.get r=S.get r:=fun r hr'=>hr r (List.mem_append_right _ (List.mem_append_right _ hr'));have htag:∀ d T,o.dst=some d→(T=d∨T=100000+d∨T=200000+d∨T=300000+d)→zC0 T S=true→zC0 T S'=true:=by
  intro d T hd hT hn;simp only[zC0,List.all_eq_true] at hn ⊢;intro e he;rcases hq e he with h' | h'
  ·exact hn e h'
  ·have:=h' d hd;simp only[yL1,Bool.and_eq_true] at this;obtain⟨_,q1,q2,q3,q4⟩:=this;rcases hT with rfl|rfl|rfl|rfl<;>assumption
 have href:∀ d,o.dst=some d→zV0 d S=true→zV0 d S'=true:=by
  intro d hd hn;simp only[zV0,List.all_eq_true] at hn ⊢;intro e he;rcases hq e he with h' | h'
  ·exact hn e h'
  ·have:=h' d hd;simp only[yL1,Bool.and_eq_true] at this;exact this.1
 unfold zR4 at h ⊢;rw[h2];split at h
 ·cases h
 ·rename_i gd hgd;rw[h1];generalize hX:(zD9 o.op).map (arg S)=X at h ⊢;have hXb:(zD9 o.op).map (fun x=>bare (arg S x))=X.map bare:=by rw[← hX,List.map_map];rfl
  rw[hXb] at h3;have hy:zR0 o.op≠3→wC6 o.op (X.map bare)=X.map bare:=by
   intro hk;unfold wC6;split
   ·rename_i ho _;rw[ho] at hk;simp[zR0] at hk
   ·rfl
  unfold yO at h ⊢;generalize hk:zR0 o.op=k at h ⊢ hy
  match k,hk,h,hy with
  |0,hk,h,hy=>exact h
  |1,hk,h,hy =>
   rw[hy (by decide)] at h3;simp only at h ⊢;split at h
   ·rename_i T x y A v h0 hd ho hl;have hcs:=zQ7 (gd:=none) h3;rw[hl] at hcs;simp only[List.map_cons,List.cons.injEq] at hcs;rw[hcs.1];unfold zY0 at h ⊢;split at h
    ·rename_i s0 U t i q;split at h
     ·unfold yG4 at h;split at h
      ·generalize (Ty.beq _ _&&Nat.beq _ _&&Nat.beq _ _&&c.is T _&&_&&_&&_)=b at h;cases b with
       |false=>simp at h
       |true =>
        simp only[cond_true] at h;split at h<;>simp at h
      ·cases h
     ·rename_i t' l U' hkk;cases hho:wC7 v with
      |true =>
       simp only[hho,cond_true] at h;unfold yG3 at h;split at h
       ·generalize (Ty.beq _ _&&Ty.beq _ _&&Nat.beq _ _&&c.is T _&&_&&_&&_)=b at h;cases b<;>simp at h
       ·cases h
      |false =>
      simp only[hho,cond_false] at h;cases hb:(Ty.beq t' t&&Nat.beq U' U&&c.is T (t'.pty q)&&AVal.fits (t'.pty q) v) with
      |false=>simp only[hb,cond_false] at h;cases h
      |true =>
       simp only[hb,cond_true] at h;split at h
       ·simp at h
       ·cases h
     ·cases h
    ·exact h
    ·exact h
   ·rename_i T x y z A k v h0 hd ho hl;unfold yN8 at h;split at h
    ·split at h
     ·split at h
      ·simp at h
      ·cases h
     ·cases h
    ·cases h
   ·cases h
  |2,hk,h,hy =>
   simp only at h;split at h
   ·split at h
    ·rename_i T T' hats;cases hT:Nat.beq T T' with
     |false=>simp[hT] at h
     |true =>
      simp only[hT,cond_true] at h;unfold zO0 at h;generalize zC0 _ S=b at h;cases b with
      |false=>cases h
      |true =>
       simp only[cond_true] at h;split at h
       ·simp at h
       ·split at h<;>simp at h
    ·cases h
   ·cases h
  |3,hk,h,hy =>
   simp only at h ⊢;split at h
   ·rename_i f cs r hl;cases hpl:zI3 cs with
    |false=>simp[hpl] at h
    |true =>
     simp only[hpl,cond_true] at h ⊢;have hct:(r++cs.toL).map (zA3 S')=(r++cs.toL).map (zA3 S):=by
      have:∃ fo args ats,o.op=.call { callee:=.value fo,args,argTypes:=ats }:=by
       unfold zR0 at hk;split at hk<;>first|exact absurd hk (by decide) | (rename_i fo args ats ho;exact⟨_,_,_,ho⟩)
      obtain⟨fo,args,ats,ho⟩:=this;cases X with
      |nil=>simp at hl
      |cons x0 X' =>
       simp only[List.map_cons,List.cons.injEq] at hl;obtain⟨hl1,rfl⟩:=hl;have hb0:bare x0=.fn f cs:=by
        rcases yJ5 (gd:=gd) (A:=x0) with e|e
        ·rw[← e,hl1]
        ·rw[e] at hl1;cases hl1
       rw[ho,List.map_cons,hb0] at h3;simp only[wC6,xA0] at h3;rw[List.map_append,List.map_append,zQ7 (fun r hr=>h3 r (List.mem_append_left _ hr))];congr 1;exact List.map_congr_left fun A hA=>yA1 hA fun r hr=>h3 r (List.mem_append_right _ hr)
     unfold yN9 at h ⊢;generalize hx:zV8 c gd o.dst f (r++cs.toL)=y at h ⊢;cases y with
     |some q'=>exact h
     |none =>
      simp only[zF1] at h ⊢;rw[hct];have hheavy:∀ q:List Prop×St×Bool,yL0 c gd o.dst f (r++cs.toL) S=some q→q.2.2=true∨(gd=none∧yE0 c o.dst f (r++cs.toL) ((r++cs.toL).map (zA3 S)) S=some q):=by
       intro q;unfold yL0;cases gd with
       |some _ =>
        intro e;simp only at e;generalize hcg:yR1 _ _ _ _ _ _=z at e;cases z with
        |some q' =>
         simp only[zF1,Option.some.injEq] at e;subst e;unfold yR1 at hcg;split at hcg
         ·simp only[Option.some.injEq] at hcg;rw[← hcg];exact .inl rfl
         ·simp only[Option.some.injEq] at hcg;rw[← hcg];exact .inl rfl
         ·cases hcg
        |none =>
         simp only[zF1] at e;unfold yR2 at e;split at e
         ·rename_i p0 d' τ x u0 hv0 d hl hd;cases hdd:Nat.beq d' d with
          |false=>simp only[hdd,cond_false] at e;cases e
          |true=>simp only[hdd,cond_true,Option.some.injEq] at e;rw[← e];exact .inl rfl
         ·cases e
       |none =>
        simp only;generalize hl:yE0 c o.dst f (r++cs.toL) ((r++cs.toL).map (zA3 S)) S=z;cases z with
        |some q' =>
         intro e;simp only[zF1,Option.some.injEq] at e;subst e;exact .inr ⟨trivial,rfl⟩
        |none =>
         simp only[zF1];generalize hc2:xF7 c o.dst f (r++cs.toL) S=z2;cases z2 with
         |some q' =>
          intro e;simp only[Option.some.injEq] at e;subst e;unfold xF7 at hc2;split at hc2
          ·generalize (_&&zC0 _ S)=bb at hc2;cases bb with
           |false=>cases hc2
           |true=>simp only[cond_true,Option.some.injEq] at hc2;rw[← hc2];exact .inl rfl
          ·cases hc2
         |none =>
         simp only;generalize hh:xF6 c o.dst f (r++cs.toL) S=z;cases z with
         |none=>intro e;cases e
         |some q' =>
          intro e;simp only[Option.some.injEq] at e;subst e;unfold xF6 at hh;split at hh
          ·cases hh
          ·split at hh
           ·cases hh
           ·generalize (_&&zR _)=bb at hh;cases bb with
            |false=>cases hh
            |true=>simp only[cond_true,Option.some.injEq] at hh;rw[← hh];exact .inl rfl
      generalize hcs:zI4 c gd o.dst f (r++cs.toL) ((r++cs.toL).map (zA3 S)) S=x at h;cases x with
      |none =>
       rcases hheavy _ h with e|⟨rfl,hL2⟩
       ·cases e
       ·have yR0:∀ d,o.dst=some d→(zC0 d S&&zC0 (100000+d) S&&zC0 (200000+d) S&&zC0 (300000+d) S)=true:=by
         intro d hd;unfold yE0 at hL2;split at hL2
         ·cases hL2
         ·split at hL2
          ·rename_i d' _ hd';rw[hd] at hd';injection hd' with hd'
           subst hd';generalize hb:(_&&zC0 (300000+d) S)=bb at hL2;cases bb with
           |false=>cases hL2
           |true=>simp only[Bool.and_eq_true] at hb ⊢;exact⟨⟨⟨hb.1.1.1.2,hb.1.1.2⟩,hb.1.2⟩,hb.2⟩
          ·cases hL2
        have hsame:∀ d,o.dst=some d→(zC0 d S'=zC0 d S∧zC0 (100000+d) S'=zC0 (100000+d) S∧zC0 (200000+d) S'=zC0 (200000+d) S∧zC0 (300000+d) S'=zC0 (300000+d) S):=by
         intro d hd;have:=yR0 d hd;simp only[Bool.and_eq_true] at this;obtain⟨⟨⟨b1,b2⟩,b3⟩,b4⟩:=this;rw[b1,b2,b3,b4];exact⟨htag d _ hd (.inl rfl) b1,htag d _ hd (.inr (.inl rfl)) b2,htag d _ hd (.inr (.inr (.inl rfl))) b3,htag d _ hd (.inr (.inr (.inr rfl))) b4⟩
        have hcs':zI4 c none o.dst f (r++cs.toL) ((r++cs.toL).map (zA3 S)) S'=none:=by
         rw[← hcs];clear hcs;revert hsame;generalize o.dst=dst;intro hsame;cases dst with
         |none=>rfl
         |some d =>
          obtain⟨e1,e2,e3,e4⟩:=hsame d rfl;unfold zI4;simp only[e1,e2,e3,e4]
        rw[hcs'];simp only;have hl':yE0 c o.dst f (r++cs.toL) ((r++cs.toL).map (zA3 S)) S'=some (p,u,false):=by
         rw[← hL2];unfold yE0;split
         ·rfl
         ·split
          ·rename_i d' _ hd';obtain⟨e1,e2,e3,e4⟩:=hsame d' hd';rw[e1,e2,e3,e4]
          ·rfl
        unfold yL0;rw[hct,hl'];rfl
      |some q' =>
       simp only[Option.some.injEq] at h;subst h;have hcs':zI4 c gd o.dst f (r++cs.toL) ((r++cs.toL).map (zA3 S)) S'=some (p,u,false):=by
        unfold zI4 at hcs ⊢;split at hcs
        ·cases hcs
        ·rename_i co hco;generalize (yC6 co.outs 0 _&&zF9 co.res&&_&&_)=b at hcs ⊢;cases b with
         |false=>simp only[Bool.not_false,cond_true] at hcs;cases hcs
         |true =>
          simp only[Bool.not_true,cond_false] at hcs ⊢;split at hcs
          ·rename_i uu hout heat;cases gd with
           |some q=>exact hcs
           |none =>
            simp only at hcs ⊢;split at hcs
            ·exact hcs
            ·rename_i d hd;generalize hb:(zC0 d S&&zC0 (100000+d) S&&zC0 (200000+d) S&&zC0 (300000+d) S)=b at hcs;cases b with
             |false=>cases hcs
             |true =>
              simp only[Bool.and_eq_true] at hb;obtain⟨⟨⟨b1,b2⟩,b3⟩,b4⟩:=hb;rw[htag d _ hd (.inl rfl) b1,htag d _ hd (.inr (.inl rfl)) b2,htag d _ hd (.inr (.inr (.inl rfl))) b3,htag d _ hd (.inr (.inr (.inr rfl))) b4];exact hcs
          ·cases hcs
       rw[hcs']
   ·cases h
  |4,hk,h,hy=>exact h
  |k+5,hk,h,hy =>
   rw[hy (by omega)] at h3;simp only at h ⊢;rw[zQ7 h3];unfold zL at h ⊢;split at h
   ·cases h
   ·rename_i d hd;split at h
    ·cases h
    ·rename_i p' A hA;cases hf:zY5 o.op with
     |false=>simpa[hf] using h
     |true =>
      simp only[hf,cond_true] at h ⊢;cases hb:(gd.isNone&&zV0 d S&&zC0 d S) with
      |false =>
       simp only[hb,cond_false] at h;unfold gMk at h;split at h
       ·rename_i q t l T m _;cases hb':(zV0 d S&&zC0 d S&&Nat.beq T d&&!t.isL) with
        |false=>simp only[hb',cond_false] at h;cases h
        |true =>
         simp only[hb',cond_true] at h;simp only[Bool.and_eq_true] at hb';simp only[Option.isNone_some,Bool.false_and,cond_false,gMk,href d hd hb'.1.1.1,htag d d hd (.inl rfl) hb'.1.1.2,hb'.1.2,hb'.2,Bool.and_self,cond_true];exact h
       ·cases h
      |true =>
       simp only[hb,cond_true] at h;simp only[Bool.and_eq_true] at hb;rw[hb.1.1,href d hd hb.1.2,htag d d hd (.inl rfl) hb.2];exact h
theorem wG1 {gd:Gd}{d:Nat}{p p':List Prop}{A:AVal}{u:St}{hv:Bool}(h:gMk gd d p A S=some (p',u,hv)):∃ B,u=[(d,B)]:=by
 unfold gMk at h
 grind
theorem wK3 {dsts:List (Option Nat)}{o:Oper}{p:List Prop}{u:St}(h:zR4 c dsts o S=some (p,u,false))(hm:wE3 o.op=true):∃ d A,o.dst=some d∧u=[(d,A)]:=by
 unfold zR4 at h;split at h
 ·grind
 ·unfold yO at h;unfold wE3 at hm;split at hm
  ·rename_i T n ps ho;rw[ho] at h;simp[zR0,zL] at h
   grind [zV0,zC0,wG1]
  ·rename_i T x y ho;rw[ho] at h;simp[zR0,zL] at h
   grind [zV0,zC0,wG1]
  ·rename_i args ats ho;rw[ho] at h;simp only[zR0] at h
   grind [Nat.beq,zO0,zC0]
  grind
theorem xA1 {dsts:List (Option Nat)}{o:Oper}{p:List Prop}{u:St}(h:yE1 c dsts o S=some (p,u,false))(hr:∀ r∈(yK3 dsts o S u false).rd,S'.get r=S.get r)
  (hq:∀ e∈S',e∈S∨∀ d,o.dst=some d→yL1 d e.2=true):yE1 c dsts o S'=some (p,u,false):=by
 unfold yE1 at h ⊢;split at h
 ·grind
 ·rename_i p0 u0 h0 hst;cases hmk:wE3 o.op with
  |false =>
   simp only[hmk,cond_false,Option.some.injEq,Prod.mk.injEq] at h;obtain⟨rfl,rfl,rfl⟩:=h;rw[yD5 hst (u:=u0) hr hq];simp only[cond_false]
  |true =>
   simp[hmk] at h;split at h
   ·rename_i u' hu';simp  at h;obtain⟨rfl,rfl,rfl⟩:=h;have hloc:=yD5 hst (u:=u0) hr hq;obtain⟨d,A,hd,rfl⟩:=wK3 hst hmk;have:wB6 c S' [(d,A)]=some u':=by
     rw[← hu'];unfold wB6;cases A with
     |own t l T m =>
      cases m with
      |false=>rfl
      |true =>
       simp only;generalize hb:(Nat.beq T d&&!(c.wr.any (Nat.beq d)))=b;cases b with
       |false=>rfl
       |true =>
        have hold:zC0 T S=true:=by
         grind [wB6]
        have hnew:zC0 T S'=true:=by
         simp only[zC0,List.all_eq_true] at hold ⊢;intro e he;rcases hq e he with h' | h'
         ·grind
         simp_all [yL1]
        grind
     |_=>rfl
    grind
   grind
end Go.Am
namespace Go.Am
open Go Go.RowKit
variable {gtab:GlobTab}{P:Program}{c:Ctx}{G:Gh}{w:World}{tm:Array Value}{n:Nat}{χ0:Nat→Nat→Nat}{w0:World}{S:St}{a:Act}
def ahd (ops:List Oper)(i j:Nat):Prop:=((ahead ops []).getD j 0).testBit i=true
theorem yC1 {acc:List Nat}{i:Nat}:∀ {l:List Edge},(zF4 acc l).testBit i=true→∃ e∈l,Region.binds .any e=true∧(i=e.on∨(acc.getD e.on 0).testBit i=true):=by
 intro l
 induction l with
 |nil=>grind [zF4]
 |cons e r ih =>
  intro h;simp only[zF4] at h;cases hb:Region.binds .any e with
  |false =>
   grind
  |true =>
   simp only[hb] at h;have h:((2 ^ e.on ||| acc.getD e.on 0) ||| zF4 acc r).testBit i=true:=h
   grind
theorem yV4:∀ {ops:List Oper}{acc:List Nat},∃ r,ahead ops acc=acc++r∧r.length=ops.length:=by
 intro ops
 induction ops with
 |nil=>simp_all [ahead]
 |cons o l ih =>
  intro acc;obtain⟨r,hr,hl⟩:=ih (acc:=acc++[zF4 acc o.after.toList])
  grind [ahead]
theorem xY8:∀ {ops:List Oper}{acc:List Nat}{j i:Nat}{o:Oper},ops[j]?=some o→((ahead ops acc).getD (acc.length+j) 0).testBit i=true →
  ∃ e∈o.after.toList,Region.binds .any e=true∧(i=e.on∨((ahead ops acc).getD e.on 0).testBit i=true):=by
 intro ops
 induction ops with
 |nil=>grind
 |cons o' l ih =>
  intro acc j i o ho h;cases j with
  |zero =>
   simp  at ho;subst ho;simp only[ahead] at h ⊢;obtain⟨r,hr,_⟩:=yV4 (ops:=l) (acc:=acc++[zF4 acc o'.after.toList]);rw[hr] at h ⊢;have e1:((acc++[zF4 acc o'.after.toList])++r).getD (acc.length+0) 0=zF4 acc o'.after.toList:=by simp
   rw[e1] at h;obtain⟨e,he,hb,h'⟩:=yC1 h;refine⟨e,he,hb,h'.imp id fun h'=>?_⟩;by_cases hlt:e.on<acc.length
   ·simp only[List.getD_eq_getElem?_getD] at h' ⊢;rw[List.append_assoc,List.getElem?_append_left hlt];exact h'
   ·simp  at h';rw[List.getElem?_eq_none (by omega)] at h';simp at h'
  |succ j =>
   simp only[ahead] at h ⊢;have:=ih (acc:=acc++[zF4 acc o'.after.toList]) (j:=j) (i:=i) ho (by grind)
   grind
theorem xY9 {ops:List Oper}{j i:Nat}{o:Oper}(ho:ops[j]?=some o)(h:ahd ops i j):∃ e∈o.after.toList,Region.binds .any e=true∧(i=e.on∨ahd ops i e.on):=
 xY8 (acc:=[]) ho (by grind [ahd])
theorem zS7:∀ {ops:List Oper}{k j:Nat}{o:Oper},zI6 k ops=true→ops[j]?=some o→∀ e∈o.after.toList,Region.binds .any e=true→e.on<k+j:=by
 intro ops
 induction ops with
 |nil=>grind
 |cons o' l ih =>
  intro k j o h ho e he hbd;simp only[zI6,Bool.and_eq_true] at h;cases j with
  |zero =>
   simp  at ho;subst ho;have:=List.all_eq_true.1 h.1 e he;simp_all
  |succ j =>
   grind
theorem xA2 {K b:Nat}{t:Tr}:∀ {l:List Tr}{k i:Nat}{t':Tr},yE9 K b t k l=true→l[i]?=some t'→K≤k+i→zV2 t' t=true→b.testBit (k+i)=true:=by
 intro l
 induction l with
 |nil=>grind
 |cons x l ih =>
  intro k i t' h hi hK hc;simp only[yE9,Bool.and_eq_true,Bool.or_eq_true] at h;cases i with
  |zero =>
   rcases h.1 with h' | h' | h'
   ·have:=Nat.blt_eq.mp h';omega
   all_goals grind
  |succ i =>
   grind
theorem xJ9 {K:Nat}:∀ {bs:List Nat}{trs l:List Tr}{i j:Nat}{ti tj:Tr},zP3 K trs bs l=true→(trs++l)[i]?=some ti→l[j]?=some tj→i<trs.length+j→K≤i→zV2 ti tj=true→(bs.getD j 0).testBit i=true:=by
 intro bs
 induction bs with
 |nil=>grind [zP3]
 |cons b bs ih =>
  intro trs l i j ti tj h hi hj hlt hK hc;cases l with
  |nil=>grind
  |cons t l =>
   simp[zP3] at h;cases j with
   |zero =>
    simp  at hj;subst hj;have:=xA2 h.1 (i:=i) (t':=ti) (by grind) (by omega) hc
    grind
   |succ j =>
    have:=ih (i:=i) (j:=j) (ti:=ti) (tj:=tj) h.2 (by grind) (by grind) (by grind) hK hc
    grind
theorem zS8:∀ {l m:List Nat}{x:Nat},apart l m=true→x∈l→x∈m→False:=by
 intro l
 induction l with
 |nil=>grind
 |cons y l ih =>
  intro m x h hl hm;simp only[apart] at h;rcases List.mem_cons.1 hl with rfl|hl
  ·simp  at h
   grind
  grind
theorem yJ6 {r:Nat}:∀ {u:St},St.has r u=true↔r∈u.map (·.1):=by
 simp_all [St.has]
end Go.Am
namespace Go.Am
open Go Go.RowKit
variable {rd:Option Nat}{gtab:GlobTab}{P:Program}{c:Ctx}{G:Gh}{w:World}{tm:Array Value}{n:Nat}{χ0:Nat→Nat→Nat}{w0:World}{S:St}{a:Act}
section draw
variable {ops:Array Oper}{ts:List Tr}{p:List Prop}
def wr (ts:List Tr)(j r:Nat):Prop:=St.has r (uAt ts j)=true
structure Inv (ops:Array Oper) (ts:List Tr) (S:St) (l:List Nat):Prop where
 nd:l.Nodup
 lt:∀ i∈l,i<ops.size
 down:∀ j∈l,∀ i,ahd ops.toList i j→i∈l
 val:∀ r k,(∀ j,j<k→wr ts j r→j∈l)→(∀ j∈l,wr ts j r→j<k)→(exe ts l++S).get r=(tex ts k++S).get r
def yV5 (ts:List Tr):Prop:=∀ j,∀ e∈uAt ts j,e.1≠zA6
theorem xZ (hn:yV5 ts){r:Nat}:∀ {k:Nat},(∀ j,j<k→¬ wr ts j r)→(tex ts k++S).get r=S.get r:=by
 intro k
 induction k with
 |zero=>intro _;rfl
 |succ k ih =>
  intro h;rw[tex,List.append_assoc,zJ8 (hn k) (by simp_all [wr])]
  grind
theorem xR5 (hn:yV5 ts){r i:Nat}:∀ {k:Nat},i<k→wr ts i r→(∀ j,i<j→j<k→¬ wr ts j r)→(tex ts k++S).get r=(uAt ts i).get r:=by
 intro k
 induction k with
 |zero=>grind
 |succ k ih =>
  intro h hw hj;rw[tex,List.append_assoc];by_cases e:i=k
  ·subst e;exact zZ4 (hn i) hw
  ·rw[zJ8 (hn k) (by grind [wr])]
   grind
theorem zN9 {j r:Nat}(h:wr ts j r):∃ t,ts[j]?=some t∧t.u=uAt ts j:=by
 grind [wr,uAt,St.has]
theorem zH1 {t t':Tr}(h:zV2 t t'=false):(t.heavy=false→(t'.heavy=false∨t.dk=true)∧(∀ r,r∈t.rd→St.has r t'.u=true→False)∧xW2 t.dst t.u t'.u=true) ∧
  (t.heavy=true→t'.pl=true∧∀ d,t.dst=some d→St.has d t'.u=false∧d∉t'.rd)∧(∀ r,St.has r t.u=true→r∈t'.rd→False)∧(∀ r,St.has r t.u=true→St.has r t'.u=true→False):=by
 have hany:∀ (l:List Nat) (d:Nat),l.any (Nat.beq d)=false→d∉l:=fun l d h hm=>by
  have:=List.any_eq_false.1 h d hm;simp at this
 cases ht:t.heavy with
 |true =>
  simp only[zV2,ht,cond_true,Bool.not_eq_false',Bool.and_eq_true] at h;obtain⟨h1,h2,h3,h4⟩:=h;refine⟨fun q=>Bool.noConfusion q,fun _=>⟨h1,fun d hd=>?_⟩,fun r hr hm=>?_,fun r hr hm=>?_⟩
  ·rw[hd] at h4;simp only[Bool.and_eq_true,Bool.not_eq_true'] at h4;exact⟨h4.1,hany _ _ h4.2⟩
  ·grind [zS8,yJ6]
  ·grind [zS8,yJ6]
 |false =>
  simp only[zV2,ht,cond_false,Bool.or_eq_false_iff,Bool.not_eq_false',Bool.and_eq_true] at h;obtain⟨h0,h2,h3,h4,h5⟩:=h;refine⟨fun _=>⟨?_,fun r hr hm=>?_,h5⟩,fun q=>Bool.noConfusion q,fun r hr hm=>?_,fun r hr hm=>?_⟩
  ·cases h6:t'.heavy with
   |false=>exact .inl rfl
   |true=>right;simpa[h6] using h0
  ·grind [zS8,yJ6]
  ·grind [zS8,yJ6]
  ·grind [zS8,yJ6]
theorem yM4 {r:Nat}:∀ {S:St},St.has r S=false→S.get r=.junk:=by
 intro S
 induction S with
 |nil=>intro _;rfl
 |cons e S ih =>
  intro h;simp only[St.has,List.any_cons,Bool.or_eq_false_iff] at h;have h2:=ih (show St.has r S=false from h.2);simp_all [St.get]
theorem xR6 {dst:Option Nat}{rd bs:List Nat}{S u:St}(h:xD dst rd bs S u=true):∃ d A,u=[(d,A)]∧yG8 rd bs A=true∧St.has d S=false∧dst=some d:=by
 unfold xD at h;split at h
 ·rename_i d A;simp only[Bool.and_eq_true] at h;refine⟨d,A,rfl,h.1,?_⟩;have h2:=h.2;split at h2
  ·simp only[Bool.and_eq_true,Bool.not_eq_true'] at h2;exact⟨h2.2,by rw[Nat.eq_of_beq_eq_true h2.1]⟩
  ·cases h2
 ·cases h
theorem xZ0 {dst:Option Nat}{S u:St}(h:xW1 dst S u=true):∃ d,u=[(d,.junk)]∧St.has d S=false∧dst=some d:=by
 unfold xW1 at h;split at h
 ·rename_i d;refine⟨d,rfl,?_⟩;split at h
  ·simp only[Bool.and_eq_true,Bool.not_eq_true'] at h;exact⟨h.2,by rw[Nat.eq_of_beq_eq_true h.1]⟩
  ·cases h
 ·cases h
theorem xR7 {dsts:List (Option Nat)}{S:St}{k:Nat}:∀ {rd:List Nat},k∈zV9 dsts S rd→∃ q τ p,q∈rd∧S.get q=.ref k τ p∧some q∉dsts:=by
 intro rd
 induction rd with
 |nil=>intro h;cases h
 |cons q r ih =>
  intro h;simp only[zV9] at h;split at h
  ·rename_i k' τ p hq;cases hd:dsts.any (wC8 q) with
   |true =>
    rw[hd] at h;obtain⟨q',τ',p',h1,h2⟩:=ih h;exact⟨q',τ',p',List.mem_cons_of_mem _ h1,h2⟩
   |false =>
    rw[hd] at h;rcases List.mem_cons.1 h with rfl|h
    ·refine⟨q,τ,p,List.mem_cons_self ..,hq,fun hm=>?_⟩;have:=List.any_eq_false.1 hd _ hm;simp[wC8] at this
    ·obtain⟨q',τ',p',h1,h2⟩:=ih h;exact⟨q',τ',p',List.mem_cons_of_mem _ h1,h2⟩
  ·obtain⟨q',τ',p',h1,h2⟩:=ih h;exact⟨q',τ',p',List.mem_cons_of_mem _ h1,h2⟩
theorem xA3 {rd bs:List Nat}{A:AVal}{s:Nat}{v:Value}{tm tm':Array Value}{G G':Gh}{w w':World}(hA:yG8 rd bs A=true)(ht:∀ q∈rd,tm'.getD q undef=tm.getD q undef)(hb:∀ k∈bs,G'.β k=G.β k)
  (hw:∀ b o,b<w.heap.size→G.χ b o=0→G'.χ b o=0∧w'.cell? ⟨b,o,none⟩=w.cell? ⟨b,o,none⟩) (h:zA G w tm (some s) A v):zA G' w' tm' (some s) A v:=by
 unfold yG8 at hA;split at hA
 ·simp only[zA] at h ⊢;exact zC4 hw h
 ·rename_i s0 want g τ x;have hm:s0∈rd:=by
   obtain⟨q,hq,e⟩:=List.any_eq_true.1 hA;have:=Nat.eq_of_beq_eq_true e;subst this;exact hq
  simp only[zA] at h ⊢;rw[ht s0 hm];exact⟨h.1,fun hg=>zC4 hw (h.2.1 hg),h.2.2⟩
 ·simp only[zA] at h ⊢;rw[hb _ (any_beq.1 hA)];exact h
 ·simp only[Bool.and_eq_true] at hA;simp only[zA] at h ⊢;rw[ht _ (any_beq.1 hA.1),hb _ (any_beq.1 hA.2)];exact h
 ·cases hA
theorem xR8 (hn:yV5 ts):Inv ops ts S []:=
 ⟨List.nodup_nil,fun i h=>(by grind),fun j h=>(by grind),fun r k h _=>(xZ hn fun j hj hw=>by grind).symm⟩
def Ord (k:Nat)(ops:Array Oper)(ts:List Tr):Prop:=∀ i j ti tj,ts[i]?=some ti→ts[j]?=some tj→i<j→k≤i→zV2 ti tj=true→ahd ops.toList i j
theorem Inv.up {l:List Nat}(hI:Inv ops ts S l){i:Nat}{o:Oper}(ho:ops[i]?=some o)(he:∀ e∈o.after.toList,Region.binds .any e=true→e.on∈l){j:Nat}(h:ahd ops.toList j i):j∈l:=by
 obtain⟨e,hm,hb,h'⟩:=xY9 (ops:=ops.toList) (by simpa using ho) h;rcases h' with rfl|h'
 ·grind
 ·exact hI.down _ (he e hm hb) _ h'
theorem Inv.cons {l:List Nat}(hn:yV5 ts){i:Nat}(hO:∀ j ti tj,j∈l→ts[i]?=some ti→ts[j]?=some tj→i<j→zV2 ti tj=true→ahd ops.toList i j)(hI:Inv ops ts S l){o:Oper}(ho:ops[i]?=some o)(hi:i∉l)(he:∀ e∈o.after.toList,Region.binds .any e=true→e.on∈l):Inv ops ts S (i::l):=by
 refine⟨List.nodup_cons.2 ⟨hi,hI.nd⟩,fun j hj=>?_,fun j hj k hk=>?_,fun r k h1 h2=>?_⟩
 ·rcases List.mem_cons.1 hj with rfl|hj
  ·grind
  ·exact hI.lt j hj
 ·rcases List.mem_cons.1 hj with rfl|hj
  ·exact List.mem_cons_of_mem _ (hI.up ho he hk)
  ·exact List.mem_cons_of_mem _ (hI.down j hj k hk)
 ·rw[exe,List.append_assoc];by_cases hw:wr ts i r
  ·rw[zZ4 (hn i) hw];refine (xR5 hn (h2 i (List.mem_cons_self ..) hw) hw fun j hij hjk hwj=>?_).symm;have hj:j∈l:=by
    grind
   obtain⟨ti,hti,ei⟩:=zN9 hw;obtain⟨tj,htj,ej⟩:=zN9 hwj;cases hc:zV2 ti tj with
   |true=>exact hi (hI.down j hj i (hO j ti tj hj hti htj hij hc))
   |false=>exact (zH1 hc).2.2.2 r (by rw[ei];exact hw) (by rw[ej];exact hwj)
  ·rw[zJ8 (hn i) (by grind [wr])];refine hI.val r k (fun j hj hwj=>?_) fun j hj hwj=>h2 j (List.mem_cons_of_mem _ hj) hwj
   grind
theorem xR9 {e:Nat×AVal}:∀ {l:List Nat},e∈exe ts l→∃ j∈l,e∈uAt ts j:=by
 intro l
 induction l with
 |nil=>intro h;cases h
 |cons i l ih =>
  intro h;rcases List.mem_append.1 h with h|h
  all_goals grind
theorem xA4 {e:Nat×AVal}{j:Nat}:∀ {k:Nat},j<k→e∈uAt ts j→e∈tex ts k:=by
 intro k
 induction k<;>grind [tex]
theorem yQ0 {j:Nat}{e:Nat×AVal}(h:e∈uAt ts j):∃ t,ts[j]?=some t∧t.u=uAt ts j:=by
 grind [uAt]
theorem yQ1 {j k r:Nat}{S:St}(h:j<k)(hw:wr ts j r):St.has r (tex ts k++S)=true:=by
 obtain⟨e,he,h1⟩:=List.any_eq_true.1 (show (uAt ts j).any (fun e=>Nat.beq e.1 r)=true from hw);exact List.any_eq_true.2 ⟨e,List.mem_append_left _ (xA4 h he),h1⟩
theorem xZ1 {r:Nat}{S:St}{i j:Nat}(h:i≤j)(hh:St.has r (tex ts i++S)=true):St.has r (tex ts j++S)=true:=by
 induction j<;>grind [tex,List.append_assoc,St.has]
theorem xS (hn:yV5 ts)(hc:CtxOk P c)(hF:Fam c (ops.toList.map (·.dst)) ops.toList S [] ts p)(hS:∀ e∈S,e.2.hasOpt=false)(hp:∀ q∈p,q){k:Nat}(hO:Ord k ops ts)
  {l:List Nat}(hI:Inv ops ts S l) (hk:∀ j,j<k→j∈l){i:Nat}{o:Oper}(ho:ops[i]?=some o) (hi:i∉l) (he:∀ e∈o.after.toList,Region.binds .any e=true→e.on∈l)
  (hR:Rel c.n χ0 w0 (exe ts l++S) a w G){next:Act→World→Prop}{Q:Exit→Act→World→Prop}
  (hnext:∀ v w' G',Rel c.n χ0 w0 (exe ts (i::l)++S) (a.put o.dst v) w' G'→next (a.put o.dst v) w'):wpOpIn (fz rd) 0 P ops Q i next a w:=by
 have hF':=hF;obtain⟨pi,hv,q1,q2,q3,q4,q5⟩:=hF i o (by grind);simp only[List.append_nil] at q1 q2 q4;have hlater:∀ j tj,j∈l→ts[j]?=some tj→i<j→zV2 (yK3 (ops.toList.map (·.dst)) o (tex ts i++S) (uAt ts i) hv) tj=false:=by
  intro j tj hj htj hij;cases hcl:zV2 _ tj with
  |true=>exact absurd (hI.down j hj i (hO i j _ tj q2 htj hij (Nat.le_of_not_lt fun h=>hi (hk i h)) hcl)) hi
  |false=>rfl
 have hearlier:∀ j tj,j∉l→ts[j]?=some tj→j<i→zV2 tj (yK3 (ops.toList.map (·.dst)) o (tex ts i++S) (uAt ts i) hv)=false:=by
  intro j tj hj htj hij;cases hcl:zV2 tj _ with
  |true=>exact absurd (hI.up ho he (hO j i tj _ htj q2 hij (Nat.le_of_not_lt fun h=>hj (hk j h)) hcl)) hj
  |false=>rfl
 cases hv with
 |true =>
  have hdk:∀ j,j<i→j∉l→∀ r,wr ts j r→uAt ts j=[(r,.junk)]∧St.has r (tex ts j++S)=false∧St.has r (uAt ts i)=false∧some r∈ops.toList.map (·.dst):=by
   intro j hji hjl r hw;obtain⟨t,ht,eu⟩:=zN9 hw;have h1:=zH1 (hearlier j t hjl ht hji);obtain⟨oj,hoj⟩:∃ oj,ops.toList[j]?=some oj:=by
    have:j<ops.toList.length:=by grind
    exact⟨ops.toList[j],by grind⟩
   obtain⟨pj,hvj,_,r2,_⟩:=hF' j oj hoj;rw[ht] at r2;injection r2 with r2
   rw[List.append_nil] at r2;have hvf:hvj=false:=by
    cases hvj with
    |false=>rfl
    |true =>
     have:=(h1.2.1 (by rw[r2];rfl)).1;simp[yK3] at this
   have hdk:t.dk=true:=by
    rcases (h1.1 (by rw[r2];exact hvf)).1 with h|h
    ·simp[yK3] at h
    ·exact h
   have h2:xW1 oj.dst (tex ts j++S) (uAt ts j)=true:=by
    rw[r2] at hdk;simp only[yK3,Bool.and_eq_true] at hdk;exact hdk.2
   obtain⟨d,e1,e3,e5⟩:=xZ0 h2;have hr:r=d:=by
    unfold wr at hw;rw[e1] at hw;simp only[St.has,List.any_cons,List.any_nil,Bool.or_false] at hw
    grind [Nat.eq_of_beq_eq_true]
   subst hr;refine⟨e1,e3,?_,List.mem_map.2 ⟨oj,List.mem_of_getElem? hoj,e5⟩⟩;cases hh:St.has r (uAt ts i) with
   |false=>rfl
   |true=>exact (h1.2.2.2 r (by rw[eu];exact hw) hh).elim
  have hpl0:∀ j∈l,i<j→∀ r,wr ts j r→∃ A rd bs,uAt ts j=[(r,A)]∧yG8 rd bs A=true∧St.has r (tex ts j++S)=false∧St.has r (uAt ts i)=false∧o.dst≠some r∧(∀ d,o.dst=some d→d∉rd)∧some r∈ops.toList.map (·.dst)∧(∀ q∈rd,St.has q (uAt ts i)=false)∧(∃ t,ts[j]?=some t∧t.rd=rd)∧∀ k∈bs,∃ q τ p,q∈rd∧(tex ts j++S).get q=.ref k τ p∧some q∉ops.toList.map (·.dst):=by
   intro j hj hij r hw;obtain⟨t,ht,eu⟩:=zN9 hw;have h1:=zH1 (hlater j t hj ht hij);obtain⟨h2,h3⟩:=h1.2.1 rfl;obtain⟨oj,hoj⟩:∃ oj,ops.toList[j]?=some oj:=⟨ops[j]'(hI.lt j hj),by grind⟩;obtain⟨pj,hvj,_,r2,_⟩:=hF' j oj hoj;rw[ht] at r2;injection r2 with r2
   rw[List.append_nil] at r2;have h2':xD oj.dst t.rd (zV9 (ops.toList.map (·.dst)) (tex ts j++S) t.rd) (tex ts j++S) (uAt ts j)=true:=by
    rw[r2] at h2 ⊢;simp only[yK3,Bool.and_eq_true] at h2 ⊢;exact h2.2
   obtain⟨d,A,e1,e2,e3,e7⟩:=xR6 h2';have hr:r=d:=by
    unfold wr at hw;rw[e1] at hw;simp only[St.has,List.any_cons,List.any_nil,Bool.or_false] at hw
    grind [Nat.eq_of_beq_eq_true]
   subst hr;refine⟨A,t.rd,_,e1,e2,e3,?_,fun hd=>?_,fun d hd=>(h3 d hd).2,List.mem_map.2 ⟨oj,List.mem_of_getElem? hoj,e7⟩,fun q hq=>?_,⟨t,ht,rfl⟩,fun k hk=>xR7 hk⟩
   ·cases hh:St.has r (uAt ts i) with
    |false=>rfl
    |true=>exact (h1.2.2.2 r hh (by rw[eu];exact hw)).elim
   ·have:=(h3 r hd).1;rw[eu] at this;exact absurd (show St.has r (uAt ts j)=true from hw) (by grind)
   ·cases hh:St.has q (uAt ts i) with
    |false=>rfl
    |true=>exact (h1.2.2.1 q hh hq).elim
  have hget:∀ r,(∀ j∈l,i<j→¬ wr ts j r)→(∀ j,j<i→j∉l→¬ wr ts j r)→(exe ts l++S).get r=(tex ts i++S).get r:=fun r hno hno2=>by
   refine hI.val r i (fun j hj hw=>?_) fun j hj hw=>?_
   ·by_cases hjl:j∈l
    ·exact hjl
    ·exact (hno2 j hj hjl hw).elim
   ·by_cases hlt:j<i
    ·exact hlt
    ·have:i≠j:=fun e=>hi (e ▸ hj);exact (hno j hj (by omega) hw).elim
  have hbase:∀ q,some q∉ops.toList.map (·.dst)→St.has q (uAt ts i)=false→∀ j∈l,i<j→∀ t,ts[j]?=some t→q∈t.rd→(exe ts l++S).get q=(tex ts i++S).get q∧(exe ts l++S).get q=(tex ts j++S).get q:=by
   intro q hq hqi j hj hij t ht hqr;have n1:∀ m∈l,i<m→¬ wr ts m q:=fun m hm him hw=>by
    obtain⟨_,_,_,_,_,_,_,_,_,e,_⟩:=hpl0 m hm him q hw;exact hq e
   have n2:∀ m,m<i→m∉l→¬ wr ts m q:=fun m hm hml hw=>hq (hdk m hm hml q hw).2.2.2;refine⟨hget q n1 n2,hI.val q j (fun m hm hw=>?_) fun m hm hw=>?_⟩
   ·by_cases hml:m∈l
    ·exact hml
    ·obtain⟨tm,htm,eum⟩:=zN9 hw;cases hcl:zV2 tm t with
     |true=>exact hI.down j hj m (hO m j tm t htm ht hm (Nat.le_of_not_lt fun h=>hml (hk m h)) hcl)
     |false=>exact ((zH1 hcl).2.2.1 q (by rw[eum];exact hw) hqr).elim
   ·by_cases h:i<m
    ·exact (n1 m hm h hw).elim
    ·omega
  have hpl:∀ j∈l,i<j→∀ r,wr ts j r→∃ A rd bs,uAt ts j=[(r,A)]∧yG8 rd bs A=true∧St.has r (tex ts j++S)=false∧St.has r (uAt ts i)=false∧o.dst≠some r∧(∀ d,o.dst=some d→d∉rd)∧∀ k∈bs,∃ q τ p,q∈rd∧St.has q (uAt ts i)=false∧(exe ts l++S).get q=.ref k τ p∧(tex ts i++S).get q=.ref k τ p:=by
   intro j hj hij r hw;obtain⟨A,rd,bs,e1,e2,e3,e4,e5,e6,_,e8,⟨t,ht,et⟩,e9⟩:=hpl0 j hj hij r hw;refine⟨A,rd,bs,e1,e2,e3,e4,e5,e6,fun k hk=>?_⟩;obtain⟨q,τ,p,h1,h2,h3⟩:=e9 k hk;obtain⟨h4,h5⟩:=hbase q h3 (e8 q h1) j hj hij t ht (by rw[et];exact h1);exact⟨q,τ,p,h1,e8 q h1,by rw[h5,h2],by rw[← h4,h5,h2]⟩
  have hlate:∀ r,(∃ j∈l,i<j∧wr ts j r)→∃ A rd bs,(exe ts l++S).get r=A∧yG8 rd bs A=true∧(tex ts i++S).get r=.junk∧St.has r (uAt ts i)=false∧o.dst≠some r∧(∀ d,o.dst=some d→d∉rd)∧∀ k∈bs,∃ q τ p,q∈rd∧St.has q (uAt ts i)=false∧(exe ts l++S).get q=.ref k τ p∧(tex ts i++S).get q=.ref k τ p:=by
   rintro r ⟨j,hj,hij,hw⟩;obtain⟨A,rd,bs,e1,e2,e3,e4,e5,e6,e7⟩:=hpl j hj hij r hw;refine⟨A,rd,bs,?_,e2,yM4 ?_,e4,e5,e6,e7⟩
   ·have:=hI.val r (j+1) (fun j' hj' hw'=>?_) (fun j' hj' hw'=>?_)
    ·rw[this,tex,List.append_assoc,zZ4 (hn j) hw,e1];simp[St.get]
    ·by_cases h:j'=j
     ·rw[h];exact hj
     ·have:=yQ1 (S:=S) (show j'<j by omega) hw';rw[e3] at this;cases this
    ·by_cases h:j'<j+1
     ·exact h
     ·obtain⟨_,_,_,_,_,e3',_⟩:=hpl j' hj' (by omega) r hw';have:=yQ1 (S:=S) (show j<j' by omega) hw;rw[e3'] at this;cases this
   ·cases hh:St.has r (tex ts i++S) with
    |false=>rfl
    |true=>have:=xZ1 (S:=S) (Nat.le_of_lt hij) hh;rw[e3] at this;cases this
  have hdead:∀ r,(∃ j,j<i∧j∉l∧wr ts j r)→(tex ts i++S).get r=.junk∧(exe ts l++S).get r=.junk∧St.has r (uAt ts i)=false:=by
   rintro r ⟨j,hji,hjl,hw⟩;obtain⟨e1,e3,e4,_⟩:=hdk j hji hjl r hw;obtain⟨t,ht,eu⟩:=zN9 hw;refine⟨?_,?_,e4⟩
   ·rw[xR5 hn hji hw fun j' h1 h2 hw'=>?_,e1]
    ·simp[St.get]
    ·by_cases hjl':j'∈l
     ·obtain⟨t',ht',eu'⟩:=zN9 hw';cases hcl:zV2 t t' with
      |true=>exact hjl (hI.down j' hjl' j (hO j j' t t' ht ht' h1 (Nat.le_of_not_lt fun h=>hjl (hk j h)) hcl))
      |false=>exact (zH1 hcl).2.2.2 r (by rw[eu];exact hw) (by rw[eu'];exact hw')
     ·have:=(hdk j' h2 hjl' r hw').2.1;rw[yQ1 (S:=S) h1 hw] at this;cases this
   ·have:=hI.val r j (fun j' hj' hw'=>?_) (fun j' hj' hw'=>?_)
    ·rw[this];exact yM4 e3
    ·have:=yQ1 (S:=S) hj' hw';rw[e3] at this;cases this
    ·by_cases h:j'<j
     ·exact h
     ·have hne:j≠j':=fun e=>hjl (e ▸ hj');obtain⟨t',ht',eu'⟩:=zN9 hw';cases hcl:zV2 t t' with
      |true=>exact (hjl (hI.down j' hj' j (hO j j' t t' ht ht' (by omega) (Nat.le_of_not_lt fun h=>hjl (hk j h)) hcl))).elim
      |false=>exact ((zH1 hcl).2.2.2 r (by rw[eu];exact hw) (by rw[eu'];exact hw')).elim
  have R0:Rel c.n G.χ w (tex ts i++S) a w G:=by
   refine { hR with frame:=⟨rfl,rfl,rfl,Nat.le_refl _,fun _ _ _=>rfl,fun _ _ _ _=>⟨rfl,rfl⟩⟩,reps:=fun s=>?_ }
   by_cases h:∃ j∈l,i<j∧wr ts j s
   ·obtain⟨_,_,_,_,_,e,_⟩:=hlate s h;rw[e];simp only[zA]
   ·by_cases h':∃ j,j<i∧j∉l∧wr ts j s
    ·rw[(hdead s h').1];simp only[zA]
    ·rw[← hget s (fun j hj hij hw=>h ⟨j,hj,hij,hw⟩) fun j h1 h2 hw=>h' ⟨j,h1,h2,hw⟩];exact hR.reps s
  refine yQ hc hF' hS hp ho R0 fun v w' G' hR'=>hnext v w' G' ?_;rw[exe,List.append_assoc];have hfr:Frame0 χ0 w0 G'.χ w':=by
   have h:=hR.frame;have k:=hR'.frame;refine⟨k.os.trans h.os,k.tape.trans h.tape,k.output.trans h.output,Nat.le_trans h.size k.size,fun b hb hc=>?_,fun b o hb hc=>?_⟩
   ·rw[k.block b (Nat.lt_of_lt_of_le hb h.size) (fun o=>by rw[(h.cell b o hb (hc o)).1];exact hc o)];exact h.block b hb hc
   ·have h1:=h.cell b o hb hc;have h2:=k.cell b o (Nat.lt_of_lt_of_le hb h.size) (by rw[h1.1];exact hc);exact⟨h2.1.trans h1.1,h2.2.trans h1.2⟩
  have htm:∀ q,o.dst≠some q→(a.put o.dst v).tmps.getD q undef=a.tmps.getD q undef:=fun q hq=>by
   unfold Act.put;cases hd:o.dst with
   |none=>rfl
   |some d =>
    have hne:d≠q:=fun e=>hq (by rw[hd,e]);show (a.tmps.setIfInBounds d v).getD q undef=_;rw[Array.getD_eq_getD_getElem?,Array.getD_eq_getD_getElem?,Array.getElem?_setIfInBounds_ne hne]
  refine { hR' with frame:=hfr,reps:=fun s=>?_ }
  by_cases h:∃ j∈l,i<j∧wr ts j s
  ·obtain⟨A,rd,bs,e1,e2,_,e4,e5,e6,e7⟩:=hlate s h;have k:=hR.reps s;rw[e1] at k;rw[zJ8 (hn i) e4,e1,htm s e5];refine xA3 e2 (fun q hq=>htm q fun hd=>e6 q hd hq) (fun k hk=>?_) (fun b o hb h0=>?_) k
   ·obtain⟨q,τ,p,h1,h2,h3,h4⟩:=e7 k hk;have k1:=hR.reps q;have k2:=hR'.reps q;rw[h3] at k1;rw[zJ8 (hn i) h2,h4,htm q fun hd=>e6 q hd h1] at k2;simp only[zA] at k1 k2;have:=k1.2.symm.trans k2.2;simp only[Value.pointer.injEq,Option.some.injEq,Addr.mk.injEq] at this;exact this.1.symm
   have:=hR'.frame.cell b o hb (by rw[h0];decide);exact⟨this.1.trans h0,this.2⟩
  ·by_cases h':∃ j,j<i∧j∉l∧wr ts j s
   ·obtain⟨_,e2,e3⟩:=hdead s h';rw[zJ8 (hn i) e3,e2];simp only[zA]
   ·have e:(uAt ts i++(exe ts l++S)).get s=(uAt ts i++(tex ts i++S)).get s:=by
     cases hh:St.has s (uAt ts i) with
     |true=>rw[zZ4 (hn i) hh,zZ4 (hn i) hh]
     |false=>rw[zJ8 (hn i) hh,zJ8 (hn i) hh];exact hget s (fun j hj hij hw=>h ⟨j,hj,hij,hw⟩) fun j h1 h2 hw=>h' ⟨j,h1,h2,hw⟩
    rw[e];exact hR'.reps s
 |false =>
  have hloc:=xA1 (S':=exe ts l++S) q1 (fun r hr=>hI.val r i (fun j hj hw=>?_) (fun j hj hw=>?_)) (fun e hem=>?_)
  ·refine yJ4 hc hR ho hloc q5.1 q5.2 (fun s e hem=>?_) (fun e hem e' hem'=>zO8 (q4 e (List.mem_append_left _ hem)) e' hem') (fun q hq=>hp q (q3 q hq)) fun v w' G' hR'=>hnext v w' G' (by rw[exe,List.append_assoc];exact hR');refine zX0 (q:=fun A=>A.hung e.1=false) rfl fun e' he'=>?_;rcases List.mem_append.1 he' with h|h
   ·obtain⟨j,hj,hej⟩:=xR9 h;by_cases hlt:j<i
    ·exact zO8 (q4 e' (List.mem_append_right _ (xA4 hlt hej))) e hem
    ·have:i≠j:=fun e=>hi (e ▸ hj);obtain⟨t,ht,eu⟩:=yQ0 hej;have hq:=((zH1 (hlater j t hj ht (by omega))).1 rfl).2.2;simp only[xW2,List.all_eq_true,yK3,Bool.and_eq_true,Bool.not_eq_true'] at hq;exact zO8 (hq e' (by rw[eu];exact hej)).1 e hem
   ·exact zL5 (hS e' h)
  ·by_cases hjl:j∈l
   ·grind
   ·obtain⟨t,ht,eu⟩:=zN9 hw;exact ((zH1 (hearlier j t hjl ht hj)).2.2.1 r (by rw[eu];exact hw) hr).elim
  ·obtain⟨t,ht,eu⟩:=zN9 hw;by_cases hlt:j<i
   ·exact hlt
   ·have:i≠j:=fun e=>hi (e ▸ hj);exact (((zH1 (hlater j t hj ht (by omega))).1 rfl).2.1 r hr (by rw[eu];exact hw)).elim
  ·rcases List.mem_append.1 hem with h|h
   ·obtain⟨j,hj,hej⟩:=xR9 h;by_cases hlt:j<i
    ·exact .inl (List.mem_append_left _ (xA4 hlt hej))
    ·have:i≠j:=fun e=>hi (e ▸ hj);obtain⟨t,ht,eu⟩:=yQ0 hej;have hq:=((zH1 (hlater j t hj ht (by omega))).1 rfl).2.2;simp only[xW2,List.all_eq_true,yK3,Bool.and_eq_true] at hq;refine .inr fun d hd=>?_;have:=(hq e (by rw[eu];exact hej)).2;rw[hd] at this;exact this
   ·exact .inl (List.mem_append_right _ h)
theorem wD5 {l:List Nat}(h:((List.range ops.size).filter fun i=>!(l.contains i)).length=0):∀ i,i<ops.size→i∈l:=by
 simp_all
theorem xK {l:List Nat}{listed:Array Bool}(hE:zI6 0 ops.toList=true)(hs:listed.size=ops.size)(hl:∀ j,listed.getD j false=true↔j∈l)(hr:Region.ready .any ops listed=[]):∀ i,i<ops.size→i∈l:=by
 intro i
 induction i using Nat.strongRecOn with
 |_ i ih =>
  intro hi;by_cases hm:i∈l
  ·grind
  ·have:i∈Region.ready .any ops listed:=by
    refine mem_ready.2 ⟨?_,ops[i],Array.getElem?_eq_getElem hi,fun e he hbd=>?_⟩
    ·grind
    ·have:=zS7 (ops:=ops.toList) (j:=i) (o:=ops[i]) hE (by grind) e (by grind) hbd
     grind
   grind
theorem xE6 {K:Act→Prop}(hK:∀ o∈ops.toList,∀ a v,K a→K (a.put o.dst v))(hc:CtxOk P c)(hF:Fam c (ops.toList.map (·.dst)) ops.toList S [] ts p)(hS:∀ e∈S,e.2.hasOpt=false)(hp:∀ q∈p,q){m:Nat}(hO:Ord m ops ts)(hn:yV5 ts)
  (hE:zI6 0 ops.toList=true){Q:Exit→Act→World→Prop}(hQ:∀ a' w' G',Rel c.n χ0 w0 (tex ts ops.size++S) a' w' G'→K a'→Q .normal a' w') :
  ∀ zH7 listed l a w G,listed.size=ops.size→(∀ j,listed.getD j false=true↔j∈l)→(∀ j,j<m→j∈l)→Inv ops ts S l→((List.range ops.size).filter fun i=>!(l.contains i)).length≤zH7 →
   Rel c.n χ0 w0 (exe ts l++S) a w G→K a→wpAnyIn (fz rd) 0 P .any ops Q zH7 listed a w:=by
 have fin:∀ l a w G,Inv ops ts S l→(∀ i,i<ops.size→i∈l)→Rel c.n χ0 w0 (exe ts l++S) a w G→K a→Q .normal a w:=by
  intro l a w G hI hf hR hk;refine hQ a w G (yA (fun s=>?_) hR) hk;refine (hI.val s ops.size (fun j hj _=>hf j hj) fun j hj _=>hI.lt j hj).symm
 intro zH7
 induction zH7 with
 |zero =>
  intro listed l a w G hs hl hml hI hm hR hk;have hf:=wD5 (ops:=ops) (l:=l) (by omega);refine⟨?_,fin l a w G hI hf hR hk⟩;refine List.eq_nil_iff_forall_not_mem.2 fun i hi=>?_
  grind [mem_ready,Array.getElem?_eq_some_iff]
 |succ zH7 ih =>
  intro listed l a w G hs hl hml hI hm hR hk;refine⟨fun hr=>fin l a w G hI (xK hE hs hl hr) hR hk,fun i hi=>?_⟩;obtain⟨h1,o,ho,he⟩:=mem_ready.1 hi;have hlt:=(Array.getElem?_eq_some_iff.1 ho).1;have h2:i<listed.size:=by omega
  have hil:i∉l:=by
   grind
  have he':∀ e∈o.after.toList,Region.binds .any e=true→e.on∈l:=fun e hem hb=>(hl _).1 (he e (by grind) hb);refine xS hn hc hF hS hp hO hI hml ho hil he' hR fun v w' G' hR'=>?_;refine ih _ (i::l) _ _ G' (by grind) (fun j=>?_) (fun j hj=>List.mem_cons_of_mem _ (hml j hj)) (hI.cons hn (fun j ti tj _ h1 h2 h3 h4=>hO i j ti tj h1 h2 h3 (Nat.le_of_not_lt fun h=>hil (hml i h)) h4) ho hil he') ?_ hR' (hK _ (List.mem_of_getElem? (by simpa using ho)) _ _ hk)
  ·by_cases e:i=j
   ·subst e;simp[h2]
   ·rw[getD_set_ne false e,hl j];simp[Ne.symm e]
  ·have hsub:(List.range ops.size).filter (fun k=>!((i::l).contains k))=((List.range ops.size).filter (fun k=>!(l.contains k))).filter (fun k=>!(k==i)):=by
    rw[List.filter_filter]
    grind
   rw[hsub];have:(((List.range ops.size).filter (fun k=>!(l.contains k))).filter (fun k=>!(k==i))).length<((List.range ops.size).filter (fun k=>!(l.contains k))).length:=by
    refine List.length_filter_lt_length_iff_exists.2 ⟨i,List.mem_filter.2 ⟨List.mem_range.2 hlt,by grind⟩,by simp⟩
   omega
theorem wB9 {k:Nat}(h:zP3 k [] (ahead ops.toList []) ts=true):Ord k ops ts:=by
 intro i j ti tj hi hj hij hk hcl;exact xJ9 (trs:=[]) h (by grind) hj (by grind) hk hcl
theorem xA5 {dsts:List (Option Nat)}{o:Oper}{q:List Prop}{u:St}{hv:Bool}(h:yE1 c dsts o S=some (q,u,hv)):(∀ d,o.op≠.defer d)∧∀ cs b,o.op≠.select cs b:=by
 have key:∀ op,o.op=op→zR0 op=5→(∀ d xs ks,zX7 c d op xs ks=none)→zY5 op=false→False:=by
  unfold yE1 zR4 yO at h;split at h
  ·grind
  ·rename_i p' u' h' hst;split at hst
   ·grind
   ·simp only[zL] at hst
    grind
 refine⟨fun d e=>key _ e rfl (fun _ _ _=>by simp[zX7]) rfl,fun cs b e=>key _ e rfl (fun _ _ _=>by simp[zX7]) rfl⟩
section zR1
variable {F:Fence}{m:Nat}{Q:Exit→Act→World→Prop}
theorem xZ2 {j:Nat}{oi oj:Oper}{v:Value}(hj:ops[j]?=some oj)(hap:oi.apart ops oj=true)(hpl:(∀ d,oj.op≠.defer d)∧∀ cs b,oj.op≠.select cs b)(hQ:∀ e a w,e≠.normal→¬ Q e a w)
  {K:Act→World→Prop}(h:wpOpIn F m P ops Q j K (a.put oi.dst v) w):wpOpIn F m P ops Q j (fun a' w'=>(∃ u D,a'=({ a with defers:=D }:Act).put oj.dst u)∧K (a'.put oi.dst v) w') a w:=by
 obtain⟨f1,f2,_⟩:=Oper.apart_spec hap;have hsw:∀ u,(a.put oi.dst v).put oj.dst u=(a.put oj.dst u).put oi.dst v:=fun u=>Act.put_comm a v u f2;unfold wpOpIn at h ⊢;simp only[hj] at h ⊢;rw[wanted_put oj a oi.dst v f1,about_put oj w a oi.dst v f1] at h;cases hw:Region.wanted oj (yielded ops a.tmps) with
 |false =>
  grind
 |true =>
  simp[hw] at h ⊢;unfold Oper.wpIn at h ⊢;rw[about_put oj w a oi.dst v f1,Oper.semAt_eq _ _ _ hpl.1,execOp_put oj hpl.2 a oi.dst v f1] at h;rw[Oper.semAt_eq _ _ _ hpl.1];refine⟨h.1,?_⟩;have h:=h.2;cases hr:(execOp a.eval oj).run P w with
  |halt x w' =>
   rw[hr] at h;cases x<;>simp only[Oper.uponIn] at h
   grind
  |ok x w' =>
   rw[hr] at h;cases x with
   |value u=>grind [Oper.uponIn]
   |skip=>grind [Oper.uponIn]
   |defer d =>
    grind [Oper.uponIn,Act.put_comm,Act.put_defers]
   |enter f args =>
    grind [Oper.uponIn]
   |row row args =>
    grind [Oper.uponIn]
   |round l f tmps assign body =>
    refine⟨h.1,RoundIn.mono h.2 fun e w2 he=>?_⟩
    grind
   |_=>grind [Oper.uponIn]
theorem yV6 {i:Nat}{o:Oper}{v:Value}(hi:ops[i]?=some o)(hpl:∀ d,o.op≠.defer d)(hy:YieldsFenced P ops o v a){K:Act→World→Prop}(h:K (a.put o.dst v) w):wpOpIn F m P ops Q i K a w:=by
 unfold wpOpIn;simp only[hi];have hab:∀ f,o.about P w a.eval=some f→F.fn f:=fun f hf=>by rw[hy.2 w] at hf;grind
 rcases hy.1 with ⟨hw,hv⟩ | ⟨hw,rfl⟩
 ·rw[if_pos hw];unfold Oper.wpIn;rw[Oper.semAt_eq _ _ _ hpl,hv w];exact⟨hab,h⟩
 grind
theorem xS0 {i:Nat}{oi:Oper}{v:Value}(hi:ops[i]?=some oi)(hpl:∀ (j:Nat)(o:Oper),ops[j]?=some o→(∀ d,o.op≠.defer d)∧∀ cs b,o.op≠.select cs b)(hQ:∀ e a w,e≠.normal→¬ Q e a w) :
  ∀ (zH7:Nat) (listed:Array Bool) (a:Act) (w:World),
   (∀ j oj,ops[j]?=some oj→j≠i→listed.getD j true=false→(∀ e∈oj.after,Region.binds .any e=true→e.on≠i)→oi.apart ops oj=true) →
   i∈Region.ready .any ops listed→YieldsFenced P ops oi v a →
   wpAnyIn F m P .any ops Q zH7 (listed.setIfInBounds i true) (a.put oi.dst v) w→wpAnyIn F m P .any ops Q (zH7+1) listed a w:=by
 intro zH7
 induction zH7 with
 |zero =>
  intro listed a w hfree hr hy hw;refine⟨fun h0=>(by grind),fun j hj=>?_⟩;by_cases e:j=i
  ·grind [yV6]
  ·have:=ready_mono hj e;rw[hw.1] at this
   grind
 |succ zH7 ih =>
  intro listed a w hfree hr hy hw;refine⟨fun h0=>(by grind),fun j hj=>?_⟩;by_cases e:j=i
  ·grind [yV6]
  ·obtain⟨hun,oj,hoj,hall⟩:=mem_ready.1 hj;have hnot:∀ e∈oj.after,Region.binds .any e=true→e.on≠i:=fun ed hed hb heq=>by
    grind [mem_ready,Array.getElem?_eq_none,Nat.le_of_not_lt]
   have hap:=hfree j oj hoj e hun hnot;obtain⟨_,_,f3⟩:=Oper.apart_spec hap;refine wpOpIn_mono (fun a' w' h3=>?_) (xZ2 hoj hap (hpl _ _ hoj) hQ (hw.2 j (ready_mono hj e)));obtain⟨⟨u,D,rfl⟩,h3⟩:=h3;refine ih (listed.setIfInBounds j true) _ w' (fun k ok hk hki hku hno=>?_) (ready_mono hr (Ne.symm e)) ?_ (by grind [Array.setIfInBounds_comm])
   ·refine hfree k ok hk hki ?_ hno;by_cases hjk:j=k
    ·grind
    ·rw[getD_set_ne true hjk] at hku;exact hku
   ·have hy':YieldsFenced P ops oi v ({ a with defers:=D }:Act):=hy.of_same rfl rfl (fun _=>rfl)
    exact hy'.of_same (execOp_put oi (hpl _ _ hi).2 _ oj.dst u f3) (wanted_put oi _ oj.dst u f3) (fun w=>about_put oi w _ oj.dst u f3)
end zR1
theorem xA6 {dsts:List (Option Nat)}{S' u:St}{hv:Bool}{q:List Prop}{o:Oper}{T:Nat}{x y:Operand}{t:Ty}{l:List t.den}{k:IntKind}{i:Int}(ho:o.op=.indexAddr T x y)(hg:o.guard=none)(hx:arg S' x=.val (.sl t) l)(hy:arg S' y=.val (.int k) i)
  (h:yE1 c dsts o S'=some (q,u,hv)) (hq:∀ p∈q,p):0≤i∧i<(l.length:Int):=by
 have h0:∃ q',zR4 c dsts o S'=some (q,q'):=by
  grind [yE1,wE3]
 unfold zR4 at h0;simp[zN4,yO,ho,zR0,zD9,zF3,zL,zX7,zT1,zY5] at h0;split at h0
 ·grind
 ·split at h0
  ·grind
  ·cases hi:c.is T (.sl t) with
   |false=>grind
   |true =>
    simp[zV6] at h0;have e:q=zQ9 y i (l.length:Int):=by grind
    rw[e] at hq;exact zH hq
theorem yV7 (hc:CtxOk P c){dsts:List (Option Nat)}{S' u:St}{hv:Bool}{q:List Prop}(hR:Rel c.n χ0 w0 S' a w G){o:Oper}(hst:yE1 c dsts o S'=some (q,u,hv))(hq:∀ p∈q,p)(h:yA9 c S' o=true):∃ v,YieldsFenced P ops o v a:=by
 unfold yA9 at h;split at h
 ·rename_i d hg hd;have hw:Region.wanted o (yielded ops a.tmps)=true:=by grind [Region.wanted]
  split at h
  ·rename_i x ho;exact⟨a.eval x,.inl ⟨hw,fun w=>by simp[execOp,ho]⟩,fun w=>by grind [Oper.about]⟩
  ·rename_i args ats t l T i U m ho hl;rw[ho] at hl;simp only[zD9] at hl;obtain⟨x,hx⟩:∃ x,args.toList=[x]:=by
    cases hq:args.toList<;>simp_all
   rw[hx] at hl;simp  at hl;split at h
   ·rename_i T' hT';simp  at h;obtain⟨e',h1,h2⟩:=zG9 (zB6 hc.tys h.1);have hA:=zJ7 hR x;rw[hl] at hA;have hv:∃ b n k,a.eval x=.slice b n k:=by
     obtain⟨_,⟨he,_⟩ | ⟨_,⟨hv,_⟩ | ⟨cap,_,_,hv,_⟩⟩⟩:=hA
     all_goals simp_all
    obtain⟨b,n,k,hv⟩:=hv;have hargs:args=#[x]:=by grind
    have hats:ats=#[T']:=by grind
    subst hargs;subst hats;refine⟨.int .i64 (n:Int),.inl ⟨hw,fun w=>?_⟩,fun w=>?_⟩
    ·simp[execOp,ho,resolve,invoke,builtin,hv,Builtin.len_,run_underlying h1,goInt]
    simp_all [Oper.about,resolve,Target.leads]
   grind
  ·rename_i op T x y kd k p k' q ho hl;rw[ho] at hl;simp[zD9] at hl;have hk:=zH8 (Nat.eq_of_beq_eq_true h);have hA:=zJ7 hR x;have hB:=zJ7 hR y;rw[hl.1] at hA;rw[hl.2] at hB;have hA:=VRep_int.1 hA;have hB:=VRep_int.1 hB;refine⟨.int k (k.wrap (p-q)),.inl ⟨hw,fun w=>?_⟩,fun w=>by grind [Oper.about]⟩;simp_all [execOp,zM,binOp,Op.intArith]
  ·rename_i T x y t' l k i' ho hl;rw[ho] at hl;simp[zD9] at hl;have hb:=xA6 ho hg hl.1 hl.2 hst hq;have hA:=zJ7 hR x;have hB:=zJ7 hR y;rw[hl.1] at hA;rw[hl.2] at hB;simp only[zA] at hA hB;have hB:=VRep_int.1 hB;rw[zC rfl] at hA;obtain⟨ad,cap,hv',hx⟩:=hA;injection hv' with hv' _
   rcases hx with rfl|⟨b,o',us,ha,h1,h2,h3⟩
   ·grind
   ·exact⟨.pointer (some ⟨b,o'+i'.toNat*t'.size,none⟩),.inl ⟨hw,fun w=>by simp[execOp,ho,hv',hB,zF6 (zB6 hc.tys h) ha hb w]⟩,fun w=>by grind [Oper.about]⟩
  grind
 grind
theorem xA7 {i:Nat}{oi:Oper}:∀ {l:List Oper}{j0 n:Nat}{oj:Oper},yG9 ops i oi j0 l=true→l[n]?=some oj→i<j0+n→(∀ e∈oj.after,Region.binds .any e=true→e.on≠i)→oi.apart ops oj=true:=by
 intro l
 induction l with
 |nil=>grind
 |cons x r ih =>
  intro j0 n oj h hn hlt hno;simp only[yG9,Bool.and_eq_true,Bool.or_eq_true] at h;cases n with
  |zero =>
   rcases h.1 with h1|h1|h1
   ·have:=Nat.le_of_ble_eq_true h1;omega
   ·grind [absurd,Nat.eq_of_beq_eq_true]
   grind
  |succ n=>grind
theorem xA8 {all:List Oper}:∀ {r:List Oper}{ts:List Tr}{i:Nat}{U:St},i≤zR1 c all S i r ts U∧zR1 c all S i r ts U≤i+r.length ∧
  ∀ j,i≤j→j<zR1 c all S i r ts U→∃ o,r[j-i]?=some o∧yA9 c ((tex ts (j-i)++U)++S) o=true∧yG9 all.toArray j o 0 all=true:=by
 intro r
 induction r with
 |nil=>grind [zR1]
 |cons o r ih =>
  intro ts i U;cases ts with
  |nil=>simp only[zR1];exact⟨Nat.le_refl _,by omega,fun j h1 h2=>by omega⟩
  |cons t ts =>
   simp only[zR1];cases hb:(yA9 c (U++S) o&&yG9 all.toArray i o 0 all) with
   |false=>simp only[cond_false];exact⟨Nat.le_refl _,by omega,fun j h1 h2=>by omega⟩
   |true =>
    simp;obtain⟨h1,h2,h3⟩:=ih (ts:=ts) (i:=i+1) (U:=t.u++U);refine⟨by omega,by grind,fun j hj hjk=>?_⟩;by_cases e:j=i
    ·grind [tex]
    ·have e1:j-i=(j-(i+1))+1:=by omega
     grind [yA0]
def yA2 (n:Nat):Nat→Array Bool
 |0=>Array.replicate n false
 |i+1=>(yA2 n i).setIfInBounds i true
theorem zU6 {n:Nat}:∀ {i:Nat},(yA2 n i).size=n:=by
 intro i
 induction i<;>grind [yA2]
theorem yF7 {n:Nat}:∀ {i j:Nat},i≤n→((yA2 n i).getD j false=true↔j<i):=by
 intro i
 induction i with
 |zero=>simp[yA2];grind
 |succ i ih =>
  intro j hi;by_cases e:i=j
  ·have:i<(yA2 n i).size:=by grind [zU6]
   simp_all [yA2]
  ·rw[yA2,getD_set_ne false e,ih (by omega)];omega
def yJ7:Nat→List Nat
 |0=>[]
 |k+1=>k::yJ7 k
theorem downs_mem {j:Nat}:∀ {k:Nat},j∈yJ7 k↔j<k:=by
 intro k
 induction k<;>grind [yJ7]
theorem xS1:∀ {k:Nat},exe ts (yJ7 k)=tex ts k:=by
 intro k
 induction k<;>grind [yJ7,exe,tex]
theorem xS2 (hn:yV5 ts)(hE:zI6 0 ops.toList=true):∀ {k:Nat},k≤ops.size→Inv ops ts S (yJ7 k):=by
 intro k
 induction k with
 |zero=>intro _;exact xR8 hn
 |succ k ih =>
  intro hk;have hlt:k<ops.size:=by omega
  refine Inv.cons hn (fun j ti tj hj _ _ hij=>?_) (ih (by omega)) (Array.getElem?_eq_getElem hlt) (fun h=>?_) (fun e he hb=>?_)
  ·grind [downs_mem]
  ·grind [downs_mem]
  ·have:=zS7 (ops:=ops.toList) (j:=k) (o:=ops[k]) hE (by grind) e he hb
   grind [downs_mem]
theorem xZ3 {k:Nat}:∀ {n:Nat},((List.range n).filter fun i=>!((yJ7 k).contains i)).length≤n-k:=by
 intro n
 induction n with
 |zero=>simp
 |succ n ih =>
  rw[List.range_succ,List.filter_append,List.length_append];by_cases h:n<k
  ·have h1:n∈yJ7 k:=downs_mem.2 h;have h2:([n].filter fun i=>!((yJ7 k).contains i))=[]:=by simp[h1]
   rw[h2,List.length_nil];omega
  ·have:([n].filter fun i=>!((yJ7 k).contains i)).length≤1:=List.length_filter_le _ _;omega
theorem xS3 {K:Act→Prop}(hK:∀ o∈ops.toList,∀ a v,K a→K (a.put o.dst v))(hc:CtxOk P c)(hF:Fam c (ops.toList.map (·.dst)) ops.toList S [] ts p)(hS:∀ e∈S,e.2.hasOpt=false)(hp:∀ q∈p,q)(hE:zI6 0 ops.toList=true)
  {Q:Exit→Act→World→Prop}(hQ:∀ e a w,e≠.normal→¬ Q e a w){k fk:Nat}(_:k≤ops.size) (hk:∀ j,j<k→∃ o,ops[j]?=some o∧yA9 c (tex ts j++S) o=true∧yG9 ops j o 0 ops.toList=true)
  (hfin:∀ a w G,Rel c.n χ0 w0 (tex ts k++S) a w G→K a→wpAnyIn (fz rd) 0 P .any ops Q fk (yA2 ops.size k) a w) :
  ∀ n i,i+n=k→∀ a w G,Rel c.n χ0 w0 (tex ts i++S) a w G→K a→wpAnyIn (fz rd) 0 P .any ops Q (fk+n) (yA2 ops.size i) a w:=by
 have hpl:∀ (j:Nat) (o:Oper),ops[j]?=some o→(∀ d,o.op≠.defer d)∧∀ cs b,o.op≠.select cs b:=fun j o ho=>by
  obtain⟨_,_,h1,_⟩:=hF j o (by grind);exact xA5 h1
 intro n
 induction n with
 |zero=>grind
 |succ n ih =>
  intro i hi a w G hR hk';obtain⟨o,ho,h1,h2⟩:=hk i (by omega);obtain⟨pi,hv,q1,_,q3,_⟩:=hF i o (by grind);rw[List.append_nil] at q1;obtain⟨v,hy⟩:=yV7 (ops:=ops) hc hR q1 (fun q hq=>hp q (q3 q hq)) h1;have hw:=yQ (rd:=rd) (Q:=fun _ _ _=>False) (next:=fun a' w'=>∃ G',Rel c.n χ0 w0 (tex ts (i+1)++S) a' w' G') hc hF hS hp ho hR (fun v w' G' hR'=>⟨G',by grind [tex,List.append_assoc]⟩)
  have hb:∃ G',Rel c.n χ0 w0 (tex ts (i+1)++S) (a.put o.dst v) w G':=by
   unfold wpOpIn at hw;simp only[ho] at hw;rcases hy.1 with ⟨q1,q2⟩ | ⟨q1,rfl⟩
   ·simp[q1] at hw;unfold Oper.wpIn at hw;rw[Oper.semAt_eq _ _ _ (hpl _ _ ho).1,q2 w] at hw;exact hw.2
   grind
  obtain⟨G',hR'⟩:=hb;refine xS0 ho hpl hQ (fk+n) (yA2 ops.size i) a w (fun j oj hj hji hun hno=>?_) (mem_ready.2 ⟨?_,o,ho,fun e he hbd=>?_⟩) hy (ih (i+1) (by omega) _ _ G' hR' (hK o (List.mem_of_getElem? (by simpa using ho)) _ _ hk'))
  ·refine xA7 (n:=j) h2 (by grind) ?_ hno
   grind [yF7,yA2,zU6]
  ·grind [yA2,zU6,Array.getElem?_eq_some_iff,yF7]
  ·have:=zS7 (ops:=ops.toList) (j:=i) (o:=o) hE (by grind) e (by grind) hbd
   grind [yF7]
end draw
end Go.Am
namespace Go.Am
open Go Go.RowKit
variable {gtab:GlobTab}{P:Program}{c:Ctx}{G:Gh}{w:World}{tm:Array Value}{n:Nat}{χ0:Nat→Nat→Nat}{w0:World}{S:St}{a:Act}
def Gh.rename (G:Gh)(T U:Nat):Gh:=
 {χ:=fun b o=>if G.χ b o=zB T then zB U else G.χ b o,β:=G.β,γ:=fun k=>if k=U then G.γ T else G.γ k }
theorem zF2 {T U:Nat}:∀ b o,b<w.heap.size→G.χ b o=0→(G.rename T U).χ b o=0∧w.cell? ⟨b,o,none⟩=w.cell? ⟨b,o,none⟩:=by
 grind [Gh.rename,zA9]
theorem rename_ext {T U:Nat}:Ext (fun x=>x=zB T∨x=zB U) (fun x=>x=zB U) G w (G.rename T U) w:=by
 refine⟨zF2,fun b _ h=>⟨rfl,fun o=>?_⟩,Nat.le_refl _,fun _ _=>rfl,fun k hk=>?_,fun _ h=>.inr h⟩
 ·simp_all [Gh.rename]
 ·simp only[Gh.rename];rw[if_neg fun e=>hk (by rw[e])]
theorem yM5 {T U:Nat}{t:Ty}{l:List t.den}{m:Bool}{v:Value}(h:zF7 G w t l T m v):zF7 (G.rename T U) w t l U m v:=by
 refine zY7 (fun h=>⟨h.1,?_⟩) (by simp[Gh.rename]) rfl zF2 (fun _ hc o=>?_) h
 rotate_left
 ·grind [Gh.rename]
 rcases h.2 with h|⟨cap,cur,e,us,h1,h2,h3,h4,h5,h6,h7,h8⟩
 ·grind
 ·have hg:(G.rename T U).γ U=G.γ T:=by simp[Gh.rename]
  refine .inr ⟨cap,cur,e,us,by grind,by grind,h3,h4,h5,zB5 (fun _ _ h=>zA2 zF2 h) h6,h7,fun o=>?_⟩;rw[hg];simp only[Gh.rename,h8 o];split
  ·rw[if_neg (zA9 T)]
  ·rw[if_pos rfl]
theorem yM6 {T:Nat}(h:yL T S=true)(s:Nat):(S.get s).hasTag T=false:=by
 by_cases hj:S.get s=.junk
 ·rw[hj];rfl
 ·have hs:=zN8 hj;simp only[St.has,List.any_eq_true] at hs;obtain⟨e,he,hb⟩:=hs;have:=List.all_eq_true.1 h e he
  grind [Nat.eq_of_beq_eq_true]
theorem zE1 {T U T':Nat}(h:T'≠U):(G.rename T U).γ (bif Nat.beq T T' then U else T')=G.γ T':=by
 cases hb:Nat.beq T T'<;>simp_all [Gh.rename]
theorem zU7 {T U T' b o:Nat}(h:G.χ b o=zB T'):(G.rename T U).χ b o=zB (bif Nat.beq T T' then U else T'):=by
 cases hb:Nat.beq T T' with
 |true=>simp_all [Gh.rename]
 |false=>simp[Gh.rename];rw[if_neg (fun e=>by rw[h] at e;have:=zA4 e;simp_all),h]
theorem xA9 {T U T':Nat}(hU:T'≠U){t:Ty}{l:List t.den}{m:Bool}{v:Value}(h:yW7 G w t l T' m v):yW7 (G.rename T U) w t l (bif Nat.beq T T' then U else T') m v:=by
 refine⟨h.1,?_⟩;rcases h.2 with h|⟨cap,cur,e,us,h1,h2,h3,h4,h5,h6,h7,h8⟩
 ·grind
 ·refine .inr ⟨cap,cur,e,us,by grind [zE1],by grind [zE1],h3,h4,h5,zB5 (fun _ _ h=>zA2 zF2 h) h6,h7,fun o=>?_⟩;rw[zE1 hU];have h9:=h8 o;by_cases hc:m=false∧o<l.length*t.size
  ·grind [zF2,zE4]
  ·rw[if_neg hc] at h9 ⊢;exact zU7 h9
theorem yV8 {T U T' V:Nat}(h1:T'≠U)(h2:V≠U)(h:T'≠V):(bif Nat.beq T T' then U else T')≠(bif Nat.beq T V then U else V):=by
 grind [Nat.beq,absurd,Nat.eq_of_beq_eq_true]
theorem xB {T U T' V:Nat}(h1:T'≠U)(h2:V≠U){t:Ty}{l:List (List t.den)}{i:Nat}{m:Bool}{v:Value}(h:xL7 G w t l T' i V m v) :
  xL7 (G.rename T U) w t l (bif Nat.beq T T' then U else T') i (bif Nat.beq T V then U else V) m v:=by
 obtain⟨hv,⟨he,⟨hm,x,ad,cap,q1,q2,q3⟩ | ⟨hm,hK⟩⟩ | ⟨hne,h|⟨cap,cur,e,g1,g2,g3,g4,g5,g6,g7⟩⟩⟩:=h
 ·subst he;refine⟨hv,.inl ⟨rfl,.inl ⟨hm,x,ad,cap,q1,q2,?_⟩⟩⟩;rcases q3 with q3|⟨o,us,cur,e,k1,k2,k3,k4,k5,k6⟩
  ·grind
  ·exact .inr ⟨o,us,cur,e,by grind [zE1],k2,by grind [zE1],zB5 (fun _ _ h=>zA2 zF2 h) k4,k5,fun o=>by grind [zE1,zU7]⟩
 ·subst he;refine⟨hv,.inl ⟨rfl,.inr ⟨hm,?_⟩⟩⟩;rcases hK with h|⟨cap,cur,e,g1,g2,g3,g4,g5,g6,g7⟩
  ·exact .inl h
  ·refine .inr ⟨cap,cur,e,by grind [zE1],by grind [zE1],g3,g4,g5,fun o=>by grind [zE1,zU7],fun j x hj hji=>?_⟩
   grind [zA2,zF2]
 ·refine⟨hv,.inr ⟨yV8 h1 h2 hne,.inl h⟩⟩
 ·refine⟨hv,.inr ⟨yV8 h1 h2 hne,.inr ⟨cap,cur,e,by grind [zE1],by grind [zE1],g3,g4,g5,fun o=>by rw[zE1 h1];exact zU7 (g6 o),fun j x hj=>?_⟩⟩⟩;obtain⟨u,hu,hr⟩:=g7 j x hj;refine⟨u,hu,?_⟩;by_cases e:j=i
  ·rw[if_pos e] at hr ⊢;exact xA9 h2 hr
  ·rw[if_neg e] at hr ⊢;exact zA2 zF2 hr
theorem yV9 (hR:Rel n χ0 w0 S a w G)(hn:n≤vNo){T U:Nat}(hU:yL U S=true)(hlt:∀ e∈zB7 T (AVal.retagH T U) S S,e.1<zA6) :
  Rel n χ0 w0 (zB7 T (AVal.retagH T U) S S++S) a w (G.rename T U):=by
 have h0:¬ ((0:Nat)=zB T∨(0:Nat)=zB U):=by rintro (e|e);exact zA9 _ e;exact zA9 _ e
 have hor:∀ {t:Ty}{l:List t.den}{T':Nat}{m:Bool}{v:Value},¬ T'=U→Nat.beq T T'=false→zF7 G w t l T' m v→zF7 (G.rename T U) w t l T' m v:=by
  intro t l T' m v hB hb ho;refine zF rename_ext h0 ?_ ho;rintro (e|e)
  ·have:=zA4 e;simp_all
  grind [zA4]
 have hmap:MapOk (fun k=>k=U) G w (G.rename T U) w (fun t l T' m=>.own t l (bif Nat.beq T T' then U else T') m) (fun s T' t i p=>.eref s (bif Nat.beq T T' then U else T') t i p):=by
  refine⟨zF2,fun s=>rfl,fun s hcol hl=>⟨rfl,fun o=>?_⟩,fun t l T' m v hB ho hf=>?_,fun t l T' m v hB ho tm=>?_,fun s T' t i p v hB tm ha=>?_⟩
  ·simp_all [Gh.rename,zA7]
  ·simp only[zA8];cases hb:Nat.beq T T' with
   |true=>have:=Nat.eq_of_beq_eq_true hb;subst this;exact⟨trivial,v,rfl,yM5 ho⟩
   |false=>exact⟨trivial,v,rfl,hor hB hb ho⟩
  ·grind [zA,Nat.beq,Nat.eq_of_beq_eq_true,yM5]
  ·simp only[zA] at ha ⊢;cases hb:Nat.beq T T' with
   |true=>grind [Nat.eq_of_beq_eq_true,Gh.rename]
   |false=>rw[cond_false,rename_ext.tag (w:=w) T' fun e=>hB (zA4 e)];grind
 refine yI9 (U:=T) hR hn rename_ext h0 ?_ (fun s hs=>?_) (fun s hs=>yT9 hs (yM6 hU s)) hlt
 ·refine⟨hR.frame.os,hR.frame.tape,hR.frame.output,hR.frame.size,hR.frame.block,fun b o hb hc=>?_⟩;have:=hR.frame.cell b o hb hc;simp only[Gh.rename]
  grind [zM2]
 ·have hrs:=hR.reps s;have hno:=yM6 hU s;generalize S.get s=A at hrs hno ⊢;cases A with
  |ownh t l T' i V m =>
   simp[AVal.hasTag] at hno;exact xB (fun e=>by simp_all) (fun e=>by simp_all) hrs
  |_=>exact hmap.arep (fun k hk=>by subst hk;exact hno) hrs
end Go.Am
