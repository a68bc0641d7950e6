/- The abstract machine, part 3: a typed interpreter for the program's code, and that it is sound. No condition. -/
import Derived.Test.YtmbjipigimohbaaGreatDoorMach2
import Derived.Orders
namespace Go.Am
open Go Go.RowKit
variable {gtab:GlobTab}{P:Program}{c:Ctx}{G:Gh}{w:World}{tm:Array Value}{n:Nat}{χ0:Nat→Nat→Nat}{w0:World}{S:St}{a:Act}
def lk (l:List (Nat×Nat))(x:Nat):Option Nat:=(l.find? fun p=>p.1==x).map (·.2)
def yH5 (l:List (Nat×Nat)):Prop:=∀ a b b',(a,b)∈l→(a,b')∈l→b=b'
def zH2 (l:List (Nat×Nat)):List (Nat×Nat):=l.map fun p=>(p.2,p.1)
theorem zL9 {x y:Nat}:∀ {l:List (Nat×Nat)},lk l x=some y→(x,y)∈l:=by
 grind [lk,Option.map_eq_some_iff]
theorem zK2 {x y:Nat}{l:List (Nat×Nat)}(hf:yH5 l)(h:(x,y)∈l):lk l x=some y:=by
 cases hl:lk l x with
 |some z=>rw[hf x z y (zL9 hl) h]
 |none =>
  grind [lk,Option.map_eq_none_iff]
theorem mem_swap {x y:Nat}{l:List (Nat×Nat)}:(x,y)∈zH2 l↔(y,x)∈l:=by
 simp[zH2];constructor
 ·grind
 ·intro h;exact⟨y,x,h,rfl,rfl⟩
theorem any_beq {l:List Nat}{x:Nat}:l.any (Nat.beq x)=true↔x∈l:=by
 simp_all
theorem zU3:∀ {l:List (Nat×Nat)},zT (l.map (·.1))=true→yH5 l:=by
 intro l
 induction l with
 |nil=>intro _ a b b' h;grind
 |cons p r ih =>
  intro h a b b' h1 h2;simp[zT] at h;rcases List.mem_cons.1 h1 with e1|e1
  ·grind
  ·rcases List.mem_cons.1 h2 with e2|e2
   ·grind
   ·exact ih h.2 a b b' e1 e2
theorem yQ5:∀ {l:List (Nat×Nat)},zT (l.map (·.2))=true→yH5 (zH2 l):=by
 intro l h;refine zU3 ?_;rw[zH2,List.map_map];exact h
def zT3 (HB HT:List (Nat×Nat)):List (Nat×Nat):=HB.map (fun p=>(zD8 p.1,zD8 p.2))++HT.map (fun p=>(zA9 p.1,zA9 p.2))
theorem cols_box {HB HT:List (Nat×Nat)}{s x:Nat}:(zD8 s,x)∈zT3 HB HT↔∃ i,x=zD8 i∧(s,i)∈HB:=by
 simp[zT3];constructor
 ·grind [zC7,absurd,zA2]
 ·rintro⟨i,rfl,h⟩;exact .inl ⟨s,i,h,rfl,rfl⟩
theorem cols_arr {HB HT:List (Nat×Nat)}{T x:Nat}:(zA9 T,x)∈zT3 HB HT↔∃ U,x=zA9 U∧(T,U)∈HT:=by
 simp[zT3];constructor
 ·grind [absurd,zA2,zA3]
 ·rintro⟨i,rfl,h⟩;exact .inr ⟨T,i,h,rfl,rfl⟩
theorem yD3 {HB HT:List (Nat×Nat)}{x y:Nat}(h:(x,y)∈zT3 HB HT):4≤x∧4≤y:=by
 grind [zT3,zL8,zK9]
theorem zS2 {HB HT:List (Nat×Nat)}(h1:yH5 HB)(h2:yH5 HT):yH5 (zT3 HB HT):=by
 intro x y y' hx hy;have hx':=hx;simp[zT3] at hx';rcases hx' with ⟨p,q,h,rfl,rfl⟩ | ⟨p,q,h,rfl,rfl⟩
 ·obtain⟨i,rfl,hi⟩:=cols_box.1 hy;rw[h1 p q i h hi]
 ·obtain⟨i,rfl,hi⟩:=cols_arr.1 hy;rw[h2 p q i h hi]
def ren (HC:List (Nat×Nat))(x:Nat):Nat:=if x=0 then 0 else (lk HC x).getD 1
def Gh.calleeH (G:Gh)(HB HT:List (Nat×Nat)):Gh:=
 {χ:=fun b o=>ren (zT3 HB HT) (G.χ b o),
  β:=fun i=>match lk (zH2 HB) i with|some s=>G.β s|none=>0,
  γ:=fun T=>match lk (zH2 HT) T with|some U=>G.γ U | none=>0 }
def Gh.backH (G G':Gh)(b0:Nat)(HB HT KT KB:List (Nat×Nat)):Gh:=
 {χ:=fun b o=>if b<b0∧lk (zT3 HB HT) (G.χ b o)=none then G.χ b o else if G'.χ b o=0 then 0 else (lk (zT3 (zH2 HB++KB) KT) (G'.χ b o)).getD 2,
  β:=fun s=>match lk (zH2 KB) s with|some k=>G'.β k|none=>G.β s,
  γ:=fun U=>match lk (zH2 KT) U with|some T=>G'.γ T | none=>G.γ U }
theorem ren_zero {HB HT:List (Nat×Nat)}{x:Nat}:ren (zT3 HB HT) x=0↔x=0:=by
 unfold ren;constructor
 ·intro h;split at h
  ·grind
  ·cases hl:lk (zT3 HB HT) x with
   |none=>grind
   |some y=>have:=yD3 (zL9 hl);grind
 grind
theorem zH6 {HB HT:List (Nat×Nat)}{x:Nat}(h:lk (zT3 HB HT) x=none):ren (zT3 HB HT) x≤1:=by
 grind [ren]
theorem zS3 {HB HT:List (Nat×Nat)}:∀ b o,b<w.heap.size→G.χ b o=0→(G.calleeH HB HT).χ b o=0∧w.cell? ⟨b,o,none⟩=w.cell? ⟨b,o,none⟩:=
 fun b o _ h=>⟨by grind [Gh.calleeH,ren_zero],rfl⟩
theorem xN7 {HB HT:List (Nat×Nat)}(h1:yH5 HB)(h2:yH5 HT)(h3:yH5 (zH2 HT)){U T:Nat}(hm:(U,T)∈HT){t:Ty}{l:List t.den}{m:Bool}{v:Value}(h:zG3 G w t l U m v) :
  zG3 (G.calleeH HB HT) w t l T m v:=by
 refine yA4 (fun h=>⟨h.1,?_⟩) (by simp only[Gh.calleeH];rw[zK2 h3 (mem_swap.2 hm)]) rfl zS3 (fun _ hc o=>?_) h
 rotate_left
 ·simp only[Gh.calleeH];rw[hc];unfold ren;rw[if_neg (fun e=>zA7 U e.symm),zK2 (zS2 h1 h2) (cols_arr.2 ⟨T,rfl,hm⟩)];rfl
 rcases h.2 with h|⟨cap,cur,e,us,q1,q2,q3,q4,q5,q6,q7,q8⟩
 ·grind
 ·have hγ:(G.calleeH HB HT).γ T=G.γ U:=by simp only[Gh.calleeH];rw[zK2 h3 (mem_swap.2 hm)]
  refine .inr ⟨cap,cur,e,us,by grind,by grind,q3,q4,q5,zB8 (fun _ _ hc=>zA5 zS3 hc) q6,q7,fun o=>?_⟩;rw[hγ];simp only[Gh.calleeH];rw[q8 o];split
  ·exact ren_zero.2 rfl
  ·unfold ren;rw[if_neg (fun e=>zA7 U e.symm),zK2 (zS2 h1 h2) (cols_arr.2 ⟨T,rfl,hm⟩)];rfl
theorem yB4 {G':Gh}{w':World}{R:List (Nat×Nat)}(hprot:∀ b o,b<w.heap.size→G.χ b o=0→G'.χ b o=0∧w'.cell? ⟨b,o,none⟩=w.cell? ⟨b,o,none⟩)
  (hown:∀ U T,(U,T)∈R→∀ (t:Ty) (l:List t.den) m v,zG3 G w t l U m v→zG3 G' w' t l T m v) :
  ∀ {A:AVal}{τ:Ty}{vs:List Value}{b:Nat},(∀ p∈A.tags τ b,p∈R)→zA8 G w τ A vs→zA8 G' w' τ (A.pos τ b) vs:=by
 intro A
 induction A with
 |val τ' x=>grind [AVal.pos,zA8,zA5]
 |nil=>grind [AVal.pos,zA8]
 |own t l T m =>
  grind [AVal.pos,zA8,AVal.tags]
 |agg f d ih=>grind [AVal.pos,zA8,AVal.tags]
 |nl=>grind [AVal.pos,zA8]
 |cons x y ihx ihy =>
  intro τ vs b hR h;obtain⟨h1,t1,us,ws,rfl,rfl,h2,h3⟩:=h;simp only[AVal.tags,List.mem_append] at hR;exact⟨_,_,us,ws,rfl,rfl,ihx (fun p hp=>hR p (.inl hp)) h2,ihy (fun p hp=>hR p (.inr hp)) h3⟩
 |junk=>grind [AVal.pos,zA8]
 |_=>grind [zA8]
theorem xW2 {k i:Nat}:∀ {HB:List (Nat×Nat)},lkB HB k=some i→(k,i)∈HB:=by
 intro HB
 induction HB with
 |nil=>intro h;cases h
 |cons q r ih =>
  obtain⟨s,j⟩:=q;intro h;simp only[lkB] at h;cases hb:Nat.beq s k<;>simp_all
theorem xN8 {G G':Gh}{HB:List (Nat×Nat)}{v:Value}(h:∀ k i,(k,i)∈HB→G'.β i=G.β k):∀ {caps l:List (Option (Nat×Ty))},yJ2 HB caps=some l→caps.map (xJ G v)=l.map (xJ G' v):=by
 intro caps
 induction caps with
 |nil=>grind [yJ2,Option.some.injEq]
 |cons q r ih =>
  cases q<;>grind [yJ2,xJ,xW2]
def wG5:AVal→Option Nat
 |.ptrs _ (some (s,_,_)::_)=>some s
 |A=>zE2 A
theorem yZ1 (hR:Rel n χ0 w0 S a w G){A:AVal}{s:Nat}(h:wG5 A=some s):zA G w a.tmps (some s) (zC5 S A) (a.tmps.getD s undef):=by
 unfold wG5 at h;split at h
 ·injection h with h;subst h;exact hR.reps _
 ·rename_i hn;have:zC5 S A=zB S A:=by
   unfold zC5;split
   ·exact absurd rfl (hn _ _ _ _ _)
   ·rfl
  rw[this];exact zH0 hR h
theorem xW3 {G G':Gh}{HB:List (Nat×Nat)}(h:∀ k i,(k,i)∈HB→G'.β i=G.β k):∀ {l l':List (Option (Nat×Ty×zG4))},yP1 HB l=some l' →
  l'.map (yH9 G')=l.map (yH9 G)∧((∀ k τ p,some (k,τ,p)∈l→zE τ p)→∀ k τ p,some (k,τ,p)∈l'→zE τ p):=by
 intro l
 induction l with
 |nil=>intro l' h';injection h' with h';subst h';exact⟨rfl,fun h=>h⟩
 |cons q r ih =>
  intro l' h';cases q with
  |none =>
   simp only[yP1] at h';split at h'
   ·rename_i l2 hl;injection h' with h';subst h'
    obtain⟨i1,i2⟩:=ih hl;refine⟨by simp[i1,yH9],fun hp k τ p hm=>?_⟩;rcases List.mem_cons.1 hm with e|hm
    ·cases e
    ·exact i2 (fun k τ p hm=>hp k τ p (List.mem_cons_of_mem _ hm)) k τ p hm
   ·cases h'
  |some q =>
   obtain⟨k0,τ0,p0⟩:=q;simp only[yP1] at h';split at h'
   ·rename_i j l2 hj hl;injection h' with h';subst h'
    obtain⟨i1,i2⟩:=ih hl;refine⟨by simp[i1,yH9,h _ _ (xW2 hj)],fun hp k τ p hm=>?_⟩;rcases List.mem_cons.1 hm with e|hm
    ·injection e with e;injection e with e1 e2;injection e2 with e2 e3;subst e2;subst e3
     exact hp k0 _ _ (List.mem_cons_self ..)
    ·exact i2 (fun k τ p hm=>hp k τ p (List.mem_cons_of_mem _ hm)) k τ p hm
   ·cases h'
theorem yZ2 {G G':Gh}{w w':World}(hp:∀ b o,b<w.heap.size→G.χ b o=0→G'.χ b o=0∧w'.cell? ⟨b,o,none⟩=w.cell? ⟨b,o,none⟩){one:Bool}{l l':List (Option (Nat×Ty×zG4))}{v:Value}(hl:l'.map (yH9 G')=l.map (yH9 G))
  (hq:(∀ k τ p,some (k,τ,p)∈l→zE τ p)→∀ k τ p,some (k,τ,p)∈l'→zE τ p) (h:yF0 G w one l v):yF0 G' w' one l' v:=by
 obtain⟨b,o,cap,rfl,hc,hpp⟩:=h;have hlen:l'.length=l.length:=by have:=congrArg List.length hl;simpa using this
 refine⟨b,o,cap,by rw[hlen],?_,hq hpp⟩;rw[hl];exact zP8 hp hc
theorem wG6 {G':Gh}{w':World}{tm':Array Value}{HB:List (Nat×Nat)}(hp:∀ b o,b<w.heap.size→G.χ b o=0→G'.χ b o=0∧w'.cell? ⟨b,o,none⟩=w.cell? ⟨b,o,none⟩)(h:∀ k i,(k,i)∈HB→G'.β i=G.β k) :
  ∀ {cs cs':AVal}{v:Value},wM HB cs=some cs'→zA G w tm none cs v→zA G' w' tm' none cs' v:=by
 intro cs
 induction cs with
 |nl=>intro cs' v h' ha;injection h' with h';subst h';exact ha
 |cons a t _ iht =>
  intro cs' v h' ha;obtain⟨x,xs,rfl,h1,h2⟩:=ha;unfold wM at h';split at h'
  ·cases ‹AVal.cons a t=.nl›
  ·rename_i one l t' e;injection e with e1 e2;subst e1;subst e2
   split at h'
   ·rename_i l' t'' hl ht;injection h' with h';subst h'
    obtain⟨q1,q2⟩:=xW3 h hl;exact⟨x,xs,rfl,yZ2 hp q1 q2 h1,iht ht h2⟩
   ·cases h'
  ·rename_i a' t' _ e;injection e with e1 e2;subst e1;subst e2
   generalize hb:(AVal.cons a .nl).pureL=b at h';cases b with
   |false=>cases h'
   |true =>
    simp only[cond_true] at h';split at h'
    ·rename_i t'' ht;injection h' with h';subst h'
     have h3:=yL8 (tm':=tm') (v:=.tuple #[x]) hp hb ⟨x,[],rfl,h1,rfl⟩;obtain⟨y,ys,e,h4,_⟩:=h3;have:y=x:=by simp at e;grind
     subst this;exact⟨y,xs,rfl,h4,iht ht h2⟩
    ·cases h'
  ·cases h'
 |_=>intro cs' v h';simp[wM] at h'
theorem yF7 {s:Nat}{τ:Ty}:∀ {l:List (Option (Nat×Ty×zG4))}{ps:List zG4},zZ8 s τ l=some ps→l=ps.map fun p=>some (s,τ,p):=by
 intro l
 induction l with
 |nil=>intro ps h;injection h with h;subst h;rfl
 |cons q r ih =>
  intro ps h;cases q with
  |none=>cases h
  |some q =>
   obtain⟨k,τ',p⟩:=q;simp only[zZ8] at h;generalize hb:(Nat.beq k s&&Ty.beq τ' τ)=b at h;cases b with
   |false=>cases h
   |true =>
    simp only[cond_true] at h;simp only[Bool.and_eq_true] at hb;have e1:=Nat.eq_of_beq_eq_true hb.1;have e2:=Ty.eq_of_beq hb.2;split at h
    ·rename_i l' hl;injection h with h;subst h;subst e1;subst e2
     rw[ih hl];rfl
    ·cases h
theorem xW4 {HB HT:List (Nat×Nat)}(h1:yH5 HB)(h1':yH5 (zH2 HB))(h2:yH5 HT)(h3:yH5 (zH2 HT)){wants:List Nat}{Y k:AVal}{i:Nat}{v kv:Value}(hY:zA G w tm none Y v)
  (hk:∀ s,wG5 Y=some s→zA G w tm (some s) k kv) (hT:∀ p∈yS5 wants i Y k,p∈HT) (hB:∀ p∈yS4 i Y,p∈HB):ArgRep (G.calleeH HB HT) w i (zE8 HB wants i Y k) v:=by
 have hp:∀ b o,b<w.heap.size→G.χ b o=0→(G.calleeH HB HT).χ b o=0∧w.cell? ⟨b,o,none⟩=w.cell? ⟨b,o,none⟩:=zS3;have ho:∀ U T,(U,T)∈HT→∀ (t:Ty) (l:List t.den) m v,zG3 G w t l U m v→zG3 (G.calleeH HB HT) w t l T m v:=fun U T hm t l m v h=>xN7 h1 h2 h3 hm h;cases Y with
 |val τ x=>simp only[zE8,ArgRep,zA] at hY ⊢;exact zD hp hY
 |nil=>simp only[zE8,ArgRep,zA] at hY ⊢;exact hY
 |nilp=>simp only[zE8,ArgRep,zA] at hY ⊢;exact hY
 |own t l T m =>
  simp only[zE8];cases hw:wants.any (Nat.beq i) with
  |true =>
   simp only[cond_true,ArgRep,zA] at hY ⊢;exact ho T (zL7 i) (hT _ (by simp[yS5,hw])) t l m v hY
  |false =>
   simp only[cond_false];cases m with
   |true=>simp only[cond_true,ArgRep,zA]
   |false=>simp only[cond_false];simp only[ArgRep,zA] at hY ⊢;exact zD hp ((zC6 rfl).2 (zE1 hY))
 |agg f d =>
  simp only[zE8];cases hw:wants.any (Nat.beq i) with
  |true =>
   simp only[cond_true];simp only[ArgRep,zA] at hY ⊢;obtain⟨vs,e,ht⟩:=hY;exact⟨vs,e,yB4 hp ho (fun p hp=>hT p (by simpa[yS5,hw] using hp)) ht⟩
  |false =>
   simp only[cond_false];split
   ·rename_i x hx;simp only[ArgRep,zA];exact zD hp (zK5 hx rfl hY)
   ·simp only[ArgRep,zA]
 |fn f cs =>
  simp only[zE8];cases hq:wM HB cs with
  |none=>simp only[ArgRep,zA]
  |some cs'=>simp only[ArgRep,zA] at hY ⊢;obtain⟨vs,e1,e2⟩:=hY;exact⟨vs,e1,wG6 hp (fun k i hm=>by simp only[Gh.calleeH];rw[zK2 h1' (mem_swap.2 hm)]) hq e2⟩
 |ptrs one l =>
  cases l with
  |nil=>cases k<;>simp only[zE8,xL1,ArgRep,zA]
  |cons q r =>
   cases q with
   |none=>cases k<;>simp only[zE8,xL1,ArgRep,zA]
   |some q =>
    obtain⟨s,τ0,p0⟩:=q;cases k with
    |box τ' k =>
     simp only[zE8,xL1];cases hq:zZ8 s τ' (some (s,τ0,p0)::r) with
     |none=>simp only[ArgRep,zA]
     |some ps =>
      have hm:(s,hid i)∈HB:=hB _ (by simp[yS4]);have hβ:(G.calleeH HB HT).β (hid i)=G.β s:=by simp only[Gh.calleeH];rw[zK2 h1' (mem_swap.2 hm)]
      have hl:=yF7 hq;obtain⟨hvt,cur,e,g1,g2,g3⟩:=zG8 (hk s rfl);simp only[ArgRep];refine⟨?_,hvt,cur,e,by rw[hβ];exact g1,yB4 hp ho (fun p hp=>hT p (by simpa[yS5] using hp)) g2,fun o=>?_⟩
      ·simp only[zA] at hY;refine yZ2 hp ?_ ?_ hY
       ·rw[hl,List.map_map,List.map_map];refine List.map_congr_left fun p _=>?_;simp only[Function.comp,yH9,hβ]
       ·intro hpp k τ p hm';obtain⟨p',hp',e⟩:=List.mem_map.1 hm';injection e with e;injection e with e1 e2;injection e2 with e2 e3;subst e1;subst e2;subst e3
        exact hpp s _ _ (by rw[hl];exact List.mem_map.2 ⟨_,hp',rfl⟩)
      ·rw[hβ];simp only[Gh.calleeH];rw[g3 o];unfold ren;rw[if_neg (fun e=>zC8 s e.symm),zK2 (zS2 h1 h2) (cols_box.2 ⟨hid i,rfl,hm⟩)];rfl
    |_=>simp only[zE8,ArgRep,zA]
 |fptr f caps =>
  simp only[zE8];cases hc:yJ2 HB caps with
  |none=>simp only[ArgRep,zA]
  |some l =>
   simp only[ArgRep,zA] at hY ⊢;obtain⟨b,rfl,h0,hcell⟩:=hY;have hb:b<w.heap.size:=by
    by_cases hb:b<w.heap.size
    ·exact hb
    ·have:w.heap[b]?=none:=Array.getElem?_eq_none (by omega);simp[World.cell?,this] at hcell
   refine⟨b,rfl,(hp b 0 hb h0).1,?_⟩;rw[hcell,xN8 (G:=G) (G':=G.calleeH HB HT) (fun k i hm=>by simp only[Gh.calleeH];rw[zK2 h1' (mem_swap.2 hm)]) hc]
 |ref s τ p =>
  cases p with
  |nil =>
   cases k with
   |box τ' k =>
    simp only[zE8];cases hb:Ty.beq τ' τ with
    |false=>simp only[cond_false,ArgRep,zA]
    |true =>
     simp only[cond_true];have e:=Ty.eq_of_beq hb;subst e;obtain⟨hvt,cur,e,g1,g2,g3⟩:=zG8 (hk s rfl);have hm:(s,i)∈HB:=hB _ (by simp[yS4]);simp only[ArgRep,zA] at hY ⊢;have hβ:(G.calleeH HB HT).β i=G.β s:=by simp only[Gh.calleeH];rw[zK2 h1' (mem_swap.2 hm)]
     refine⟨fun _=>by rw[hβ];simpa[Ty.poff] using hY.2,hvt,cur,e,by rw[hβ];exact g1,yB4 hp ho (fun p hp=>hT p (by simpa[yS5] using hp)) g2,fun o=>?_⟩;rw[hβ];simp only[Gh.calleeH];rw[g3 o];unfold ren;rw[if_neg (fun e=>zC8 s e.symm),zK2 (zS2 h1 h2) (cols_box.2 ⟨i,rfl,hm⟩)];rfl
   |_=>simp only[zE8,ArgRep,zA]
  |cons _ _=>simp only[zE8,ArgRep,zA]
 |_=>simp only[zE8,ArgRep,zA]
section
variable {HB HT KT KB:List (Nat×Nat)}{G':Gh}{w':World}
theorem zQ4 (hF:Frame0 (G.calleeH HB HT).χ w G'.χ w'):∀ b o,b<w'.heap.size→G'.χ b o=0→(G.backH G' w.heap.size HB HT KT KB).χ b o=0∧w'.cell? ⟨b,o,none⟩=w'.cell? ⟨b,o,none⟩:=by
 intro b o _ h0;refine⟨?_,rfl⟩;simp only[Gh.backH];split
 ·rename_i hc;have:=(hF.cell b o hc.1 (zH6 hc.2)).1;rw[h0] at this;exact ren_zero.1 this.symm
 simp_all
theorem yM3 (hF:Frame0 (G.calleeH HB HT).χ w G'.χ w')(h1:yH5 (zH2 HB++KB))(h2:yH5 KT)(h3:yH5 (zH2 KT)){T U:Nat}(hm:(T,U)∈KT){t:Ty}{l:List t.den}{m:Bool}{v:Value}(h:zG3 G' w' t l T m v) :
  zG3 (G.backH G' w.heap.size HB HT KT KB) w' t l U m v:=by
 refine yA4 (fun h=>⟨h.1,?_⟩) (by simp only[Gh.backH];rw[zK2 h3 (mem_swap.2 hm)]) rfl (zQ4 hF) (fun _ q8 o=>?_) h
 rotate_left
 ·simp only[Gh.backH];split
  ·rename_i hc;have h4:=(hF.cell _ o hc.1 (zH6 hc.2)).1
   grind [zH6,Gh.calleeH,zK9]
  ·rw[q8 o,if_neg (fun e=>zA7 T e.symm),zK2 (zS2 h1 h2) (cols_arr.2 ⟨U,rfl,hm⟩)];rfl
 rcases h.2 with h|⟨cap,cur,e,us,q1,q2,q3,q4,q5,q6,q7,q8⟩
 ·grind
 ·have hγ:(G.backH G' w.heap.size HB HT KT KB).γ U=G'.γ T:=by simp only[Gh.backH];rw[zK2 h3 (mem_swap.2 hm)]
  refine .inr ⟨cap,cur,e,us,by grind,by grind,q3,q4,q5,zB8 (fun _ _ hc=>zA5 (zQ4 hF) hc) q6,q7,fun o=>?_⟩;rw[hγ];simp only[Gh.backH];split
  ·rename_i hc;have h4:=(hF.cell _ o hc.1 (zH6 hc.2)).1;rw[q8 o] at h4;by_cases hmo:m=false∧o<l.length*t.size
   ·rw[if_pos hmo] at h4;rw[if_pos hmo];exact ren_zero.1 h4.symm
   ·grind [zH6,Gh.calleeH,zK9]
  ·rw[q8 o];by_cases hmo:m=false∧o<l.length*t.size
   ·rw[if_pos hmo,if_pos rfl,if_pos hmo]
   ·rw[if_neg hmo,if_neg (fun e=>zA7 T e.symm),if_neg hmo,zK2 (zS2 h1 h2) (cols_arr.2 ⟨U,rfl,hm⟩)];rfl
theorem zS4 (hF:Frame0 (G.calleeH HB HT).χ w G'.χ w')(h1:yH5 (zH2 HB++KB))(h2:yH5 KT){i s:Nat}(hm:(i,s)∈zH2 HB++KB)(hβ:(G.backH G' w.heap.size HB HT KT KB).β s=G'.β i){τ:Ty}{k k':AVal}
  (hk:∀ vs,zA8 G' w' τ k vs→zA8 (G.backH G' w.heap.size HB HT KT KB) w' τ k' vs) (h:zN3 G' w' i τ k):zN3 (G.backH G' w.heap.size HB HT KT KB) w' s τ k':=by
 obtain⟨hvt,cur,e,q2,q3,q4⟩:=h;refine⟨hvt,cur,e,by rw[hβ];exact q2,hk _ q3,fun o=>?_⟩;rw[hβ];simp only[Gh.backH];have hi:=q4 o;split
 ·rename_i hc;have h4:=(hF.cell _ o hc.1 (zH6 hc.2)).1;have:=zH6 (HB:=HB) (HT:=HT) hc.2;simp only[Gh.calleeH] at h4;rw[hi] at h4;have:=zL8 i;omega
 ·rw[hi,if_neg (fun e=>zC8 i e.symm),zK2 (zS2 h1 h2) (cols_box.2 ⟨s,rfl,hm⟩)];rfl
theorem xW5 (hF:Frame0 (G.calleeH HB HT).χ w G'.χ w')(h1:yH5 (zH2 HB++KB))(h2:yH5 KT)(h3:yH5 (zH2 KT)){s i:Nat}(hm:(s,i)∈HB)(hnew:lk (zH2 KB) s=none)(hβ:G'.β i=G.β s){τ:Ty}{k:AVal}{u:Value}(hpt:s<vNo→u=.pointer (some ⟨G.β s,0,none⟩))
  (hK:∀ p∈k.tags τ (zL7 s),p∈KT) (h:zA G' w' #[] (some i) (.box τ k) u):zA (G.backH G' w.heap.size HB HT KT KB) w' tm (some s) (.box τ (k.pos τ (zL7 s))) u:=by
 have hb:(G.backH G' w.heap.size HB HT KT KB).β s=G.β s:=by simp only[Gh.backH,hnew]
 refine⟨fun hs=>by rw[hb];exact hpt hs,zS4 hF h1 h2 (List.mem_append_left _ (mem_swap.2 hm)) (by rw[hb,hβ]) (fun vs ht=>yB4 (zQ4 hF) (fun U T hm t l m v h=>yM3 hF h1 h2 h3 hm h) hK ht) h.2⟩
theorem xW6 (hF:Frame0 (G.calleeH HB HT).χ w G'.χ w'):Ext (fun x=>(∃ y,(x,y)∈zT3 HB HT)∨(∃ U,U∈KT.map (·.2)∧x=zA9 U)∨∃ V,V∈KB.map (·.2)∧x=zD8 V) (fun x=>(∃ U,U∈KT.map (·.2)∧x=zA9 U)∨∃ V,V∈KB.map (·.2)∧x=zD8 V) G w (G.backH G' w.heap.size HB HT KT KB) w':=by
 refine⟨fun b o hb h0=>?_,fun b hb hX=>?_,hF.size,fun s hs=>?_,fun T hT=>?_,fun _ h=>.inr h⟩
 ·have hn:lk (zT3 HB HT) (G.χ b o)=none:=by
   cases hl:lk (zT3 HB HT) (G.χ b o) with
   |none=>rfl
   |some y=>have:=yD3 (zL9 hl);omega
  refine⟨by simp_all [Gh.backH],?_⟩;exact (hF.cell b o hb (zH6 hn)).2
 ·have hn:∀ o,lk (zT3 HB HT) (G.χ b o)=none:=fun o=>by
   grind [lk,zT3,absurd,zL9]
  exact⟨hF.block b hb (fun o=>zH6 (hn o)),fun o=>by simp_all [Gh.backH]⟩
 ·simp only[Gh.backH];cases hl:lk (zH2 KB) s with
  |none=>rfl
  |some U=>exact absurd (.inr ⟨s,List.mem_map.2 ⟨(U,s),mem_swap.1 (zL9 hl),rfl⟩,rfl⟩) hs
 ·simp only[Gh.backH];cases hl:lk (zH2 KT) T with
  |none=>rfl
  |some U=>exact absurd (.inl ⟨T,List.mem_map.2 ⟨(U,T),mem_swap.1 (zL9 hl),rfl⟩,rfl⟩) hT
def Gh.backO (G G':Gh)(b0:Nat)(HB HT KT KB:List (Nat×Nat)):Gh:={ χ:=(G.backH G' b0 HB HT KT KB).χ,β:=G.β,γ:=(G.backH G' b0 HB HT KT KB).γ }
theorem xW7 (hF:Frame0 (G.calleeH HB HT).χ w G'.χ w'):Ext (fun x=>(∃ y,(x,y)∈zT3 HB HT)∨∃ U,U∈KT.map (·.2)∧x=zA9 U) (fun x=>∃ U,U∈KT.map (·.2)∧x=zA9 U) G w (G.backO G' w.heap.size HB HT KT KB) w':=by
 refine⟨fun b o hb h0=>?_,fun b hb hX=>?_,hF.size,fun s _=>rfl,fun T hT=>?_,fun _ h=>.inr h⟩
 ·have hn:lk (zT3 HB HT) (G.χ b o)=none:=by
   cases hl:lk (zT3 HB HT) (G.χ b o) with
   |none=>rfl
   |some y=>have:=yD3 (zL9 hl);omega
  refine⟨by simp_all [Gh.backO,Gh.backH],?_⟩;exact (hF.cell b o hb (zH6 hn)).2
 ·have hn:∀ o,lk (zT3 HB HT) (G.χ b o)=none:=fun o=>by
   grind [lk,zT3,absurd,zL9]
  exact⟨hF.block b hb (fun o=>zH6 (hn o)),fun o=>by simp_all [Gh.backO,Gh.backH]⟩
 ·simp only[Gh.backO,Gh.backH];cases hl:lk (zH2 KT) T with
  |none=>rfl
  |some U=>exact absurd ⟨T,List.mem_map.2 ⟨(U,T),mem_swap.1 (zL9 hl),rfl⟩,rfl⟩ hT
theorem xN9 {b0:Nat}:Ext (fun x=>(∃ y,(x,y)∈zT3 [] [])∨(∃ U,U∈([]:List (Nat×Nat)).map (·.2)∧x=zA9 U)∨∃ V,V∈KB.map (·.2)∧x=zD8 V) (fun x=>(∃ U,U∈([]:List (Nat×Nat)).map (·.2)∧x=zA9 U)∨∃ V,V∈KB.map (·.2)∧x=zD8 V) (G.backO G' b0 HB HT KT KB) w (G.backH G' b0 HB HT KT KB) w:=by
 refine⟨fun b o _ h0=>⟨h0,rfl⟩,fun b _ _=>⟨rfl,fun _=>rfl⟩,Nat.le_refl _,fun s hs=>?_,fun T _=>rfl,fun _ h=>.inr h⟩;simp only[Gh.backO,Gh.backH];cases hl:lk (zH2 KB) s with
 |none=>rfl
 |some U=>exact absurd (.inr ⟨s,List.mem_map.2 ⟨(U,s),mem_swap.1 (zL9 hl),rfl⟩,rfl⟩) hs
theorem xE5 (hF:Frame0 (G.calleeH HB HT).χ w G'.χ w')(hfr:Frame0 χ0 w0 G.χ w):Frame0 χ0 w0 (G.backH G' w.heap.size HB HT KT KB).χ w':=by
 have hnone:∀ b o,b<w0.heap.size→χ0 b o≤1→lk (zT3 HB HT) (G.χ b o)=none:=fun b o hb hc=>by
  cases hl:lk (zT3 HB HT) (G.χ b o) with
  |none=>rfl
  |some y=>have:=yD3 (zL9 hl);have:=(hfr.cell b o hb hc).1;omega
 refine⟨hF.os.trans hfr.os,hF.tape.trans hfr.tape,hF.output.trans hfr.output,Nat.le_trans hfr.size hF.size,fun b hb hc=>?_,fun b o hb hc=>?_⟩
 ·have hlt:=Nat.lt_of_lt_of_le hb hfr.size;rw[hF.block b hlt (fun o=>zH6 (hnone b o hb (hc o)))];exact hfr.block b hb hc
 ·have hlt:=Nat.lt_of_lt_of_le hb hfr.size;have hn:=hnone b o hb hc;have h3:=hfr.cell b o hb hc;refine⟨by simp_all [Gh.backH],?_⟩;rw[(hF.cell b o hlt (zH6 hn)).2]
  grind
end
theorem yQ6 {G':Gh}{w':World}{d:Nat}(hprot:∀ b o,b<w.heap.size→G.χ b o=0→G'.χ b o=0∧w'.cell? ⟨b,o,none⟩=w.cell? ⟨b,o,none⟩)
  (hown:∀ T,T<4→∀ (t:Ty) (l:List t.den) m v,zG3 G w t l T m v→zG3 G' w' t l (T*100000+d) m v):∀ {A:AVal}{τ:Ty}{vs:List Value},zG5 A=true→zA8 G w τ A vs→zA8 G' w' τ (A.tagTo d) vs:=by
 intro A
 induction A with
 |val τ' x=>grind [AVal.tagTo,zA8,zA5]
 |nil=>grind [AVal.tagTo,zA8]
 |own t l T m=>intro τ vs hr ht;have hr:T<4:=Nat.le_of_ble_eq_true hr;grind [AVal.tagTo,zA8]
 |agg f b ih=>grind [zG5,AVal.tagTo,zA8]
 |nl=>grind [AVal.tagTo,zA8]
 |junk=>grind [AVal.tagTo,zA8]
 |cons x y ihx ihy=>intro τ vs hr ht;simp[zG5] at hr;obtain⟨h1,t1,us,ws,e,h2,h3,h4⟩:=ht;exact⟨h1,t1,us,ws,e,h2,ihx hr.1 h3,ihy hr.2 h4⟩
 |_=>intro τ vs _ ht;simp only[zA8] at ht
theorem yQ7 {G':Gh}{w':World}{d:Nat}{tm':Array Value}(hprot:∀ b o,b<w.heap.size→G.χ b o=0→G'.χ b o=0∧w'.cell? ⟨b,o,none⟩=w.cell? ⟨b,o,none⟩)
  (hown:∀ T,T<4→∀ (t:Ty) (l:List t.den) m v,zG3 G w t l T m v→zG3 G' w' t l (T*100000+d) m v):∀ {A:AVal}{v:Value},zG5 A=true→zA G w tm none A v→zA G' w' tm' none (A.tagTo d) v:=by
 intro A
 induction A with
 |junk=>grind [AVal.tagTo,zA]
 |val τ' x=>grind [AVal.tagTo,zA,zD]
 |nil=>grind [AVal.tagTo,zA]
 |own t l T m=>intro v hr ht;have hr:T<4:=Nat.le_of_ble_eq_true hr;grind [AVal.tagTo,zA]
 |agg f b _=>grind [zG5,AVal.tagTo,zA,yQ6]
 |nl=>grind [AVal.tagTo,zA]
 |nilp=>grind [AVal.tagTo,zA]
 |cons x y ihx ihy=>intro v hr ht;simp[zG5] at hr;obtain⟨u,us,h1,h2,h3⟩:=ht;exact⟨u,us,h1,ihx hr.1 h2,ihy hr.2 h3⟩
 |tup b ih=>intro v hr ht;exact ih hr ht
 |_=>intro v hr _;simp[zG5] at hr
theorem xE6 {G':Gh}{w':World}{d:Nat}{tm':Array Value}(hprot:∀ b o,b<w.heap.size→G.χ b o=0→G'.χ b o=0∧w'.cell? ⟨b,o,none⟩=w.cell? ⟨b,o,none⟩)
  (hown:∀ T,T<4→∀ (t:Ty) (l:List t.den) m v,zG3 G w t l T m v→zG3 G' w' t l (T*100000+d) m v) (yS4:∀ s,vNo≤s→s<vNo+4→G'.β (vTo d s)=G.β s):∀ {A:AVal}{v:Value},yF A=true→zA G w tm none A v→zA G' w' tm' none (A.tagTo d) v:=by
 have h2:∀ s,(Nat.ble vNo s&&Nat.blt s (vNo+4))=true→G'.β (vTo d s)=G.β s:=fun s h=>by
  simp only[Bool.and_eq_true] at h;exact yS4 s (Nat.le_of_ble_eq_true h.1) (Nat.le_of_ble_eq_true h.2)
 intro A
 induction A with
 |ref s τ p =>
  intro v hr ht;simp only[yF,Bool.and_eq_true] at hr;simp only[AVal.tagTo,zA] at ht ⊢;rw[h2 s (by simp[hr.1,hr.2.1])];exact ht
 |pn b s τ =>
  intro v hr ht;simp only[yF] at hr;simp only[AVal.tagTo,zA] at ht ⊢;rw[h2 s hr];exact ht
 |cons x y ihx ihy=>intro v hr ht;simp[yF] at hr;obtain⟨u,us,h1,h2,h3⟩:=ht;exact⟨u,us,h1,ihx hr.1 h2,ihy hr.2 h3⟩
 |tup b ih=>intro v hr ht;exact ih hr ht
 |_=>intro v hr ht;exact yQ7 hprot hown hr ht
end Go.Am
namespace Go.Am
open Go Go.RowKit
variable {rd:Option Nat}{gtab:GlobTab}{P:Program}{c:Ctx}{G:Gh}{w:World}{tm:Array Value}{n:Nat}{χ0:Nat→Nat→Nat}{w0:World}{S:St}{a:Act}
theorem yD4 {s0:Nat}:∀ {A:AVal}{s:Option Nat},s≠some s0→¬ A.names (fun x=>x=zD8 s0) (fun _=>False) s:=by
 intro A
 induction A with
 |own t l T m=>grind [AVal.names,zA2]
 |ownh t l T i V m=>grind [AVal.names,zA2]
 |opt _ _ _ A ih=>grind [AVal.names]
 |box τ b ih =>
  intro s h;cases s<;>grind [AVal.names,zC7]
 |may m τ b ih =>
  intro s h;cases s<;>grind [AVal.names,zC7]
 |raw =>
  intro s h;cases s<;>grind [AVal.names,zC7]
 |cons x y ihx ihy=>grind [AVal.names]
 |agg f b ih=>grind [AVal.names]
 |tup b ih=>grind [AVal.names]
 |fn f b ih=>grind [AVal.names]
 |bld T e U l =>
  intro s h;cases s with
  |none=>exact fun e=>zA2 _ _ e.symm
  |some s =>
   rintro (e|e)
   ·exact h (by rw[zC7 e])
   ·exact zA2 _ _ e.symm
 |_=>grind [AVal.names]
theorem xO {s:Nat}{v:Value}:∀ {cs:AVal}{caps:List (Option (Nat×Ty))}{xs:Array Value},zW8 s cs=some caps→zA G w tm none cs (.tuple xs)→v=.pointer (some ⟨G.β s,0,none⟩)→xs.toList=caps.map (xJ G v):=by
 intro cs
 induction cs with
 |nl =>
  grind [zW8,Option.some.injEq,zA,Value.tuple.injEq]
 |cons A t _ ih =>
  intro caps xs h ha hv;simp[zA] at ha;obtain⟨x,r,rfl,h1,h2⟩:=ha;cases A with
  |ref k τ p =>
   cases p with
   |nil =>
    simp only[zW8] at h;split at h
    ·rename_i l hl;simp  at h;subst h;simp[zA,Ty.poff] at h1;have:=ih hl h2 hv;simp only[List.map_cons,xJ];rw[← this,h1.2]
    ·cases h
   |cons _ _=>simp[zW8] at h
  |rref s' =>
   simp only[zW8] at h;cases hb:Nat.beq s s' with
   |false=>grind
   |true =>
    have:=Nat.eq_of_beq_eq_true hb;subst this;split at h
    ·rename_i l hl;simp  at h;subst h;have:=ih hl h2 hv;simp only[List.map_cons,xJ];rw[← this,h1,hv]
    grind
  |_=>grind [zW8]
 |_=>grind [zW8]
def Gh.ice (G:Gh)(b:Nat):Gh:={ G with χ:=fun b' o=>if b'=b then 0 else G.χ b' o }
theorem xW8 {T:Nat}{X:Nat→Prop}{G':Gh}{w':World}(hX:∀ x,X x→x=zA9 T)(hx:Ext X (fun _=>False) G w G' w') :
  MapOk (fun _=>False) G w G' w' (fun t l T' m=>bif Nat.beq T T' then .junk else .own t l T' m) (fun s T' t i p=>bif Nat.beq T T' then .junk else .eref s T' t i p):=by
 have h0:¬ X 0:=fun h=>zA7 _ (hX 0 h);refine⟨hx.prot,fun s=>hx.box s id,fun s hcol hlt=>?_,fun t l T' m v _ ho hf=>?_,fun t l T' m v _ ho tm=>?_,fun s T' t i p v _ tm ha=>?_⟩
 ·have:=hx.block _ hlt (fun o=>by grind [zA2])
  grind
 ·cases hb:Nat.beq T T' with
  |true=>grind [AVal.fitsT]
  |false =>
   simp only[cond_false,zA8];exact⟨trivial,v,rfl,zF6 hx h0 (fun e=>by have:=zA3 (hX _ e);simp_all) ho⟩
 ·cases hb:Nat.beq T T' with
  |true=>simp[zA]
  |false=>exact zF6 hx h0 (fun e=>by have:=zA3 (hX _ e);simp_all) ho
 ·cases hb:Nat.beq T T' with
  |true=>simp[zA]
  |false=>simp[zA] at ha ⊢;rw[hx.tag T' id];grind
theorem xO0 {U:Nat}{t:Ty}{i V s0:Nat}{x:List t.den}{m:Bool}{c:Ctx}:∀ {R:St}{s:Nat},St.has s (zZ4 c U t i x V m s0 S R)=true →
  (zZ4 c U t i x V m s0 S R).get s=(bif Nat.beq s s0||c.wr.any (Nat.beq s) then (S.get s).fill U t i x V m else (S.get s).gone U)∨∃ e∈zZ4 c U t i x V m s0 S R,e.1=zA4:=by
 intro R
 induction R<;>grind [zZ4,St.has,St.get,Nat.beq,List.mem_cons_self,Nat.eq_of_beq_eq_true]
theorem xO1 {U:Nat}{t:Ty}{i V s0:Nat}{x:List t.den}{m:Bool}{c:Ctx}{s:Nat}(ht:(S.get s).hasTag U=true):∀ {R:St},St.has s R=true→St.has s (zZ4 c U t i x V m s0 S R)=true:=by
 intro R
 induction R with
 |nil=>grind [St.has]
 |cons e r ih =>
  intro h;obtain⟨q,A⟩:=e;simp only[zZ4];simp only[St.has,List.any_cons,Bool.or_eq_true] at h;cases ht':(S.get q).hasTag U with
  |false =>
   rcases h with h|h
   ·simp_all
   ·exact ih h
  |true =>
   simp only[cond_true,St.has,List.any_cons,Bool.or_eq_true];rcases h with h|h
   ·grind
   ·exact .inr (ih h)
theorem xE7 {U s0 s:Nat}{i:Int}:∀ {l:List Nat},l.any (Nat.beq s)=true→s≠s0→(∀ q∈zZ6 U i s0 S l,q)→∀ q∈zZ5 U i (S.get s),q:=by
 intro l
 induction l with
 |nil=>grind
 |cons k r ih =>
  intro h hne hq;simp[zZ6] at hq
  grind [Nat.eq_of_beq_eq_true,Nat.beq,absurd]
theorem xE8 (hc:CtxOk P c)(hR:Rel c.n χ0 w0 S a w G){o:Oper}{T:Nat}{x y:Operand}{A v:AVal}{p:List Prop}{u:St}{hv:Bool}(ho:o.op=.store T x y)(hd:o.dst=none)
  (hA:zA G w a.tmps none A (a.eval x)) (hV:zA G w a.tmps none v (a.eval y)) (h:zZ7 c T A (zB S A) v S=some (p,u,hv))
  (hlt:∀ e∈u,e.1<zA4) (hp:∀ q∈p,q)
  {next:Act→World→Prop}{Q:Exit→Act→World→Prop}(hnext:∀ v w' G',Rel c.n χ0 w0 (u++S) (a.put o.dst v) w' G'→next (a.put o.dst v) w'):o.wpIn (fz rd) 0 P a w next Q:=by
 unfold zZ7 at h;split at h
 ·rename_i s0 U t i q;split at h
  ·rename_i t' l U' j U2 hk;have hcont:=zH0 hR (A:=.eref s0 U t i q) rfl;rw[hk] at hcont;unfold yJ1 at h;split at h
   ·rename_i sv xv V m;cases hb:(Ty.beq (.sl t') t&&Nat.beq U' U2&&Nat.beq U' U&&c.is T (.sl t')&&q.isEmpty&&!(Nat.beq V U)&&!t'.isL) with
    |false=>grind
    |true =>
     simp only[hb,cond_true] at h;split at h
     ·rename_i xv' hxv';simp only[Option.some.injEq,Prod.mk.injEq] at h;obtain⟨rfl,rfl,rfl⟩:=h;simp only[Bool.and_eq_true,Bool.not_eq_true'] at hb;obtain⟨⟨⟨⟨⟨⟨b1,b2⟩,b3⟩,b4⟩,b5⟩,b6⟩,b7⟩:=hb;have e:=Ty.eq_of_beq b1;subst e;have e:=Nat.eq_of_beq_eq_true b2;subst e;have e:=Nat.eq_of_beq_eq_true b3;subst e;have hq:q=[]:=List.isEmpty_iff.1 b5;subst hq;have hT:=zB4 hc.tys b4;have hne:V≠U':=fun e=>by grind
      obtain⟨e',hxv'⟩:=zD2 hxv';injection e' with e'
      subst e';subst hxv';obtain⟨hij,hil⟩:=hp _ (List.mem_cons_self ..);subst hij;obtain⟨hi0,_,hxa⟩:=hA;have hi:i.toNat<List.length (α:=List sv.den) l:=by omega
      obtain⟨⟨cur,e,g1,g2⟩,hfr,hx,hH⟩:=yQ4 (u:=a.eval y) hR.frame hcont hi hne (zB1 hV b7);have hone:=yB0 hV;have hrun:=zJ7 (P:=P) (w:=w) (u:=a.eval y) (us:=[a.eval y]) (b:=G.γ U') (o:=i.toNat) (cur:=cur) (e:=e) hT (zK7 (τ:=.sl sv) (us:=[a.eval y]) (by simp[zO5,Ty.isAgg]) (by grind)) (by simp[Ty.size]) (by grind) g1 (by grind);have hrun':(execOp a.eval o).run P w=.ok .skip (w.setCells (G.γ U') i.toNat [a.eval y]):=by
       unfold execOp;simp[ho,hxa,Ty.size,Ty.poff,hrun]
      refine zV8 hrun' (hnext undef _ G ?_);rw[hd,zJ8];have hmap:=xW8 (T:=U') (fun x h=>h) hx;have hgone:∀ s,zA G (w.setCells (G.γ U') i.toNat [a.eval y]) a.tmps (some s) ((S.get s).gone U') (a.tmps.getD s undef):=fun s=>hmap.arep (fun _ h=>h.elim) (hR.reps s);refine zD7 (dst:=none) (v:=undef) hR hc.n hlt (fun d e=>by cases e) (fun d e=>by grind) hx (fun e=>zA7 _ e) hfr (fun s' hs'=>?_) (fun s d e=>by grind) (fun s' hs'=>?_)
      ·refine xE4 (fun x h=>h) ?_
       grind [xO1,zO0,zQ3]
      ·rw[zJ8];rcases xO0 hs' with h3|⟨e,he,h3⟩
       ·rw[h3];cases hsel:(Nat.beq s' s0||c.wr.any (Nat.beq s')) with
        |false=>grind
        |true =>
         simp only[cond_true];have hask:∀ q∈zZ5 U' i (S.get s'),q:=by
          by_cases e0:s'=s0
          ·subst e0;simp only[zB] at hk;rw[hk];have h0:=hp _ (List.mem_cons_self ..);intro q hq;simp only[zZ5,Nat.beq_refl,Bool.and_self,cond_true,List.mem_singleton] at hq;rw[hq];exact⟨trivial,h0.2⟩
          ·simp only[Bool.or_eq_true] at hsel;rcases hsel with h|h
           ·grind [absurd,Nat.eq_of_beq_eq_true]
           ·exact xE7 h e0 fun q hq=>hp q (List.mem_cons_of_mem _ hq)
         have hrs:=hR.reps s';have hg:=hgone s';generalize S.get s'=A at hrs hask hg ⊢;cases A with
         |ownh t2 l2 T2 j2 U3 m2 =>
          cases m2 with
          |false=>exact hg
          |true =>
           simp only[AVal.fill];cases hbb:(Nat.beq T2 U'&&Nat.beq U3 U') with
           |false=>simp only[cond_false,zA]
           |true =>
            simp only[cond_true];simp only[zZ5,hbb,cond_true,List.mem_singleton,forall_eq] at hask;simp only[Bool.and_eq_true] at hbb;have e1:=Nat.eq_of_beq_eq_true hbb.1;have e2:=Nat.eq_of_beq_eq_true hbb.2;subst e1;subst e2;split
            ·rename_i x2 hx2;obtain⟨e3,hx2⟩:=zD2 hx2;injection e3 with e3
             subst e3;subst hx2;obtain⟨q1,q2⟩:=hask;subst q1;have hl2:i.toNat<List.length (α:=List sv.den) l2:=by omega
             exact (yQ4 hR.frame hrs hl2 hne (zB1 hV b7)).2.2.2
            grind [zA]
         |_=>exact hg
       ·have:=hlt e he;have:=hc.n;omega
     grind
   grind
  ·rename_i t' l U' hk;have hcont:=zH0 hR (A:=.eref s0 U t i q) rfl;rw[hk] at hcont;cases hho:wL9 v with
   |true =>
    simp[hho,cond_true] at h;unfold yJ0 at h;split at h
    ·rename_i sv xv V m;cases hb:(Ty.beq t' t&&Ty.beq (.sl sv) t'&&Nat.beq U' U&&c.is T (.sl sv)&&q.isEmpty&&!(Nat.beq V U)&&!sv.isL) with
     |false=>grind
     |true =>
      simp[hb,cond_true,Option.some.injEq,Prod.mk.injEq] at h;obtain⟨rfl,rfl,rfl⟩:=h;simp only[Bool.and_eq_true,Bool.not_eq_true'] at hb;have e:=Ty.eq_of_beq hb.1.1.1.1.1.1;subst e;have e:=Ty.eq_of_beq hb.1.1.1.1.1.2;subst e;have e:=Nat.eq_of_beq_eq_true hb.1.1.1.1.2;subst e;have hT:=zB4 hc.tys hb.1.1.1.2;have hne:V≠U':=fun e=>by grind
      have hil:=hp _ (List.mem_singleton.2 rfl);obtain⟨hi0,_,hxv⟩:=hA;have hi:i.toNat<List.length (α:=List sv.den) l:=by omega
      obtain⟨⟨cur,e,g1,g2⟩,hfr,hx,hm⟩:=xN3 (u:=a.eval y) hR.frame hb.2 hcont hi hne hV;have hone:=yB0 hV;have hrun:=zJ7 (P:=P) (w:=w) (u:=a.eval y) (us:=[a.eval y]) (b:=G.γ U') (o:=i.toNat) (cur:=cur) (e:=e) hT (zK7 (τ:=.sl sv) (us:=[a.eval y]) (by simp[zO5,Ty.isAgg]) (by grind)) (by simp[Ty.size]) (by grind) g1 (by grind);have hrun':(execOp a.eval o).run P w=.ok .skip (w.setCells (G.γ U') i.toNat [a.eval y]):=by
       unfold execOp;simp_all [Ty.size,Ty.poff]
      refine zV8 hrun' (hnext undef _ G ?_);rw[hd,zJ8];exact yD1 hR hc.n hx (zA7 U') hfr hm (fun T hT=>hT.elim) (fun s hs=>yD0 hs) hlt
    grind
   |false =>
   simp only[hho,cond_false] at h;cases hb:(Ty.beq t' t&&Nat.beq U' U&&c.is T (t'.pty q)&&AVal.fits (t'.pty q) v) with
   |false=>grind
   |true =>
    simp only[hb,cond_true] at h;simp only[Bool.and_eq_true] at hb;have e:=Ty.eq_of_beq hb.1.1.1;subst e;have e:=Nat.eq_of_beq_eq_true hb.1.1.2;subst e;split at h
    ·rename_i yv hy;obtain⟨rfl,rfl,rfl⟩:=h;have hT:=zB4 hc.tys hb.1.2;have hil:=hp _ (List.mem_singleton.2 rfl);simp only[zA] at hA hcont;obtain⟨hi0,hq,hxv⟩:=hA;have hi:i.toNat<l.length:=by omega
     obtain⟨us,h1,h2⟩:=zT8 hV hb.2 (zD0 hT);obtain⟨⟨cur,e,g1,g2⟩,hfr,hx,hm⟩:=xN1 hR.frame (xJ0 hq hT) hcont hi hq h1 hy;have hcel:=zK7 h2 (zV2 h1);have hrun:=zJ7 (P:=P) (w:=w) (u:=a.eval y) hT hcel (zB2 h1) (zV2 h1) g1 g2;have hrun':(execOp a.eval o).run P w=.ok .skip (w.setCells (G.γ U') (i.toNat*t'.size+t'.poff q) us):=by
      grind [execOp,Sem.run_bind,Result.andThen_ok,Sem.run_pure]
     refine zV8 hrun' (hnext undef _ G ?_);rw[hd,zJ8];refine yM1 hR hc.n hx (zA7 U') hfr (fun s hs=>?_) (fun s hs=>yD0 hs) hlt;have hrs:=hR.reps s;generalize S.get s=A at hrs hs ⊢;cases A with
     |ownh t2 l2 T2 j V m2 =>
      simp only[AVal.setEl];cases hb2:(Nat.beq U' V&&m2&&!(Nat.beq T2 V)) with
      |false=>simp only[cond_false,zA]
      |true =>
       simp only[Bool.and_eq_true] at hb2;obtain⟨⟨hb2,rfl⟩,hb3⟩:=hb2;have e:=Nat.eq_of_beq_eq_true hb2;subst e;cases hcs:Ty.cast t2 yv with
       |none=>grind [zA]
       |some y' =>
        have hvt:yK0 t2:=hrs.1;have hTU:T2≠U':=fun e=>by grind
        refine xN2 hx (fun e=>hTU (zA3 e)) (fun u hu=>?_) hTU hrs;have h9:=hm.own2 t2 _ U' true u (fun h=>h) (.inl hu) a.tmps;simp only[Nat.beq_refl,cond_true,hcs,zA] at h9;exact zB1 h9 hvt.2
     |_=>exact hm.arep (fun T hT=>hT.elim) hrs
    grind
  grind
 ·rename_i s;split at h
  ·rename_i f cs hkc;cases hft:c.fts.any (Nat.beq T) with
   |false=>grind
   |true =>
    simp only[hft,cond_true] at h;split at h
    ·rename_i caps hcaps;simp only[Option.some.injEq,Prod.mk.injEq] at h;obtain⟨rfl,rfl,rfl⟩:=h;have hcont:=zH0 hR (A:=.rref s) rfl;rw[hkc] at hcont;simp only[zA] at hcont hA hV;obtain⟨_,u0,e,hb,hcol⟩:=hcont;obtain⟨vs,hv,hcs⟩:=hV;obtain⟨i,_,_,_,hi,_,hsz,_,_,_⟩:=xC9 hc.fts hft;have hone:(Value.func (.func f) #[] vs).oneCell'=true:=rfl;have hrun:(Instr.storeAt T (a.eval x) (a.eval y)).run P w=.ok () (w.setCells (G.β s) 0 [.func (.func f) #[] vs]):=by
      have:=run_storeCells_cells (P:=P) (G.β s) 0 [.func (.func f) #[] vs] 0 w (fun j hj=>by
       grind [World.cell?]) (fun j hj=>by grind [World.frozen?]) (fun u hu=>by grind)
      simp_all [Instr.storeAt,Instr.sureAddr,storeVar,sizeOf,typeInfo,Value.cells]
     have hrun':(execOp a.eval o).run P w=.ok .skip (w.setCells (G.β s) 0 [.func (.func f) #[] vs]):=by
      grind [execOp,Sem.run_bind,Result.andThen_ok,Sem.run_pure]
     obtain⟨cur',g1,g2⟩:=zJ6 (G.β s) e (0,0) [.func (.func f) #[] vs] 0 w #[u0] hb (by simp);refine zV8 hrun' (hnext undef _ (G.ice (G.β s)) ?_);rw[hd];have hnone:∀ s',St.has s' [(s,AVal.fptr f caps)]=false→s'≠s:=by intro s' hs e;simp_all [St.has]
     have hbne:∀ b o,G.χ b o=0→b≠G.β s:=fun b o h0 e=>by grind [zC8]
     have hext:Ext (fun x=>x=zD8 s) (fun _=>False) G w (G.ice (G.β s)) (w.setCells (G.β s) 0 [.func (.func f) #[] vs]):=by
      refine⟨fun b o hb' h0=>⟨by simp_all [Gh.ice],?_⟩,fun b hb' hX=>?_,by simp_all [zR6],fun _ _=>rfl,fun _ _=>rfl,fun _ h=>h.elim⟩
      ·grind [World.cell?,zE9]
      ·have hne:b≠G.β s:=by intro e;simp_all
       exact⟨zE9 (G.β s) _ 0 w b hne,fun o=>by simp_all [Gh.ice]⟩
     have hfr:Frame0 χ0 w0 (G.ice (G.β s)).χ (w.setCells (G.β s) 0 [.func (.func f) #[] vs]):=by
      have h1:=zN8 hR.frame (b:=G.β s) (o:=0) (us:=[.func (.func f) #[] vs]) (fun o=>by grind [zL8]);refine⟨h1.os,h1.tape,h1.output,h1.size,h1.block,fun b o hb' hc'=>⟨?_,(h1.cell b o hb' hc').2⟩⟩;have h2:=(h1.cell b o hb' hc').1;have hne:b≠G.β s:=by grind [zL8]
      simp_all [Gh.ice]
     refine zD7 hR hc.n hlt (fun d e=>by cases e) (fun d e=>by grind) hext (zC8 s) hfr (fun s' hs'=>yD4 (fun e=>hnone s' hs' (by grind))) (fun _ d e=>by grind) (fun s' hs'=>?_);have:s'=s:=by simp_all [St.has]
     subst this;have hg:St.get [(s',AVal.fptr f caps)] s'=.fptr f caps:=by simp[St.get]
     rw[hg,zJ8];have hval:a.tmps.getD s' undef=.pointer (some ⟨G.β s',0,none⟩):=by
      grind
     rw[hval];refine⟨G.β s',rfl,by simp[Gh.ice],?_⟩;have hvs:=xO (v:=.pointer (some ⟨G.β s',0,none⟩)) hcaps hcs rfl;simp only[World.cell?];have h2:cur'=#[.func (.func f) #[] vs]:=by
      apply Array.toList_inj.1;rw[g2];apply List.ext_getElem?
      grind [spl_getElem?]
     have h3:vs=(caps.map (xJ (G.ice (G.β s')) (.pointer (some ⟨G.β s',0,none⟩)))).toArray:=by
      apply Array.toList_inj.1;rw[hvs];refine List.map_congr_left fun q _=>?_;cases q<;>rfl
     grind
    grind
  grind
 ·split at h
  ·rename_i uu hst;obtain⟨rfl,rfl,rfl⟩:=h;obtain⟨s,C⟩:=uu;have hkk:∀ s',zE2 A=some s'→zA G w a.tmps (some s') (zB S A) (match zE2 A with|some s=>a.tmps.getD s undef|none=>undef):=by
    grind [zH0]
   obtain⟨us,off,hrun,hcol,hrs,hC⟩:=yY1 hc.tys hA hkk hV hst;have hrun':(execOp a.eval o).run P w=.ok .skip (w.setCells (G.β s) off us):=by
    grind [execOp,Sem.run_bind,Result.andThen_ok,Sem.run_pure]
   refine zV8 hrun' (hnext undef _ G ?_);rw[hd];rw[hrs] at hC;have hone:∀ s',St.has s' [(s,C)]=true→s'=s:=by simp_all [St.has]
   have hnone:∀ s',St.has s' [(s,C)]=false→s'≠s:=by intro s' hs e;subst e;simp[St.has] at hs
   refine zD7 hR hc.n hlt (fun d e=>by cases e) (fun d e=>by grind) (zT9 (X:=fun x=>x=zD8 s) (fun o=>hcol o) (zC8 s)) (zC8 s) (zN8 hR.frame (fun o=>by grind [zL8]))
    (fun s' hs'=>yD4 (fun e=>hnone s' hs' (by grind))) (fun _ d e=>by grind) (fun s' hs'=>?_)
   have:=hone s' hs';subst this;have hg:St.get [(s',C)] s'=C:=by simp[St.get]
   rw[hg];exact hC
  grind
theorem yU1 (hc:CtxOk P c)(hR:Rel c.n χ0 w0 S a w G){o:Oper}{T:Nat}{x y z:Operand}{A B C:AVal}{p:List Prop}{u:St}{hv:Bool}(ho:o.op=.mapUpdate T x y z)(hd:o.dst=none)
  (hA:zA G w a.tmps none A (a.eval x)) (hB:zA G w a.tmps none B (a.eval y)) (hC:zA G w a.tmps none C (a.eval z)) (h:yS3 c T A B C S=some (p,u,hv))
  (hlt:∀ e∈u,e.1<zA4){next:Act→World→Prop}{Q:Exit→Act→World→Prop}(hnext:∀ v w' G',Rel c.n χ0 w0 (u++S) (a.put o.dst v) w' G'→next (a.put o.dst v) w'):o.wpIn (fz rd) 0 P a w next Q:=by
 unfold yS3 at h;split at h
 ·rename_i k e hT;have hmt:=yT4 hc.maps hT;split at h
  ·rename_i t l U m;split at h
   ·rename_i l' xv yv hl hx hy;obtain⟨rfl,rfl,rfl⟩:=h;obtain⟨ec,hl⟩:=zD2 hl;injection ec with ec
    subst ec;obtain⟨⟨ka,kb,_,hka,hkb⟩,_,_⟩:=hmt;have hkv:=zK5 hx (zD0 hka) hB;have hev:=zK5 hy (zD0 hkb) hC;obtain⟨w',hrun,hfr,hext,hm⟩:=xW hR.frame (yT4 hc.maps hT) (yT5 hA) hkv hev;have hrun':(execOp a.eval o).run P w=.ok .skip w':=by
     grind [execOp,Sem.run_bind,Result.andThen_ok,Sem.run_pure]
    refine zV8 hrun' (hnext undef _ G ?_);rw[hd,zJ8];exact yD1 hR hc.n hext (zA7 U) hfr hm (fun T hT=>hT.elim) (fun s hs=>yD0 hs) hlt
   grind
  grind
 grind
theorem yD5 (hc:CtxOk P c)(hR:Rel c.n χ0 w0 S a w G){o:Oper}{T d:Nat}{args:Array Operand}{ats:Array TypeId}{A B:AVal}{va vb:Value}{p:List Prop}{u:St}{hv:Bool}
  (ho:o.op=.call { callee:=.builtin .append,args,argTypes:=ats }) (hats:ats.toList=[T,T]) (hd:o.dst=some d) (hargs:args.toList.map a.eval=[va,vb])
  (hA:zA G w a.tmps none A va) (hB:zA G w a.tmps none B vb) (h:zP6 c d T A B S=some (p,u,hv))
  (hlt:∀ e∈u,e.1<zA4) (hd0:d<c.n) (hh:∀ s,∀ e∈u,(S.get s).hung e.1=false) (hp:∀ q∈p,q)
  {next:Act→World→Prop}{Q:Exit→Act→World→Prop}(hnext:∀ v w' G',Rel c.n χ0 w0 (u++S) (a.put o.dst v) w' G'→next (a.put o.dst v) w'):o.wpIn (fz rd) 0 P a w next Q:=by
 have hats':ats=#[T,T]:=by grind
 have hargs':args.map a.eval=#[va,vb]:=by grind
 have hexec:∀ {v':Value}{w':World},(Builtin.append_ #[T,T] o.type #[va,vb]).run P w=.ok v' w'→(execOp a.eval o).run P w=.ok (.value v') w':=by
  unfold execOp
  grind [resolve,Sem.run_bind,Sem.run_pure,Result.andThen_ok,invoke,builtin]
 unfold zP6 at h;cases hnt:zC0 d S with
 |false=>grind
 |true =>
  simp[hnt,cond_true] at h;split at h
  ·rename_i p0 R U hap;obtain⟨rfl,rfl,rfl⟩:=h;unfold xT0 at hap;split at hap
   ·rename_i s T' V m;split at hap
    ·rename_i t' l U';cases hb:(c.is T (.sl (.sl s))&&!(Nat.beq V U')&&!(Nat.beq T' V)&&!(Nat.beq V d)) with
     |false=>simp_all
     |true =>
      simp only[hb,cond_true] at hap;simp  at hb;split at hap
      ·rename_i l1 hcast;simp only[Option.some.injEq,Prod.mk.injEq] at hap;obtain⟨rfl,rfl,rfl⟩:=hap;obtain⟨e,hcast⟩:=zD2 hcast;injection e with e
       subst e;have hcast:l=l1:=hcast;subst hcast;have hlen:=hp _ (List.mem_singleton.2 rfl);obtain⟨v',w',G',hr,hx,hfr,hown⟩:=xE3 (ty:=o.type) (U:=U') (d:=d) hR.frame (zB4 hc.tys hb.1.1.1) hA hB (fun e=>by subst e;simp at hb) (fun e=>by subst e;simp at hb) (fun e=>by subst e;simp at hb) (by omega);refine zJ9 (hexec hr) (hnext v' w' G' ?_);rw[hd];exact zV7 (d:=d) (U:=U') (v':=v') hR hc.n hnt hx hfr (fun tm=>by grind [zA]) hlt hd0 (fun s=>hh s _ (List.mem_cons_self ..))
      grind
    grind
   grind
  unfold xT at h;cases hTy:c.ty T with
  |sl t =>
   have hT:=zI hc.tys T (by rw[hTy];simp);rw[hTy] at hT;simp only[hTy] at h;cases hpos:Nat.blt 0 t.size with
   |false=>grind
   |true =>
    simp[hpos,Bool.not_true,cond_false] at h;cases hsrc:wO8 t B with
    |none=>simp[hsrc] at h
    |some l2 =>
     simp only[hsrc] at h;have hBs:=yF2 (yI hT) hB hsrc;cases A with
     |nil =>
      obtain⟨rfl,rfl,rfl⟩:=h;have hb:=hp _ (List.mem_singleton.2 rfl);obtain⟨v',w',G',hr,hx,hfr,hown⟩:=yF3 (ty:=o.type) (U:=d) (d:=d) (m:=true) (l:=([]:List t.den)) hR.frame hT (.inl ⟨hA,rfl⟩) hBs (by simp ;omega);refine zJ9 (hexec hr) (hnext v' w' G' ?_);rw[hd];have htd:∀ R:St,zB7 d (AVal.lose d) S R=[]:=by
       intro R
       induction R with
       |nil=>rfl
       |cons e r ih=>obtain⟨s,A⟩:=e;simp[zB7,zG1 hnt s,ih]
      have:=zV7 (d:=d) (U:=d) (R:=.own t l2 d true) (v':=v') hR hc.n hnt hx hfr (fun tm=>by exact hown) (by grind) hd0 (fun s=>hh s _ (List.mem_singleton.2 rfl));rw[htd] at this;exact this
     |own t' l U m =>
      cases hcast:Ty.cast (a:=.sl t') (.sl t) l with
      |none=>grind
      |some l1 =>
       simp[hcast] at h;obtain⟨rfl,rfl,rfl⟩:=h;obtain⟨e,rfl⟩:=zD2 hcast;injection e with e
       subst e;have hb:((l.length+l2.length:Nat):Int)≤4294967296:=hp _ (List.mem_singleton.2 rfl);obtain⟨v',w',G',hr,hx,hfr,hown⟩:=yF3 (ty:=o.type) (U:=U) (d:=d) (m:=m) (l:=l) hR.frame hT (.inr hA) hBs (by omega);refine zJ9 (hexec hr) (hnext v' w' G' ?_);rw[hd];exact zV7 (d:=d) (U:=U) (v':=v') hR hc.n hnt hx hfr (fun tm=>by exact hown) hlt hd0 (fun s=>hh s _ (List.mem_cons_self ..))
     |_=>simp at h
  |_=>simp[hTy] at h
theorem yD6:∀ {cs:AVal}{vs:List Value},zH9 cs=true→zA G w tm none cs (.tuple vs.toArray)→zH8 (zA G w tm none) cs.toL vs:=by
 intro cs
 induction cs with
 |nl=>intro vs _ h;simp[zA] at h;have:vs=[]:=(by grind);subst this;trivial
 |cons x y _ ihy =>
  intro vs hp h;obtain⟨u,us,e,h1,h2⟩:=h;have e:vs=u::us:=by grind
  subst e;exact⟨h1,ihy hp h2⟩
 |_=>grind [zH9]
theorem zL {α β:Type}{R:α→β→Prop}:∀ {xs:List α}{ys:List β}{xs':List α}{ys':List β},zH8 R xs ys→zH8 R xs' ys'→zH8 R (xs++xs') (ys++ys'):=by
 intro xs
 induction xs with
 |nil=>grind [zH8]
 |cons x xs ih=>intro ys xs' ys' h h';cases ys<;>simp only[zH8] at h;exact⟨h.1,ih h.2 h'⟩
theorem yQ8 {G G':Gh}{w w':World}{tm tm':Array Value}{s s':Option Nat}{A:AVal}{v:Value}(h:zL1 A=true)(hp:∀ b o,b<w.heap.size→G.χ b o=0→G'.χ b o=0∧w'.cell? ⟨b,o,none⟩=w.cell? ⟨b,o,none⟩)
  (hA:zA G w tm s A v):zA G' w' tm' s' A v:=by
 cases A<;>simp[zL1] at h
 ·simp only[zA] at hA ⊢;exact zD hp hA
 ·simpa only[zA] using hA
theorem xO2 (hc:CtxOk P c)(hR:Rel c.n χ0 w0 S a w G){gd:Gd}(hi:xJ9 a.tmps gd)(hon:yT7 a.tmps gd){o:Oper}{fo:Operand}{args:Array Operand}{ats:Array TypeId}{f:Nat}{cs:AVal}{r:List AVal}{p:List Prop}{u:St}{hv:Bool}
  (ho:o.op=.call { callee:=.value fo,args,argTypes:=ats }) (hf:zA G w a.tmps none (.fn f cs) (a.eval fo)) (hr:zH8 (zA G w a.tmps none) r (args.toList.map a.eval)) (hcs:zH9 cs=true)
  (h:zJ2 c gd o.dst f (r++cs.toL) ((r++cs.toL).map (zB S)) S=some (p,u,hv))
  (hlt:∀ e∈u,e.1<zA4) (hdo:∀ d,o.dst=some d→d<c.n) (hh:∀ s,∀ e∈u,(S.get s).hung e.1=false) (huu:∀ e∈u,∀ e'∈u,e.2.hung e'.1=false) (hp:∀ q∈p,q)
  {next:Act→World→Prop}{Q:Exit→Act→World→Prop}(hnext:∀ v w' G',Rel c.n χ0 w0 (u++S) (a.put o.dst v) w' G'→next (a.put o.dst v) w'):o.wpIn (fz rd) 0 P a w next Q:=by
 simp only[zA] at hf;obtain⟨vs,hfv,hcv⟩:=hf;have hcl:=yD6 (vs:=vs.toList) hcs (by simpa using hcv);have hys:=zL hr hcl;unfold zJ2 at h;split at h
 ·grind
 ·rename_i co hco;obtain⟨sp,hmem,hsp⟩:=zR9 hco;have hok:=hc.fns f sp hmem;obtain⟨fn,h1,h2,h3⟩:=hok.1;have hrun:(execOp a.eval o).run P w=.ok (.enter f (args.toList.map a.eval++vs.toList).toArray) w:=by
   have harr:(args.toList.map a.eval++vs.toList).toArray=args.map a.eval++vs:=by grind
   unfold execOp;simp[ho,resolve,hfv,Deferred.ofValue,invoke,callFunc,h1]
   grind
  cases hb:(yE9 co.outs 0 (List.zipWith zD3 (r++cs.toL) ((r++cs.toL).map (zB S)))&&zG5 co.res&&zM3 (r++cs.toL)&&zB9 (r++cs.toL) (List.zipWith zD3 (r++cs.toL) ((r++cs.toL).map (zB S)))) with
  |false=>simp only[hb,Bool.not_false,cond_true,reduceCtorEq] at h
  |true =>
   simp only[hb,Bool.not_true,cond_false] at h;simp only[Bool.and_eq_true] at hb;obtain⟨⟨⟨b1,b2⟩,b3⟩,b4⟩:=hb;split at h
   ·rename_i uu hout heat;cases gd with
    |none =>
     have hback:=fun hokp=>yY6 hR hok hys hsp hokp b1 b3 b4 hout;cases hd:o.dst with
     |none =>
      simp[hd] at h;obtain⟨rfl,rfl,rfl⟩:=h;refine zO8 hrun ((hback hp).mono ?_);rintro e w' ⟨v,G',rfl,hB,hres,hg,hu⟩;refine⟨v,rfl,hnext v w' (G.back G' w.heap.size none) ?_⟩;rw[hd];exact yU (dst:=none) (res:=co.res) hR hc.n hB hres b2 hg hu hlt (fun d e=>by cases e) (fun s d e=>(by grind)) (fun d e=>(by grind))
     |some d =>
      simp only[hd] at h;cases hnt:(zC0 d S&&zC0 (100000+d) S&&zC0 (200000+d) S&&zC0 (300000+d) S) with
      |false=>grind
      |true =>
       simp[hnt] at h;obtain⟨rfl,rfl,rfl⟩:=h;refine zO8 hrun ((hback hp).mono ?_);rintro e w' ⟨v,G',rfl,hB,hres,hg,hu⟩;refine⟨v,rfl,hnext v w' (G.back G' w.heap.size (some d)) ?_⟩;rw[hd];refine yU (dst:=some d) (res:=co.res) hR hc.n hB hres b2 hg hu hlt (fun d' e=>by injection e with e;subst e;exact hdo _ hd) (fun s d' e=>by grind [List.mem_cons_self]) (fun d' e s j hj=>?_)
       injection e with e;subst e
       obtain rfl|rfl|rfl|rfl:j=0∨j=1∨j=2∨j=3:=by omega
       all_goals grind [zG1]
    |some q =>
     simp only at h;split at h
     ·rename_i d hd;cases hpr:zL1 co.res with
      |false=>simp[hpr] at h
      |true =>
      simp only[hpr,cond_true,Option.some.injEq,Prod.mk.injEq] at h;obtain⟨rfl,rfl,rfl⟩:=h;have hp0:=zO hi hon hp;refine zO8 hrun ((yY6 hR hok hys hsp hp0 b1 b3 b4 hout).mono ?_);rintro e w' ⟨v,G',rfl,hB,hres,hg,hu⟩;refine⟨v,rfl,hnext v w' (G.back G' w.heap.size none) ?_⟩;have hdst:o.dst=some d:=by grind
      rw[hdst];have hx:=xJ8 none hB hg;have hdn:d<a.tmps.size:=by rw[hR.len];exact hdo _ hdst
      refine zD7 hR hc.n hlt (fun d' e=>by injection e with e;subst e;exact hdo _ hdst) (fun d' e=>by injection e with e;subst e;simp[St.has]) hx (fun hX=>hX.elim (fun ⟨s,e,_⟩=>zC8 s e) (fun ⟨d,j,_,_,e⟩=>zA7 _ e)) (yQ3 hR.frame none hB hg)
       (fun s _=>yQ2 (fun d' e=>by grind) (fun s' _=>by simp[St.has])) (fun s d' e _=>by injection e with e;subst e;exact hh s _ (List.mem_singleton.2 rfl)) (fun s hs=>?_)
      have hsd:s=d:=by simp[St.has] at hs;grind
      subst hsd;have hg1:St.get [(s,zG2 (some q) co.res)] s=zG2 (some q) co.res:=by simp[St.get]
      rw[hg1,zD6 hdn,if_pos rfl];refine zK4 (tm:=a.tmps) (fun k hk=>?_) (zL6 (zN9 hi hon ?_))
      ·rw[zD6 hdn,if_neg];intro e;subst e;have:=huu _ (List.mem_singleton.2 rfl) _ (List.mem_singleton.2 rfl)
       grind
      ·exact yQ8 hpr (hB.prot none) hres
     grind
   grind
end Go.Am
namespace Go.Am
open Go Go.RowKit
variable {rd:Option Nat}{gtab:GlobTab}{P:Program}{c:Ctx}{G:Gh}{w:World}{tm:Array Value}{n:Nat}{χ0:Nat→Nat→Nat}{w0:World}{S:St}{a:Act}
theorem zS5:∀ (A:AVal) (s:Option Nat),¬ A.names (fun _=>False) (fun _=>False) s:=by
 intro A
 induction A with
 |opt _ _ _ A ih=>grind [AVal.names]
 |box τ a ih=>intro s;cases s<;>simp[AVal.names]<;>exact ih none
 |may m τ a ih=>intro s;cases s<;>simp[AVal.names]<;>exact ih none
 |cons a b iha ihb=>grind [AVal.names]
 |agg f a ih=>grind [AVal.names]
 |tup a ih=>grind [AVal.names]
 |fn f a ih=>grind [AVal.names]
 |raw=>intro s;cases s<;>simp[AVal.names]
 |bld _ _ _ _=>intro s;cases s<;>simp[AVal.names]
 |_=>grind [AVal.names]
theorem xK (hR:Rel n χ0 w0 S a w G)(hn:n≤vNo){U:Nat}(hlt:∀ e∈zB7 U (AVal.lose U) S S,e.1<zA4):Rel n χ0 w0 (zB7 U (AVal.lose U) S S++S) a w G:=by
 refine yD1 (U:=U) (X:=fun _=>False) (Y:=fun _=>False) (Bad:=fun _=>False) hR hn (Ext.refl _ G w) id hR.frame ?_ (fun T h=>h.elim) (fun s _=>zS5 _ _) hlt;refine⟨fun b o _ h=>⟨h,rfl⟩,fun s=>rfl,fun s hcol hlt=>⟨rfl,hcol⟩,fun t l T m v hB ho hf=>?_,fun t l T m v hB ho tm=>?_,fun s T t i p v hB tm ha=>?_⟩
 ·cases hb:Nat.beq U T with
  |true =>
   simp  at hf ⊢;cases m with
   |true=>grind [AVal.fitsT]
   |false=>simp only[cond_false,zA8];exact⟨trivial,rfl,zE1 ho⟩
  |false=>grind [zA8]
 all_goals grind [Nat.beq,zA,zP2,zE1]
theorem zY2 {HB HT KT KB:List (Nat×Nat)}:∀ {A:AVal}{os:Option Nat},(∀ T,(T∈HT.map (·.1)∨T∈KT.map (·.2))→A.hasTag T=false)→(∀ V,V∈KB.map (·.2)→A.hasRef V=false)→(∀ s,os=some s→s∉HB.map (·.1)∧s∉KB.map (·.2)) →
  ¬ A.names (fun x=>(∃ y,(x,y)∈zT3 HB HT)∨(∃ U,U∈KT.map (·.2)∧x=zA9 U)∨∃ V,V∈KB.map (·.2)∧x=zD8 V) (fun x=>(∃ U,U∈KT.map (·.2)∧x=zA9 U)∨∃ V,V∈KB.map (·.2)∧x=zD8 V) os:=by
 have karr:∀ K,(∀ T',(T'∈HT.map (·.1)∨T'∈KT.map (·.2))→Nat.beq T' K=false)→¬ ((∃ y,(zA9 K,y)∈zT3 HB HT)∨(∃ U,U∈KT.map (·.2)∧zA9 K=zA9 U)∨∃ V,V∈KB.map (·.2)∧zA9 K=zD8 V):=by
  intro K hK;rintro (⟨y,hy⟩ | ⟨U,hU,e⟩ | ⟨V,_,e⟩)
  ·obtain⟨U,_,hm⟩:=cols_arr.1 hy;have:=hK K (.inl (List.mem_map.2 ⟨_,hm,rfl⟩));simp_all
  ·have:=zA3 e;subst this;have:=hK K (.inr hU);simp_all
  ·exact zA2 _ _ e.symm
 have kbox:∀ s,(s∉HB.map (·.1)∧s∉KB.map (·.2))→¬ ((∃ y,(zD8 s,y)∈zT3 HB HT)∨(∃ U,U∈KT.map (·.2)∧zD8 s=zA9 U)∨∃ V,V∈KB.map (·.2)∧zD8 s=zD8 V):=by
  intro s hs;rintro (⟨y,hy⟩ | ⟨U,_,e⟩ | ⟨V,hV,e⟩)
  ·obtain⟨i,_,hm⟩:=cols_box.1 hy;exact hs.1 (List.mem_map.2 ⟨_,hm,rfl⟩)
  ·exact zA2 _ _ e
  ·have:=zC7 e;subst this;exact hs.2 hV
 have yref:∀ s,(∀ V,V∈KB.map (·.2)→Nat.beq V s=false)→¬ ((∃ U,U∈KT.map (·.2)∧zD8 s=zA9 U)∨∃ V,V∈KB.map (·.2)∧zD8 s=zD8 V):=by
  intro s hs;rintro (⟨U,_,e⟩ | ⟨V,hV,e⟩)
  ·exact zA2 _ _ e
  ·have:=zC7 e;subst this;have:=hs s hV;simp at this
 intro A
 induction A with
 |own t l T m=>intro os ht _ _;exact karr T ht
 |eref s T t i p=>intro os ht _ _ h;exact karr T ht (.inr h)
 |ref s τ p=>intro os _ hr _;exact yref s hr
 |pn b s τ=>intro os _ hr _;exact yref s hr
 |rref s=>intro os _ hr _;exact yref s hr
 |opt _ _ _ A ih=>intro os ht hr _;exact ih ht hr (fun s e=>by cases e)
 |box τ b ih =>
  intro os ht hr hs;cases os with
  |none=>exact ih ht hr (fun s e=>by cases e)
  |some s =>
   simp only[AVal.names,not_or];exact⟨by simpa only[not_or] using kbox s (hs s rfl),ih ht hr (fun s e=>by cases e)⟩
 |may m τ b ih =>
  intro os ht hr hs;cases os with
  |none=>exact ih ht hr (fun s e=>by cases e)
  |some s =>
   simp only[AVal.names,not_or];exact⟨by simpa only[not_or] using kbox s (hs s rfl),ih ht hr (fun s e=>by cases e)⟩
 |cons x y ihx ihy =>
  intro os ht hr _;simp only[AVal.hasTag,AVal.hasRef,Bool.or_eq_false_iff] at ht hr;simp only[AVal.names,not_or];exact⟨by simpa only[not_or] using ihx (fun T h=>(ht T h).1) (fun V h=>(hr V h).1) (fun s e=>by cases e),by simpa only[not_or] using ihy (fun T h=>(ht T h).2) (fun V h=>(hr V h).2) (fun s e=>by cases e)⟩
 |agg f b ih=>intro os ht hr _;exact ih ht hr (fun s e=>by cases e)
 |tup b ih=>intro os ht hr _;exact ih ht hr (fun s e=>by cases e)
 |fn f b ih=>intro os ht hr _;exact ih ht hr (fun s e=>by cases e)
 |raw =>
  intro os _ _ hs;cases os with
  |none=>exact fun h=>h
  |some s=>exact kbox s (hs s rfl)
 |ownh t l T i V m =>
  intro os ht _ _;have ht':=fun T' hT'=>ht T' hT';simp only[AVal.hasTag,Bool.or_eq_false_iff] at ht';rintro (h|h)
  ·exact karr T (fun T' hT'=>(ht' T' hT').1) h
  ·exact karr V (fun T' hT'=>(ht' T' hT').2) h
 |bld T e V l =>
  intro os ht _ hs;cases os with
  |none=>exact karr V ht
  |some s =>
   rintro (h|h)
   ·exact kbox s (hs s rfl) h
   ·exact karr V ht h
 |ptrs one l =>
  intro os _ hr _;rintro⟨k,τ,p,hm,h⟩;refine yref k (fun V hV=>?_) h;have h1:=hr V hV;simp only[AVal.hasRef,List.any_eq_false] at h1;have:=h1 _ hm;simp only[wE1] at this;exact Bool.eq_false_iff.2 this
 |fptr f caps =>
  intro os _ hr _;rintro⟨k,τ,hm,h⟩;refine yref k (fun V hV=>?_) h;have h1:=hr V hV;simp only[AVal.hasRef,List.any_eq_false] at h1;have:=h1 _ hm;simp only[wE0] at this;exact Bool.eq_false_iff.2 this
 |_=>intro os _ _ _;exact fun h=>h
theorem wG7 {hb:List (Nat×Nat)}{wants:List Nat}:∀ {ys ks:List AVal}{i j:Nat}{Y k:AVal},ys[j]?=some Y→ks[j]?=some k→(yC6 hb wants i ys ks)[j]?=some (zE8 hb wants (i+j) Y k):=by
 intro ys
 induction ys with
 |nil=>grind
 |cons y r ih =>
  intro ks i j Y k hY hk;cases ks with
  |nil=>grind
  |cons q s =>
   simp only[yC6];cases j<;>grind
theorem yF8 {hb:List (Nat×Nat)}{wants:List Nat}:∀ {ys ks:List AVal}{i:Nat},ys.length=ks.length→(yC6 hb wants i ys ks).length=ys.length:=by
 intro ys
 induction ys with
 |nil=>grind [yC6]
 |cons y r ih=>intro ks i h;cases ks<;>grind [yC6,List.length_cons]
theorem xO3 {wants:List Nat}{p:Nat×Nat}:∀ {ys ks:List AVal}{i j:Nat}{Y k:AVal},ys[j]?=some Y→ks[j]?=some k→p∈yS5 wants (i+j) Y k→p∈zZ9 wants i ys ks:=by
 intro ys
 induction ys with
 |nil=>grind
 |cons y r ih =>
  intro ks i j Y k hY hk hp;cases ks with
  |nil=>grind
  |cons q s =>
   simp[zZ9];cases j with
   |zero=>grind
   |succ j=>exact .inr (ih (i:=i+1) hY hk (by grind))
theorem yD7 {p:Nat×Nat}:∀ {ys:List AVal}{i j:Nat}{Y:AVal},ys[j]?=some Y→p∈yS4 (i+j) Y→p∈zN2 i ys:=by
 intro ys
 induction ys with
 |nil=>grind
 |cons y r ih =>
  intro i j Y hY hp;simp[zN2];cases j with
  |zero=>grind
  |succ j=>exact .inr (ih (i:=i+1) hY (by grind))
theorem xW9 {s k:Nat}:∀ {ys:List AVal}{i:Nat},(s,k)∈zN2 i ys→∃ j,i≤j∧((k=j∧∃ τ,ys[j-i]?=some (.ref s τ []))∨k=hid j∧∃ one τ p l,ys[j-i]?=some (.ptrs one (some (s,τ,p)::l))):=by
 intro ys
 induction ys with
 |nil=>grind [zN2]
 |cons y r ih =>
  intro i h;simp[zN2] at h;rcases h with h|h
  ·refine⟨i,Nat.le_refl _,?_⟩;unfold yS4 at h;split at h
   ·simp at h;obtain⟨rfl,rfl⟩:=h;exact .inl ⟨rfl,_,(by rw[Nat.sub_self];rfl)⟩
   ·simp at h;obtain⟨rfl,rfl⟩:=h;exact .inr ⟨rfl,_,_,_,_,(by rw[Nat.sub_self];rfl)⟩
   ·simp at h
  ·obtain⟨j,h1,h2⟩:=ih h;refine⟨j,by omega,?_⟩;have e:j-i=(j-(i+1))+1:=by omega
   rw[e];simpa using h2
theorem xX {ys:List AVal}:∀ {outs:List (Nat×AVal)}{u:St}{bs:List Bor}{K:List (Nat×Nat)},xT1 ys outs=some (u,bs,K) →
  (∀ i k,(i,k)∈outs→∃ Y u' bs' K',ys[i]?=some Y∧wD9 Y i k=some (u',bs',K')∧∀ e∈u',e∈u) ∧
  (∀ e∈u,∃ i k Y u' bs' K',(i,k)∈outs∧ys[i]?=some Y∧wD9 Y i k=some (u',bs',K')∧e∈u'∧∀ p∈K',p∈K) ∧
  (∀ b∈bs,∃ i k Y u' bs' K',(i,k)∈outs∧ys[i]?=some Y∧wD9 Y i k=some (u',bs',K')∧b∈bs'∧∀ p∈K',p∈K):=by
 intro outs
 induction outs with
 |nil=>grind [xT1]
 |cons q r ih =>
  intro u bs K h;obtain⟨i,k⟩:=q;simp only[xT1] at h;split at h
  ·rename_i Y u2 bs2 K2 hY hr;split at h
   ·rename_i u' bs' K' ho;obtain⟨rfl,rfl,rfl⟩:=h;obtain⟨g1,g2,g3⟩:=ih hr;refine⟨?_,?_,?_⟩
    ·grind
    ·intro e he;rcases List.mem_append.1 he with he|he
     ·exact⟨i,k,Y,u',bs',K',by simp,hY,ho,he,fun p hp=>List.mem_append_left _ hp⟩
     ·obtain⟨i',k',Y',u3,bs3,K3,q1,q2,q3,q4,q5⟩:=g2 e he;exact⟨i',k',Y',u3,bs3,K3,by simp[q1],q2,q3,q4,fun p hp=>List.mem_append_right _ (q5 p hp)⟩
    grind
   grind
  grind
theorem xK0:∀ {A:AVal}{τ:Ty}{vs:List Value},zA8 G w τ A vs→vs.length=τ.size:=by
 intro A
 induction A with
 |val τ' x=>intro τ vs h;obtain⟨rfl,_,h⟩:=h;exact zA1 h
 |nil=>intro τ vs h;obtain⟨h1,rfl⟩:=h;cases τ<;>simp[Ty.isSl] at h1;simp[Ty.size]
 |own t l T m=>intro τ vs h;obtain⟨rfl,v,rfl,_⟩:=h;simp[Ty.size]
 |agg f b ih=>grind [zA8,Ty.size]
 |nl=>grind [zA8,Ty.size]
 |junk=>grind [zB2]
 |cons x y ihx ihy=>grind [zA8,Ty.size]
 |_=>grind [zA8]
def xX0 (G:Gh)(w:World)(G':Gh)(w':World)(b:Bor):Prop:=0<b.t.size∧∃ u m,zG3 G w b.t b.l b.U m u∧zG3 G' w' b.t b.l' b.T b.m u
theorem xK1 {t:Ty}{l:List t.den}{U:Nat}{m:Bool}{k:AVal}{bs:List Bor}{u:Value}{G':Gh}{w':World}(h:zI9 (.own t l U m) k=some bs)(h1:zG3 G w t l U m u)
  (h2:∀ t' l' T m',k=.own t' l' T m'→zG3 G' w' t' l' T m' u):∀ b∈bs,xX0 G w G' w' b:=by
 simp only[zI9] at h;split at h
 ·split at h
  ·rename_i l2 hl;cases hz:Nat.blt 0 t.size with
   |false=>grind
   |true =>
    simp[hz] at h;subst h;intro b hb;simp  at hb;subst hb;obtain⟨e,hl⟩:=zD2 hl;injection e with e
    subst e;subst hl;exact⟨Nat.le_of_ble_eq_true hz,u,m,h1,h2 _ _ _ _ rfl⟩
  grind
 grind
theorem xX1 {G':Gh}{w':World}:∀ {A k:AVal}{τ:Ty}{vs:List Value}{bs:List Bor},zI9 A k=some bs→zA8 G w τ A vs→zA8 G' w' τ k vs→∀ b∈bs,xX0 G w G' w' b:=by
 intro A
 induction A with
 |own t l U m =>
  grind [xK1,zA8]
 |agg f d ih =>
  intro k τ vs bs h h1 h2;simp only[zI9] at h
  grind [Ty.beq,zA8]
 |cons x y ihx ihy =>
  intro k τ vs bs h h1 h2;simp only[zI9] at h;split at h
  ·split at h
   ·obtain⟨h0,t0,us,ws,rfl,rfl,g1,g2⟩:=h1;obtain⟨h0',t0',us',ws',e,e2,g1',g2'⟩:=h2;injection e with e3 e4
    subst e3;subst e4;obtain⟨rfl,rfl⟩:=List.append_inj e2 (by rw[xK0 g1,xK0 g1'])
    grind
   grind
  grind
 |val _ _=>grind [zI9,Option.some.injEq]
 |nil=>grind [zI9,Option.some.injEq]
 |nl=>grind [zI9,Option.some.injEq]
 |_=>grind [zI9]
theorem yM4 {G':Gh}{w':World}{tm':Array Value}{A k:AVal}{v:Value}{bs:List Bor}(h:zI9 A k=some bs)(h1:zA G w tm none A v)(h2:zA G' w' tm' none k v):∀ b∈bs,xX0 G w G' w' b:=by
 cases A with
 |own t l U m=>grind [zA,xK1]
 |agg f d =>
  simp only[zI9] at h
  grind [Ty.beq,Ty.eq_of_beq,zA,Value.agg.injEq,xX1]
 |cons x y =>
  simp only[zI9] at h;split at h
  ·obtain⟨u,us,e1,g1,g2⟩:=h1;obtain⟨u',us',e2,g1',g2'⟩:=h2;rw[e1] at e2;obtain⟨rfl,rfl⟩:=e2;split at h
   ·rename_i bx by' hx hy;simp  at h;subst h;intro b hb;rcases List.mem_append.1 hb with hb|hb
    ·exact yM4 hx g1 g1' b hb
    ·exact yM4 hy g2 g2' b hb
   grind
  grind
 |val _ _=>grind [zI9,Option.some.injEq]
 |nil=>grind [zI9,Option.some.injEq]
 |nl=>grind [zI9,Option.some.injEq]
 |_=>grind [zI9]
 termination_by A
theorem xX2 {G':Gh}{w':World}{b:Bor}(hb:xX0 G w G' w' b)(hpos:0<b.l.length){l:List b.t.den}{m:Bool}{v:Value}(h:zG3 G w b.t l b.U m v)(hlen:l.length=b.l.length):zG3 G' w' b.t b.l' b.T b.m v:=by
 obtain⟨hz,u,m0,h1,h2⟩:=hb;by_cases ht:b.t.isL=true
 ·rcases h1 with h1|⟨_,k,e,_,_,_,_,_,e1,_⟩
  ·exact absurd ht (by rw[h1.1.2];simp)
  rcases h with h|⟨_,k,e,_,_,_,_,_,e2,_⟩
  ·exact absurd ht (by rw[h.1.2];simp)
  grind
 have ht:b.t.isL=false:=by grind
 have h1:=zB1 h1 ht;have h:=zB1 h ht;rcases h1.2 with ⟨_,e⟩ | ⟨cap,cur,e,us,q1,q2,q3,q4,q5,_⟩
 ·grind
 ·rcases h.2 with ⟨_,e⟩ | ⟨cap',cur',e',us',p1,p2,p3,p4,p5,_⟩
  ·grind
  grind [Nat.eq_of_mul_eq_mul_right]
theorem xE9 {T:Nat}{b:Bor}:∀ {bs:List Bor},yC7 bs T=some b→b∈bs∧b.U=T:=by
 intro bs
 induction bs with
 |nil=>intro h;cases h
 |cons x r ih =>
  intro h;simp only[yC7] at h;cases hb:Nat.beq x.U T<;>simp_all
structure TurnOk (bs:List Bor) (L:List Nat) (G:Gh) (w:World) (G':Gh) (w':World):Prop where
 prot:∀ b o,b<w.heap.size→G.χ b o=0→G'.χ b o=0∧w'.cell? ⟨b,o,none⟩=w.cell? ⟨b,o,none⟩
 ref:∀ s,G'.β s=G.β s
 keep:∀ t l T m v,T∉L→zG3 G w t l T m v→zG3 G' w' t l T m v
 tag:∀ T,T∉L→G'.γ T=G.γ T
 bor:∀ b∈bs,∀ (l:List b.t.den) m v,l.length=b.l.length→zG3 G w b.t l b.U m v→zG3 G' w' b.t b.l' b.U b.m v
 inL:∀ b∈bs,b.U∈L
 blk:∀ T,T∉L→(∀ o,G.χ (G.γ T) o=zA9 T)→G.γ T<w.heap.size→w'.heap[G.γ T]?=w.heap[G.γ T]?∧∀ o,G'.χ (G.γ T) o=zA9 T
theorem xF {L:List Nat}{T:Nat}(h:L.any (Nat.beq T)=false):T∉L:=fun hm=>by grind [any_beq]
theorem xK2 {bs:List Bor}{L:List Nat}{G':Gh}{w':World}(H:TurnOk bs L G w G' w'){t:Ty}{l:List t.den}{T:Nat}{m:Bool}{v:Value}(ha:∀ q∈(AVal.own t l T m).borAsks bs,q)(h:zG3 G w t l T m v){os:Option Nat} :
  zA G' w' tm os ((AVal.own t l T m).turn bs L) v∧(((AVal.own t l T m).turn bs L).fitsT (.sl t)=true→zA8 G' w' (.sl t) ((AVal.own t l T m).turn bs L) [v]):=by
 simp[AVal.turn,AVal.mapOwn];cases hb:yC7 bs T with
 |some b =>
  obtain⟨h1,h2⟩:=xE9 hb;subst h2;simp only[AVal.borAsks,hb,List.mem_singleton,forall_eq] at ha;simp only;split
  ·rename_i l2 hl;obtain⟨e,hl⟩:=zD2 hl;injection e with e
   subst e;have:=H.bor b h1 l m v ha h
   grind [zA,zA8]
  grind [zA,AVal.fitsT]
 |none =>
  cases hL:L.any (Nat.beq T) with
  |true =>
   simp;cases m with
   |true=>grind [zA,AVal.fitsT]
   |false =>
    have hc:=zA5 H.prot (zE1 h);exact⟨by exact zP2 hc,fun _=>by simp only[cond_false,zA8];exact⟨trivial,rfl,hc⟩⟩
  |false =>
   have:=H.keep t l T m v (xF hL) h
   grind [zA,zA8]
theorem yZ3 {bs:List Bor}{L:List Nat}{G':Gh}{w':World}(H:TurnOk bs L G w G' w'):∀ {A:AVal}{τ:Ty}{vs:List Value},(∀ q∈A.borAsks bs,q)→zA8 G w τ A vs→(A.turn bs L).laxT τ=true→zA8 G' w' τ (A.turn bs L) vs:=by
 intro A
 induction A with
 |val τ' x=>intro τ vs _ h _;exact⟨h.1,h.2.1,zA5 H.prot h.2.2⟩
 |nil=>simp_all [AVal.turn,AVal.mapOwn,zA8]
 |own t l T m=>intro τ vs ha h hf;obtain⟨rfl,v,rfl,ho⟩:=h;exact (xV7 hf).elim (xK2 (tm:=#[]) (os:=none) H ha ho).2 (fun e=>by rw[e];exact⟨rfl,v,rfl,yB0 ho⟩)
 |agg f b ih =>
  intro τ vs ha h hf;obtain⟨rfl,h⟩:=h;have e:(AVal.agg f b).turn bs L=bif (b.turn bs L).laxT f then .agg f (b.turn bs L) else .junk:=rfl;rw[e] at hf ⊢;cases hc:(b.turn bs L).laxT f with
  |false=>grind [AVal.laxT,Ty.isSl]
  |true=>simp[zA8];simp_all [AVal.borAsks]
 |nl=>simp_all [AVal.turn,AVal.mapOwn,zA8]
 |junk=>simp_all [AVal.turn,AVal.mapOwn,zA8]
 |cons x y ihx ihy =>
  intro τ vs ha h hf;obtain⟨h1,t1,us,ws,rfl,rfl,h2,h3⟩:=h;have e:(AVal.cons x y).turn bs L=.cons (x.turn bs L) (y.turn bs L):=rfl;rw[e] at hf ⊢;simp[AVal.laxT,zF5] at hf;simp[AVal.borAsks] at ha;exact⟨_,_,us,ws,rfl,rfl,ihx (fun q hq=>ha q (.inl hq)) h2 hf.1,ihy (fun q hq=>ha q (.inr hq)) h3 hf.2⟩
 |_=>grind [zA8]
theorem xX3 {bs:List Bor}{L:List Nat}{G':Gh}{w':World}(H:TurnOk bs L G w G' w'){s:Nat}{τ:Ty}{b:AVal}(ha:∀ q∈b.borAsks bs,q)
  (hbx:(∀ o,G.χ (G.β s) o=zD8 s)→G.β s<w.heap.size→w'.heap[G.β s]?=w.heap[G.β s]?∧∀ o,G'.χ (G.β s) o=zD8 s) (h:zN3 G w s τ b) (hc:(b.turn bs L).laxT τ=true):zN3 G' w' s τ (b.turn bs L):=by
 obtain⟨hvt,cur,e,h2,h3,h4⟩:=h;obtain⟨q1,q2⟩:=hbx h4 (zE0 h2);exact⟨hvt,cur,e,by rw[H.ref,q1];exact h2,yZ3 H ha h3 hc,fun o=>by rw[H.ref];exact q2 o⟩
theorem xX4 {bs:List Bor}{L:List Nat}{G':Gh}{w':World}(H:TurnOk bs L G w G' w'):∀ {A:AVal}{os:Option Nat}{v:Value},(∀ q∈A.borAsks bs,q) →
  (∀ s,os=some s→(∀ o,G.χ (G.β s) o=zD8 s)→G.β s<w.heap.size→w'.heap[G.β s]?=w.heap[G.β s]?∧∀ o,G'.χ (G.β s) o=zD8 s)→zA G w tm os A v→zA G' w' tm os (A.turn bs L) v:=by
 intro A
 induction A with
 |junk=>simp_all [AVal.turn,AVal.mapOwn,zA]
 |val τ x=>intro os v _ _ h;exact zD H.prot h
 |nil=>simp_all [AVal.turn,AVal.mapOwn,zA]
 |nn b=>simp_all [AVal.turn,AVal.mapOwn,zA]
 |own t l T m=>grind [zA,xK2]
 |eref s T t i p =>
  intro os v _ _ h;have e:(AVal.eref s T t i p).turn bs L=bif L.any (Nat.beq T) then .junk else .eref s T t i p:=rfl;rw[e];cases hL:L.any (Nat.beq T) with
  |true=>simp[zA]
  |false=>simp ;simp only[zA] at h ⊢;rw[H.tag T (xF hL)];grind
 |opt s' want gg A ih =>
  intro os v ha _ h;exact⟨h.1,fun e=>ih ha (fun s e=>by grind) (h.2.1 e),h.2.2⟩
 |box τ b ih =>
  intro os v ha hbx h;have e:(AVal.box τ b).turn bs L=bif (b.turn bs L).laxT τ then .box τ (b.turn bs L) else .junk:=rfl;rw[e];cases os with
  |none=>grind [zA]
  |some s =>
   cases hc:(b.turn bs L).laxT τ with
   |false=>simp[zA]
   |true =>
    exact⟨by rw[H.ref];exact h.1,xX3 H ha (hbx s rfl) h.2 hc⟩
 |may m τ b ih =>
  intro os v ha hbx h;have e:(AVal.may m τ b).turn bs L=bif (b.turn bs L).laxT τ then .may m τ (b.turn bs L) else .junk:=rfl;rw[e];cases os with
  |none=>grind [zA]
  |some s =>
   cases hc:(b.turn bs L).laxT τ with
   |false=>simp[zA]
   |true =>
    simp only[cond_true,zA] at h ⊢;exact fun hm=>xX3 H ha (hbx s rfl) (h hm) hc
 |nilp=>simp_all [AVal.turn,AVal.mapOwn,zA]
 |pn m s' τ=>intro os v _ _ h;simp[AVal.turn,AVal.mapOwn,zA] at h ⊢;rw[H.ref];grind
 |ref s' τ p=>intro os v _ _ h;simp[AVal.turn,AVal.mapOwn,zA] at h ⊢;rw[H.ref];grind
 |raw =>
  intro os v _ hbx h;cases os with
  |none=>grind [zA]
  |some s =>
   obtain⟨h1,u,e,h2,h4⟩:=h;obtain⟨q1,q2⟩:=hbx s rfl h4 (zE0 h2);exact⟨by rw[H.ref];grind,u,e,by rw[H.ref,q1];grind,fun o=>by rw[H.ref];grind⟩
 |ownh t l T i U m=>simp[AVal.turn,AVal.mapOwn,zA]
 |rref s'=>intro os v _ _ h;simp[AVal.turn,AVal.mapOwn,zA] at h ⊢;rw[H.ref];grind
 |ptrs one l=>intro os v _ hr h;simp only[AVal.turn,AVal.mapOwn,zA] at h ⊢;exact zX7 H.prot (fun k _ _ _=>H.ref k) h
 |lbox _ _ _ _=>intro os v _ _ _;simp only[AVal.turn,AVal.mapOwn,zA]
 |bld _ _ _ _=>intro os v _ _ _;simp only[AVal.turn,AVal.mapOwn,zA]
 |fptr f caps =>
  intro os v _ _ h;obtain⟨b,h1,h2,h3⟩:=h;have hb:b<w.heap.size:=by
   grind [World.cell?]
  obtain⟨h4,h5⟩:=H.prot b 0 hb h2;refine⟨b,h1,h4,?_⟩;rw[h5,h3];congr 3;refine List.map_congr_left fun q hq=>?_;cases q with
  |none=>rfl
  |some q=>simp only[xJ];rw[H.ref]
 |agg f b _ =>
  have e:(AVal.agg f b).turn bs L=bif (b.turn bs L).laxT f then .agg f (b.turn bs L) else .junk:=rfl
  grind [zA,yZ3,AVal.borAsks]
 |nl=>intro os v _ _ h;exact h
 |cons x y ihx ihy =>
  intro os v ha _ h;have e:(AVal.cons x y).turn bs L=.cons (x.turn bs L) (y.turn bs L):=rfl;simp[AVal.borAsks] at ha
  grind [zA]
 |tup b ih =>
  have e:(AVal.tup b).turn bs L=.tup (b.turn bs L):=rfl
  grind [zA,AVal.borAsks]
 |fn f b ih =>
  have e:(AVal.fn f b).turn bs L=.fn f (b.turn bs L):=rfl
  grind [zA,AVal.borAsks]
theorem xO4 {bs:List Bor}{L:List Nat}{G':Gh}{w':World}(H:TurnOk bs L G w G' w'){A:AVal}{os:Option Nat}{v:Value}(ha:∀ q∈A.borAsks bs,q)
  (hb:∀ s,os=some s→(∀ o,G.χ (G.β s) o=zD8 s)→G.β s<w.heap.size→w'.heap[G.β s]?=w.heap[G.β s]?∧∀ o,G'.χ (G.β s) o=zD8 s) (h:zA G w tm os A v):zA G' w' tm os (A.turnH bs L) v:=by
 cases A with
 |ownh t l T i U m =>
  simp only[AVal.turnH];cases hc:(!(Nat.beq T U)&&!(L.any (Nat.beq T))) with
  |false=>simp[zA]
  |true =>
   simp only[Bool.and_eq_true,Bool.not_eq_true'] at hc;have hTL:=xF hc.2;obtain⟨hv,⟨he,_⟩ | ⟨hne,h|⟨cap,cur,e,h1,h2,h3,h4,h5,h6,h7⟩⟩⟩:=h
   ·simp_all
   ·exact⟨hv,.inl ⟨rfl,.inr ⟨rfl,.inl h⟩⟩⟩
   ·obtain⟨b1,b2⟩:=H.blk T hTL h6 (zE0 h2);have hg:=H.tag T hTL;refine⟨hv,.inl ⟨rfl,.inr ⟨rfl,.inr ⟨cap,cur,e,by grind,by grind,h3,h4,h5,fun o=>by grind,fun j x hj hji=>?_⟩⟩⟩⟩;obtain⟨u,hu,hr⟩:=h7 j x hj;rw[if_neg hji] at hr;exact⟨u,hu,zA5 H.prot hr⟩
 |_=>exact xX4 H ha hb h
theorem xX5 {bs:List Bor}{L:List Nat}{A:AVal}{d:Nat}(h:A.hung d=false):(A.turn bs L).hung d=false:=by
 refine yM0 h (fun t l T m=>?_) (fun s T t i p=>?_)
 all_goals grind [AVal.hung]
theorem xO5 {bs:List Bor}{L:List Nat}{A:AVal}{d:Nat}(h:A.hung d=false):(A.turnH bs L).hung d=false:=by
 cases A with
 |ownh t l T i U m=>simp only[AVal.turnH];cases (!(Nat.beq T U)&&!(L.any (Nat.beq T)))<;>simp[AVal.hung]
 |_=>exact xX5 h
theorem xO6 {g:(t:Ty)→List t.den→Nat→Bool→AVal}{h:Nat→Nat→Ty→Int→zG4→AVal}:∀ {A:AVal}{d:Nat},A.hasRef d=false→(∀ t l T m,(g t l T m).hasRef d=false)→(∀ s T t i p,(h s T t i p).hasRef d=false)→(A.mapOwn g h).hasRef d=false:=by
 intro A
 induction A with
 |own t l T m=>grind [AVal.mapOwn]
 |eref s T t i p=>grind [AVal.mapOwn]
 |opt s' want gg A ih=>grind [AVal.hasRef,AVal.mapOwn]
 |box τ b _=>grind [AVal.mapOwn,AVal.hasRef]
 |may m τ b _=>grind [AVal.mapOwn,AVal.hasRef]
 |agg f b _=>grind [AVal.mapOwn,AVal.hasRef]
 |cons x y ihx ihy=>grind [AVal.hasRef,Bool.or_eq_false_iff,AVal.mapOwn]
 |tup b ih=>intro d hh h1 h2;exact ih hh h1 h2
 |fn f b ih=>intro d hh h1 h2;exact ih hh h1 h2
 |ownh _ _ _ _ _ _=>intro d _ _ _;rfl
 |bld _ _ _ _=>intro d _ _ _;rfl
 |_=>intro d hh _ _;exact hh
theorem xX6 {bs:List Bor}{L:List Nat}{A:AVal}{d:Nat}(h:A.hasRef d=false):(A.turnH bs L).hasRef d=false:=by
 have key:(A.turn bs L).hasRef d=false:=by
  refine xO6 h (fun t l T m=>?_) (fun s T t i p=>?_)
  all_goals grind [AVal.hasRef]
 cases A with
 |ownh t l T i U m=>simp only[AVal.turnH];cases (!(Nat.beq T U)&&!(L.any (Nat.beq T)))<;>simp[AVal.hasRef]
 |_=>exact key
theorem xF0 {bs:List Bor}{L:List Nat}{s:Nat}(ht:zP7 L (S.get s)=true)(hs:¬ s<c.n):∀ {R:St},St.has s R=true→(∀ q∈yA0 c bs L S R,q)→∀ q∈(S.get s).borAsks bs,q:=by
 intro R
 induction R with
 |nil=>intro h;cases h
 |cons e r ih =>
  intro h hq q hqs;obtain⟨k,A⟩:=e;simp only[yA0,List.mem_append] at hq;simp only[St.has,List.any_cons,Bool.or_eq_true] at h;rcases h with h|h
  ·have:=Nat.eq_of_beq_eq_true h;subst this;refine hq q (.inl ?_);have hb:Nat.blt k c.n=false:=by
    cases hb:Nat.blt k c.n with
    |false=>rfl
    |true=>exact absurd (Nat.le_of_ble_eq_true hb) hs
   rw[hb,ht];exact hqs
  ·exact ih h (fun q hq'=>hq q (.inr hq')) q hqs
theorem xO7 {outs:List (Nat×AVal)}:∀ {ys L:List AVal}{i:Nat},∀ e∈eatenTo outs i ys L,e.2=.junk:=by
 intro ys L i
 induction i,ys,L using eatenTo.induct with
 |case1 i s _ _ r A l ih =>
  intro e he;simp only[eatenTo,List.mem_append] at he;rcases he with he|he
  ·cases hb:(zF7 A&&!(outs.any (fun e=>Nat.beq e.1 i))) with
   |false=>simp[hb] at he
   |true=>simp[hb] at he;rw[he]
  ·exact ih e he
 |case2 i one s _ _ l' r A l ih =>
  intro e he;simp only[eatenTo,List.mem_append] at he;rcases he with he|he
  ·cases hb:(yC4 A&&!(outs.any (fun e=>Nat.beq e.1 i))) with
   |false=>simp[hb] at he
   |true=>simp[hb] at he;rw[he]
  ·exact ih e he
 |case3 i Y r A l h1 h2 ih =>
  intro e he;rw[eatenTo] at he
  ·exact ih e he
  ·exact h1
  ·exact h2
 |case4 i ys L h1 h2 h3=>intro e he;rw[eatenTo] at he<;>first | (cases he)|assumption
theorem yQ9 {outs:List (Nat×AVal)}{i:Nat}{Y A:AVal}{r l:List AVal}{e:Nat×AVal}(h:e∈eatenTo outs (i+1) r l):e∈eatenTo outs i (Y::r) (A::l):=by
 unfold eatenTo;split
 ·rename_i e1 e2;injection e1 with _ e1;injection e2 with _ e2;subst e1;subst e2;exact List.mem_append_right _ h
 ·rename_i e1 e2;injection e1 with _ e1;injection e2 with _ e2;subst e1;subst e2;exact List.mem_append_right _ h
 ·rename_i e1 e2;injection e1 with _ e1;injection e2 with _ e2;subst e1;subst e2;exact h
 ·rename_i h3;exact absurd rfl (h3 _ _ _ _ rfl)
theorem xO8 {outs:List (Nat×AVal)}{one:Bool}{s:Nat}{τ:Ty}{p:zG4}{q:List (Option (Nat×Ty×zG4))}{A:AVal}:∀ {ys L:List AVal}{i j:Nat},ys[j]?=some (.ptrs one (some (s,τ,p)::q))→L[j]?=some A→yC4 A=true→outs.any (fun e=>Nat.beq e.1 (i+j))=false→(s,.junk)∈eatenTo outs i ys L:=by
 intro ys
 induction ys with
 |nil=>intro L i j h;simp at h
 |cons Y r ih =>
  intro L i j hy hL hA ho;cases L with
  |nil=>simp at hL
  |cons B l =>
   cases j with
   |zero =>
    simp only[List.getElem?_cons_zero,Option.some.injEq] at hy hL;subst hy;subst hL;simp only[eatenTo,List.mem_append];left;rw[hA,show outs.any (fun e=>Nat.beq e.1 i)=false from ho];simp
   |succ j=>exact yQ9 (ih (i:=i+1) (by simpa using hy) (by simpa using hL) hA (by rw[show i+1+j=i+(j+1) by omega];exact ho))
theorem xX7 {outs:List (Nat×AVal)}{s:Nat}{τ:Ty}{p:zG4}{A:AVal}:∀ {ys L:List AVal}{i j:Nat},ys[j]?=some (.ref s τ p)→L[j]?=some A→zF7 A=true→outs.any (fun e=>Nat.beq e.1 (i+j))=false→(s,.junk)∈eatenTo outs i ys L:=by
 intro ys
 induction ys with
 |nil=>intro L i j h;simp at h
 |cons Y r ih =>
  intro L i j hy hL hA ho;cases L with
  |nil=>simp at hL
  |cons B l =>
   cases j with
   |zero =>
    simp only[List.getElem?_cons_zero,Option.some.injEq] at hy hL;subst hy;subst hL;simp only[eatenTo,List.mem_append];left;rw[hA,show outs.any (fun e=>Nat.beq e.1 i)=false from ho];simp
   |succ j =>
    exact yQ9 (ih (i:=i+1) (by simpa using hy) (by simpa using hL) hA (by rw[show i+1+j=i+(j+1) by omega];exact ho))
theorem wG8 {dst:Option Nat}{co:CallOut}:yH5 (zH2 (nbK dst co)):=by
 unfold nbK;cases dst with
 |none=>intro a b b' h;simp[zH2] at h
 |some d =>
  cases (co.nb.isEmpty&&zG5 co.res) with
  |true=>intro a b b' h;simp[zH2] at h
  |false =>
   intro a b b' h h';simp[zH2,vTo] at h h';omega
theorem wP6 {dst:Option Nat}{co:CallOut}{k V:Nat}(h:(k,V)∈nbK dst co):vNo≤k∧vNo≤V∧∃ d,dst=some d∧V=vTo d k:=by
 unfold nbK at h;cases dst with
 |none=>simp at h
 |some d =>
  cases hb:(co.nb.isEmpty&&zG5 co.res) with
  |true=>simp[hb] at h
  |false =>
   simp only[hb,cond_false,List.mem_cons,Prod.mk.injEq,List.not_mem_nil,or_false] at h;rcases h with ⟨rfl,rfl⟩ | ⟨rfl,rfl⟩ | ⟨rfl,rfl⟩ | ⟨rfl,rfl⟩<;>exact⟨by omega,by unfold vTo;omega,d,rfl,rfl⟩
theorem wK5 {d:Nat}{co:CallOut}{k:Nat}(h1:vNo≤k)(h2:k<vNo+4)(hb:(co.nb.isEmpty&&zG5 co.res)=false):(k,vTo d k)∈nbK (some d) co:=by
 unfold nbK;simp only[hb,cond_false,List.mem_cons,Prod.mk.injEq,List.not_mem_nil,or_false];have:k=vNo∨k=vNo+1∨k=vNo+2∨k=vNo+3:=by omega
 rcases this with rfl|rfl|rfl|rfl<;>simp
theorem xX8 {bs:List Bor}{L:List Nat}{s:Nat}:∀ {R:St},St.has s (zM0 bs L S R)=true→(∀ e∈zM0 bs L S R,e.1≠zA4)→(zM0 bs L S R).get s=(S.get s).turnH bs L:=by
 intro R
 induction R<;>grind [zM0,St.has,zP7,St.get,Nat.beq,Nat.eq_of_beq_eq_true,absurd,List.mem_cons_self]
theorem xO9 {bs:List Bor}{L:List Nat}{s:Nat}(ht:zP7 L (S.get s)=true):∀ {R:St},St.has s R=true→St.has s (zM0 bs L S R)=true:=by
 intro R
 induction R with
 |nil=>grind [St.has]
 |cons e r ih =>
  intro h;obtain⟨s',A⟩:=e;simp only[zM0];simp only[St.has,List.any_cons,Bool.or_eq_true] at h;cases ht':zP7 L (S.get s') with
  |false =>
   rcases h with h|h
   ·simp_all
   ·exact ih h
  |true =>
   simp only[cond_true,St.has,List.any_cons,Bool.or_eq_true];rcases h with h|h
   ·grind
   ·exact .inr (ih h)
theorem xF1 {bs:List Bor}{L:List Nat}{s:Nat}(ht:zP7 L (S.get s)=true):∀ {k:Nat},s<k→(∀ q∈yA bs L S k,q)→∀ q∈(S.get s).borAsks bs,q:=by
 intro k
 induction k with
 |zero=>grind
 |succ k ih =>
  intro h hq;simp[yA] at hq;by_cases e:s=k
  ·grind
  grind
theorem yZ4 {L:List Nat}{A:AVal}(h:zP7 L A=true):A≠.junk:=by
 intro e;subst e;obtain⟨T,_,h⟩:=List.any_eq_true.1 h
 grind [AVal.hasTag]
theorem yZ5 {hb:List (Nat×Nat)}{wants:List Nat}{i:Nat}{Y k A:AVal}(h:zE8 hb wants i Y k=A)(hA:zF7 A=true):∃ s τ k',Y=.ref s τ []∧k=.box τ k'∧A=.box τ (k'.pos τ (zL7 i)):=by
 subst h;cases Y with
 |ref s τ p =>
  cases p with
  |nil =>
   cases k with
   |box τ' k' =>
    simp only[zE8] at hA ⊢;cases hb:Ty.beq τ' τ with
    |false=>grind [zF7]
    |true=>have:=Ty.eq_of_beq hb;subst this;exact⟨s,τ',k',rfl,rfl,rfl⟩
   |_=>grind [zE8,zF7]
  |cons _ _=>grind [zE8,zF7]
 |own t l T m=>grind [zE8,zF7]
 |agg f d =>
  grind [zE8,Nat.beq,zF7]
 |fn f cs=>grind [zE8,zF7]
 |fptr f caps=>grind [zE8,zF7]
 |ptrs one l=>cases k<;>simp only[zE8] at hA<;>first | (unfold xL1 at hA;split at hA<;>(try split at hA)<;>simp[zF7] at hA)|simp[zF7] at hA
 |_=>grind [zE8,zF7]
theorem xK3 {hb:List (Nat×Nat)}{wants:List Nat}{i:Nat}{Y k:AVal}(hA:yC4 (zE8 hb wants i Y k)=true):∃ one s τ p r τ' k' ps,Y=.ptrs one (some (s,τ,p)::r)∧k=.box τ' k'∧τ'=τ∧zE8 hb wants i Y k=.lbox one ps τ' (k'.pos τ' (zL7 i)):=by
 cases Y with
 |ptrs one l =>
  cases k with
  |box τ' k' =>
   simp only[zE8] at hA ⊢;unfold xL1 at hA ⊢;split at hA
   ·rename_i s τ p r;split at hA
    ·rename_i ps hps;have hl:=yF7 hps;have hτ:τ'=τ:=by
      cases ps with
      |nil=>cases hl
      |cons p' r'=>simp only[List.map_cons,List.cons.injEq,Option.some.injEq,Prod.mk.injEq] at hl;exact hl.1.2.1.symm
     refine⟨one,s,τ,p,r,τ',k',ps,rfl,rfl,hτ,?_⟩;simp only
    ·simp[yC4] at hA
   ·simp[yC4] at hA
  |_=>simp[zE8,yC4] at hA
 |ref s τ p =>
  cases p with
  |nil =>
   cases k with
   |box τ' k'=>simp only[zE8] at hA;cases hb:Ty.beq τ' τ<;>simp[hb,yC4] at hA
   |_=>simp[zE8,yC4] at hA
  |cons _ _=>simp[zE8,yC4] at hA
 |own t l T m=>grind [zE8,yC4]
 |agg f d=>grind [zE8,Nat.beq,yC4]
 |fn f cs=>grind [zE8,yC4]
 |fptr f caps=>grind [zE8,yC4]
 |_=>grind [zE8,yC4]
theorem yM5 (hc:CtxOk P c)(hR:Rel c.n χ0 w0 S a w G){o:Oper}{fo:Operand}{args:Array Operand}{ats:Array TypeId}{f:Nat}{cs:AVal}{r:List AVal}{p:List Prop}{u:St}{hv:Bool}
  (ho:o.op=.call { callee:=.value fo,args,argTypes:=ats }) (hf:zA G w a.tmps none (.fn f cs) (a.eval fo)) (hr:zH8 (zA G w a.tmps none) r (args.toList.map a.eval)) (hcs:zH9 cs=true)
  (h:xL2 c o.dst f (r++cs.toL) S=some (p,u,hv))
  (hlt:∀ e∈u,e.1<zA4) (hdo:∀ d,o.dst=some d→d<c.n) (hh:∀ s,∀ e∈u,(S.get s).hung e.1=false) (hp:∀ q∈p,q)
  {next:Act→World→Prop}{Q:Exit→Act→World→Prop}(hnext:∀ v w' G',Rel c.n χ0 w0 (u++S) (a.put o.dst v) w' G'→next (a.put o.dst v) w'):o.wpIn (fz rd) 0 P a w next Q:=by
 simp only[zA] at hf;obtain⟨vs,hfv,hcv⟩:=hf;have hcl:=yD6 (vs:=vs.toList) hcs (by simpa using hcv);have hys:=zL hr hcl;generalize hysd:r++cs.toL=ys at h hys;generalize hwd:look [] c.wants f=wants at h;unfold xL2 at h;rw[hwd] at h;split at h
 ·cases h
 ·rename_i co hco;split at h
  ·cases h
  ·rename_i u1 bs K hout;obtain⟨sp,hmem,hsp⟩:=zR9 hco;have hok:=hc.fns f sp hmem;obtain⟨fn,h1,h2,h3⟩:=hok.1;have hrun:(execOp a.eval o).run P w=.ok (.enter f (args.toList.map a.eval++vs.toList).toArray) w:=by
    have harr:(args.toList.map a.eval++vs.toList).toArray=args.map a.eval++vs:=by apply Array.toList_inj.1;simp
    rw[harr];unfold execOp;have hbn:fn.body.isNone=false:=by cases hb:fn.body<;>simp_all
    simp[ho,resolve,hfv,Deferred.ofValue,invoke,callFunc,h1,h3];intro hb;simp[hb] at hbn
   generalize hvals:args.toList.map a.eval++vs.toList=vals at hys hrun;generalize hks:ys.map (zC5 S)=ks at h hsp;have hksl:ys.length=ks.length:=by rw[← hks];simp
   have hysl:=zE6 hys;generalize hE:eatenTo co.outs 0 ys (yC6 (zN2 0 ys) wants 0 ys ks)=E at h;generalize hbb:(_&&zT (_++(nbK o.dst co).map (·.1)))=bb at h;cases bb with
   |false=>cases h
   |true =>
    simp only[Bool.and_eq_true] at hbb;obtain⟨⟨⟨⟨⟨⟨⟨⟨⟨b1,b2⟩,bf⟩,b3⟩,b4⟩,b5⟩,b6⟩,b7⟩,b8⟩,b9⟩:=hbb;simp only[cond_true,Option.some.injEq,Prod.mk.injEq] at h;obtain⟨hpe,hu,_⟩:=h;generalize hHT:zZ9 wants 0 ys ks=HT at b5 b6 hu hpe;generalize hHB:zN2 0 ys=HB at b3 b4 b9 hsp hE;generalize hKT:xT2 o.dst++K=KT at b7 b8 hu hpe;generalize hL:HT.map (·.1)++KT.map (·.2)=L at hu hpe;generalize hKB:nbK o.dst co=KB at bf b9 hu;subst hpe;have hpok:∀ q∈co.ok,q:=fun q hq=>hp q (List.mem_append_left _ hq);have hppos:∀ b∈bs,0<b.l.length:=fun b hb=>hp _ (List.mem_append_right _ (List.mem_append_left _ (List.mem_append_left _ (List.mem_map.2 ⟨b,hb,rfl⟩))));have hpask:∀ q∈yA bs L S c.n,q:=fun q hq=>hp q (List.mem_append_right _ (List.mem_append_left _ (List.mem_append_right _ hq)));have hpvirt:∀ q∈yA0 c bs L S S,q:=fun q hq=>hp q (List.mem_append_right _ (List.mem_append_right _ hq));have f1:=zU3 b4;have f1b:yH5 (zH2 HB++KB):=zU3 (by rw[List.map_append,zH2,List.map_map];exact b9);have f1':yH5 (zH2 HB):=fun x y y' h h'=>f1b x y y' (List.mem_append_left _ h) (List.mem_append_left _ h');have f2:=zU3 b5;have f2':=yQ5 b6;have f3:=zU3 b7;have f3':=yQ5 b8;have fK:yH5 (zH2 KB):=by rw[← hKB];exact wG8
    have hKBat:∀ k V,(k,V)∈KB→vNo≤k∧vNo≤V∧∃ d,o.dst=some d∧V=vTo d k:=fun k V h=>wP6 (by rw[hKB];exact h);have harg:∀ (i:Nat) Y,ys[i]?=some Y→(yC6 HB wants 0 ys ks)[i]?=some (zE8 HB wants i Y (zC5 S Y)):=fun i Y hY=>by
     have:=wG7 (hb:=HB) (wants:=wants) (ks:=ks) (i:=0) hY (show ks[i]?=some (zC5 S Y) by rw[← hks];simp[hY])
     rwa [Nat.zero_add] at this
    refine zO8 hrun ((hok.2 _ co hsp hpok (G.calleeH HB HT) w vals (by rw[yF8 hksl,hysl]) (zI5 zS3 hR.glob) (fun i A v hA hv=>?_)).mono ?_)
    ·have hil:i<ys.length:=by have:=(List.getElem?_eq_some_iff.1 hA).1;rwa [yF8 hksl] at this
     obtain⟨Y,hY⟩:∃ Y,ys[i]?=some Y:=⟨_,List.getElem?_eq_getElem hil⟩;rw[harg i Y hY] at hA;injection hA with hA
     subst hA;refine xW4 (kv:=match wG5 Y with|some s=>a.tmps.getD s undef|none=>undef) f1 f1' f2 f2' (zL5 hys hY hv) (fun s hs=>by rw[hs];exact yZ1 hR hs) (fun q hq=>?_) (fun q hq=>?_)
     ·rw[← hHT];exact xO3 (i:=0) hY (show ks[i]?=some (zC5 S Y) by rw[← hks];simp[hY]) (by rwa [Nat.zero_add])
     ·rw[← hHB];exact yD7 (i:=0) hY (by rwa [Nat.zero_add])
    ·rintro e w' ⟨v,G',rfl,hF,hres,houts,hnb⟩;refine⟨v,rfl,hnext v w' (G.backH G' w.heap.size HB HT KT KB) ?_⟩;generalize hW:wE2 o.dst co.nb KB (u1++E)=W;have hu':u=zI2 o.dst co.res W++zM0 bs L S S:=by
      rw[← hu,← hW];unfold zI2;cases o.dst<;>rfl
     subst hu';have hltU:∀ e∈zI2 o.dst co.res W,e.1<zA4:=fun e he=>hlt e (List.mem_append_left _ he);have hcutU:∀ e∈zI2 o.dst co.res W,e.1≠zA4:=fun e he=>by have:=hltU e he;omega
     have hcutT:∀ e∈zM0 bs L S S,e.1≠zA4:=fun e he=>by have:=hlt e (List.mem_append_right _ he);omega
     have hsubU:∀ e∈W,e∈zI2 o.dst co.res W:=by intro e he;unfold zI2;split;exact List.mem_cons_of_mem _ he;exact he
     have hsubW:∀ e∈u1++E,e∈W:=by intro e he;rw[← hW];unfold wE2;split;exact List.mem_append_right _ (List.mem_append_right _ he);exact he
     obtain⟨g1,g2,g3⟩:=xX hout;have hprot:=zQ4 (KT:=KT) (KB:=KB) hF;have hown:∀ U T,(U,T)∈KT→∀ (t:Ty) (l:List t.den) m v,zG3 G' w' t l U m v→zG3 (G.backH G' w.heap.size HB HT KT KB) w' t l T m v:=fun U T hm t l m v h=>yM3 hF f1b f3 f3' hm h;have hext:=xW6 (G:=G) (KT:=KT) (KB:=KB) hF;have hextO:=xW7 (G:=G) (KT:=KT) (KB:=KB) hF;have h0:¬ ((∃ y,((0:Nat),y)∈zT3 HB HT)∨(∃ U,U∈KT.map (·.2)∧0=zA9 U)∨∃ V,V∈KB.map (·.2)∧0=zD8 V):=by
      rintro (⟨y,hy⟩ | ⟨U,_,e⟩ | ⟨V,_,e⟩)
      ·have:=yD3 hy;omega
      ·exact zA7 _ e
      ·exact zC8 _ e
     have hfresh:∀ V,V∈KB.map (·.2)→V<zA4∧St.has V (u1++E)=false∧∀ s,St.has s (zI2 o.dst co.res W)=false→(S.get s).hasRef V=false:=by
      intro V hV;obtain⟨q,hq,rfl⟩:=List.mem_map.1 hV;have h1:=List.all_eq_true.1 bf q hq;simp only[Bool.and_eq_true,Bool.not_eq_true'] at h1;refine⟨Nat.le_of_ble_eq_true h1.1,h1.2.1,fun s hs=>?_⟩;cases hr:(S.get s).hasRef q.2 with
      |false=>rfl
      |true =>
       exfalso;have hne:S.get s≠.junk:=fun e=>by rw[e] at hr;simp[AVal.hasRef] at hr
       obtain⟨e,he,hes⟩:=List.any_eq_true.1 (zO0 hne);have hes:=Nat.eq_of_beq_eq_true hes;have h2:=List.all_eq_true.1 h1.2.2 e he;rw[hes,hr] at h2;simp only[Bool.not_true,Bool.or_false,Bool.or_eq_true] at h2;rcases h2 with h2|h2
       ·cases hd:o.dst with
        |none=>rw[hd] at h2;cases h2
        |some d =>
         rw[hd] at h2 hs;have:=Nat.eq_of_beq_eq_true h2;subst this;simp[zI2,St.has] at hs
       ·obtain⟨e',he',hes'⟩:=List.any_eq_true.1 h2;have:St.has s (zI2 o.dst co.res W)=true:=List.any_eq_true.2 ⟨e',hsubU _ (hsubW _ he'),hes'⟩;rw[hs] at this;cases this
     have hVW:∀ V,V∈KB.map (·.2)→∀ e∈u1,e.1≠V:=fun V hV e he e2=>by
      have:=(hfresh V hV).2.1;have h2:St.has V (u1++E)=true:=List.any_eq_true.2 ⟨e,List.mem_append_left _ he,by rw[e2];exact Nat.beq_refl _⟩;rw[this] at h2;cases h2
     have hlkK:∀ s,s∉KB.map (·.2)→lk (zH2 KB) s=none:=fun s hs=>by
      cases hl:lk (zH2 KB) s with
      |none=>rfl
      |some k=>exact absurd (List.mem_map.2 ⟨_,mem_swap.1 (zL9 hl),rfl⟩) hs
     have hβK:∀ k V,(k,V)∈KB→(G.backH G' w.heap.size HB HT KT KB).β V=G'.β k:=fun k V hm=>by
      simp only[Gh.backH];rw[zK2 fK (mem_swap.2 hm)]
     have hboxback:∀ s i,(s,i)∈HB→∃ e∈u1++E,e.1=s:=by
      intro s i hm;rw[← hHB] at hm;obtain⟨j,_,hj⟩:=xW9 hm;simp only[Nat.sub_zero] at hj;rcases hj with ⟨rfl,τ,hY⟩ | ⟨_,one,τ,pp,ll,hY⟩
      ·skip
       have hA:=harg _ _ hY;have hbx:=zS b3 hY hA;cases hc:co.outs.any (fun e=>Nat.beq e.1 i) with
       |false =>
        have:=xX7 (outs:=co.outs) (i:=0) hY hA hbx (by rw[Nat.zero_add];exact hc);rw[hE] at this;exact⟨_,List.mem_append_right _ this,rfl⟩
       |true =>
       obtain⟨⟨i',k⟩,hk,hik⟩:=List.any_eq_true.1 hc;have:=Nat.eq_of_beq_eq_true hik;simp only at this;subst this;obtain⟨Y',u',bs',K',q1,q2,q3⟩:=g1 i' k hk;rw[hY] at q1;injection q1 with q1
       subst q1;simp only[wD9] at q2;generalize (AVal.fits τ k&&yV9 (k.tags τ (zL7 i')))=bb at q2;cases bb with
       |false=>cases q2
       |true =>
        simp only[cond_true,Option.some.injEq,Prod.mk.injEq] at q2;exact⟨_,List.mem_append_left _ (q3 _ (by rw[← q2.1];exact List.mem_cons_self ..)),rfl⟩
      ·skip
       have hA:=harg j _ hY;have hbx:=yF5 b3 hY hA;cases hc:co.outs.any (fun e=>Nat.beq e.1 j) with
       |false =>
        have:=xO8 (outs:=co.outs) (i:=0) hY hA hbx (by rw[Nat.zero_add];exact hc);rw[hE] at this;exact⟨_,List.mem_append_right _ this,rfl⟩
       |true =>
       obtain⟨⟨i',k⟩,hk,hik⟩:=List.any_eq_true.1 hc;have:=Nat.eq_of_beq_eq_true hik;simp only at this;subst this;obtain⟨Y',u',bs',K',q1,q2,q3⟩:=g1 i' k hk;rw[hY] at q1;injection q1 with q1
       subst q1;simp only[wD9] at q2;generalize (AVal.fits τ k&&yV9 (k.tags τ (zL7 i')))=bb at q2;cases bb with
       |false=>cases q2
       |true =>
        simp only[cond_true,Option.some.injEq,Prod.mk.injEq] at q2;exact⟨_,List.mem_append_left _ (q3 _ (by rw[← q2.1];exact List.mem_cons_self ..)),rfl⟩
     have hentry1:∀ e∈u1,∀ tm',zA (G.backH G' w.heap.size HB HT KT KB) w' tm' (some e.1) e.2 (a.tmps.getD e.1 undef):=by
      intro e he tm';obtain⟨i,k,Y,u',bs',K',q1,hY,q3,q4,q5⟩:=g2 e he;have hA:=harg i Y hY;have hil:i<vals.length:=by rw[← hysl];exact (List.getElem?_eq_some_iff.1 hY).1
      obtain⟨uv,huv⟩:∃ uv,vals[i]?=some uv:=⟨_,List.getElem?_eq_getElem hil⟩;obtain⟨c1,cL,c2⟩:=houts i k _ uv q1 hA huv;have hYv:=zL5 hys hY huv;have hKT':∀ q∈K',q∈KT:=fun q hq=>by rw[← hKT];exact List.mem_append_right _ (q5 q hq)
      have hcase:(∃ s τ,Y=.ref s τ [])∨(∃ one s τ p l,Y=.ptrs one (some (s,τ,p)::l))∨u'=[]:=by
       unfold wD9 at q3;split at q3
       ·exact .inl ⟨_,_,rfl⟩
       ·exact .inr (.inl ⟨_,_,_,_,_,rfl⟩)
       ·right;right;split at q3
        ·simp only[Option.some.injEq,Prod.mk.injEq] at q3;exact q3.1.symm
        ·cases q3
      rcases hcase with ⟨s,τ,rfl⟩ | ⟨one,s,τ,pp,ll,rfl⟩ | e1
      ·have hbx:=zS b3 hY hA;obtain⟨s',τ',k',e1,e2,e3⟩:=yZ5 rfl hbx;injection e1 with e1 e4 _
       subst e1;subst e4;obtain⟨hb1,hb2⟩:=c1 τ _ e3;simp only[wD9] at q3;generalize hfb:(AVal.fits τ k&&yV9 (k.tags τ (zL7 i)))=bb at q3;cases bb with
       |false=>cases q3
       |true =>
        simp only[cond_true,Option.some.injEq,Prod.mk.injEq] at q3;obtain⟨rfl,rfl,rfl⟩:=q3;simp only[List.mem_singleton] at q4;subst q4;have hm:(s,i)∈HB:=by rw[← hHB];exact yD7 (i:=0) hY (by simp[yS4])
        have hβ:G'.β i=G.β s:=by rw[hb2];simp only[Gh.calleeH];rw[zK2 f1' (mem_swap.2 hm)]
        have hr0:=hR.reps s;simp only[zC5,zB] at e2;rw[e2] at hr0;simp only[zA] at hr0 hb1;have hnew:lk (zH2 KB) s=none:=hlkK s (fun hV=>hVW s hV _ he rfl);have hb:=(xW5 (KT:=KT) (KB:=KB) (tm:=tm') (u:=.pointer (some ⟨G.β s,0,none⟩)) hF f1b f3 f3' hm hnew hβ (fun _=>rfl) hKT' (by simp only[zA];exact⟨fun _=>by rw[hβ],hb1.2⟩));simp only[zA] at hb ⊢;refine⟨fun hs=>?_,hb.2⟩;rw[hr0.1 hs];exact hb.1 hs
      ·have hbx:=yF5 b3 hY hA;obtain⟨one',s',τ1,p',r',τ',k',ps,e1,e2,e4,e3⟩:=xK3 hbx;injection e1 with e1 e5
       injection e5 with e5 _
       injection e5 with e5
       injection e5 with e5 e6
       injection e6 with e6 _
       subst e5;subst e6;subst e4;obtain⟨hb1,hb2⟩:=cL _ _ _ _ e3;simp only[wD9] at q3;generalize hfb:(AVal.fits τ' k&&yV9 (k.tags τ' (zL7 i)))=bb at q3;cases bb with
       |false=>cases q3
       |true =>
        simp only[cond_true,Option.some.injEq,Prod.mk.injEq] at q3;obtain⟨rfl,rfl,rfl⟩:=q3;simp only[List.mem_singleton] at q4;subst q4;have hm:(s,hid i)∈HB:=by rw[← hHB];exact yD7 (i:=0) hY (by simp[yS4])
        have hβ:G'.β (hid i)=G.β s:=by rw[hb2];simp only[Gh.calleeH];rw[zK2 f1' (mem_swap.2 hm)]
        have hr0:=hR.reps s;simp only[zC5] at e2;rw[e2] at hr0;simp only[zA] at hr0;have hnew:lk (zH2 KB) s=none:=hlkK s (fun hV=>hVW s hV _ he rfl);have hβ2:(G.backH G' w.heap.size HB HT KT KB).β s=G.β s:=by simp only[Gh.backH,hnew]
        simp only[zA];refine⟨fun hs=>?_,zS4 hF f1b f3 (List.mem_append_left _ (mem_swap.2 hm)) (by rw[hβ2,hβ]) (fun vs ht=>yB4 (zQ4 hF) (fun U T hm t l m v h=>yM3 hF f1b f3 f3' hm h) hKT' ht) hb1⟩;rw[hβ2];exact hr0.1 hs
      ·subst e1;cases q4
     have hentry:∀ e∈W,∀ tm',zA (G.backH G' w.heap.size HB HT KT KB) w' tm' (some e.1) e.2 (a.tmps.getD e.1 undef):=by
      intro e he tm';have hold:∀ e∈u1++E,zA (G.backH G' w.heap.size HB HT KT KB) w' tm' (some e.1) e.2 (a.tmps.getD e.1 undef):=fun e he=>by
       rcases List.mem_append.1 he with he|he
       ·exact hentry1 e he tm'
       ·rw[← hE] at he;rw[xO7 e he];simp only[zA]
      rw[← hW] at he;cases hd:o.dst with
      |none=>rw[hd] at he;exact hold e he
      |some d =>
       rw[hd] at he;rcases List.mem_append.1 he with he|he
       ·obtain⟨⟨k,B⟩,hq,rfl⟩:=List.mem_map.1 he;have h1:=List.all_eq_true.1 b1 _ hq;simp only[Bool.and_eq_true] at h1;have hv1:=Nat.le_of_ble_eq_true h1.1;have hv2:=Nat.le_of_ble_eq_true h1.2.1;have hne:(co.nb.isEmpty&&zG5 co.res)=false:=by
         cases hn:co.nb with
         |nil=>rw[hn] at hq;cases hq
         |cons _ _=>rfl
        have hm:(k,vTo d k)∈KB:=by rw[← hKB,hd];exact wK5 hv1 hv2 hne
        have hge:=(hKBat _ _ hm).2.1;have hB:=hnb k B hq;have hresT:∀ T:Nat,T<4→(T,T*100000+d)∈KT:=by
         intro T hT;rw[← hKT,hd];refine List.mem_append_left _ ?_
         match T,hT with
         |0,_=>simp[xT2]
         |1,_=>simp[xT2]
         |2,_=>simp[xT2]
         |3,_=>simp[xT2]
        have hcon:∀ {c:AVal}{τ:Ty},zG5 c=true→∀ vs,zA8 G' w' τ c vs→zA8 (G.backH G' w.heap.size HB HT KT KB) w' τ (c.tagTo d) vs:=fun hc vs ht =>
         yQ6 hprot (fun T hT t l m v h=>hown T (T*100000+d) (hresT T hT) t l m v h) hc ht
        cases B with
        |box τ c =>
         simp only[AVal.tagTo,zA] at hB ⊢;exact⟨fun h=>absurd h (Nat.not_lt.2 hge),zS4 hF f1b f3 (List.mem_append_right _ hm) (hβK _ _ hm) (hcon h1.2.2) hB.2⟩
        |may m τ c =>
         simp only[AVal.tagTo,zA] at hB ⊢;exact fun h=>zS4 hF f1b f3 (List.mem_append_right _ hm) (hβK _ _ hm) (hcon h1.2.2) (hB h)
        |_=>simp at h1
       ·rcases List.mem_append.1 he with he|he
        ·obtain⟨q,_,rfl⟩:=List.mem_map.1 he;simp only[zA]
        ·exact hold e he
     have hbor:∀ b∈bs,xX0 G w G' w' b∧(b.T,b.U)∈KT:=by
      intro b hb;obtain⟨i,k,Y,u',bs',K',q1,hY,q3,q4,q5⟩:=g3 b hb;have hA:=harg i Y hY;have hil:i<vals.length:=by rw[← hysl];exact (List.getElem?_eq_some_iff.1 hY).1
      obtain⟨uv,huv⟩:∃ uv,vals[i]?=some uv:=⟨_,List.getElem?_eq_getElem hil⟩;obtain⟨c1,cL,c2⟩:=houts i k _ uv q1 hA huv;have hYv:=zL5 hys hY huv;unfold wD9 at q3;split at q3
      ·rename_i s τ;generalize (AVal.fits τ k&&yV9 (k.tags τ (zL7 i)))=bb at q3;cases bb with
       |false=>cases q3
       |true =>
        simp only[cond_true,Option.some.injEq,Prod.mk.injEq] at q3;rw[← q3.2.1] at q4;cases q4
      ·rename_i s τ _ _;generalize (AVal.fits τ k&&yV9 (k.tags τ (zL7 i)))=bb at q3;cases bb with
       |false=>cases q3
       |true =>
        simp only[cond_true,Option.some.injEq,Prod.mk.injEq] at q3;rw[← q3.2.1] at q4;cases q4
      ·rename_i hnr hnp;split at q3
       ·rename_i bs2 hbs;simp only[Option.some.injEq,Prod.mk.injEq] at q3;obtain⟨_,rfl,rfl⟩:=q3;have hnb:zF7 (zE8 HB wants i Y (zC5 S Y))=false:=by
         cases hbx:zF7 (zE8 HB wants i Y (zC5 S Y)) with
         |false=>rfl
         |true=>obtain⟨s,τ,_,e1,_⟩:=yZ5 rfl hbx;exact absurd e1 (hnr s τ)
        have hnl:yC4 (zE8 HB wants i Y (zC5 S Y))=false:=by
         cases hbx:yC4 (zE8 HB wants i Y (zC5 S Y)) with
         |false=>rfl
         |true=>obtain⟨one,s,τ,p,r,_,_,_,e1,_⟩:=xK3 hbx;exact absurd e1 (hnp _ _ _ _ _)
        refine⟨yM4 hbs hYv (c2 hnb hnl) b q4,?_⟩;rw[← hKT];exact List.mem_append_right _ (q5 _ (List.mem_map.2 ⟨b,q4,rfl⟩))
       ·cases q3
     have h0O:¬ ((∃ y,((0:Nat),y)∈zT3 HB HT)∨∃ U,U∈KT.map (·.2)∧0=zA9 U):=fun h=>h0 (h.elim .inl (fun h=>.inr (.inl h)));have hnames:∀ T,T∉L→¬ ((∃ y,(zA9 T,y)∈zT3 HB HT)∨∃ U,U∈KT.map (·.2)∧zA9 T=zA9 U):=by
      intro T hT;rw[← hL] at hT;rintro (⟨y,hy⟩ | ⟨U,hU,e⟩)
      ·obtain⟨U,_,hm⟩:=cols_arr.1 hy;exact hT (List.mem_append_left _ (List.mem_map.2 ⟨_,hm,rfl⟩))
      ·have:=zA3 e;subst this;exact hT (List.mem_append_right _ hU)
     have hturn:TurnOk bs L G w (G.backO G' w.heap.size HB HT KT KB) w':=by
      refine⟨hextO.prot,fun s=>rfl,fun t l T m v hT h=>zF6 hextO h0O (hnames T hT) h,fun T hT=>hextO.tag T (fun hY=>hnames T hT (.inr hY)),fun b hb l m v hlen h=>?_,fun b hb=>?_,fun T hT hcol hlt'=>?_⟩
      ·exact hown _ _ (hbor b hb).2 _ _ _ _ (xX2 (hbor b hb).1 (hppos b hb) h hlen)
      ·rw[← hL];exact List.mem_append_right _ (List.mem_map.2 ⟨_,(hbor b hb).2,rfl⟩)
      ·have:=hextO.block _ hlt' (fun o hX=>by rw[hcol o] at hX;exact hnames T hT hX);exact⟨this.1,fun o=>by rw[this.2 o];exact hcol o⟩
     have htag0:∀ s,St.has s (zI2 o.dst co.res W++zM0 bs L S S)=false→∀ T,T∈L→(S.get s).hasTag T=false:=by
      intro s hs T hT;cases ht:(S.get s).hasTag T with
      |false=>rfl
      |true =>
       have hany:zP7 L (S.get s)=true:=List.any_eq_true.2 ⟨T,hT,ht⟩;have:=xO9 (bs:=bs) hany (zO0 (yZ4 hany));simp only[St.has,List.any_append,Bool.or_eq_false_iff] at hs;rw[St.has] at this;rw[hs.2] at this;cases this
     have hsplit:∀ s,St.has s (zI2 o.dst co.res W++zM0 bs L S S)=false→St.has s (zI2 o.dst co.res W)=false:=fun s hs=>by
      simp only[St.has,List.any_append,Bool.or_eq_false_iff] at hs;exact hs.1
     have hnotHB:∀ s,St.has s (zI2 o.dst co.res W)=false→s∉HB.map (·.1):=fun s hs hm=>by
      obtain⟨q,hq,e2⟩:=List.mem_map.1 hm;obtain⟨e,he,e3⟩:=hboxback q.1 q.2 hq;have:St.has s (zI2 o.dst co.res W)=true:=List.any_eq_true.2 ⟨e,hsubU _ (hsubW _ he),by rw[e3,e2];exact Nat.beq_refl _⟩;rw[hs] at this;cases this
     have hdd:∀ d,o.dst=some d→d<a.tmps.size:=fun d e=>by rw[hR.len];exact hdo d e
     have hnotKB:∀ s,St.has s (zI2 o.dst co.res W)=false→s∉KB.map (·.2):=fun s hs hm=>by
      obtain⟨q,hq,rfl⟩:=List.mem_map.1 hm;obtain⟨_,_,d,hd,_⟩:=hKBat q.1 q.2 hq;have:St.has q.2 (zI2 o.dst co.res W)=true:=List.any_eq_true.2 ⟨(q.2,.junk),hsubU _ (by rw[← hW,hd];exact List.mem_append_right _ (List.mem_append_left _ (List.mem_map.2 ⟨q,hq,rfl⟩))),Nat.beq_refl _⟩;rw[hs] at this;cases this
     refine zD7 hR hc.n hlt hdo (fun d e=>by rw[e];simp[zI2,St.has]) hext h0 (xE5 hF hR.frame) (fun s hs=>?_) (fun s d e _=>?_) (fun s hs=>?_)
     ·refine zY2 (fun T hT=>htag0 s hs T (by rw[← hL];exact List.mem_append.2 hT)) (fun V hV=>(hfresh V hV).2.2 s (hsplit s hs)) (fun s' e=>?_);injection e with e
      subst e;exact⟨hnotHB s (hsplit s hs),hnotKB s (hsplit s hs)⟩
     ·exact hh s (d,co.res.tagTo d) (List.mem_append_left _ (by rw[e];simp[zI2]))
     ·cases hsU:St.has s (zI2 o.dst co.res W) with
      |true =>
       rw[yB2 hcutU hsU];have hm:=xE hsU hcutU;cases hd:o.dst with
       |none =>
        rw[hd] at hm hsU;simp only[zI2] at hm hsU ⊢;exact hentry _ hm _
       |some d =>
        rw[hd] at hm hsU;simp only[zI2] at hm hsU ⊢;have hdn:d<a.tmps.size:=hdd d hd;by_cases e:s=d
        ·subst e;have:St.get ((s,co.res.tagTo s)::W) s=co.res.tagTo s:=by simp[St.get]
         rw[this,zD6 hdn,if_pos rfl];have hresT:∀ T,T<4→(T,T*100000+s)∈KT:=fun T hT=>by
          rw[← hKT,hd];refine List.mem_append_left _ ?_;obtain rfl|rfl|rfl|rfl:T=0∨T=1∨T=2∨T=3:=by omega
          all_goals simp[xT2]
         have hownT:∀ T,T<4→∀ (t:Ty) (l:List t.den) m v,zG3 G' w' t l T m v→zG3 (G.backH G' w.heap.size HB HT KT KB) w' t l (T*100000+s) m v:=fun T hT t l m v h=>hown T (T*100000+s) (hresT T hT) t l m v h;cases hro:zG5 co.res with
         |true=>exact zL6 (yQ7 (tm:=#[]) hprot hownT hro hres)
         |false =>
          refine zL6 (xE6 (tm:=#[]) hprot hownT (fun k k1 k2=>hβK k _ ?_) b2 hres);rw[← hKB,hd];exact wK5 k1 k2 (by rw[hro,Bool.and_false])
        ·rcases List.mem_cons.1 hm with hm|hm
         ·injection hm with hm _;exact absurd hm e
         ·rw[zD6 hdn,if_neg e];exact hentry _ hm _
      |false =>
       rw[zK8 hcutU hsU];have hsT:St.has s (zM0 bs L S S)=true:=by
        simp only[St.has,List.any_append,Bool.or_eq_true] at hs;rcases hs with hs|hs
        ·rw[St.has] at hsU;rw[hsU] at hs;cases hs
        ·exact hs
       rw[xX8 hsT hcutT];have hmem:=xE hsT hcutT;have hne:∀ d,o.dst=some d→s≠d:=by
        intro d e e2;subst e2;rw[e] at hsU;simp[zI2,St.has] at hsU
       have hval:(a.put o.dst v).tmps.getD s undef=a.tmps.getD s undef:=by
        cases hd:o.dst with
        |none=>rfl
        |some d=>rw[zD6 (hdd d hd),if_neg (hne d hd)]
       rw[hval];have hany:zP7 L (S.get s)=true:=by
        cases ht:zP7 L (S.get s) with
        |true=>rfl
        |false =>
         exfalso;have key:∀ R:St,St.has s (zM0 bs L S R)=false:=by
          intro R
          induction R with
          |nil=>rfl
          |cons e r ih =>
           obtain⟨s',A⟩:=e;simp only[zM0];cases ht':zP7 L (S.get s') with
           |false=>exact ih
           |true =>
            simp only[cond_true,St.has,List.any_cons,Bool.or_eq_false_iff];refine⟨?_,ih⟩;cases hb:Nat.beq s' s with
            |false=>rfl
            |true=>have:=Nat.eq_of_beq_eq_true hb;subst this;rw[ht] at ht';cases ht'
         rw[key S] at hsT;cases hsT
       have hasks:∀ q∈(S.get s).borAsks bs,q:=by
        by_cases hsn:s<c.n
        ·exact xF1 (bs:=bs) hany hsn hpask
        ·exact xF0 (bs:=bs) hany hsn (zO0 (yZ4 hany)) hpvirt
       have hbx:∀ s',some s=some s'→(∀ o,G.χ (G.β s') o=zD8 s')→G.β s'<w.heap.size→w'.heap[G.β s']?=w.heap[G.β s']?∧∀ o,(G.backO G' w.heap.size HB HT KT KB).χ (G.β s') o=zD8 s':=by
        intro s' e hcol hlt';injection e with e
        subst e;have:=hextO.block (G.β s) hlt' (fun o' hX=>by
         rw[hcol o'] at hX;rcases hX with ⟨y,hy⟩ | ⟨U,_,e⟩
         ·obtain⟨i,_,hm⟩:=cols_box.1 hy;exact hnotHB s hsU (List.mem_map.2 ⟨_,hm,rfl⟩)
         ·exact zA2 _ _ e)
        exact⟨this.1,fun o=>by rw[this.2 o];exact hcol o⟩
       have hTO:=xO4 hturn hasks hbx (hR.reps s);have hTB:zA (G.backH G' w.heap.size HB HT KT KB) w' a.tmps (some s) ((S.get s).turnH bs L) (a.tmps.getD s undef):=by
        refine zV xN9 ?_ a.tmps (zY2 (fun T hT=>by simp at hT) (fun V hV=>xX6 ((hfresh V hV).2.2 s hsU)) (fun s' e=>?_)) hTO
        ·rintro (⟨y,hy⟩ | ⟨U,hU,_⟩ | ⟨V,_,e⟩)
         ·simp[zT3] at hy
         ·simp at hU
         ·exact zC8 _ e
        ·injection e with e
         subst e;exact⟨by simp,hnotKB s hsU⟩
       refine zK4 (tm:=a.tmps) (fun k hk=>?_) hTB;cases hd:o.dst with
       |none=>rfl
       |some d =>
        rw[zD6 (hdd d hd),if_neg];intro e;subst e;have:=xO5 (bs:=bs) (L:=L) (hh s (k,co.res.tagTo k) (List.mem_append_left _ (by rw[hd];simp[zI2])));rw[this] at hk;cases hk
end Go.Am
namespace Go.Am
open Go Go.RowKit
variable {rd:Option Nat}{gtab:GlobTab}{P:Program}{c:Ctx}{G:Gh}{w:World}{tm:Array Value}{n:Nat}{χ0:Nat→Nat→Nat}{w0:World}{S:St}{a:Act}
def Gh.frozen (w:World):Gh:=⟨fun b _=>if b<w.heap.size then 0 else 2,fun _=>0,fun _=>0⟩
theorem zF1 {b o:Nat}(h:b<w.heap.size):(Gh.frozen w).χ b o=0:=by grind [Gh.frozen]
theorem zO1:∀ b o,b<w.heap.size→G.χ b o=0→(Gh.frozen w).χ b o=0∧w.cell? ⟨b,o,none⟩=w.cell? ⟨b,o,none⟩:=fun _ _ h _=>⟨zF1 h,rfl⟩
theorem yZ6 {t:Ty}(ht:t.isL=false){l:List t.den}{T:Nat}{m:Bool}{v:Value}(h:zG3 G w t l T m v):zB6 (Gh.frozen w).χ w (.sl t) l [v]:=by
 simp only[zB6];rcases (zB1 h ht).2 with ⟨rfl,rfl⟩ | ⟨cap,cur,e,us,rfl,h2,h3,h4,h5,h6,h7,h8⟩
 ·grind
 ·refine⟨_,cap,rfl,?_⟩;refine .inr ⟨G.γ T,0,us,rfl,h3,zB8 (fun _ _ hc=>zA5 (χ:=G.χ) zO1 hc) h6,fun j u hu=>?_⟩
  grind [zF1,zE0,World.cell?]
theorem yZ7:∀ {A:AVal}{τ:Ty}{vs:List Value},zA8 G w τ A vs→(A.lent).laxT τ=true→zA8 (Gh.frozen w) w τ A.lent vs:=by
 intro A
 induction A with
 |val τ' x=>intro τ vs h _;simp[AVal.lent,AVal.mapOwn,zA8] at h ⊢;grind [zA5,zO1]
 |nil=>simp_all [AVal.lent,AVal.mapOwn,zA8]
 |own t l T m =>
  intro τ vs h hf;simp[AVal.lent,AVal.mapOwn] at h hf ⊢;obtain⟨rfl,v,rfl,ho⟩:=h;cases ht:t.isL with
  |true=>exact⟨rfl,v,rfl,yB0 ho⟩
  |false=>simp only[cond_false,zA8];exact⟨trivial,rfl,yZ6 ht ho⟩
 |agg f b ih =>
  have e:(AVal.agg f b).lent=bif b.lent.laxT f then .agg f b.lent else .junk:=rfl
  grind [AVal.laxT,Ty.isSl,zA8]
 |nl=>simp_all [AVal.lent,AVal.mapOwn,zA8]
 |junk=>simp_all [AVal.lent,AVal.mapOwn,zA8]
 |cons x y ihx ihy =>
  intro τ vs h hf;obtain⟨h1,t1,us,ws,rfl,rfl,h2,h3⟩:=h;have e:(AVal.cons x y).lent=.cons x.lent y.lent:=rfl;rw[e] at hf ⊢;simp[AVal.laxT,zF5] at hf;exact⟨_,_,us,ws,rfl,rfl,ihx h2 hf.1,ihy h3 hf.2⟩
 |_=>grind [zA8]
theorem wG9 (Y k:AVal):yC4 (zX2 Y k)=false:=by
 unfold zX2
 repeat' (first|rfl|split | (simp only[Bool.cond_eq_ite];split))
theorem xX9 {Y k:AVal}{i:Nat}{v kv:Value}(hY:zA G w tm none Y v)(hk:∀ s,zE2 Y=some s→zA G w tm (some s) k kv):zA (Gh.frozen w) w #[] (some i) (zX2 Y k) v:=by
 have hp:∀ b o,b<w.heap.size→G.χ b o=0→(Gh.frozen w).χ b o=0∧w.cell? ⟨b,o,none⟩=w.cell? ⟨b,o,none⟩:=zO1;cases Y with
 |val τ x=>grind [zX2,zA,zD]
 |nil=>grind [zX2,zA]
 |own t l T m =>
  grind [zX2,zA,zP2,yZ6]
 |ownh t l T j U m =>
  simp only[zX2];cases hTU:(Nat.beq T U&&!m) with
  |false=>simp[zA]
  |true =>
   obtain⟨hvt,⟨_,⟨_,x,ad,cap,rfl,rfl,h3⟩ | ⟨hm,_⟩⟩ | ⟨hne,_⟩⟩:=hY
   rotate_left
   ·grind
   rotate_right
   ·refine zP2 ?_;refine⟨ad,cap,rfl,?_⟩;rcases h3 with rfl|⟨o,us,cur,e,rfl,g2,g3,g4,g5,g6⟩
    ·grind
    ·exact .inr ⟨G.γ T,o,us,rfl,g2,zB8 (fun _ _ hc=>zA5 (χ:=G.χ) zO1 hc) g4,fun j u hu=>⟨by grind [World.cell?],zF1 (zE0 g3)⟩⟩
   simp_all
 |agg f d =>
  simp only[zX2];split
  ·rename_i x hx;have hfit:=zT7 hx;simp[AVal.fitsT] at hfit;exact zK5 (G:=Gh.frozen w) (tm:=#[]) hx rfl (by grind [zA,yZ7,zR2])
  grind [zA]
 |fn f cs =>
  grind [zX2,zA,yL8]
 |ref s τ p =>
  cases p with
  |nil =>
   cases k with
   |box τ' k =>
    simp only[zX2];cases hb:Ty.beq τ' τ with
    |false=>simp[zA]
    |true =>
     have e:=Ty.eq_of_beq hb;subst e;split
     ·rename_i x hx;obtain⟨hvt,cur,e,g1,g2,g3⟩:=zG8 (hk s rfl);simp only[zA] at hY;have hv:v=.pointer (some ⟨G.β s,0,none⟩):=by grind [Ty.poff]
      rw[hv];have hc:=zN5 (G:=Gh.frozen w) hx (yZ7 g2 (zR2 (zT7 hx)));exact zV1 hc (fun j u hu=>⟨by grind [World.cell?],zF1 (zE0 g1)⟩)
     grind [zA]
   |_=>grind [zX2,zA]
  |cons _ _=>simp[zX2,zA]
 |nilp=>simpa only[zX2,zA] using hY
 |_=>simp[zX2,zA]
theorem zV9 {χ χ':Nat→Nat→Nat}{w w':World}:∀ {τ:Ty}{x:τ.den}{vs:List Value},τ.noMem=true→zB6 χ w τ x vs→zB6 χ' w' τ x vs:=by
 intro τ
 induction τ with
 |int k=>intro x vs _ hc;exact hc
 |bool=>intro x vs _ hc;exact hc
 |str=>intro x vs _ hc;exact hc
 |nl=>intro x vs _ hc;exact hc
 |cons a b ha hb=>intro x vs hn hc;simp[Ty.noMem] at hn;obtain⟨us,ws,rfl,h1,h2⟩:=hc;exact⟨us,ws,rfl,ha hn.1 h1,hb hn.2 h2⟩
 |st f hf=>intro x vs hn hc;exact hf hn hc
 |arr n t ht=>intro x vs hn hc;exact⟨hc.1,zB8 (fun _ _ h=>ht hn h) hc.2⟩
 |sl t ht=>grind [Ty.noMem]
 |ptr t ht=>grind [Ty.noMem]
def Gh.unlend (G G':Gh)(b0:Nat):Gh:={ G' with χ:=fun b o=>if b<b0 then (G.callee []).χ b o else G'.χ b o }
theorem xP {χ χ':Nat→Nat→Nat}{w w':World}{k v:Ty}(hk:k.noMem=true)(hv:v.noMem=true):∀ {l:List (k.den×v.den×Unit)}{es:List MapEntry},xL5 χ w k v l es→xL5 χ' w' k v l es:=by
 intro l
 induction l with
 |nil=>intro es h;exact h
 |cons x l ih=>rintro es ⟨e,r,rfl,⟨a1,a2,a3⟩,⟨b1,b2,b3⟩,h3⟩;exact⟨e,r,rfl,⟨a1,zV9 hk a2,a3⟩,⟨b1,zV9 hv b2,b3⟩,ih h3⟩
theorem wH {G':Gh}{w':World}(hF:Frame0 (Gh.frozen w).χ w G'.χ w'):∀ {A:AVal}{v:Value},A.scal=true→zA G' w' #[] none A v→zA (G.unlend G' w.heap.size) w' #[] none A v:=by
 intro A
 induction A with
 |val τ x=>intro v hs h;obtain⟨vs,h1,h2⟩:=h;exact⟨vs,zV9 hs h1,h2⟩
 |nil=>grind [zA]
 |own t l T m =>
  intro v hs h;simp only[AVal.scal] at hs;rcases h with h|⟨hmm,hM⟩
  rotate_left
  ·refine .inr ⟨hmm,?_⟩;obtain⟨k,e,l',ht,hl,es,clock,h1,h2,h3,h4⟩:=hM;have hnew:¬ G'.γ T<w.heap.size:=by
    intro hb;have h9:=(hF.cell _ 0 hb (by grind [zF1])).1
    grind [zF1,zA7]
   subst ht;simp only[Ty.noMem,Bool.and_eq_true] at hs;refine⟨k,e,l',rfl,hl,es,clock,h1,h2,xP hs.1 hs.2.1 h3,fun o=>?_⟩;simp_all [Gh.unlend,if_neg]
  refine .inl ⟨h.1,?_⟩;rcases h.2 with h|⟨cap,cur,e,us,h1,h2,h3,h4,h5,h6,h7,h8⟩
  ·grind
  ·have hnew:¬ G'.γ T<w.heap.size:=by
    intro hb;have h9:=(hF.cell _ (l.length*t.size) hb (by grind [zF1])).1;rw[zF1 hb,h8,if_neg (by omega)] at h9
    grind [zA7]
   refine .inr ⟨cap,cur,e,us,h1,h2,h3,h4,h5,zB8 (fun _ _ hc=>zV9 hs hc) h6,h7,fun o=>?_⟩;simp_all [Gh.unlend,if_neg]
 |tup b ih=>grind [AVal.scal,zA]
 |nl=>grind [zA]
 |cons x y ihx ihy=>grind [AVal.scal,zA]
 |_=>grind [AVal.scal]
theorem xF2 {G':Gh}{w':World}(hF:Frame0 (Gh.frozen w).χ w G'.χ w'):Back G w [] (G.unlend G' w.heap.size) w':=by
 refine⟨⟨hF.os,hF.tape,hF.output,hF.size,fun b hb _=>hF.block b hb (fun o=>by grind [zF1]),fun b o hb _=>⟨by simp_all [Gh.unlend],(hF.cell b o hb (by grind [zF1])).2⟩⟩,fun b hb=>?_⟩
 grind [zR8,zH1]
theorem zY3 (hc:CtxOk P c)(hR:Rel c.n χ0 w0 S a w G){o:Oper}{fo:Operand}{args:Array Operand}{ats:Array TypeId}{f:Nat}{cs:AVal}{r:List AVal}{p:List Prop}{u:St}{hv:Bool}
  (ho:o.op=.call { callee:=.value fo,args,argTypes:=ats }) (hf:zA G w a.tmps none (.fn f cs) (a.eval fo)) (hr:zH8 (zA G w a.tmps none) r (args.toList.map a.eval)) (hcs:zH9 cs=true)
  (h:yG9 c o.dst f (r++cs.toL) ((r++cs.toL).map (zB S)) S=some (p,u,hv))
  (hlt:∀ e∈u,e.1<zA4) (hdo:∀ d,o.dst=some d→d<c.n) (hh:∀ s,∀ e∈u,(S.get s).hung e.1=false) (hp:∀ q∈p,q)
  {next:Act→World→Prop}{Q:Exit→Act→World→Prop}(hnext:∀ v w' G',Rel c.n χ0 w0 (u++S) (a.put o.dst v) w' G'→next (a.put o.dst v) w'):o.wpIn (fz rd) 0 P a w next Q:=by
 simp only[zA] at hf;obtain⟨vs,hfv,hcv⟩:=hf;have hcl:=yD6 (vs:=vs.toList) hcs (by simpa using hcv);have hys:=zL hr hcl;generalize hysd:r++cs.toL=ys at h hys;unfold yG9 at h;split at h
 ·cases h
 ·rename_i co hco;split at h
  ·rename_i d houts hd;obtain⟨sp,hmem,hsp⟩:=zR9 hco;have hok:=hc.fns f sp hmem;obtain⟨fn,h1,h2,h3⟩:=hok.1;have hrun:(execOp a.eval o).run P w=.ok (.enter f (args.toList.map a.eval++vs.toList).toArray) w:=by
    have harr:(args.toList.map a.eval++vs.toList).toArray=args.map a.eval++vs:=by apply Array.toList_inj.1;simp
    rw[harr];unfold execOp;have hbn:fn.body.isNone=false:=by cases hb:fn.body<;>simp_all
    simp[ho,resolve,hfv,Deferred.ofValue,invoke,callFunc,h1,h3];intro hb;simp[hb] at hbn
   generalize hvals:args.toList.map a.eval++vs.toList=vals at hys hrun;generalize hbb:(_&&zC0 (300000+d) S)=bb at h;cases bb with
   |false=>cases h
   |true =>
    simp only[Bool.and_eq_true] at hbb;obtain⟨⟨⟨⟨⟨⟨_,b1⟩,b2⟩,b3⟩,b4⟩,b5⟩,b6⟩:=hbb;simp only[cond_true,Option.some.injEq,Prod.mk.injEq] at h;obtain⟨rfl,rfl,_⟩:=h;refine zO8 hrun ((hok.2 _ co hsp hp (Gh.frozen w) w vals (by simp[zE6 hys]) (zI5 (χ:=G.χ) zO1 hR.glob) (fun i A v hA hv=>?_)).mono ?_)
    ·obtain⟨Y,k,hY,hk,rfl⟩:=yF6 hA;have hk':k=zB S Y:=by simp[hY] at hk;exact hk.symm
     subst hk';refine yL7 (wG9 Y _) ?_;exact xX9 (kv:=match zE2 Y with|some s=>a.tmps.getD s undef|none=>undef) (zL5 hys hY hv) (fun s hs=>by rw[hs];exact zH0 hR hs)
    ·rintro e w' ⟨v,G',rfl,hF,hres,_⟩;refine⟨v,rfl,hnext v w' (G.back (G.unlend G' w.heap.size) w.heap.size (some d)) ?_⟩;rw[hd];refine yU (dst:=some d) (res:=co.res) (ys:=[]) (u:=[]) hR hc.n (xF2 hF) (wH hF b2 hres) b1 (fun b hb=>by simp[zR8,zH1] at hb) (fun e he=>by cases he) hlt (fun d' e=>by injection e with e;subst e;exact hdo _ hd)
      (fun s d' e=>by injection e with e;subst e;exact hh s _ (List.mem_cons_self ..)) (fun d' e s j hj=>?_)
     injection e with e;subst e
     obtain rfl|rfl|rfl|rfl:j=0∨j=1∨j=2∨j=3:=by omega
     ·simpa using zG1 b3 s
     ·simpa using zG1 b4 s
     ·simpa using zG1 b5 s
     ·simpa using zG1 b6 s
  ·cases h
theorem yZ8 (hc:CtxOk P c)(hR:Rel c.n χ0 w0 S a w G){o:Oper}{fo:Operand}{args:Array Operand}{ats:Array TypeId}{f:Nat}{cs:AVal}{r:List AVal}{p:List Prop}{u:St}{hv:Bool}
  (ho:o.op=.call { callee:=.value fo,args,argTypes:=ats }) (hf:zA G w a.tmps none (.fn f cs) (a.eval fo)) (hr:zH8 (zA G w a.tmps none) r (args.toList.map a.eval)) (hcs:zH9 cs=true)
  (h:yP2 c o.dst f (r++cs.toL) S=some (p,u,hv))
  (hlt:∀ e∈u,e.1<zA4) (hdo:∀ d,o.dst=some d→d<c.n) (hh:∀ s,∀ e∈u,(S.get s).hung e.1=false) (hp:∀ q∈p,q)
  {next:Act→World→Prop}{Q:Exit→Act→World→Prop}(hnext:∀ v w' G',Rel c.n χ0 w0 (u++S) (a.put o.dst v) w' G'→next (a.put o.dst v) w'):o.wpIn (fz rd) 0 P a w next Q:=by
 simp only[zA] at hf;obtain⟨vs,hfv,hcv⟩:=hf;have hcl:=yD6 (vs:=vs.toList) hcs (by simpa using hcv);have hys:=zL hr hcl;generalize hysd:r++cs.toL=ys at h hys;unfold yP2 at h;split at h
 ·rename_i t x T i U d hd;generalize hbb:(_&&zC0 d S)=bb at h;cases bb with
  |false=>cases h
  |true =>
   simp only[Bool.and_eq_true,List.any_eq_true] at hbb;obtain⟨⟨b1,⟨f',k'⟩,hm,b2⟩,b3⟩:=hbb;simp only at b2;have e:=Nat.eq_of_beq_eq_true b1;subst e;have e:=Nat.eq_of_beq_eq_true b2.1;subst e;have e:=Nat.eq_of_beq_eq_true b2.2;subst e;simp only[cond_true,Option.some.injEq,Prod.mk.injEq] at h;obtain⟨rfl,rfl,_⟩:=h;obtain⟨q1,q2⟩:=hp _ (List.mem_singleton.2 rfl);obtain⟨hok1,hok⟩:=hc.clones f' t.size hm;obtain⟨fn,h1,h2,h3⟩:=hok1;have hrun:(execOp a.eval o).run P w=.ok (.enter f' (args.toList.map a.eval++vs.toList).toArray) w:=by
    have harr:(args.toList.map a.eval++vs.toList).toArray=args.map a.eval++vs:=by apply Array.toList_inj.1;simp
    rw[harr];unfold execOp;have hbn:fn.body.isNone=false:=by cases hb:fn.body<;>simp_all
    simp[ho,resolve,hfv,Deferred.ofValue,invoke,callFunc,h1,h3];intro hb;simp[hb] at hbn
   generalize hvals:args.toList.map a.eval++vs.toList=vals at hys hrun;obtain⟨v,rfl⟩:∃ v,vals=[v]:=by
    have:=zE6 hys
    match vals,this with
    |[v],_=>exact⟨v,rfl⟩
   have hA:=zL5 hys (i:=0) rfl rfl;simp only[zA] at hA;obtain⟨hvt,⟨_,⟨_,y,ad,cap,hy,rfl,h4⟩ | ⟨hm,_⟩⟩ | ⟨hne,_⟩⟩:=hA
   rotate_left
   ·cases hm
   rotate_right
   ·simp only[List.cons.injEq,and_true] at hy;subst hy;rcases h4 with rfl|⟨o',us,cur,e,rfl,g2,g3,g4,g5,g6⟩
    ·simp at q1
    ·have hul:=zD1 (k:=t.size) (fun _ _ h=>zA1 h) g4;refine zO8 hrun ((hok (G.γ T) o' _ cap cur e us w q1 (by omega) g2 hul (yT3 (fun _ _ h=>yI3 h) g4) g3 g5).mono ?_);rintro e' w' ⟨B,cap',cells,ty,rfl,z1,z2,z3,z4,z5,z6⟩;obtain⟨hx,hfr,hown⟩:=wM4 (d:=d) hR.frame hvt g4 z2 z1 z3 z4 z5 z6;refine⟨_,rfl,hnext _ w' (G.reown B d 0 true) ?_⟩;rw[hd];have htd:∀ R:St,zB7 d (AVal.lose d) S R=[]:=by
      intro R
      induction R with
      |nil=>rfl
      |cons e r ih=>obtain⟨s,A⟩:=e;simp only[zB7,zG1 b3 s,cond_false,ih]
     have:=zV7 (d:=d) (U:=d) (R:=.own t x d true) hR hc.n b3 hx hfr (fun tm=>by simp only[zA];exact hown) (by rw[htd];exact hlt) (hdo _ hd) (fun s=>hh s _ (List.mem_singleton.2 rfl));rw[htd] at this;exact this
   ·exact absurd rfl hne
 ·cases h
theorem yZ9 {s U:Nat}:∀ {A:AVal}{os:Option Nat},A.hasTag U=false→(∀ q,os=some q→q≠s)→¬ A.names (fun x=>x=zD8 s∨x=zA9 U) (fun x=>x=zA9 U) os:=by
 intro A;have karr:∀ T,Nat.beq U T=false→¬ (zA9 T=zD8 s∨zA9 T=zA9 U):=fun T h=>by
  rintro (e|e)
  ·exact zA2 _ _ e.symm
  ·have:=zA3 e;subst this;simp at h
 have kbox:∀ q,q≠s→¬ (zD8 q=zD8 s∨zD8 q=zA9 U):=fun q h=>by
  rintro (e|e)
  ·exact h (zC7 e)
  ·exact zA2 _ _ e
 induction A with
 |own t l T m=>intro os h _;exact karr T h
 |eref q T t i p=>intro os h _ e;exact karr T h (.inr e)
 |ref q τ p=>intro os _ _ e;exact zA2 _ _ e
 |pn b q τ=>intro os _ _ e;exact zA2 _ _ e
 |rref q=>intro os _ _ e;exact zA2 _ _ e
 |opt _ _ _ A ih=>intro os h _;exact ih h (fun q e=>by cases e)
 |box τ b ih =>
  intro os h hs;cases os with
  |none=>exact ih h (fun q e=>by cases e)
  |some q=>simp only[AVal.names,not_or];exact⟨by simpa only[not_or] using kbox q (hs q rfl),ih h (fun q e=>by cases e)⟩
 |may m τ b ih =>
  intro os h hs;cases os with
  |none=>exact ih h (fun q e=>by cases e)
  |some q=>simp only[AVal.names,not_or];exact⟨by simpa only[not_or] using kbox q (hs q rfl),ih h (fun q e=>by cases e)⟩
 |cons x y ihx ihy =>
  intro os h _;simp only[AVal.hasTag,Bool.or_eq_false_iff] at h;simp only[AVal.names,not_or];exact⟨ihx h.1 (fun q e=>by cases e),ihy h.2 (fun q e=>by cases e)⟩
 |agg f b ih=>intro os h _;exact ih h (fun q e=>by cases e)
 |tup b ih=>intro os h _;exact ih h (fun q e=>by cases e)
 |fn f b ih=>intro os h _;exact ih h (fun q e=>by cases e)
 |raw =>
  intro os _ hs;cases os with
  |none=>exact fun h=>h
  |some q=>exact kbox q (hs q rfl)
 |ownh t l T i V m =>
  intro os h _;simp only[AVal.hasTag,Bool.or_eq_false_iff] at h;rintro (e|e)
  ·exact karr T h.1 e
  ·exact karr V h.2 e
 |ptrs one l=>intro os _ _;rintro⟨k,τ,p,_,e⟩;exact zA2 _ _ e
 |fptr f caps=>intro os _ _;rintro⟨k,τ,_,e⟩;exact zA2 _ _ e
 |bld T e V l =>
  intro os h hs;cases os with
  |none=>exact karr V h
  |some q =>
   rintro (e|e)
   ·exact kbox q (hs q rfl) e
   ·exact karr V h e
 |_=>intro os _ _;exact fun h=>h
def Gh.bldTo (G:Gh)(b0 U g:Nat):Gh:={ χ:=fun k o=>if b0≤k then zA9 U else G.χ k o,β:=G.β,γ:=fun T=>if T=U then g else G.γ T }
theorem xY {s U:Nat}{v:Value}{w':World}{g:Nat}(hfr:Frame0 χ0 w0 G.χ w)(hv:∀ g,zX6 v=some g→g=G.γ U∧∀ o,G.χ g o=zA9 U)(hc:∀ o,G.χ (G.β s) o=zD8 s)
  (hw:w'.os=w.os∧w'.tape=w.tape∧w'.output=w.output∧w.heap.size≤w'.heap.size) (hk:∀ k,k<w.heap.size→k≠G.β s→zX6 v≠some k→w'.heap[k]?=w.heap[k]?) :
  Ext (fun x=>x=zD8 s∨x=zA9 U) (fun x=>x=zA9 U) G w (G.bldTo w.heap.size U g) w'∧Frame0 χ0 w0 (G.bldTo w.heap.size U g).χ w':=by
 have hold:∀ k o,k<w.heap.size→G.χ k o≠zD8 s→G.χ k o≠zA9 U→w'.heap[k]?=w.heap[k]?:=fun k o h h1 h2 =>
  hk k h (fun e=>h1 (by rw[e];exact hc o)) (fun e=>h2 ((hv k e).2 o))
 have hχ:∀ k o,k<w.heap.size→(G.bldTo w.heap.size U g).χ k o=G.χ k o:=fun k o h=>by simp only[Gh.bldTo];rw[if_neg (by omega)]
 refine⟨⟨fun b o hb h0=>⟨by rw[hχ b o hb];exact h0,?_⟩,fun b hb hX=>⟨hold b 0 hb (fun e=>hX 0 (.inl e)) (fun e=>hX 0 (.inr e)),fun o=>hχ b o hb⟩,hw.2.2.2,fun _ _=>rfl,fun T hT=>?_,fun _ h=>.inr h⟩,?_⟩
 ·simp only[World.cell?];rw[hold b o hb (by rw[h0];exact fun e=>zC8 _ e) (by rw[h0];exact fun e=>zA7 _ e)]
 ·simp only[Gh.bldTo];rw[if_neg (fun e=>hT (by rw[e]))]
 ·refine⟨hw.1.trans hfr.os,hw.2.1.trans hfr.tape,hw.2.2.1.trans hfr.output,Nat.le_trans hfr.size hw.2.2.2,fun b hb h=>?_,fun b o hb h=>?_⟩
  ·have hlt:=Nat.lt_of_lt_of_le hb hfr.size;have h1:=(hfr.cell b 0 hb (h 0)).1;have h2:=h 0;rw[hold b 0 hlt (by rw[h1];have:=zL8 s;omega) (by rw[h1];have:=zK9 U;omega)];exact hfr.block b hb h
  ·have hlt:=Nat.lt_of_lt_of_le hb hfr.size;have h1:=hfr.cell b o hb h;refine⟨by rw[hχ b o hlt];exact h1.1,?_⟩;rw[← h1.2];simp only[World.cell?];rw[hold b o hlt (by rw[h1.1];have:=zL8 s;omega) (by rw[h1.1];have:=zK9 U;omega)]
theorem yU2 {l x:List UInt8}:zX0 (l++x)=zX0 l++zX0 x:=by simp[zX0]
theorem yU3 {l:List UInt8}:(zX0 l).length=l.length:=by simp[zX0]
theorem xK4 {T e:Nat}{g:Nat×Nat→Bool}(h:xT3 c T e g=true):∃ fW fS,(T,e,fW,fS)∈c.blds∧g (fW,fS)=true:=by
 obtain⟨⟨T',e',fW,fS⟩,hm,hq⟩:=List.any_eq_true.1 h;simp only[Bool.and_eq_true] at hq;have e1:=Nat.eq_of_beq_eq_true hq.1;have e2:=Nat.eq_of_beq_eq_true hq.2.1;subst e1;subst e2;exact⟨fW,fS,hm,hq.2.2⟩
theorem yR {U s:Nat}(h:yJ4 U s S=true){q:Nat}(hq:q≠s):(S.get q).hasTag U=false:=by
 cases ht:(S.get q).hasTag U with
 |false=>rfl
 |true =>
  obtain⟨e,he,hes⟩:=List.any_eq_true.1 (zO0 (zQ3 ht));have hes:=Nat.eq_of_beq_eq_true hes;have:=List.all_eq_true.1 h e he;rw[hes,ht] at this;simp only[Bool.not_true,Bool.or_false] at this;exact absurd (Nat.eq_of_beq_eq_true this) hq
theorem xF3 (hc:CtxOk P c)(hR:Rel c.n χ0 w0 S a w G){o:Oper}{fo:Operand}{args:Array Operand}{ats:Array TypeId}{f:Nat}{cs:AVal}{r:List AVal}{p:List Prop}{u:St}{hv:Bool}
  (ho:o.op=.call { callee:=.value fo,args,argTypes:=ats }) (hf:zA G w a.tmps none (.fn f cs) (a.eval fo)) (hr:zH8 (zA G w a.tmps none) r (args.toList.map a.eval)) (hcs:zH9 cs=true)
  (h:wE3 c o.dst f (r++cs.toL) S=some (p,u,hv))
  (hlt:∀ e∈u,e.1<zA4) (hdo:∀ d,o.dst=some d→d<c.n) (hh:∀ s,∀ e∈u,(S.get s).hung e.1=false) (hp:∀ q∈p,q)
  {next:Act→World→Prop}{Q:Exit→Act→World→Prop}(hnext:∀ v w' G',Rel c.n χ0 w0 (u++S) (a.put o.dst v) w' G'→next (a.put o.dst v) w'):o.wpIn (fz rd) 0 P a w next Q:=by
 simp only[zA] at hf;obtain⟨vs,hfv,hcv⟩:=hf;have hcl:=yD6 (vs:=vs.toList) hcs (by simpa using hcv);have hys:=zL hr hcl;generalize hysd:r++cs.toL=ys at h hys;have hrun:(∃ fn,P.funcs[f]?=some fn∧fn.body.isSome=true∧fn.name≠"runtime.NumGoroutine")→(execOp a.eval o).run P w=.ok (.enter f (args.toList.map a.eval++vs.toList).toArray) w:=by
  rintro⟨fn,h1,h2,h3⟩;have harr:(args.toList.map a.eval++vs.toList).toArray=args.map a.eval++vs:=by apply Array.toList_inj.1;simp
  rw[harr];unfold execOp;have hbn:fn.body.isNone=false:=by cases hb:fn.body<;>simp_all
  simp[ho,resolve,hfv,Deferred.ofValue,invoke,callFunc,h1,h3];intro hb;simp[hb] at hbn
 generalize hvals:args.toList.map a.eval++vs.toList=vals at hys hrun;unfold wE3 at h;split at h
 ·-- WriteString
  rename_i s τ x;have hs:=hR.reps s;unfold wS3 at h;split at h
  ·rename_i T e U l hS;generalize hbb:(xT3 c T e _&&yJ4 U s S&&_)=bb at h;cases bb with
   |false=>cases h
   |true =>
    simp only[Bool.and_eq_true] at hbb;obtain⟨⟨b1,b2⟩,b3⟩:=hbb;obtain⟨fW,fS,hm,hfW⟩:=xK4 b1;have hfW:=Nat.eq_of_beq_eq_true hfW;simp only at hfW;subst hfW;simp only[cond_true,Option.some.injEq,Prod.mk.injEq] at h;obtain⟨rfl,hu,_⟩:=h;have hlen:=hp _ (List.mem_singleton.2 rfl);have hB:=hc.blds _ _ _ _ hm;obtain⟨v1,v2,rfl⟩:∃ v1 v2,vals=[v1,v2]:=by
     have:=zE6 hys
     match vals,this with
     |[v1,v2],_=>exact⟨v1,v2,rfl⟩
    have hA:=zL5 hys (i:=0) rfl rfl;have hX:=zL5 hys (i:=1) rfl rfl;simp only[zA] at hA;have hX:=VRep_str.1 hX;obtain⟨_,rfl⟩:=hA;subst hX;rw[hS] at hs;obtain⟨hpt,p0,v0,k1,k2,k3,k4,k5⟩:=hs;have hne:zX6 v0≠some (G.β s):=fun e=>by have:=(k4 _ e).2 0;rw[k5 0] at this;exact zA2 _ _ this
    have hpz:τ.poff []=0:=by cases τ<;>rfl
    rw[hpz] at hrun;refine zO8 (hrun hB.fnW) ((hB.write (G.β s) p0 v0 (zX0 l) x w k1 k2 k3 hne (by rw[yU3];omega)).mono ?_);rintro e' w' ⟨rv,v',rfl,z1,z2,z3,z4,z5⟩;obtain⟨hx,hfr⟩:=xY (g:=(zX6 v').getD 0) hR.frame k4 k5 z3 z4;refine⟨rv,rfl,hnext rv w' (G.bldTo w.heap.size U ((zX6 v').getD 0)) ?_⟩;have hnew:∀ tm q,(s<vNo→q=.pointer (some ⟨G.β s,0,none⟩))→zA (G.bldTo w.heap.size U ((zX6 v').getD 0)) w' tm (some s) (.bld T e U (l++x)) q:=by
     intro tm q hq;refine⟨hq,.pointer (some ⟨G.β s,0,none⟩),v',z1,.inr rfl,by rw[yU2];exact z2,fun g hg=>⟨by simp[Gh.bldTo,hg],fun o=>?_⟩,fun o=>?_⟩
     ·simp only[Gh.bldTo];split
      ·rfl
      ·exact (k4 g ((z5 g hg).resolve_right (by omega))).2 o
     ·simp only[Gh.bldTo];rw[if_neg (by have:=zE0 k1;omega)];exact k5 o
    have hus:∀ q,St.has q u=true→(∃ d,o.dst=some d∧q=d∧q≠s∧u.get q=.junk)∨(q=s∧u.get q=.bld T e U (l++x)∧∀ d,o.dst=some d→d≠s):=by
     intro q hq;rw[← hu] at hq ⊢;cases hd:o.dst with
     |none =>
      rw[hd] at hq;simp only[St.has,List.any_cons,List.any_nil,Bool.or_false] at hq;have:=Nat.eq_of_beq_eq_true hq;subst this;exact .inr ⟨rfl,by simp[St.get],fun d e=>by cases e⟩
     |some d =>
      rw[hd] at hq b3;have hds:d≠s:=fun e=>by subst e;simp at b3
      simp only[St.has,List.any_cons,List.any_nil,Bool.or_false,Bool.or_eq_true] at hq;rcases hq with hq|hq
      ·have:=Nat.eq_of_beq_eq_true hq;subst this;exact .inl ⟨d,rfl,rfl,hds,by simp[St.get]⟩
      ·have:=Nat.eq_of_beq_eq_true hq;subst this;have h1:Nat.beq d s=false:=by simpa using b3
       have h2:Nat.beq d zA4=false:=by
        cases hb:Nat.beq d zA4 with
        |false=>rfl
        |true=>exact absurd (Nat.lt_of_lt_of_le (hdo d hd) hc.n) (by rw[Nat.eq_of_beq_eq_true hb];decide)
       exact .inr ⟨rfl,by simp[St.get,h1,h2],fun d' e=>by injection e with e;subst e;exact hds⟩
    have hsu:St.has s u=true:=by rw[← hu];cases o.dst<;>simp[St.has]
    refine zD7 hR hc.n hlt hdo (fun d hd=>by rw[← hu,hd];simp[St.has]) hx (by rintro (e|e);exact zC8 _ e;exact zA7 _ e) hfr (fun q hq=>?_) (fun q d hd _=>?_) (fun q hq=>?_)
    ·have hqs:q≠s:=fun e=>by rw[e,hsu] at hq;cases hq
     exact yZ9 (yR b2 hqs) (fun q' e=>by injection e with e;subst e;exact hqs)
    ·refine hh q (d,.junk) ?_;rw[← hu,hd];exact List.mem_cons_self ..
    ·rcases hus q hq with ⟨d,_,_,_,e⟩ | ⟨rfl,e,hds⟩
     ·rw[e];simp only[zA]
     ·rw[e];refine hnew _ _ (fun hv=>?_);have:(a.put o.dst rv).tmps.getD q undef=a.tmps.getD q undef:=by
       cases hd:o.dst with
       |none=>rfl
       |some d=>rw[zD6 (by rw[hR.len];exact hdo d hd),if_neg (fun e=>hds d hd e.symm)]
      rw[this];exact hpt hv
  ·cases h
 ·-- String
  rename_i s τ;have hs:=hR.reps s;unfold wS4 at h;split at h
  ·rename_i T e U l hS;split at h
   ·rename_i d hd;generalize hbb:(xT3 c T e _&&yJ4 U s S&&_)=bb at h;cases bb with
    |false=>cases h
    |true =>
     simp only[Bool.and_eq_true] at hbb;obtain⟨⟨b1,b2⟩,b3⟩:=hbb;obtain⟨fW,fS,hm,hfS⟩:=xK4 b1;have hfS:=Nat.eq_of_beq_eq_true hfS;simp only at hfS;subst hfS;simp only[cond_true,Option.some.injEq,Prod.mk.injEq] at h;obtain⟨rfl,rfl,_⟩:=h;have hB:=hc.blds _ _ _ _ hm;obtain⟨v1,rfl⟩:∃ v1,vals=[v1]:=by
      have:=zE6 hys
      match vals,this with
      |[v1],_=>exact⟨v1,rfl⟩
     have hA:=zL5 hys (i:=0) rfl rfl;simp only[zA] at hA;obtain⟨_,rfl⟩:=hA;rw[hS] at hs;obtain⟨hpt,p0,v0,k1,k2,k3,k4,k5⟩:=hs;have hne:zX6 v0≠some (G.β s):=fun e=>by have:=(k4 _ e).2 0;rw[k5 0] at this;exact zA2 _ _ this
     have hpz:τ.poff []=0:=by cases τ<;>rfl
     rw[hpz] at hrun;refine zO8 (hrun hB.fnS) ((hB.text (G.β s) p0 v0 l w k1 k2 k3 hne).mono ?_);rintro e' w' ⟨rfl,z3,z4⟩;obtain⟨hx,hfr⟩:=xY (g:=0) hR.frame k4 k5 z3 (fun k hk _ h=>z4 k hk h);refine⟨_,rfl,hnext _ w' (G.bldTo w.heap.size U 0) ?_⟩;rw[hd];have hds:d≠s:=fun e=>by subst e;simp at b3
     have hdn:d<a.tmps.size:=by rw[hR.len];exact hdo d hd
     refine zD7 hR hc.n hlt (fun d' e=>by injection e with e;subst e;exact hdo _ hd) (fun d' e=>by injection e with e;subst e;simp[St.has]) hx (by rintro (e|e);exact zC8 _ e;exact zA7 _ e) hfr (fun q hq=>?_) (fun q d' e _=>?_) (fun q hq=>?_)
     ·have hqs:q≠s:=fun e=>by subst e;simp[St.has] at hq
      exact yZ9 (yR b2 hqs) (fun q' e=>by injection e with e;subst e;exact hqs)
     ·injection e with e;subst e
      exact hh q _ (List.mem_cons_self ..)
     ·simp only[St.has,List.any_cons,List.any_nil,Bool.or_false,Bool.or_eq_true] at hq;rcases hq with hq|hq
      ·have:=Nat.eq_of_beq_eq_true hq;subst this;rw[zD6 hdn,if_pos rfl];simp only[St.get,Nat.beq_refl,cond_true];exact VRep_str.2 rfl
      ·have:=Nat.eq_of_beq_eq_true hq;subst this;have h1:Nat.beq d s=false:=by simpa using b3
       have h2:Nat.beq d zA4=false:=by
        cases hb:Nat.beq d zA4 with
        |false=>rfl
        |true=>have:=hlt (d,.val .str l) (List.mem_cons_self ..);have:=Nat.eq_of_beq_eq_true hb;simp only at *;omega
       simp[St.get,h1,h2,zA]
   ·cases h
  ·cases h
 ·cases h
theorem xF4 (hc:CtxOk P c)(hR:Rel c.n χ0 w0 S a w G){o:Oper}{fo:Operand}{args:Array Operand}{ats:Array TypeId}{f:Nat}{cs:AVal}{r:List AVal}{p:List Prop}{u:St}{hv:Bool}
  (ho:o.op=.call { callee:=.value fo,args,argTypes:=ats }) (hf:zA G w a.tmps none (.fn f cs) (a.eval fo)) (hr:zH8 (zA G w a.tmps none) r (args.toList.map a.eval)) (hcs:zH9 cs=true)
  (h:xC5 c o.dst f (r++cs.toL) S=some (p,u,hv))
  (hlt:∀ e∈u,e.1<zA4) (hdo:∀ d,o.dst=some d→d<c.n) (hh:∀ s,∀ e∈u,(S.get s).hung e.1=false) (hp:∀ q∈p,q)
  {next:Act→World→Prop}{Q:Exit→Act→World→Prop}(hnext:∀ v w' G',Rel c.n χ0 w0 (u++S) (a.put o.dst v) w' G'→next (a.put o.dst v) w'):o.wpIn (fz rd) 0 P a w next Q:=by
 unfold xC5 at h;generalize hz:yP2 c o.dst f (r++cs.toL) S=z at h;cases z with
 |some q=>simp only[zC1,Option.some.injEq] at h;subst h;exact yZ8 hc hR ho hf hr hcs hz hlt hdo hh hp hnext
 |none=>simp only[zC1] at h;exact xF3 hc hR ho hf hr hcs h hlt hdo hh hp hnext
theorem xF5 {dst:Option Nat}{f:Nat}{ys:List AVal}{q:List Prop×St×Bool}(h:xC5 c dst f ys S=some q):q.2.2=true:=by
 unfold xC5 at h;generalize hz:yP2 c dst f ys S=z at h;cases z with
 |some q' =>
  simp only[zC1,Option.some.injEq] at h;subst h;unfold yP2 at hz;split at hz
  ·generalize (_&&zC0 _ S)=bb at hz;cases bb with
   |false=>cases hz
   |true=>simp only[cond_true,Option.some.injEq] at hz;rw[← hz]
  ·cases hz
 |none =>
  simp only[zC1] at h;unfold wE3 at h;split at h
  ·unfold wS3 at h;split at h
   ·generalize (_&&_&&_)=bb at h;cases bb with
    |false=>cases h
    |true=>simp only[cond_true,Option.some.injEq] at h;rw[← h]
   ·cases h
  ·unfold wS4 at h;split at h
   ·split at h
    ·generalize (_&&_&&_)=bb at h;cases bb with
     |false=>cases h
     |true=>simp only[cond_true,Option.some.injEq] at h;rw[← h]
    ·cases h
   ·cases h
  ·cases h
theorem xA {d:Nat}{v:Value}{G':Gh}{w':World}{gd:Gd}{A:AVal}(hs0:∀ {G:Gh}{w:World}{tm:Array Value}{v:Value},zA G w tm (some d) A v→zA G w tm none A v)(hlen:a.tmps.size=n)(hd:d<n)(hi:xJ9 a.tmps gd)(hon:yT7 a.tmps gd)(hA:(zG2 gd A).hung d=false)
  (h:Rel n χ0 w0 ([(d,A)]++S) (a.put (some d) v) w' G'):Rel n χ0 w0 ([(d,zG2 gd A)]++S) (a.put (some d) v) w' G':=by
 refine⟨h.len,h.defers,fun s=>?_,h.frame,h.glob⟩;have hs:=h.reps s;by_cases e:d=s
 ·subst e;simp[St.get] at hs ⊢;cases gd with
  |none=>exact hs
  |some q =>
   obtain⟨s',want,g⟩:=q;have hg:g=true:=(hi s' want g rfl).1 (hon s' want g rfl);have hne:s'≠d:=by
    intro e;simp_all [zG2,AVal.hung]
   refine⟨?_,fun _=>hs0 hs,fun e=>by grind⟩;rw[zD6 (by grind),if_neg hne];exact hi s' want g rfl
 ·have hb:Nat.beq d s=false:=by
   grind [Nat.beq,absurd,Nat.eq_of_beq_eq_true]
  simp_all [St.get]
theorem yB5 {dst:Option Nat}{f:Nat}{ys ks:List AVal}{p:List Prop}{d:Nat}{A:AVal}{u:St}{hv:Bool}(h:yG9 c dst f ys ks S=some (p,(d,A)::u,hv)):dst=some d:=by
 unfold yG9 at h;split at h
 ·cases h
 ·split at h
  ·rename_i d' _ _;generalize (_&&zC0 _ S)=bb at h;cases bb with
   |false=>cases h
   |true =>
    simp only[cond_true,Option.some.injEq,Prod.mk.injEq,List.cons.injEq] at h;obtain⟨_,⟨⟨rfl,_⟩,_⟩,_⟩:=h;rfl
  ·cases h
theorem xF6 (hc:CtxOk P c)(hR:Rel c.n χ0 w0 S a w G){gd:Gd}(hi:xJ9 a.tmps gd)(hon:yT7 a.tmps gd){o:Oper}{fo:Operand}{args:Array Operand}{ats:Array TypeId}{f:Nat}{cs:AVal}{r:List AVal}{p:List Prop}{u:St}{hv:Bool}
  (ho:o.op=.call { callee:=.value fo,args,argTypes:=ats }) (hf:zA G w a.tmps none (.fn f cs) (a.eval fo)) (hr:zH8 (zA G w a.tmps none) r (args.toList.map a.eval)) (hcs:zH9 cs=true)
  (h:yW c gd o.dst f (r++cs.toL) S=some (p,u,hv))
  (hlt:∀ e∈u,e.1<zA4) (hdo:∀ d,o.dst=some d→d<c.n) (hh:∀ s,∀ e∈u,(S.get s).hung e.1=false) (huu:∀ e∈u,∀ e'∈u,e.2.hung e'.1=false) (hp:∀ q∈p,q)
  {next:Act→World→Prop}{Q:Exit→Act→World→Prop}(hnext:∀ v w' G',Rel c.n χ0 w0 (u++S) (a.put o.dst v) w' G'→next (a.put o.dst v) w'):o.wpIn (fz rd) 0 P a w next Q:=by
 unfold yW at h;split at h
 ·rename_i p0 d t l T m _ hl;obtain⟨rfl,rfl,_⟩:=h;have hdst:o.dst=some d:=yB5 hl;have hd:d<c.n:=hdo d hdst;refine zY3 hc hR ho hf hr hcs hl (fun e he=>by simp at he;subst he;exact hlt (d,zG2 gd (.own t l T m)) (List.mem_singleton.2 rfl)) hdo (fun s e he=>by simp_all) (zO hi hon hp) (fun v w' G' h'=>?_);refine hnext v w' G' ?_;rw[hdst] at h' ⊢;exact xA (fun h=>h) hR.len hd hi hon (huu _ (List.mem_singleton.2 rfl) _ (List.mem_singleton.2 rfl)) h'
 ·rename_i p0 d τ x _ hl;obtain⟨rfl,rfl,_⟩:=h;have hdst:o.dst=some d:=yB5 hl;have hd:d<c.n:=hdo d hdst;refine zY3 hc hR ho hf hr hcs hl (fun e he=>by simp at he;subst he;exact hlt (d,zG2 gd (.val τ x)) (List.mem_singleton.2 rfl)) hdo (fun s e he=>by simp_all) (zO hi hon hp) (fun v w' G' h'=>?_);refine hnext v w' G' ?_;rw[hdst] at h' ⊢;exact xA (fun h=>h) hR.len hd hi hon (huu _ (List.mem_singleton.2 rfl) _ (List.mem_singleton.2 rfl)) h'
 ·cases h
theorem yF9 {f:Nat}{ys:List AVal}{q:List Prop×AVal}:∀ {exts:List (Nat×(List AVal→Option (List Prop×AVal)))},yJ3 exts f ys=some q→∃ e,(f,e)∈exts∧e ys=some q:=by
 intro exts
 induction exts with
 |nil=>grind [yJ3]
 |cons x r ih =>
  intro h;obtain⟨g,e⟩:=x;simp only[yJ3] at h;cases hg:Nat.beq g f with
  |false=>grind
  |true=>simp_all
theorem xY0 (hc:CtxOk P c)(hR:Rel c.n χ0 w0 S a w G){gd:Gd}(hi:xJ9 a.tmps gd)(hon:yT7 a.tmps gd){o:Oper}{fo:Operand}{args:Array Operand}{ats:Array TypeId}{f:Nat}{cs:AVal}{r:List AVal}{p:List Prop}{u:St}{hv:Bool}
  (ho:o.op=.call { callee:=.value fo,args,argTypes:=ats }) (hf:zA G w a.tmps none (.fn f cs) (a.eval fo)) (hr:zH8 (zA G w a.tmps none) r (args.toList.map a.eval)) (hcs:zH9 cs=true)
  (h:zX3 c gd o.dst f (r++cs.toL)=some (p,u,hv))
  (hlt:∀ e∈u,e.1<zA4) (hdo:∀ d,o.dst=some d→d<c.n) (hh:∀ s,∀ e∈u,(S.get s).hung e.1=false) (huu:∀ e∈u,∀ e'∈u,e.2.hung e'.1=false) (hp:∀ q∈p,q)
  {next:Act→World→Prop}{Q:Exit→Act→World→Prop}(hnext:∀ v w' G',Rel c.n χ0 w0 (u++S) (a.put o.dst v) w' G'→next (a.put o.dst v) w'):o.wpIn (fz rd) 0 P a w next Q:=by
 obtain⟨vs,hfv,hcv⟩:=hf;have hcl:=yD6 (vs:=vs.toList) hcs (by simpa using hcv);have hys:=zL hr hcl;have hrun:∀ v,(callFunc f (args.toList.map a.eval++vs.toList).toArray).run P w=.ok (.value v) w→(execOp a.eval o).run P w=.ok (.value v) w:=by
  have harr:(args.toList.map a.eval++vs.toList).toArray=args.map a.eval++vs:=by grind
  grind [execOp,resolve,Deferred.ofValue,invoke]
 unfold zX3 at h;split at h
 ·rename_i p0 τ x d he hd;obtain⟨e,hm,he⟩:=yF9 he;obtain⟨rfl,rfl,rfl⟩:=h;obtain⟨v,h1,h2⟩:=hc.exts f e hm _ _ _ he (zO hi hon hp) G w a.tmps _ hys;refine zJ9 (hrun v h1) (hnext v w G ?_);rw[hd];exact zR7 hR hc.n (hdo d hd) (fun s=>hh s (d,zG2 gd (.val τ x)) (by simp)) (huu (d,zG2 gd (.val τ x)) (by simp) (d,zG2 gd (.val τ x)) (by simp)) (zN9 hi hon h2)
 ·rename_i p0 b d he hd;obtain⟨e,hm,he⟩:=yF9 he;split at h
  ·generalize hbb:(_&&!(b.hung d))=bb at h;cases bb with
   |false=>grind
   |true =>
    obtain⟨rfl,rfl,rfl⟩:=h;obtain⟨v,h1,h2⟩:=hc.exts f e hm _ _ _ he hp G w a.tmps _ hys;refine zJ9 (hrun v h1) (hnext v w G ?_);rw[hd];exact zR7 hR hc.n (hdo d hd) (fun s=>hh s (d,.tup b) (by simp)) (huu (d,.tup b) (by simp) (d,.tup b) (by simp)) h2
  grind
 grind
end Go.Am
namespace Go.Am
open Go Go.RowKit
variable {rd:Option Nat}{gtab:GlobTab}{P:Program}{c:Ctx}{G:Gh}{w:World}{tm:Array Value}{n:Nat}{χ0:Nat→Nat→Nat}{w0:World}{S:St}{a:Act}
theorem yI5 {χ:Nat→Nat→Nat}{t:Ty}:zB6 χ w (.sl t) ([]:List t.den) [.slice none 0 0]:=by
 grind [zB6]
theorem yB6 {t:Ty}{T:Nat}{m:Bool}(h:(t.plain&&!t.isL)=true):zG3 G w t [] T m (.slice none 0 0):=by
 simp  at h;exact .inl ⟨h,.inl ⟨rfl,rfl⟩⟩
theorem yU4 {t t':Ty}{l':List t'.den}{l2:(Ty.sl t).den}(h:Ty.cast (a:=.sl t') (.sl t) l'=some l2):t'=t∧HEq l' l2:=by
 grind [zD2]
theorem zY4:∀ {A B:AVal}{τ:Ty}{vs:List Value},(zA0 true A B).fitsT τ=true→zA8 G w τ A vs→zA8 G w τ (zA0 true A B) vs:=by
 intro A
 induction A with
 |val τ' x =>
  intro B τ vs hf h;cases B with
  |val τ2 y =>
   grind [zA0,AVal.fitsT]
  |nil =>
   cases τ'<;>simp[zA0,AVal.fitsT] at hf
   grind [zA0]
  |agg f b =>
   cases τ'<;>simp[zA0,AVal.fitsT] at hf
   grind [zA0,AVal.fitsT]
  |own t l T m =>
   grind [zA0,voA,AVal.fitsT]
  |_=>grind [zA0,AVal.fitsT]
 |nil =>
  intro B τ vs hf h;obtain⟨h1,rfl⟩:=h;cases B with
  |nil=>grind [zA0,zA8]
  |val τ2 y =>
   cases τ2<;>simp only[zA0,AVal.fitsT,Bool.false_eq_true] at hf;simp  at hf;have e:=Ty.eq_of_beq hf.1;subst e;exact⟨rfl,rfl,yI5⟩
  |own t l T m =>
   simp only[zA0] at hf ⊢;generalize hp:(t.plain&&!t.isL)=b at hf;cases b with
   |false=>grind [AVal.fitsT]
   |true =>
    simp  at hf ⊢;have e:=Ty.eq_of_beq hf;subst e;simp only[zA8];exact⟨trivial,_,rfl,yB6 hp⟩
  |_=>grind [zA0,AVal.fitsT]
 |own t l T m =>
  intro B τ vs hf h;cases B with
  |nil =>
   grind [zA0,AVal.fitsT]
  |own t' l' T' m' =>
   grind [zA0,Nat.beq,AVal.fitsT]
  |val τ2 y =>
   simp[zA0,ovA] at hf ⊢;cases m with
   |true=>grind [AVal.fitsT]
   |false =>
    simp  at hf ⊢;split at hf
    ·obtain⟨rfl,v,rfl,ho⟩:=h;simp only[zA8];exact⟨trivial,rfl,zE1 ho⟩
    grind [AVal.fitsT]
  |_=>grind [zA0,AVal.fitsT]
 |agg f x ih =>
  intro B τ vs hf h;cases B with
  |agg f' b =>
   grind [zA0,AVal.fitsT,zA8]
  |val τ2 y =>
   cases τ2<;>simp[zA0,AVal.fitsT] at hf;simp only[zA0] at hf ⊢;split at hf
   ·rename_i x' hx;have hfit:=zT7 hx;simp[AVal.fitsT] at hfit;have e:=Ty.eq_of_beq hfit.1;injection e with e
    subst e;obtain⟨rfl,h⟩:=h;simp only[zA8];exact⟨trivial,rfl,zN5 (A:=.agg f x) hx (by grind [zA8])⟩
   grind [AVal.fitsT]
  |_=>grind [zA0,AVal.fitsT]
 |nl =>
  intro B τ vs hf h;cases B<;>grind [zA0,AVal.fitsT]
 |cons x y ihx ihy =>
  intro B τ vs hf h;cases B with
  |cons x' y' =>
   obtain⟨h1,t1,us,ws,rfl,rfl,h2,h3⟩:=h;simp[zA0,AVal.fitsT,zF5] at hf;exact⟨_,_,_,_,rfl,rfl,ihx hf.1 h2,ihy hf.2 h3⟩
  |_=>grind [zA0,AVal.fitsT]
 |junk=>grind [zA0,AVal.fitsT]
 |_=>grind [zA8]
theorem zY5:∀ {A B:AVal}{τ:Ty}{vs:List Value},(zA0 false A B).fitsT τ=true→zA8 G w τ B vs→zA8 G w τ (zA0 false A B) vs:=by
 intro A
 induction A with
 |val τ' x =>
  intro B τ vs hf h;cases B with
  |val τ2 y =>
   grind [zA0,zD2,AVal.fitsT]
  |nil =>
   obtain⟨h1,rfl⟩:=h;cases τ'<;>simp only[zA0,AVal.fitsT,Bool.false_eq_true] at hf;simp  at hf;have e:=Ty.eq_of_beq hf.1;subst e;simp only[zA0,zA8];exact⟨trivial,rfl,yI5⟩
  |agg f b =>
   cases τ'<;>simp[zA0,AVal.fitsT] at hf;simp[zA0] at hf ⊢;split at hf
   ·rename_i x' hx;have hfit:=zT7 hx;simp[AVal.fitsT] at hfit;have e:=Ty.eq_of_beq hfit.1;injection e with e
    subst e;obtain⟨rfl,h⟩:=h;simp only[zA8];exact⟨trivial,rfl,zN5 (A:=.agg f b) hx (by grind [zA8])⟩
   grind [AVal.fitsT]
  |own t l T m =>
   simp[zA0,voA] at hf ⊢;cases m with
   |true=>grind [AVal.fitsT]
   |false =>
    simp  at hf ⊢;split at hf
    ·rename_i z hz;obtain⟨e,hz⟩:=zD2 hz;subst e;subst hz;obtain⟨rfl,v,rfl,ho⟩:=h;simp only[zA8];exact⟨trivial,rfl,zE1 ho⟩
    grind [AVal.fitsT]
  |_=>grind [zA0,AVal.fitsT]
 |nil =>
  intro B τ vs hf h;cases B with
  |nil=>exact h
  |val τ2 y =>
   cases τ2<;>simp[zA0,AVal.fitsT] at hf
   grind [zA0]
  |own t l T m =>
   grind [zA0,AVal.fitsT]
  |_=>grind [zA0,AVal.fitsT]
 |own t l T m =>
  intro B τ vs hf h;cases B with
  |nil =>
   obtain⟨h1,rfl⟩:=h;simp only[zA0] at hf ⊢;generalize hp:(t.plain&&!t.isL)=b at hf;cases b with
   |false=>grind [AVal.fitsT]
   |true =>
    simp  at hf ⊢;have e:=Ty.eq_of_beq hf;subst e;simp only[zA8];exact⟨trivial,_,rfl,yB6 hp⟩
  |own t' l' T' m' =>
   simp only[zA0] at hf ⊢;generalize hb:(Nat.beq T T'&&(m==m'))=b at hf;cases b with
   |false=>grind [AVal.fitsT]
   |true =>
    simp  at hb
    grind [yU4,AVal.fitsT]
  |val τ2 y =>
   grind [zA0,ovA,AVal.fitsT,zD2]
  |_=>grind [zA0,AVal.fitsT]
 |agg f x ih =>
  intro B τ vs hf h;cases B with
  |agg f' b =>
   simp only[zA0] at hf ⊢;generalize hb:(Ty.beq f f'&&AVal.fits f (zA0 false x b))=bb at hf;cases bb with
   |false=>grind [AVal.fitsT]
   |true =>
    simp  at hb;have e:=Ty.eq_of_beq hb.1;subst e;exact⟨h.1,ih hb.2 h.2⟩
  |val τ2 y =>
   cases τ2<;>simp[zA0,AVal.fitsT] at hf
   grind [zA0,AVal.fitsT]
  |_=>grind [zA0,AVal.fitsT]
 |nl =>
  intro B τ vs hf h;cases B<;>grind [zA0,AVal.fitsT]
 |cons x y ihx ihy =>
  intro B τ vs hf h;cases B with
  |cons x' y' =>
   obtain⟨h1,t1,us,ws,rfl,rfl,h2,h3⟩:=h;simp[zA0,AVal.fitsT,zF5] at hf;exact⟨_,_,_,_,rfl,rfl,ihx hf.1 h2,ihy hf.2 h3⟩
  |_=>grind [zA0,AVal.fitsT]
 |_=>intro B τ vs hf h;cases B<;>simp[zA0,AVal.fitsT,zA8] at hf h
theorem zY6:∀ {A B:AVal}{os:Option Nat}{v:Value},zA G w tm os A v→zA G w tm os (zA0 true A B) v:=by
 intro A
 induction A with
 |val τ' x =>
  intro B os v h;cases B with
  |val τ2 y =>
   grind [zA0,zA]
  |nil=>cases τ'<;>simp only[zA0,cond_true,zA];exact h
  |agg f b =>
   cases τ'<;>simp only[zA0,cond_true,zA]
   grind [zA]
  |own t l T m =>
   simp only[zA0,voA];cases m with
   |true=>simp only[cond_true,zA]
   |false =>
    simp only[cond_false]
    grind [zA]
  |_=>grind [zA0,zA]
 |nil =>
  intro B os v h;simp only[zA] at h;subst h;cases B with
  |nil=>grind [zA0,zA]
  |val τ2 y =>
   cases τ2<;>simp only[zA0,cond_true]<;>first|exact zP2 yI5|grind [zA]
  |own t l T m =>
   simp only[zA0];generalize hp:(t.plain&&!t.isL)=b;cases b with
   |false=>simp only[cond_false,zA]
   |true=>simp only[cond_true,zA];exact yB6 hp
  |_=>grind [zA0,zA]
 |own t l T m =>
  intro B os v h;cases B with
  |nil =>
   simp only[zA0];cases (t.plain&&!t.isL)<;>simp_all [cond_false,zA,cond_true]
  |own t' l' T' m' =>
   simp only[zA0];cases (Nat.beq T T'&&(m==m')) with
   |false=>simp only[cond_false,zA]
   |true =>
    simp only[cond_true]
    grind [zA]
  |val τ2 y =>
   simp only[zA0,ovA];cases m with
   |true=>simp only[cond_true,zA]
   |false =>
    simp only[cond_false]
    grind [zA,zP2,zE1]
  |_=>simp only[zA0,zA]
 |box τ x _ =>
  intro B os v h;cases B with
  |box τ' y =>
   simp only[zA0];generalize hb:(Ty.beq τ τ'&&AVal.fits τ (zA0 true x y))=b;cases b with
   |false=>simp only[cond_false,zA]
   |true =>
    simp only[Bool.and_eq_true] at hb;simp only[cond_true];cases os with
    |none=>grind [zA]
    |some s =>
     simp only[zA] at h ⊢;obtain⟨h1,h2,cur,e,h3,h4,h5⟩:=h;exact⟨h1,h2,cur,e,h3,zY4 hb.2 h4,h5⟩
  |_=>simp only[zA0,zA]
 |ref s τ p =>
  intro B os v h;cases p with
  |nil =>
   cases B with
   |ref s' τ' p' =>
    cases p' with
    |nil =>
     simp only[zA0];cases (Nat.beq s s'&&Ty.beq τ τ')<;>simp_all [cond_false,zA,cond_true]
    |cons _ _=>grind [zA0,zA]
   |nilp=>simp only[zA0,zA] at h ⊢;exact h.2
   |pn b s' τ' =>
    simp only[zA0];cases (Nat.beq s s'&&Ty.beq τ τ') with
    |false=>simp only[cond_false,zA]
    |true=>simp only[cond_true,zA] at h ⊢;exact h.2
   |_=>simp only[zA0,zA]
  |cons _ _=>grind [zA0,zA]
 |nilp =>
  intro B os v h;cases B with
  |ref s τ p=>cases p<;>simp only[zA0,zA,if_true] at h ⊢;exact h
  |pn b s τ=>simp only[zA0,zA,cond_true,if_true] at h ⊢;exact h
  |nilp=>exact h
  |_=>simp only[zA0,zA]
 |pn b s τ =>
  intro B os v h;cases B with
  |ref s' τ' p =>
   cases p with
   |nil =>
    simp only[zA0];cases (Nat.beq s s'&&Ty.beq τ τ') with
    |false=>simp only[cond_false,zA]
    |true=>exact h
   |cons _ _=>simp only[zA0,zA]
  |pn b' s' τ' =>
   simp only[zA0];cases (Nat.beq s s'&&Ty.beq τ τ') with
   |false=>simp only[cond_false,zA]
   |true=>exact h
  |nilp=>exact h
  |_=>simp only[zA0,zA]
 |nl =>
  intro B os v h;cases B<;>simp_all [zA0,zA]
 |cons x y ihx ihy =>
  intro B os v h;cases B with
  |cons x' y' =>
   obtain⟨u,us,rfl,h1,h2⟩:=h;simp only[zA0,zA];exact⟨u,us,rfl,ihx h1,ihy h2⟩
  |_=>simp[zA0,zA]
 |agg f x _ =>
  intro B os v h;cases B with
  |agg f' b =>
   simp only[zA0];generalize hb:(Ty.beq f f'&&AVal.fits f (zA0 true x b))=bb;cases bb with
   |false=>simp[zA]
   |true =>
    simp  at hb;obtain⟨vs,h1,h2⟩:=h;exact⟨vs,h1,zY4 hb.2 h2⟩
  |val τ2 y =>
   cases τ2<;>simp[zA0,zA];split
   ·rename_i x' hx;exact zK5 hx rfl (zP9 h (by grind) (by grind) (by grind) (by grind))
   grind [zA]
  |_=>simp[zA0,zA]
 |tup x ih =>
  intro B os v h;cases B<;>simp_all [zA0,zA]
 |ownh t l T i U m =>
  intro B os v h;cases B with
  |ownh t' l' T' i' U' m' =>
   simp only[zA0];cases (Nat.beq T T'&&Nat.beq U U'&&(m==m')) with
   |false=>simp[zA]
   |true =>
    grind [zA]
  |_=>simp only[zA0,zA]
 |_=>intro B os v h;cases B<;>simp only[zA0,zA]
theorem zY7:∀ {A B:AVal}{os:Option Nat}{v:Value},zA G w tm os B v→zA G w tm os (zA0 false A B) v:=by
 intro A
 induction A with
 |val τ' x =>
  intro B os v h;cases B with
  |val τ2 y =>
   simp only[zA0];split
   ·rename_i z hz;obtain⟨e,hz⟩:=zD2 hz;subst e;subst hz;exact h
   ·simp only[zA]
  |nil =>
   simp only[zA] at h;subst h;cases τ'<;>simp only[zA0,cond_false]<;>first|exact zP2 yI5|simp only[zA]
  |agg f b =>
   cases τ'<;>simp only[zA0,cond_false,zA];split
   ·rename_i x' hx;simp only[zA];exact zK5 hx rfl (zP9 h (by intro _ _ e;cases e) (by intro e;cases e) (by intro _ _ _ e;cases e) (by intro _ _ _ _ e;cases e))
   ·simp only[zA]
  |own t l T m =>
   simp only[zA0,voA];cases m with
   |true=>simp only[cond_true,zA]
   |false =>
    simp only[cond_false];split
    ·rename_i z hz;obtain⟨e,hz⟩:=zD2 hz;subst e;subst hz;simp only[zA] at h;exact zP2 (zE1 h)
    ·simp only[zA]
  |_=>cases τ'<;>simp only[zA0,zA]
 |nil =>
  intro B os v h;cases B with
  |nil=>exact h
  |val τ2 y=>cases τ2<;>simp only[zA0,cond_false,zA];exact h
  |own t l T m =>
   simp only[zA0];cases (t.plain&&!t.isL) with
   |false=>simp only[cond_false,zA]
   |true=>exact h
  |_=>simp only[zA0,zA]
 |own t l T m =>
  intro B os v h;cases B with
  |nil =>
   simp only[zA] at h;subst h;simp only[zA0];generalize hp:(t.plain&&!t.isL)=b;cases b with
   |false=>simp only[cond_false,zA]
   |true=>simp only[cond_true,cond_false,zA];exact yB6 hp
  |own t' l' T' m' =>
   simp only[zA0];generalize hb:(Nat.beq T T'&&(m==m'))=b;cases b with
   |false=>simp only[cond_false,zA]
   |true =>
    simp only[Bool.and_eq_true,beq_iff_eq] at hb;have e:=Nat.eq_of_beq_eq_true hb.1;obtain⟨_,hb⟩:=hb;subst e;subst hb;simp only[cond_true];split
    ·rename_i z hz;obtain⟨e,hz⟩:=yU4 hz;subst e;have:=eq_of_heq hz;subst this;exact h
    ·simp only[zA]
  |val τ2 y =>
   simp only[zA0,ovA];cases m with
   |true=>simp only[cond_true,zA]
   |false =>
    simp only[cond_false];split
    ·rename_i z hz;obtain⟨e,hz⟩:=zD2 hz;subst e;subst hz;exact h
    ·simp only[zA]
  |_=>simp only[zA0,zA]
 |box τ x _ =>
  intro B os v h;cases B with
  |box τ' y =>
   simp only[zA0];generalize hb:(Ty.beq τ τ'&&AVal.fits τ (zA0 false x y))=b;cases b with
   |false=>simp only[cond_false,zA]
   |true =>
    simp only[Bool.and_eq_true] at hb;have e:=Ty.eq_of_beq hb.1;subst e;simp only[cond_true];cases os with
    |none=>simp only[zA] at h
    |some s =>
     simp only[zA] at h ⊢;obtain⟨h1,h2,cur,e,h3,h4,h5⟩:=h;exact⟨h1,h2,cur,e,h3,zY5 hb.2 h4,h5⟩
  |_=>simp only[zA0,zA]
 |ref s τ p =>
  intro B os v h;cases p with
  |nil =>
   cases B with
   |ref s' τ' p' =>
    cases p' with
    |nil =>
     simp only[zA0];generalize hb:(Nat.beq s s'&&Ty.beq τ τ')=b;cases b with
     |false=>simp only[cond_false,zA]
     |true =>
      simp only[Bool.and_eq_true] at hb;have e:=Nat.eq_of_beq_eq_true hb.1;have e':=Ty.eq_of_beq hb.2;subst e;subst e';exact h
    |cons _ _=>simp only[zA0,zA]
   |nilp=>simp only[zA0,zA,Bool.not_false,if_true] at h ⊢;exact h
   |pn b s' τ' =>
    simp only[zA0];generalize hb:(Nat.beq s s'&&Ty.beq τ τ')=bb;cases bb with
    |false=>simp only[cond_false,zA]
    |true =>
     simp only[Bool.and_eq_true] at hb;have e:=Nat.eq_of_beq_eq_true hb.1;subst e;simp only[cond_true,cond_false,zA] at h ⊢;exact h
   |_=>simp only[zA0,zA]
  |cons _ _=>cases B<;>simp only[zA0,zA]
 |nilp =>
  intro B os v h;cases B with
  |ref s τ p=>cases p<;>simp only[zA0,zA] at h ⊢;exact h.2
  |pn b s τ=>simp only[zA0,zA,cond_false] at h ⊢;exact h
  |nilp=>exact h
  |_=>simp only[zA0,zA]
 |pn b s τ =>
  intro B os v h;cases B with
  |ref s' τ' p =>
   cases p with
   |nil =>
    simp only[zA0];generalize hb:(Nat.beq s s'&&Ty.beq τ τ')=bb;cases bb with
    |false=>simp only[cond_false,zA]
    |true =>
     simp only[Bool.and_eq_true] at hb;have e:=Nat.eq_of_beq_eq_true hb.1;subst e;simp only[cond_true,cond_false,zA] at h ⊢;exact h.2
   |cons _ _=>simp only[zA0,zA]
  |pn b' s' τ' =>
   simp only[zA0];generalize hb:(Nat.beq s s'&&Ty.beq τ τ')=bb;cases bb with
   |false=>simp only[cond_false,zA]
   |true =>
    simp only[Bool.and_eq_true] at hb;have e:=Nat.eq_of_beq_eq_true hb.1;subst e;exact h
  |nilp=>simp only[zA0,zA,cond_false,if_true] at h ⊢;exact h
  |_=>simp only[zA0,zA]
 |nl =>
  intro B os v h;cases B with
  |nl=>exact h
  |_=>simp only[zA0,zA]
 |cons x y ihx ihy =>
  intro B os v h;cases B with
  |cons x' y' =>
   simp only[zA] at h;obtain⟨u,us,rfl,h1,h2⟩:=h;simp only[zA0,zA];exact⟨u,us,rfl,ihx h1,ihy h2⟩
  |_=>simp only[zA0,zA]
 |agg f x _ =>
  intro B os v h;cases B with
  |agg f' b =>
   simp only[zA0];generalize hb:(Ty.beq f f'&&AVal.fits f (zA0 false x b))=bb;cases bb with
   |false=>simp only[cond_false,zA]
   |true =>
    simp only[Bool.and_eq_true] at hb;have e:=Ty.eq_of_beq hb.1;subst e;simp only[cond_true,zA] at h ⊢;obtain⟨vs,h1,h2⟩:=h;exact⟨vs,h1,zY5 hb.2 h2⟩
  |val τ2 y =>
   cases τ2<;>simp only[zA0,zA];split
   ·exact h
   ·simp only[zA]
  |_=>simp only[zA0,zA]
 |tup x ih =>
  intro B os v h;cases B with
  |tup b=>simp only[zA0,zA] at h ⊢;exact ih h
  |_=>simp only[zA0,zA]
 |ownh t l T i U m =>
  intro B os v h;cases B with
  |ownh t' l' T' i' U' m' =>
   simp only[zA0];generalize hb:(Nat.beq T T'&&Nat.beq U U'&&(m==m'))=b;cases b with
   |false=>simp only[cond_false,zA]
   |true =>
    simp only[Bool.and_eq_true,beq_iff_eq] at hb;have e1:=Nat.eq_of_beq_eq_true hb.1.1;have e2:=Nat.eq_of_beq_eq_true hb.1.2;obtain⟨_,e3⟩:=hb;subst e1;subst e2;subst e3;simp only[cond_true];split
    ·rename_i z hz;obtain⟨e,hz⟩:=zD2 hz;injection e with e
     injection e with e
     subst e;have hz:l'=z:=hz;subst hz;exact h
    ·simp only[zA]
  |_=>simp only[zA0,zA]
 |_=>intro B os v h;cases B<;>simp only[zA0,zA]
def xA0 (g:Bool)(s:Nat)(A B:AVal):AVal:=bif Nat.blt s vNo then zA0 g A B else zM1 g A B
theorem zW {m g:Bool}{τ τ':Ty}{x y:AVal}{s:Nat}{v:Value}(h:m=true→AVal.fits τ (zA0 g x y)=true→Ty.beq τ τ'=true→zN3 G w s τ (zA0 g x y)):zA G w tm (some s) (wP3 m τ τ' g x y) v:=by
 unfold wP3;generalize hb:(Ty.beq τ τ'&&AVal.fits τ (zA0 g x y))=b;cases b with
 |false=>simp only[cond_false,zA]
 |true =>
  simp only[Bool.and_eq_true] at hb;simp only[cond_true,zA];exact fun hm=>h hm hb.2 hb.1
theorem yD8 {s:Nat}{τ:Ty}{x y:AVal}(hf:AVal.fits τ (zA0 true x y)=true)(h:zN3 G w s τ x):zN3 G w s τ (zA0 true x y):=by
 obtain⟨h2,cur,e,h3,h4,h5⟩:=h;exact⟨h2,cur,e,h3,zY4 hf h4,h5⟩
theorem yD9 {s:Nat}{τ τ':Ty}{x y:AVal}(hf:AVal.fits τ (zA0 false x y)=true)(he:Ty.beq τ τ'=true)(h:zN3 G w s τ' y):zN3 G w s τ (zA0 false x y):=by
 have e:=Ty.eq_of_beq he;subst e;obtain⟨h2,cur,e,h3,h4,h5⟩:=h;exact⟨h2,cur,e,h3,zY5 hf h4,h5⟩
theorem yG {s:Nat}{A B:AVal}{v:Value}(h:zA G w tm (some s) A v):zA G w tm (some s) (xA0 true s A B) v:=by
 unfold xA0;cases Nat.blt s vNo with
 |true=>exact zY6 h
 |false =>
  simp only[cond_false];cases A with
  |box τ x =>
   simp only[zA] at h;cases B with
   |junk=>simp only[zM1,zA];exact fun _=>h.2
   |may m τ' y=>exact zW fun _ hf _=>yD8 hf h.2
   |box τ' y=>exact zY6 (A:=.box τ x) (B:=.box τ' y) (by simp only[zA];exact h)
   |_=>simp only[zM1,zA0,zA]
  |may m τ x =>
   simp only[zA] at h;cases B with
   |junk=>simp only[zM1,cond_true,zA];exact h
   |box τ' y=>exact zW fun hm hf _=>yD8 hf (h hm)
   |may m' τ' y=>exact zW fun hm hf _=>yD8 hf (h hm)
   |_=>simp only[zM1,zA0,zA]
  |junk =>
   cases B with
   |box τ' y=>simp only[zM1,zA];exact fun h=>by cases h
   |may m' τ' y=>simp only[zM1,cond_true,zA];exact fun h=>by cases h
   |_=>simp only[zM1,zA0,zA]
  |_=>exact zY6 h
theorem xA1 {s:Nat}{A B:AVal}{v:Value}(h:zA G w tm (some s) B v):zA G w tm (some s) (xA0 false s A B) v:=by
 unfold xA0;cases Nat.blt s vNo with
 |true=>exact zY7 h
 |false =>
  simp only[cond_false];cases A with
  |box τ x =>
   cases B with
   |junk=>simp only[zM1,zA];exact fun h=>by cases h
   |may m τ' y=>simp only[zA] at h;exact zW fun hm hf he=>yD9 hf he (h hm)
   |box τ' y=>exact zY7 (A:=.box τ x) (B:=.box τ' y) h
   |_=>simp only[zM1,zA0,zA]
  |may m τ x =>
   cases B with
   |junk=>simp only[zM1,cond_false,zA];exact fun h=>by cases h
   |box τ' y=>simp only[zA] at h;exact zW fun _ hf he=>yD9 hf he h.2
   |may m' τ' y=>simp only[zA] at h;exact zW fun hm hf he=>yD9 hf he (h hm)
   |_=>simp only[zM1,zA0,zA]
  |junk =>
   cases B with
   |box τ' y=>simp only[zM1,zA] at h ⊢;exact fun _=>h.2
   |may m' τ' y=>simp only[zM1,cond_false,zA] at h ⊢;exact h
   |_=>simp only[zM1,zA0,zA]
  |_=>exact zY7 h
def St.hasCut (d:St):Bool:=d.any fun e=>Nat.beq e.1 zA4
theorem yE {g:Bool}{d1 d2:St}{s:Nat}:∀ {ks:St}{R:St},(yJ5 g d1 d2 S ks++R).get s=.junk∨(yJ5 g d1 d2 S ks++R).get s=xA0 g s ((d1++S).get s) ((d2++S).get s) ∨
  (St.has s ks=false∧St.hasCut ks=false∧(yJ5 g d1 d2 S ks++R).get s=R.get s):=by
 intro ks
 induction ks with
 |nil=>exact .inr (.inr ⟨rfl,rfl,rfl⟩)
 |cons e r ih =>
  obtain⟨k,A⟩:=e;simp only[yJ5,St.get,List.cons_append];cases hk:Nat.beq k s with
  |true =>
   have:=Nat.eq_of_beq_eq_true hk;subst this;simp only[cond_true];cases Nat.beq k zA4 with
   |true=>exact fun {_}=>.inl rfl
   |false=>exact fun {_}=>.inr (.inl rfl)
  |false =>
   cases hc:Nat.beq k zA4<;>simp_all [St.has,St.hasCut]
theorem yU5 {d1 d2:St}{s:Nat}(h1:St.has s (yA1 d1++(yA1 d2++(zJ3 d1++zJ3 d2)))=false)(h2:St.hasCut (yA1 d1++(yA1 d2++(zJ3 d1++zJ3 d2)))=false) :
  (d1++S).get s=S.get s∧(d2++S).get s=S.get s:=by
 have hc:∀ d:St,(∀ e∈d,e∈d1∨e∈d2)→(∀ e∈d,e.1≠zA4)∧St.has s d=false:=by
  intro d hd;have key:∀ e∈d,e.1≠zA4∧Nat.beq e.1 s=false:=by
   intro e he;simp only[St.has,St.hasCut,List.any_eq_false,List.mem_append,yA1,zJ3,List.mem_filter] at h1 h2;have hcut:e.1≠zA4:=by
    grind [Nat.beq,Nat.beq_refl]
   have hb:(!(Nat.beq e.1 zA4))=true:=by
    grind
   refine⟨hcut,?_⟩;rcases hd e he with h|h
   ·exact Bool.eq_false_iff.2 (h1 e (.inl ⟨h,hb⟩))
   ·exact Bool.eq_false_iff.2 (h1 e (.inr (.inl ⟨h,hb⟩)))
  grind [St.has,List.any_eq_false]
 grind [zK8]
theorem zS6 {d1 d2:St}(hR:Rel n χ0 w0 (d1++S) a w G):Rel n χ0 w0 (zF3 true d1 d2 S++S) a w G:=by
 refine⟨hR.len,hR.defers,fun s=>?_,hR.frame,hR.glob⟩;have h:=hR.reps s;unfold zF3;rcases yE (g:=true) (d1:=d1) (d2:=d2) (S:=S) (s:=s) (ks:=yA1 d1++(yA1 d2++(zJ3 d1++zJ3 d2))) (R:=S) with e|e|⟨e1,e2,e⟩
 ·grind [zA]
 ·rw[e];exact yG h
 ·rw[e,← (yU5 e1 e2).1];grind
theorem zO2 {d1 d2:St}(hR:Rel n χ0 w0 (d2++S) a w G):Rel n χ0 w0 (zF3 false d1 d2 S++S) a w G:=by
 refine⟨hR.len,hR.defers,fun s=>?_,hR.frame,hR.glob⟩;have h:=hR.reps s;unfold zF3;rcases yE (g:=false) (d1:=d1) (d2:=d2) (S:=S) (s:=s) (ks:=yA1 d1++(yA1 d2++(zJ3 d1++zJ3 d2))) (R:=S) with e|e|⟨e1,e2,e⟩
 ·grind [zA]
 ·rw[e];exact xA1 h
 ·rw[e,← (yU5 e1 e2).2];grind
theorem xP0 {g:Bool}{d1 d2:St}{e:Nat×AVal}:∀ {ks:St},e∈ks→∃ A,(e.1,A)∈yJ5 g d1 d2 S ks:=by
 intro ks
 induction ks with
 |nil=>intro h;cases h
 |cons e' r ih =>
  intro h;rcases List.mem_cons.1 h with h|h
  ·subst h;exact⟨_,List.mem_cons_self⟩
  ·obtain⟨A,hA⟩:=ih h;exact⟨A,List.mem_cons_of_mem _ hA⟩
theorem xP1 {g:Bool}{u:St}{e:Nat×AVal}(h:e∈u):∃ A,(e.1,A)∈zF3 g u [] S:=by
 unfold zF3;refine xP0 ?_;simp only[yA1,zJ3,List.mem_append,List.mem_filter];cases hc:Nat.beq e.1 zA4 with
 |true=>exact .inr (.inr (.inl ⟨h,rfl⟩))
 |false=>exact .inl ⟨h,by simp⟩
theorem xP2 {d s:Nat}{want:Bool}{R:AVal}{u:St}{v:Value}{G':Gh}{w':World}(hpr:zL1 R=true)(hlen:a.tmps.size=n)(hd:d<n)(hdc:Nat.beq d zA4=false)(hi:xJ9 a.tmps (some (s,want,true)))(hA:(zG2 (some (s,want,true)) R).hung d=false)
  (h:Rel n χ0 w0 ((d,R)::u++S) (a.put (some d) v) w' G'):Rel n χ0 w0 ((d,zG2 (some (s,want,true)) R)::zF3 true u [] S++S) (a.put (some d) v) w' G':=by
 refine⟨h.len,h.defers,fun k=>?_,h.frame,h.glob⟩;have hs:=h.reps k;by_cases e:d=k
 ·subst e;simp[St.get] at hs ⊢;have hne:s≠d:=by
   intro e;simp_all [zG2,AVal.hung]
  refine⟨?_,fun _=>yQ8 hpr (fun _ _ _ h=>⟨h,rfl⟩) hs,fun e=>by grind⟩;rw[zD6 (by grind),if_neg hne];exact hi s want true rfl
 ·have hb:Nat.beq d k=false:=by
   grind [Nat.beq,absurd,Nat.eq_of_beq_eq_true]
  have hs:zA G' w' (a.put (some d) v).tmps (some k) (St.get (u++S) k) ((a.put (some d) v).tmps.getD k undef):=by simpa[St.get,hb,hdc] using hs
  have hg:St.get ((d,zG2 (some (s,want,true)) R)::zF3 true u [] S++S) k=St.get (zF3 true u [] S++S) k:=by simp[St.get,hb,hdc]
  rw[hg];unfold zF3;rcases yE (g:=true) (d1:=u) (d2:=[]) (S:=S) (s:=k) (ks:=yA1 u++(yA1 []++(zJ3 u++zJ3 []))) (R:=S) with e|e|⟨e1,e2,e⟩
  ·rw[e];simp only[zA]
  ·rw[e];exact yG hs
  ·rw[e,← (yU5 e1 e2).1];exact hs
theorem xA2 (hc:CtxOk P c)(hR:Rel c.n χ0 w0 S a w G){q:Nat×Bool×Bool}(hi:xJ9 a.tmps (some q))(hon:yT7 a.tmps (some q)){o:Oper}{fo:Operand}{args:Array Operand}{ats:Array TypeId}{f:Nat}{cs:AVal}{r:List AVal}{p:List Prop}{u:St}{hv:Bool}
  (ho:o.op=.call { callee:=.value fo,args,argTypes:=ats }) (hf:zA G w a.tmps none (.fn f cs) (a.eval fo)) (hr:zH8 (zA G w a.tmps none) r (args.toList.map a.eval)) (hcs:zH9 cs=true)
  (h:yW0 c q o.dst f (r++cs.toL) S=some (p,u,hv))
  (hlt:∀ e∈u,e.1<zA4) (hdo:∀ d,o.dst=some d→d<c.n) (hh:∀ s,∀ e∈u,(S.get s).hung e.1=false) (huu:∀ e∈u,∀ e'∈u,e.2.hung e'.1=false) (hp:∀ q∈p,q)
  {next:Act→World→Prop}{Q:Exit→Act→World→Prop}(hnext:∀ v w' G',Rel c.n χ0 w0 (u++S) (a.put o.dst v) w' G'→next (a.put o.dst v) w'):o.wpIn (fz rd) 0 P a w next Q:=by
 obtain⟨s,want,g⟩:=q;have hg:g=true:=(hi s want g rfl).1 (hon s want g rfl);subst hg;unfold yW0 at h;split at h
 ·rename_i p0 d' R u0 hv0 d hl hd;cases hdd:(Nat.beq d' d&&zL1 R) with
  |false=>simp only[hdd,cond_false] at h;cases h
  |true =>
   simp only[hdd,cond_true,Option.some.injEq,Prod.mk.injEq] at h;have hpr:=(Bool.and_eq_true_iff.1 hdd).2;have hdd:=Nat.eq_of_beq_eq_true (Bool.and_eq_true_iff.1 hdd).1;subst hdd;obtain⟨rfl,rfl,_⟩:=h;have hkey:∀ e∈(d',R)::u0,∃ A,(e.1,A)∈(d',zG2 (some (s,want,true)) R)::zF3 true u0 [] S:=by
    intro e he;rcases List.mem_cons.1 he with he|he
    ·subst he;exact⟨_,List.mem_cons_self⟩
    ·obtain⟨A,hA⟩:=xP1 (g:=true) (S:=S) he;exact⟨A,List.mem_cons_of_mem _ hA⟩
   refine yM5 hc hR ho hf hr hcs hl (fun e he=>?_) hdo (fun k e he=>?_) (zO hi hon hp) (fun v w' G' h'=>?_)
   ·obtain⟨A,hA⟩:=hkey e he;have:=hlt (e.1,A) hA;exact this
   ·obtain⟨A,hA⟩:=hkey e he;have:=hh k (e.1,A) hA;exact this
   ·refine hnext v w' G' ?_;rw[hd] at h' ⊢;exact xP2 hpr hR.len (hdo _ hd) (by
     have h1:d'<zA4:=hlt _ List.mem_cons_self;cases h2:Nat.beq d' zA4 with
     |false=>rfl
     |true=>exact absurd (Nat.eq_of_beq_eq_true h2) (Nat.ne_of_lt h1)) hi (huu _ List.mem_cons_self _ List.mem_cons_self) h'
 ·cases h
end Go.Am
namespace Go.Am
open Go Go.RowKit
variable {rd:Option Nat}{gtab:GlobTab}{P:Program}{c:Ctx}{G:Gh}{w:World}{tm:Array Value}{n:Nat}{χ0:Nat→Nat→Nat}{w0:World}{S:St}{a:Act}
theorem xY1 {tm:Array Value}{s:Nat}{b:Bool}:tm.getD s undef=.bool b↔tm[s]?=some (.bool b):=by
 simp;cases h:tm[s]? with
 |none=>simp[undef]
 |some v=>simp
theorem xP3 {ops:Array Oper}{tm:Array Value}{j s:Nat}{b:Bool}(h:(ops.toList.map (·.dst))[j]?=some (some s)):(yielded ops tm j==some b)=true↔tm.getD s undef=.bool b:=by
 grind [bind,xY1,yielded]
theorem yM6 {ops:Array Oper}{o:Oper}{gd:Gd}(h:zP1 (ops.toList.map (·.dst)) S o.guard=some gd) :
  Region.wanted o (yielded ops a.tmps)=true↔yT7 a.tmps gd:=by
 unfold Region.wanted
 grind [zP1,Option.some.injEq,yT7,xP3]
theorem wH0 {s:Nat}:∀ {u:St},(∀ e∈u,e.1≠zA4)→St.has s u=true→∃ B,(s,B)∈u∧u.get s=B:=by
 intro u
 induction u with
 |nil=>intro _ h;cases h
 |cons e r ih =>
  obtain⟨k,A⟩:=e;intro hc h;cases hk:Nat.beq k s with
  |true =>
   have:=Nat.eq_of_beq_eq_true hk;subst this;exact⟨A,List.mem_cons_self,by simp[St.get]⟩
  |false =>
   have hr:St.has s r=true:=by simpa[St.has,hk] using h
   obtain⟨B,h1,h2⟩:=ih (fun e he=>hc e (List.mem_cons_of_mem _ he)) hr;have hcut:Nat.beq k zA4=false:=by
    have:=hc (k,A) List.mem_cons_self;cases h3:Nat.beq k zA4 with
    |false=>rfl
    |true=>exact absurd (Nat.eq_of_beq_eq_true h3) this
   exact⟨B,List.mem_cons_of_mem _ h1,by simp[St.get,hk,hcut,h2]⟩
theorem xY2 {gd:Gd}{o:Oper}{xs0 xs:List AVal}{p:List Prop}{u:St}{hv:Bool}(hgd:gd≠none)(h:yS7 c gd o S xs0 xs=some (p,u,hv)) :
  ∃ d A u0,o.dst=some d∧(u=[(d,zG2 gd A)]∨∃ s want g,gd=some (s,want,g)∧u=(d,zG2 gd A)::zF3 g u0 [] S):=by
 cases gd with
 |none=>exact absurd rfl hgd
 |some q =>
 unfold yS7 at h;split at h
 ·split at h
  ·unfold yH6 at h;split at h
   ·rename_i d C A B hd;split at h
    ·split at h
     ·simp only[Option.some.injEq,Prod.mk.injEq] at h;obtain⟨_,rfl,_⟩:=h;exact⟨d,_,[],hd,.inl rfl⟩
     ·cases h
    ·split at h
     all_goals
      simp only[Option.some.injEq,Prod.mk.injEq] at h;obtain⟨_,rfl,_⟩:=h;exact⟨d,_,[],hd,.inl rfl⟩
    ·cases h
   ·cases h
  ·cases h
 ·split at h
  ·simp_all
  ·simp_all
  ·cases h
 ·split at h
  ·simp_all
  ·cases h
 ·split at h
  ·rename_i f cs r;cases hpl:zH9 cs with
   |false=>simp only[hpl,cond_false] at h;cases h
   |true =>
    simp only[hpl,cond_true] at h;unfold yS6 at h;generalize hx:zX3 c (some q) o.dst f (r++cs.toL)=y at h;cases y with
    |some q' =>
     simp only[zC1,Option.some.injEq] at h;subst h;unfold zX3 at hx;split at hx
     ·rename_i p0 τ x d he hd;simp only[Option.some.injEq,Prod.mk.injEq] at hx;obtain⟨_,rfl,_⟩:=hx;exact⟨_,_,[],by assumption,.inl rfl⟩
     ·cases hx
     ·cases hx
    |none =>
     simp only[zC1] at h;generalize hcs:zJ2 c (some q) o.dst f (r++cs.toL) ((r++cs.toL).map (zB S)) S=x at h;cases x with
     |none =>
      simp only at h;unfold yP3 at h;simp only at h;generalize hcg:yW c (some q) o.dst f (r++cs.toL) S=z at h;cases z with
      |none =>
      simp only[zC1] at h;unfold yW0 at h;split at h
      ·rename_i p0 d' R u0 hv0 d hl hd;cases hdd:(Nat.beq d' d&&zL1 R) with
       |false=>simp only[hdd,cond_false] at h;cases h
       |true =>
        simp only[hdd,cond_true,Option.some.injEq,Prod.mk.injEq] at h;obtain⟨_,rfl,_⟩:=h;exact⟨d,_,u0,by assumption,.inr ⟨q.1,q.2.1,q.2.2,rfl,rfl⟩⟩
      ·cases h
      |some q' =>
      simp only[zC1,Option.some.injEq] at h;subst h;rename_i h;replace h:=hcg;unfold yW at h;split at h
      ·rename_i p0 d t l T m _ hl;simp only[Option.some.injEq,Prod.mk.injEq] at h;obtain⟨_,rfl,_⟩:=h;exact⟨_,_,[],yB5 hl,.inl rfl⟩
      ·rename_i p0 d τ x _ hl;simp only[Option.some.injEq,Prod.mk.injEq] at h;obtain⟨_,rfl,_⟩:=h;exact⟨_,_,[],yB5 hl,.inl rfl⟩
      ·cases h
     |some q' =>
      simp only[Option.some.injEq] at h;subst h;unfold zJ2 at hcs;split at hcs
      ·cases hcs
      ·rename_i co hco;generalize (yE9 co.outs 0 _&&zG5 co.res&&_&&_)=b at hcs;cases b with
       |false=>simp only[Bool.not_false,cond_true] at hcs;cases hcs
       |true =>
        simp only[Bool.not_true,cond_false] at hcs;split at hcs
        ·split at hcs
         ·rename_i d hd;cases hpr:zL1 co.res with
          |false=>simp only[hpr,cond_false] at hcs;cases hcs
          |true =>
           simp only[hpr,cond_true,Option.some.injEq,Prod.mk.injEq] at hcs;obtain⟨_,rfl,_⟩:=hcs;exact⟨_,_,[],by assumption,.inl rfl⟩
         ·cases hcs
        ·cases hcs
  ·cases h
 ·simp at h
 ·unfold zM4 at h;split at h
  ·cases h
  ·rename_i d hd;split at h
   ·cases h
   ·rename_i p' A hA;cases hf:yA2 o.op with
    |true =>
     simp only[hf,cond_true,Option.isNone_some,Bool.false_and,cond_false] at h;unfold gMk at h;split at h
     ·rename_i q' t l T m e;cases hb':(zW6 d S&&zC0 d S&&Nat.beq T d&&!t.isL) with
      |false=>simp only[hb',cond_false] at h;cases h
      |true =>
       simp only[hb',cond_true,Option.some.injEq,Prod.mk.injEq] at h;injection e with e
       subst e;exact⟨d,_,[],hd,.inl h.2.1.symm⟩
     ·cases h
    |false =>
     simp only[hf,cond_false,Option.some.injEq,Prod.mk.injEq] at h;obtain⟨_,rfl,_⟩:=h;exact⟨d,A,[],hd,.inl rfl⟩
theorem xF7 (hc:CtxOk P c)(hR:Rel c.n χ0 w0 S a w G){gd:Gd}(hi:xJ9 a.tmps gd)(hon:yT7 a.tmps gd){o:Oper}{p:List Prop}{u:St}{hv:Bool}
  (h:yS7 c gd o S ((zE7 o.op).map (arg S)) (((zE7 o.op).map (arg S)).map (zG gd))=some (p,u,hv))
  (hlt:∀ e∈u,e.1<zA4) (hdo:∀ d,o.dst=some d→d<c.n) (hh:∀ s,∀ e∈u,(S.get s).hung e.1=false) (huu:∀ e∈u,∀ e'∈u,e.2.hung e'.1=false) (hp:∀ q∈p,q)
  {next:Act→World→Prop}{Q:Exit→Act→World→Prop}(hnext:∀ v w' G',Rel c.n χ0 w0 (u++S) (a.put o.dst v) w' G'→next (a.put o.dst v) w'):o.wpIn (fz rd) 0 P a w next Q:=by
 have hargs:=xJ7 hR hon (zE7 o.op);unfold yS7 at h;split at h
 ·split at h
  ·rename_i x y z ho;rw[ho] at h;exact xN4 hR hc.n hi hon ho h hlt hdo hh huu hnext
  ·cases h
 ·split at h
  ·rename_i T x y A v hd ho hl;rw[ho] at hargs hl;simp only[zE7,List.map_cons,List.map_nil,List.cons.injEq,and_true] at hl hargs;obtain⟨rfl,rfl⟩:=hl;simp only[zH8] at hargs;exact xE8 hc hR ho hd hargs.1 hargs.2.1 h hlt hp hnext
  ·rename_i T x y z A k v hd ho hl;rw[ho] at hargs hl;simp only[zE7,List.map_cons,List.map_nil,List.cons.injEq,and_true] at hl hargs;obtain⟨rfl,rfl,rfl⟩:=hl;simp only[zH8] at hargs;exact yU1 hc hR ho hd hargs.1 hargs.2.1 hargs.2.2.1 h hlt hnext
  ·cases h
 ·rename_i hk;split at h
  ·rename_i d cl args ats A B hd ho hl;split at h
   ·rename_i T T' hats;cases hT:Nat.beq T T' with
    |false=>simp[hT] at h
    |true =>
     have:=Nat.eq_of_beq_eq_true hT;subst this;simp only[hT,cond_true] at h;have hcl:cl=.builtin .append:=by
      rw[ho] at hk;unfold zT0 at hk;split at hk<;>simp_all
     subst hcl;rw[ho] at hl hargs;simp only[zE7] at hl hargs;rw[hl] at hargs;have:∃ va vb,args.toList.map a.eval=[va,vb]∧zA G w a.tmps none A va∧zA G w a.tmps none B vb:=by
      generalize hm:args.toList.map a.eval=m at hargs;cases m with
      |nil=>simp[zH8] at hargs
      |cons va m =>
       cases m with
       |nil=>simp[zH8] at hargs
       |cons vb m =>
        cases m with
        |nil=>simp only[zH8] at hargs;exact⟨va,vb,rfl,hargs.1,hargs.2.1⟩
        |cons _ _=>simp[zH8] at hargs
     obtain⟨va,vb,hm,hA,hB⟩:=this;exact yD5 hc hR ho hats hd hm hA hB h hlt (hdo _ hd) hh hp hnext
   ·cases h
  ·cases h
 ·rename_i hk;split at h
  ·rename_i f cs r hl;cases hpl:zH9 cs with
   |false=>simp[hpl] at h
   |true =>
    simp only[hpl,cond_true] at h;have:∃ fo args ats,o.op=.call { callee:=.value fo,args,argTypes:=ats }:=by
     unfold zT0 at hk;split at hk<;>first|exact absurd hk (by decide) | (rename_i fo args ats ho;exact⟨_,_,_,ho⟩)
    obtain⟨fo,args,ats,ho⟩:=this;rw[ho] at hl hargs;simp only[zE7] at hl hargs;rw[hl] at hargs;simp only[List.map_cons,zH8] at hargs;unfold yS6 at h;generalize hx:zX3 c gd o.dst f (r++cs.toL)=y at h;cases y with
    |some q' =>
     simp only[zC1,Option.some.injEq] at h;subst h;exact xY0 hc hR hi hon ho hargs.1 hargs.2 hpl hx hlt hdo hh huu hp hnext
    |none =>
     simp only[zC1] at h;generalize hcs:zJ2 c gd o.dst f (r++cs.toL) ((r++cs.toL).map (zB S)) S=x at h;cases x with
     |some q' =>
      simp only[Option.some.injEq] at h;subst h;exact xO2 hc hR hi hon ho hargs.1 hargs.2 hpl hcs hlt hdo hh huu hp hnext
     |none =>
      simp only at h;unfold yP3 at h;cases gd with
      |some q =>
       simp only at h;generalize hcg:yW c (some q) o.dst f (r++cs.toL) S=z at h;cases z with
       |some q' =>
        simp only[zC1,Option.some.injEq] at h;subst h;exact xF6 hc hR hi hon ho hargs.1 hargs.2 hpl hcg hlt hdo hh huu hp hnext
       |none =>
        simp only[zC1] at h;exact xA2 hc hR hi hon ho hargs.1 hargs.2 hpl h hlt hdo hh huu hp hnext
      |none =>
       simp only[zC1] at h;generalize hl:yG9 c o.dst f (r++cs.toL) ((r++cs.toL).map (zB S)) S=z at h;cases z with
       |some q' =>
        simp only[Option.some.injEq] at h;subst h;exact zY3 hc hR ho hargs.1 hargs.2 hpl hl hlt hdo hh hp hnext
       |none =>
        simp only at h;generalize hl2:xC5 c o.dst f (r++cs.toL) S=z at h;cases z with
        |some q' =>
         simp only[Option.some.injEq] at h;subst h;exact xF4 hc hR ho hargs.1 hargs.2 hpl hl2 hlt hdo hh hp hnext
        |none =>
         simp only at h;exact yM5 hc hR ho hargs.1 hargs.2 hpl h hlt hdo hh hp hnext
  ·cases h
 ·split at h
  ·simp only[Option.some.injEq,Prod.mk.injEq] at h;exact (hp False (by rw[← h.1];simp)).elim
  ·cases h
 ·exact xN6 hc hR hi hon h hlt hdo hh huu hp hnext
theorem zO9 (hc:CtxOk P c)(hR:Rel c.n χ0 w0 S a w G){ops:Array Oper}{i:Nat}{o:Oper}(ho:ops[i]?=some o){p:List Prop}{u:St}{hv:Bool}
  (h:zT4 c (ops.toList.map (·.dst)) o S=some (p,u,hv))
  (hlt:∀ e∈u,e.1<zA4) (hdo:∀ d,o.dst=some d→d<c.n) (hh:∀ s,∀ e∈u,(S.get s).hung e.1=false) (huu:∀ e∈u,∀ e'∈u,e.2.hung e'.1=false) (hp:∀ q∈p,q)
  {next:Act→World→Prop}{Q:Exit→Act→World→Prop}(hnext:∀ v w' G',Rel c.n χ0 w0 (u++S) (a.put o.dst v) w' G'→next (a.put o.dst v) w'):wpOpIn (fz rd) 0 P ops Q i next a w:=by
 unfold zT4 at h;split at h
 ·grind
 ·rename_i gd hgd;have hi:=xN0 hR hgd;unfold wpOpIn;rw[ho];simp only;cases hof:zR c gd o with
  |some r =>
   rw[hof] at h;simp only[zC1,Option.some.injEq] at h;subst h;obtain⟨s,want,d,rfl,hd,rfl,rfl,rfl,_⟩:=yP4 hof;have hoff':a.tmps.getD s undef≠.bool want:=fun e=>Bool.noConfusion ((hi s want false rfl).1 e);have hw:¬ Region.wanted o (yielded ops a.tmps)=true:=fun e=>hoff' ((yM6 hgd).1 e s want false rfl);rw[if_neg hw,hd];have:=zS0 (A:=.junk) hR hc.n hi hoff' (hdo d hd) (fun s=>hh s _ (List.mem_singleton.2 rfl)) (huu _ (List.mem_singleton.2 rfl) _ (List.mem_singleton.2 rfl));rw[← hd] at this ⊢;exact⟨fun _ _=>trivial,hnext _ _ _ this⟩
  |none =>
  rw[hof] at h;simp only[zC1] at h;by_cases hw:Region.wanted o (yielded ops a.tmps)=true
  ·grind [xF7,yM6]
  ·rw[if_neg hw];have hoff:¬ yT7 a.tmps gd:=fun e=>hw ((yM6 hgd).2 e);cases gd with
   |none=>grind [yT7]
   |some q =>
    obtain⟨s,want,g⟩:=q;have hoff':a.tmps.getD s undef≠.bool want:=fun e=>hoff (by intro s' want' g' e';obtain⟨rfl,rfl,rfl⟩:=e';exact e);obtain⟨d,A,u0,hd,rfl|⟨s',want',g',e',rfl⟩⟩:=xY2 (by simp) h
    ·rw[hd];have:=zS0 (A:=A) hR hc.n hi hoff' (hdo d hd) (fun s=>hh s _ (List.mem_singleton.2 rfl)) (huu _ (List.mem_singleton.2 rfl) _ (List.mem_singleton.2 rfl));rw[← hd] at this ⊢;exact⟨fun _ _=>trivial,hnext _ _ _ this⟩
    ·obtain⟨rfl,rfl,rfl⟩:s=s'∧want=want'∧g=g':=by simpa using e'
     have hg:g=false:=by
      cases g with
      |false=>rfl
      |true=>exact absurd ((hi s want true rfl).2 rfl) hoff'
     subst hg;have hm:Rel c.n χ0 w0 (zF3 false u0 [] S++S) a w G:=zO2 (d1:=u0) (d2:=[]) hR;have hgm:∀ k,((zF3 false u0 [] S++S).get k).hung d=false:=fun k=>by
      cases hk:St.has k (zF3 false u0 [] S) with
      |true =>
       have hcut:∀ e∈zF3 false u0 [] S,e.1≠zA4:=fun e he=>Nat.ne_of_lt (hlt e (List.mem_cons_of_mem _ he));rw[yB2 hcut hk];obtain⟨B,hB,e⟩:=wH0 hcut hk;rw[e];exact huu _ (List.mem_cons_of_mem _ hB) _ List.mem_cons_self
      |false =>
       have hcut:∀ e∈zF3 false u0 [] S,e.1≠zA4:=fun e he=>Nat.ne_of_lt (hlt e (List.mem_cons_of_mem _ he));rw[zK8 hcut hk];exact hh k _ List.mem_cons_self
     have:=zS0 (A:=A) hm hc.n hi hoff' (hdo d hd) hgm (huu _ List.mem_cons_self _ List.mem_cons_self);rw[hd];rw[← hd] at this ⊢;exact⟨fun _ _=>trivial,hnext _ _ _ this⟩
end Go.Am
namespace Go.Am
open Go Go.RowKit
variable {rd:Option Nat}{gtab:GlobTab}{P:Program}{c:Ctx}{G:Gh}{w:World}{tm:Array Value}{n:Nat}{χ0:Nat→Nat→Nat}{w0:World}{S:St}{a:Act}
theorem wH1 {u u':St}(h:wK3 c S u=some u')(hR:Rel c.n χ0 w0 (u++S) a w G)(hn:c.n≤vNo)(hlt:∀ e∈u',e.1<zA4):∃ G',Rel c.n χ0 w0 (u'++S) a w G':=by
 unfold wK3 at h;split at h
 ·rename_i d t l T r;generalize (Nat.beq T d&&!(c.wr.any (Nat.beq d)))=b at h;cases b with
  |false=>grind
  |true =>
   generalize ht:(zC0 T (r++S)&&!t.isL)=b at h;cases b with
   |false=>grind
   |true =>
    simp  at ht;simp  at h;subst h;exact xW1 hR hn (hlt _ (List.mem_cons_self ..)) ht.1 ht.2
 grind
theorem xY3 {u u':St}(h:wK3 c S u=some u'):u=u'∨∃ d t l T r,u=(d,.own t l T true)::r∧u'=(d,.own t l T false)::r∧T=d∧zC0 T (r++S)=true:=by
 unfold wK3 at h;split at h
 ·rename_i d t l T r;generalize hb:(Nat.beq T d&&!(c.wr.any (Nat.beq d)))=b at h;cases b with
  |false=>grind
  |true =>
   simp only[Bool.and_eq_true] at hb;generalize ht:(zC0 T (r++S)&&!t.isL)=b at h;cases b with
   |false=>grind
   |true =>
    simp  at ht;simp  at h;exact .inr ⟨d,t,l,T,r,rfl,h.symm,Nat.eq_of_beq_eq_true hb.1,ht.1⟩
 grind
theorem wH2 (u:St)(h:Bool):wE4 c u h=u∨∃ d τ x,u=[(d,.val τ x)]∧wE4 c u h=[(d,.junk)]:=by
 unfold wE4;split
 ·rename_i d τ x;cases c.dead.any (Nat.beq d) with
  |true=>exact .inr ⟨d,τ,x,rfl,rfl⟩
  |false=>exact .inl rfl
 ·exact .inl rfl
theorem yM7 (hc:CtxOk P c)(hR:Rel c.n χ0 w0 S a w G){ops:Array Oper}{i:Nat}{o:Oper}(ho:ops[i]?=some o){p:List Prop}{u:St}{hv:Bool}
  (h:yH c (ops.toList.map (·.dst)) o S=some (p,u,hv))
  (hlt:∀ e∈u,e.1<zA4) (hdo:∀ d,o.dst=some d→d<c.n) (hh:∀ s,∀ e∈u,(S.get s).hung e.1=false) (huu:∀ e∈u,∀ e'∈u,e.2.hung e'.1=false) (hp:∀ q∈p,q)
  {next:Act→World→Prop}{Q:Exit→Act→World→Prop}(hnext:∀ v w' G',Rel c.n χ0 w0 (u++S) (a.put o.dst v) w' G'→next (a.put o.dst v) w'):wpOpIn (fz rd) 0 P ops Q i next a w:=by
 unfold yH at h;split at h
 ·grind
 ·rename_i p0 u0 h0 hst;cases hmk:wM0 o.op with
  |false =>
   simp only[hmk,cond_false,Option.some.injEq,Prod.mk.injEq] at h;obtain⟨rfl,rfl,rfl⟩:=h;rcases wH2 (c:=c) u0 h0 with e|⟨d,τ,x,rfl,e⟩
   ·rw[e] at hlt hh huu hnext;exact zO9 hc hR ho hst hlt hdo hh huu hp hnext
   ·rw[e] at hlt hh huu hnext;refine zO9 hc hR ho hst (fun e he=>?_) hdo (fun s e he=>?_) (fun e he e' he'=>?_) hp fun v w' G' hR'=>?_
    ·rw[List.mem_singleton] at he;subst he;have:=hlt (d,.junk) (List.mem_singleton.2 rfl);exact this
    ·rw[List.mem_singleton] at he;subst he;have:=hh s (d,.junk) (List.mem_singleton.2 rfl);exact this
    ·rw[List.mem_singleton] at he;subst he;rfl
    ·refine hnext v w' G' ⟨hR'.len,hR'.defers,fun s=>?_,hR'.frame,hR'.glob⟩;have hs:=hR'.reps s;simp only[List.cons_append,List.nil_append,St.get] at hs ⊢;cases hb:Nat.beq d s with
     |true=>simp only[cond_true,zA]
     |false=>simpa only[hb,cond_false] using hs
  |true =>
   simp[hmk,cond_true] at h;split at h
   ·rename_i u' hu';obtain⟨rfl,rfl,rfl⟩:=h;rcases xY3 hu' with rfl|⟨d,t,l,T,r,rfl,rfl,_,_⟩
    ·grind [zO9]
    ·refine zO9 hc hR ho hst (fun e he=>?_) hdo (fun s e he=>?_) (fun e he e' he'=>?_) hp fun v w' G' hR'=>?_
     ·grind [List.mem_cons_self,List.mem_cons_of_mem]
     ·grind [List.mem_cons_self,List.mem_cons_of_mem]
     ·have hk:∀ e∈((d,AVal.own t l T true)::r),∃ e''∈((d,AVal.own t l T false)::r),e''.1=e.1∧∀ q,e''.2.hung q=e.2.hung q:=by
       intro e he;rcases List.mem_cons.1 he with rfl|he
       ·exact⟨_,List.mem_cons_self ..,rfl,fun q=>rfl⟩
       ·exact⟨e,List.mem_cons_of_mem _ he,rfl,fun q=>rfl⟩
      grind
     ·obtain⟨G'',hR''⟩:=wH1 hu' hR' hc.n hlt
      grind
   grind
end Go.Am
namespace Go.Am
open Go Go.RowKit
variable {rd:Option Nat}{gtab:GlobTab}{P:Program}{c:Ctx}{G:Gh}{w:World}{tm:Array Value}{n:Nat}{χ0:Nat→Nat→Nat}{w0:World}{S:St}{a:Act}
theorem yB7 {S':St}(h:∀ s,S'.get s=S.get s)(hR:Rel n χ0 w0 S a w G):Rel n χ0 w0 S' a w G:=
 ⟨hR.len,hR.defers,fun s=>by rw[h];exact hR.reps s,hR.frame,hR.glob⟩
def uAt (ts:List Tr)(i:Nat):St:=match ts[i]? with|some t=>t.u|none=>[]
def exe (ts:List Tr):List Nat→St
 |[]=>[]
 |i::l=>uAt ts i++exe ts l
def tex (ts:List Tr):Nat→St
 |0=>[]
 |k+1=>uAt ts k++tex ts k
theorem yB8 {t:Tr}{ts:List Tr}:∀ {k:Nat},tex (t::ts) (k+1)=tex ts k++t.u:=by
 intro k
 induction k<;>grind [tex,uAt]
def Fam [GlobTab] (c:Ctx)(dsts:List (Option Nat))(ops:List Oper)(S U:St)(ts:List Tr)(p:List Prop):Prop:=
 ∀ i o,ops[i]?=some o→∃ pi hv,yH c dsts o ((tex ts i++U)++S)=some (pi,uAt ts i,hv)∧ts[i]?=some (yO3 dsts o ((tex ts i++U)++S) (uAt ts i) hv) ∧
  (∀ q∈pi,q∈p)∧(∀ e∈uAt ts i++(tex ts i++U),xL3 (uAt ts i) e.2=false)∧(∀ e∈uAt ts i,e.1<zA4)∧∀ d,o.dst=some d→d<c.n
theorem xP4 {dsts:List (Option Nat)}:∀ {ops:List Oper}{U:St}{p:List Prop}{U':St}{ts:List Tr},xI7 c dsts ops S U=some (p,U',ts) →
  ts.length=ops.length∧U'=tex ts ops.length++U∧Fam c dsts ops S U ts p:=by
 intro ops
 induction ops with
 |nil =>
  intro U p U' ts h;obtain⟨rfl,rfl,rfl⟩:=h;exact⟨rfl,rfl,fun i o ho=>by grind⟩
 |cons o r ih =>
  intro U p U' ts h;unfold xI7 at h;split at h
  ·grind
  ·rename_i p0 u hv hst;rw[St.force_eq] at h;cases hb:((u++U).any (fun e=>xL3 u e.2)||(!(u.all fun e=>Nat.blt e.1 zA4)||!(wP4 c o.dst))) with
   |true=>simp only[hb,cond_true] at h;grind
   |false =>
    simp only[hb,cond_false] at h;split at h
    ·grind
    ·rename_i p' u' t' hr;simp only[Option.some.injEq,Prod.mk.injEq] at h;obtain⟨rfl,rfl,rfl⟩:=h;obtain⟨h1,h2,h3⟩:=ih hr;simp only[Bool.or_eq_false_iff,Bool.not_eq_false',List.any_eq_false,List.all_eq_true] at hb;refine⟨by grind,by grind [List.length_cons,yB8,yO3],fun i o' ho=>?_⟩;cases i with
     |zero =>
      simp only[List.getElem?_cons_zero,Option.some.injEq] at ho;subst ho;refine⟨p0,hv,?_,?_,fun q hq=>List.mem_append_left _ hq,fun e he=>?_,fun e he=>?_,fun d hd=>?_⟩
      ·grind [tex,uAt,yO3]
      ·simp[tex,uAt,yO3]
      ·grind [tex,uAt,yO3]
      ·have:=hb.2.1 e (by simpa[uAt,yO3] using he);exact Nat.le_of_ble_eq_true this
      ·have:=hb.2.2;rw[hd] at this;exact Nat.le_of_ble_eq_true this
     |succ i =>
      simp only[List.getElem?_cons_succ] at ho;obtain⟨pi,hv',q1,q2,q3,q4,q5⟩:=h3 i o' ho;have e1:∀ t:Tr,uAt (t::t') (i+1)=uAt t' i:=fun t=>by simp[uAt]
      refine⟨pi,hv',?_,?_,fun q hq=>List.mem_append_right _ (q3 q hq),fun e he=>?_,fun e he=>?_,q5.2⟩
      ·rw[yB8,e1];simpa[yO3] using q1
      ·rw[yB8,e1];simpa[yO3] using q2
      ·rw[yB8,e1] at he;rw[e1];exact q4 e (by simpa[yO3] using he)
      ·rw[e1] at he;exact q5.1 e he
theorem zH7:∀ {A:AVal}{d:Nat},A.hasOpt=false→A.hung d=false:=by
 intro A
 induction A<;>grind [AVal.hasOpt,Bool.or_eq_false_iff,AVal.hung]
theorem zQ5 {u:St}{A:AVal}(h:xL3 u A=false):∀ e∈u,A.hung e.1=false:=by
 grind [xL3,List.any_eq_false]
theorem zS7 {q:AVal→Prop}(hj:q .junk):∀ {S:St}{s:Nat},(∀ e∈S,q e.2)→q (S.get s):=by
 intro S
 induction S<;>grind [St.get]
section region
variable {ops:Array Oper}{ts:List Tr}{p:List Prop}
theorem yU6 (hc:CtxOk P c)(hF:Fam c (ops.toList.map (·.dst)) ops.toList S [] ts p)(hS:∀ e∈S,e.2.hasOpt=false)(hp:∀ q∈p,q){i:Nat}{o:Oper}(ho:ops[i]?=some o)
  (hR:Rel c.n χ0 w0 (tex ts i++S) a w G){next:Act→World→Prop}{Q:Exit→Act→World→Prop}
  (hnext:∀ v w' G',Rel c.n χ0 w0 (uAt ts i++(tex ts i++S)) (a.put o.dst v) w' G'→next (a.put o.dst v) w'):wpOpIn (fz rd) 0 P ops Q i next a w:=by
 obtain⟨pi,hv,q1,q2,q3,q4,q5⟩:=hF i o (by grind);simp only[List.append_nil] at q1 q2 q4;refine yM7 hc hR ho q1 q5.1 q5.2 (fun s e he=>?_) (fun e he e' he'=>?_) (fun q hq=>hp q (q3 q hq)) hnext
 ·refine zS7 (q:=fun A=>A.hung e.1=false) rfl fun e' he'=>?_;rcases List.mem_append.1 he' with h|h
  ·exact zQ5 (q4 e' (List.mem_append_right _ h)) e he
  ·exact zH7 (hS e' h)
 grind [zQ5,List.mem_append_left]
theorem wH3 {K:Act→Prop}(hK:∀ o∈ops.toList,∀ a v,K a→K (a.put o.dst v))(hc:CtxOk P c)(hF:Fam c (ops.toList.map (·.dst)) ops.toList S [] ts p)(hS:∀ e∈S,e.2.hasOpt=false)(hp:∀ q∈p,q){Q:Exit→Act→World→Prop}
  (hQ:∀ a' w' G',Rel c.n χ0 w0 (tex ts ops.size++S) a' w' G'→K a'→Q .normal a' w') :
  ∀ k i,i+k=ops.size→∀ a w G,Rel c.n χ0 w0 (tex ts i++S) a w G→K a→wpOpsIn (fz rd) 0 P ops Q (List.range' i k) a w:=by
 intro k
 induction k with
 |zero=>grind [wpOpsIn]
 |succ k ih =>
  intro i e a w G hR hk;have hlt:i<ops.size:=by omega
  refine yU6 hc hF hS hp (Array.getElem?_eq_getElem hlt) hR fun v w' G' hR'=>?_;refine ih (i+1) (by omega) _ _ G' ?_ (hK _ (by simp) _ _ hk)
  grind [tex,List.append_assoc]
end region
end Go.Am
