/- font.lines: a loop over the parts of a text: the function's contract. No condition beside the rounds' own. -/
import Derived.Test.YtmbjipigimohbaaGreatDoorDckP1
namespace Go.Proofs.YtmbjipigimohbaaGreatDoor.Am
open Go Go.Am Go.Proofs Go.RowKit Go.Shelf
def vE (p0:D239)(p2 p3:Int)(l:List (List UInt8))(x:List UInt8):List (List UInt8):=(tM2 p0 p2 p3 l x).2.2.2.1
def f162 (p0:D239)(p1:List UInt8)(p2 p3:Int):List (List UInt8):=(wW2 10 p1).foldl (vE p0 p2 p3) []
def uI5 (p0:D239)(p1:List UInt8)(p2 p3:Int):Prop:=(List.length p1:Int)≤9223372036854775807∧wD5 (vT0 p0 p2 p3) (vE p0 p2 p3) (wW2 10 p1) []
instance (p0:D239)(p1:List UInt8)(p2 p3:Int):Decidable (uI5 p0 p1 p2 p3):=by
  unfold uI5;exact @instDecidableAnd _ _ inferInstance (wD6 (fun l x=>inferInstance) _ _)
def uN5 (n:Nat)(p0:D239)(p2 p3:Int)(l:List (List UInt8)):List (Nat×Nat×AVal):=
  [(4,n,.box (.ptr T239) (.val (.ptr T239) p0)),(6,n+1,.box (.int .i64) (.val (.int .i64) p2)),(7,n+2,.box (.int .i64) (.val (.int .i64) p3)),(9,n+3,.box (.sl .str) (.own .str l 400900 false))]
theorem rU2 {χ0:Nat→Nat→Nat}{w0:World}{lo hi n:Nat}{p0:D239}{p2 p3:Int}{l:List (List UInt8)}{G:Gh}{W:World}(h:JB χ0 w0 lo hi (uN5 n p0 p2 p3 l) G W)(x:List UInt8)(tm:Array Value)(hlen:tm.size=57)
    (h4:tm.getD 4 undef=.pointer (some ⟨n,0,none⟩)) (h6:tm.getD 6 undef=.pointer (some ⟨n+1,0,none⟩)) (h7:tm.getD 7 undef=.pointer (some ⟨n+2,0,none⟩)) (h9:tm.getD 9 undef=.pointer (some ⟨n+3,0,none⟩)) (h10:tm.getD 10 undef=.string ⟨x.toArray⟩) :
    Rel 57 G.χ W (zB5 tE8 (p0,p2,p3,l,x,())) { tmps:=tm,defers:=[] } W G:=by
  refine⟨hlen,rfl,fun s=>?_,xI1,h.glob⟩;have hr:=h.reps;have key:∀ (A:AVal) (v:Value),A.hasOpt=false→zA G W #[] (some s) A v→zA G W tm (some s) A v:=fun A v ho hA=>zK4 (fun d hd=>by grind [zH7]) hA;simp only[zB5,tE8,wI9,xB6,List.cons_append,List.nil_append,St.get];by_cases e4:s=4
  · subst e4;rw[h4];exact key _ _ rfl (hr _ (List.mem_cons_self ..))
  by_cases e6:s=6
  · subst e6;rw[h6];exact key _ _ rfl (hr _ (List.mem_cons_of_mem _ (List.mem_cons_self ..)))
  by_cases e7:s=7
  · subst e7;rw[h7];exact key _ _ rfl (hr _ (List.mem_cons_of_mem _ (List.mem_cons_of_mem _ (List.mem_cons_self ..))))
  by_cases e9:s=9
  · subst e9;rw[h9];exact key _ _ rfl (hr _ (List.mem_cons_of_mem _ (List.mem_cons_of_mem _ (List.mem_cons_of_mem _ (List.mem_cons_self ..)))))
  by_cases e10:s=10
  · subst e10;rw[h10];exact VRep_str.2 rfl
  grind [Nat.beq,absurd,Nat.eq_of_beq_eq_true,zA]
theorem rM9 {χ0:Nat→Nat→Nat}{w0:World}{lo hi n:Nat}{p0:D239}{p2 p3:Int}{l:List (List UInt8)}{x:List UInt8}{G G':Gh}{W W':World}{a a':Act}{S:St}(h:JB χ0 w0 lo hi (uN5 n p0 p2 p3 l) G W)(hR:Rel 57 G.χ W S a' W' G')
    (hk:∀ i∈[4,6,7,9],a'.tmps.getD i undef=a.tmps.getD i undef) (hz:zK0 tU6 S=some (tM2 p0 p2 p3 l x))
    (h4:a.tmps.getD 4 undef=.pointer (some ⟨n,0,none⟩)) (h6:a.tmps.getD 6 undef=.pointer (some ⟨n+1,0,none⟩)) (h7:a.tmps.getD 7 undef=.pointer (some ⟨n+2,0,none⟩)) (h9:a.tmps.getD 9 undef=.pointer (some ⟨n+3,0,none⟩)) :
    JB χ0 w0 lo hi (uN5 n p0 p2 p3 (vE p0 p2 p3 l x)) G' W'∧∀ b,lo≤b→b≤hi→W'.heap[b]?=W.heap[b]?:=by
  refine h.step hR.frame hR.glob ?_;have key:∀ {i:Nat}{s:Sh}{y:s.den},s.parse (S.get i)=some y→i∈[4,6,7,9]→zA G' W' #[] (some i) (s.mk y) (a.tmps.getD i undef):=by
    intro i s y hp hi;have:=zE4 hp (hR.reps i)
    grind [zK4,zH7,zW2]
  have hp:∃ y4 y6 y7 y9,(Sh.box (.ptr T239) (.val (.ptr T239))).parse (S.get 4)=some y4∧(Sh.box (.int .i64) (.val (.int .i64))).parse (S.get 6)=some y6∧(Sh.box (.int .i64) (.val (.int .i64))).parse (S.get 7)=some y7 ∧
      (Sh.box (.sl .str) (.own .str 400900 false)).parse (S.get 9)=some y9∧(y4,y6,y7,y9,())=tM2 p0 p2 p3 l x:=by
    unfold tU6 zK0 at hz;split at hz
    · grind [zK0]
    grind
  obtain⟨y4,y6,y7,y9,q4,q6,q7,q9,e⟩:=hp;obtain⟨rfl,rfl,rfl,rfl⟩:=e;intro e he;simp[uN5] at he;rcases he with rfl|rfl|rfl|rfl
  · have:=key q4 (by simp);rw[h4] at this;exact this
  · have:=key q6 (by simp);rw[h6] at this;exact this
  · have:=key q7 (by simp);rw[h7] at this;exact this
  · have:=key q9 (by simp);rw[h9] at this;exact this
theorem rD0 {Q:Exit→Act→World→Prop}{χ0:Nat→Nat→Nat}{w0:World}{assign body:Code}(hbody:body=vH2)(a:Act)(n m:Nat)(W0:World)(p0:D239)(p1:List UInt8)(p2 p3:Int)(hok:uI5 p0 p1 p2 p3)
    (hassign:∀ (l:Nat) (tm:Array Value) (W:World) (K:Act→World→Prop),K { tmps:=tm.setIfInBounds 10 (tm.getD 18 undef),defers:=[] } W→assign.wpIn (Fence.wide.inRound l) 0 Tryz.prog (Exit.then K (fun _ _ _=>False)) { tmps:=tm,defers:=[] } W)
    (hlen:a.tmps.size=57) (h17:a.eval (.tmp 17)=.func (.func 203) #[] #[.pointer (some ⟨m+1,0,none⟩),.pointer (some ⟨m,0,none⟩),.pointer (some ⟨m+2,0,none⟩)])
    (h4:a.tmps.getD 4 undef=.pointer (some ⟨n,0,none⟩)) (h6:a.tmps.getD 6 undef=.pointer (some ⟨n+1,0,none⟩)) (h7:a.tmps.getD 7 undef=.pointer (some ⟨n+2,0,none⟩)) (h9:a.tmps.getD 9 undef=.pointer (some ⟨n+3,0,none⟩))
    (hm:W0.heap.size=m+3) (s:ByteArray) (hs:s=⟨p1.toArray⟩) (hIt:It W0 (m+1) m (m+2) 10 s)
    (hJ:∀ L,∃ G,JB χ0 w0 m (m+4) (uN5 n p0 p2 p3 []) G ((W0.alloc (.deferred (some []))).alloc (.loop L)))
    (hQ:∀ W G,JB χ0 w0 m (m+4) (uN5 n p0 p2 p3 (f162 p0 p1 p2 p3)) G W→W.heap[m+3]?=some (.deferred (some []))→Q .normal { a with defers:=[{ target:=.collected (m+3),args:=#[] }]++a.defers } W) :
    (Code.rangeFunc (.tmp 17) #[18] assign body).wpIn Fence.wide 2 Tryz.prog Q a W0:=by
  subst hbody;refine wpIn_rangeFunc ?_;intro fn hfn;obtain⟨rec,hrec⟩:∃ rec:LoopState→Option Code→Loop,rec=fun st pe=>{ state:=st,pending:=pe,fn,tmps:=a.tmps,params:=#[18],assign,body:=vH2,defers:=W0.heap.size }:=⟨_,rfl⟩;obtain⟨W1,hW1⟩:∃ W1,(W0.alloc (.deferred (some []))).alloc (.loop (rec .ready none))=W1:=⟨_,rfl⟩;have hL1:W1.heap[m+4]?=some (.loop (rec .ready none)):=by
    grind [World.alloc_heap_new,World.size_alloc]
  have hK1:W1.heap[m+3]?=some (.deferred (some [])):=by
    grind [Below.heap_alloc,World.size_alloc,World.alloc_heap_new]
  have hold:∀ k,k<m+3→W1.heap[k]?=W0.heap[k]?:=fun k hk=>by
    grind [Below.heap_alloc,World.size_alloc]
  have hItmono:∀ {A B:World}{s:ByteArray},(∀ k,m≤k→k≤m+2→B.heap[k]?=A.heap[k]?)→It A (m+1) m (m+2) 10 s→It B (m+1) m (m+2) 10 s:=by
    grind [It,World.cell?,World.frozen?]
  refine⟨m+4,[{ target:=.collected (m+3),args:=#[] }],W1,{ target:=.fn (.func 203) #[.pointer (some ⟨m+1,0,none⟩),.pointer (some ⟨m,0,none⟩),.pointer (some ⟨m+2,0,none⟩)],args:=#[.func (.yield (m+4)) #[] #[]] },W1,203,
    #[.func (.yield (m+4)) #[] #[]]++#[.pointer (some ⟨m+1,0,none⟩),.pointer (some ⟨m,0,none⟩),.pointer (some ⟨m+2,0,none⟩)],W1,?_,?_,?_,?_,fun _=>by omega,?_⟩
  · have:=run_enterLoop_outer (P:=Tryz.prog) (w:=W0) fn a.tmps #[18] assign vH2;simp_all
  · simp[resolve,h17];simp[go_sem]
  · intro f' _;trivial
  · simp_all [invoke]
  · have hxs:wW2 10 p1=wW2 10 s.data.toList:=by grind
    have hs0:s.size≤maxLen:=by
      have:=hok.1;rw[hs];show p1.toArray.size≤maxLen;unfold maxLen
      grind
    obtain⟨G1,hG1⟩:=hJ (rec .ready none);rw[hW1] at hG1;refine (sP9 (m+4) (m+1) m (m+2) (by omega) (by omega) 10
      (fun pre W=>(∃ G,JB χ0 w0 m (m+4) (uN5 n p0 p2 p3 (pre.foldl (vE p0 p2 p3) [])) G W)∧W.heap[m+4]?=some (.loop (rec .ready none))∧W.heap[m+3]?=some (.deferred (some [])))
      (wW2 10 p1) ?_ ?_ s hs0 hxs W1 ⟨⟨G1,hG1⟩,hL1,hK1⟩ (hItmono (fun k _ hk=>hold k (by omega)) hIt)).mono ?_
    · rintro pre W v ⟨⟨G,hG⟩,hl,hk⟩;exact⟨⟨G,hG.setCell (Nat.le_refl _) (by omega) v⟩,(Below.heap_setCell W ⟨m,0,none⟩ v (m+4) (show m+4≠m by omega)).trans hl,(Below.heap_setCell W ⟨m,0,none⟩ v (m+3) (show m+3≠m by omega)).trans hk⟩
    · rintro pre x rest W s' hx ⟨⟨G,hG⟩,hl,hk⟩ hI;have hlt:m+4<W.heap.size:=(Array.getElem?_eq_some_iff.1 hl).1;have hy:=run_yield (P:=Tryz.prog) (args:=#[.string ⟨x.toArray⟩]) hl (by grind);have hy:(Instr.yield (m+4) #[.string ⟨x.toArray⟩]).run Tryz.prog W=.ok (.round (m+4) fn (a.tmps.setIfInBounds 18 (.string ⟨x.toArray⟩)) assign vH2) W:=by
        simp_all
      refine⟨fn,_,assign,vH2,hy,roundIn_of_wpIn hfn (hassign _ _ W _ ⟨_,run_beginRound hl (by grind),?_⟩)⟩;have hG2:=hG.putObj (b:=m+4) (by omega) (Nat.le_refl _) (.loop { rec .ready none with state:=.busy })
      have hl2:(W.putObj (m+4) (.loop { rec .ready none with state:=.busy })).heap[m+4]?=some (.loop { rec .ready none with state:=.busy }):=World.putObj_heap_same hlt
      have htm:∀ i,i≠18→i≠10→((a.tmps.setIfInBounds 18 (.string ⟨x.toArray⟩)).setIfInBounds 10 ((a.tmps.setIfInBounds 18 (.string ⟨x.toArray⟩)).getD 18 undef)).getD i undef=a.tmps.getD i undef:=by
        intro i h1 h2;simp;rw[Array.getElem?_setIfInBounds_ne (Ne.symm h2),Array.getElem?_setIfInBounds_ne (Ne.symm h1)]
      have ht10:((a.tmps.setIfInBounds 18 (.string ⟨x.toArray⟩)).setIfInBounds 10 ((a.tmps.setIfInBounds 18 (.string ⟨x.toArray⟩)).getD 18 undef)).getD 10 undef=.string ⟨x.toArray⟩:=by
        simp only[Array.getD_eq_getD_getElem?];rw[Array.getElem?_setIfInBounds_self_of_lt (by simp[hlen]),Array.getElem?_setIfInBounds_self_of_lt (by simp[hlen])];rfl
      have hokr:vT0 p0 p2 p3 (pre.foldl (vE p0 p2 p3) []) x:=wR1 (by have:=hok.2;rw[hx] at this;exact this);have hRel:=rU2 hG2 x ((a.tmps.setIfInBounds 18 (.string ⟨x.toArray⟩)).setIfInBounds 10 ((a.tmps.setIfInBounds 18 (.string ⟨x.toArray⟩)).getD 18 undef)) (by simp[hlen])
        ((htm 4 (by omega) (by omega)).trans h4) ((htm 6 (by omega) (by omega)).trans h6) ((htm 7 (by omega) (by omega)).trans h7) ((htm 9 (by omega) (by omega)).trans h9) ht10
      refine wpIn_mono (qH3 (p0,p2,p3,pre.foldl (vE p0 p2 p3) [],x,()) hokr (some (m+4)) _ _ _ _ _ hRel) ?_;rintro e a' W' ⟨rfl,hkeep,G',d,hR',hz⟩;obtain⟨hG3,hsame⟩:=rM9 (x:=x) hG2 hR' hkeep hz ((htm 4 (by omega) (by omega)).trans h4) ((htm 6 (by omega) (by omega)).trans h6) ((htm 7 (by omega) (by omega)).trans h7) ((htm 9 (by omega) (by omega)).trans h9);have hl3:W'.heap[m+4]?=some (.loop { rec .ready none with state:=.busy }):=(hsame (m+4) (by omega) (Nat.le_refl _)).trans hl2
      have hk3:W'.heap[m+3]?=some (.deferred (some [])):=(hsame (m+3) (by omega) (by omega)).trans ((World.putObj_heap_other (by omega)).trans hk);have hend:=run_endRound (P:=Tryz.prog) none hl3;refine⟨_,_,hend,rfl,⟨⟨G',?_⟩,?_,(World.putObj_heap_other (by omega)).trans hk3⟩,?_⟩
      · rw[List.foldl_append];exact hG3.putObj (by omega) (Nat.le_refl _) _
      · rw[World.putObj_heap_same (Array.getElem?_eq_some_iff.1 hl3).1,hrec];rfl
      · refine hItmono (fun k h1 h2=>?_) hI;rw[World.putObj_heap_other (by omega),hsame k h1 (by omega),World.putObj_heap_other (by omega)]
    · rintro e W ⟨⟨v,rfl⟩,⟨G,hG⟩,hl,hk⟩;refine⟨none,_,by have:=run_endLoop (P:=Tryz.prog) hl (by rw[hrec];simp);rw[hrec] at this;exact this,?_⟩;exact hQ _ G (hG.putObj (by omega) (Nat.le_refl _) _) ((World.putObj_heap_other (by omega)).trans hk)
theorem rD1 {G0:Gh}{w W:World}{p0:D239}{p2 p3:Int}{v1:Value}(hglob:GlobOk G0.χ w)(hC:zB6 G0.χ w (.ptr T239) p0 [v1])(hold:∀ k,k<w.heap.size→W.heap[k]?=w.heap[k]?)(h4:W.heap[w.heap.size]?=some (.cells #[v1] 209 (0,0)))
    (h6:W.heap[w.heap.size+1]?=some (.cells #[.int .i64 p2] 3 (0,0))) (h7:W.heap[w.heap.size+2]?=some (.cells #[.int .i64 p3] 3 (0,0))) (h9:W.heap[w.heap.size+3]?=some (.cells #[.slice none 0 0] 211 (0,0))) (hsz:w.heap.size+8<W.heap.size)
    (hst:W.os=w.os∧W.tape=w.tape∧W.output=w.output):∃ G,JB G0.χ w (w.heap.size+4) (w.heap.size+4+4) (uN5 w.heap.size p0 p2 p3 []) G W:=by
  obtain⟨n,hn⟩:∃ n,w.heap.size=n:=⟨_,rfl⟩;rw[hn] at hold h4 h6 h7 h9 hsz ⊢
  let G:Gh:={ χ:=fun b o=>if b=n then zD8 4 else if b=n+1 then zD8 6 else if b=n+2 then zD8 7 else if b=n+3 then zD8 9 else if n≤b then 1 else G0.χ b o,
                  β:=fun s=>if s=4 then n else if s=6 then n+1 else if s=7 then n+2 else n+3,γ:=G0.γ }
  have hχ:∀ b o,b<n→G.χ b o=G0.χ b o:=fun b o hb=>by
    show (if b=n then zD8 4 else if b=n+1 then zD8 6 else if b=n+2 then zD8 7 else if b=n+3 then zD8 9 else if n≤b then 1 else G0.χ b o)=_;rw[if_neg (by omega),if_neg (by omega),if_neg (by omega),if_neg (by omega),if_neg (by omega)]
  have hc:∀ b o,b<n→W.cell? ⟨b,o,none⟩=w.cell? ⟨b,o,none⟩:=fun b o hb=>by grind [World.cell?]
  have hprot:∀ b o,b<w.heap.size→G0.χ b o=0→G.χ b o=0∧W.cell? ⟨b,o,none⟩=w.cell? ⟨b,o,none⟩:=fun b o hb h0=>⟨by grind,hc b o (by omega)⟩;refine⟨G,⟨hst.1,hst.2.1,hst.2.2,by omega,fun b hb _=>hold b (by omega),fun b o hb _=>⟨hχ b o (by omega),hc b o (by omega)⟩⟩,zI5 hprot hglob,?_,?_,by omega,by omega⟩
  · intro e he;simp[uN5,List.mem_cons,List.not_mem_nil,or_false] at he;rcases he with rfl|rfl|rfl|rfl
    · refine⟨fun _=>rfl,⟨by kernel_rfl,rfl⟩,#[v1],209,h4,?_,fun o=>if_pos rfl⟩;exact⟨rfl,rfl,zA5 hprot hC⟩
    · refine⟨fun _=>rfl,⟨rfl,rfl⟩,_,3,h6,?_,fun o=>?_⟩
      · refine⟨rfl,rfl,?_⟩;rfl
      · show (if n+1=n then zD8 4 else if n+1=n+1 then zD8 6 else _)=_;rw[if_neg (by omega),if_pos rfl]
    · refine⟨fun _=>rfl,⟨rfl,rfl⟩,_,3,h7,?_,fun o=>?_⟩
      · refine⟨rfl,rfl,?_⟩;rfl
      · show (if n+2=n then zD8 4 else if n+2=n+1 then zD8 6 else if n+2=n+2 then zD8 7 else _)=_;rw[if_neg (by omega),if_neg (by omega),if_pos rfl]
    · refine⟨fun _=>rfl,⟨rfl,rfl⟩,_,211,h9,?_,fun o=>?_⟩
      · exact⟨rfl,_,rfl,.inl ⟨⟨rfl,rfl⟩,.inl ⟨rfl,rfl⟩⟩⟩
      · show (if n+3=n then zD8 4 else if n+3=n+1 then zD8 6 else if n+3=n+2 then zD8 7 else if n+3=n+3 then zD8 9 else _)=_;rw[if_neg (by omega),if_neg (by omega),if_neg (by omega),if_pos rfl]
  · intro b h1 h2 o;show (if b=n then zD8 4 else if b=n+1 then zD8 6 else if b=n+2 then zD8 7 else if b=n+3 then zD8 9 else if n≤b then 1 else G0.χ b o)=_;rw[if_neg (by omega),if_neg (by omega),if_neg (by omega),if_neg (by omega),if_pos (by omega)]
theorem sW9 {χ0:Nat→Nat→Nat}{w0 W:World}{lo hi n:Nat}{p0:D239}{p2 p3:Int}{l:List (List UInt8)}{G:Gh}(h:JB χ0 w0 lo hi (uN5 n p0 p2 p3 l) G W):∃ v,W.cell? ⟨n+3,0,none⟩=some v∧zA G W #[] none (.val (.sl .str) l) v:=by
  have:=h.reps (9,n+3,.box (.sl .str) (.own .str l 400900 false)) (by simp[uN5]);obtain⟨hp,_,cur,e,h1,h2,_⟩:=this;replace hp:=hp (by show 9<vNo;decide);obtain⟨_,v,hv,ho⟩:=h2;refine⟨v,?_,?_⟩
  · simp only[World.cell?];have:cur=#[v]:=by grind
    grind
  · simp only[zA];rw[zC6 rfl];exact zE1 ho
set_option maxHeartbeats 4000000 in
set_option maxRecDepth 100000 in
theorem rU3 (p0:D239)(p1:List UInt8)(p2 p3:Int)(hok:uI5 p0 p1 p2 p3)(G0:Gh)(w:World)(v1:Value)(hglob:GlobOk G0.χ w)(h1:zT2 G0.χ w (.ptr T239) p0 v1) :
    Calls Tryz.prog 162 #[v1,.string ⟨p1.toArray⟩,.int .i64 p2,.int .i64 p3] w fun e w'=>∃ r G',e=.returned r∧Frame0 G0.χ w G'.χ w'∧zA G' w' #[] none (.val (.sl .str) (f162 p0 p1 p2 p3)) r:=by
  refine (callsIn_wide (n:=2)).1 ?_;rw[zC6 rfl] at h1;have hC:=h1;unfold zB6 at h1;obtain⟨b0,o0,us,hv,_,_⟩:=h1;injection hv with hv _
  subst hv;have Hok:=Lib.hid hok;have HC:=Lib.hid hC;clear hok hC;obtain⟨s,hs⟩:∃ s:ByteArray,(⟨p1.toArray⟩:ByteArray)=s:=⟨_,rfl⟩;rw[hs];have Hs:=Lib.hid hs;clear hs;refine callsIn_of_wp_marks Tryz.func162 rfl trivial ?_ rfl;simp only[Tryz.ntmps162,List.size_toArray,List.length_cons,List.length_nil,Nat.reduceAdd,Nat.reduceSub,Array.replicate_succ,Array.replicate_zero,List.push_toArray,List.append_toArray,List.nil_append,List.cons_append]
  gi_wp2_with (refine⟨trivial,?_⟩;gi_at_call 180;refine (callsIn_wide.2 (sW7 _ _ _)).mono ?_;rintro e w' ⟨rfl,rfl⟩)
  have hsz4:((((w.alloc (.cells #[.pointer (some ⟨b0,o0,none⟩)] 209)).alloc (.cells #[.int .i64 p2] 3)).alloc (.cells #[.int .i64 p3] 3)).alloc (.cells #[.slice none 0 0] 211)).heap.size=w.heap.size+4:=by simp_all
  refine rD0 (χ0:=G0.χ) (w0:=w) (by kernel_rfl) _ w.heap.size (w.heap.size+4) _ p0 p1 p2 p3 Hok.out ?assign (by simp) (by simp[Act.eval]) (by simp) (by simp) (by simp) (by simp) ?size s Hs.out.symm ?it ?start ?done
  case assign =>
    intro l tm W K hK;refine wpIn_region ?_;simp[wpOpsIn];simp[go_sem,Oper.semAt_some];simp_all
  case size=>grind [vD8,World.size_alloc]
  case it =>
    grind [rC8]
  case start =>
    intro L;have hz:∀ k,k<w.heap.size+4→(((vD8 ((((w.alloc (.cells #[.pointer (some ⟨b0,o0,none⟩)] 209)).alloc (.cells #[.int .i64 p2] 3)).alloc (.cells #[.int .i64 p3] 3)).alloc (.cells #[.slice none 0 0] 211)) s ⟨#[10]⟩).alloc (.deferred (some []))).alloc (.loop L)).heap[k]? =
        ((((w.alloc (.cells #[.pointer (some ⟨b0,o0,none⟩)] 209)).alloc (.cells #[.int .i64 p2] 3)).alloc (.cells #[.int .i64 p3] 3)).alloc (.cells #[.slice none 0 0] 211)).heap[k]?:=by
      grind [vD8,Below.heap_alloc,World.size_alloc]
    refine rD1 (W:=((vD8 ((((w.alloc (.cells #[.pointer (some ⟨b0,o0,none⟩)] 209)).alloc (.cells #[.int .i64 p2] 3)).alloc (.cells #[.int .i64 p3] 3)).alloc (.cells #[.slice none 0 0] 211)) s ⟨#[10]⟩).alloc (.deferred (some []))).alloc (.loop L)) hglob HC.out (fun k hk=>?_) ?_ ?_ ?_ ?_ ?_ ⟨rfl,rfl,rfl⟩
    · grind [Below.heap_alloc,World.size_alloc]
    · grind [Below.heap_alloc,World.size_alloc,World.alloc_heap_new]
    · rw[hz _ (by omega),Below.heap_alloc _ _ _ (by simp only[World.size_alloc];omega),Below.heap_alloc _ _ _ (by simp only[World.size_alloc];omega)];have:=World.alloc_heap_new (w.alloc (.cells #[.pointer (some ⟨b0,o0,none⟩)] 209)) (.cells #[.int .i64 p2] 3);simp only[World.size_alloc] at this;exact this
    all_goals grind [Below.heap_alloc,World.size_alloc,World.alloc_heap_new,vD8]
  case done =>
    intro W G hJ hK;obtain⟨v,hc9,hA⟩:=sW9 hJ;have HJ:=Lib.hid hJ
    gi_wp2
    refine⟨by simp,.inl ⟨_,_,rfl,run_takeDeferred hK,?_⟩⟩;have hJ2:=HJ.out.putObj (b:=w.heap.size+4+3) (by omega) (by omega) (.deferred none);obtain⟨v',hv',hA'⟩:=sW9 hJ2;have hsame:v'=v:=by
      grind [World.cell?,World.putObj_heap_other]
    exact⟨_,results_tmp rfl _ _ _,_,G,rfl,hJ2.frame,by simp_all⟩
def qV5:List (Nat×Sh):=[(0,(.val (.ptr T239))),(1,(.val .str)),(2,(.val (.int .i64))),(3,(.val (.int .i64)))]
def qV6:Sh:=(.val (.sl .str))
def qV7:List (Nat×Sh):=[]
def rU4:Am.Spec:=fnSpec qV5 qV6 qV7 (fun x=>uI5 x.1 x.2.1 x.2.2.1 x.2.2.2.1) (fun x=>f162 x.1 x.2.1 x.2.2.1 x.2.2.2.1) (fun _=>())
theorem qV8:SpecOk Tryz.prog 162 rU4:=wO5 (τ:=.ptr T239) (σ:=.str) (υ:=.int .i64) (ω:=.int .i64) (rs:=.val (.sl .str)) (ok:=uI5) (F:=f162) ⟨_,Tryz.func162,by kernel_rfl,by decide⟩ fun p0 p1 p2 p3 hok G w v1 v2 v3 v4 hg h1 h2 h3 h4=>by
  have e2:=VRep_str.1 h2;have e3:=VRep_int.1 h3;have e4:=VRep_int.1 h4;subst e2 e3 e4;exact rU3 p0 p1 p2 p3 hok G w v1 hg h1
end Go.Proofs.YtmbjipigimohbaaGreatDoor.Am
