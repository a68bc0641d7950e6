/- The abstract machine: slices.Insert and slices.Delete, by contracts on memory. No condition. -/
import Derived.Test.YtpanghcojpnkaaaGreatDoorMach4
namespace Go.Am
open Go Go.RowKit
variable {gtab:GlobTab}{P:Program}
theorem wV0 (w:World)(dT sT ty elem:TypeId)(g o dLen dCap:Nat)(a:Addr)(sLen sCap:Nat)(cur:Array Value)(t:TypeId)(cs:List Value)(k:Nat)
  (hu:P.underlying dT=some (.slice elem)) (hs:(P.info? elem).map (·.size)=some k)
  (hg:w.heap[g]?=some (.cells cur t (0,0))) (hn:cs.length=Nat.min sLen dLen*k)
  (hsrc:∀ j v,cs[j]?=some v→w.cell? (a.add j)=some v) (hfit:o+cs.length≤cur.size) (h1:∀ v∈cs,v.oneCell'=true) :
  (Builtin.copy_ #[dT,sT] ty #[.slice (some ⟨g,o,none⟩) dLen dCap,.slice (some a) sLen sCap]).run P w =
   .ok (goInt (Nat.min sLen dLen)) (w.setRow g (cur.toList.take o++cs++cur.toList.drop (o+cs.length)).toArray):=by
 have hl:=run_firstCells_some (P:=P) w k (Nat.min sLen dLen) a sLen sCap cs hn hsrc
 have hst:=run_storeCells_at P g o t cs 0 cur w hg (by simpa using hfit) h1
 simp only[Nat.add_zero] at hst
 cases hq:P.info? elem with
 |none=>simp[hq] at hs
 |some i =>
  have hi:i.size=k:=by simpa[hq] using hs
  subst hi
  simp[Builtin.copy_,run_underlying hu,Builtin.lenOf,sizeOf,typeInfo,hq,hl,hst]
theorem tP1 (w:World)(t e ty:TypeId)(z:Value)(ht:P.underlying t=some (.slice e))(hv:(zeroValue e).run P w=.ok z w)(b o n c:Nat)(cur:Array Value)(t0:TypeId)(hn:0<n)
  (hg:w.heap[b]?=some (.cells cur t0 (0,0))) (hfit:o+n*z.cells.size≤cur.size) (h1:∀ v∈z.cells.toList,v.oneCell'=true) :
  ∃ cells,(Builtin.clear_ #[t] ty #[.slice (some ⟨b,o,none⟩) n c]).run P w=.ok (.tuple #[]) (w.setRow b cells)∧cells.size=cur.size∧cells.toList.take o=cur.toList.take o:=by
 have hzl:(Builtin.zeroCells z.cells n).toList.length=n*z.cells.size:=yV9 rfl
 have hz1:∀ v∈(Builtin.zeroCells z.cells n).toList,v.oneCell'=true:=by
  intro v hv
  refine h1 v ?_
  simp only[Builtin.zeroCells] at hv
  simp at hv
  obtain⟨i,hi,rfl⟩:=hv
  have h0:0<z.cells.size:=by
   rcases Nat.eq_zero_or_pos z.cells.size with h|h
   ·rw[h] at hi;omega
   ·exact h
  have h3:i % z.cells.size<z.cells.size:=Nat.mod_lt _ h0
  rw[getElem!_pos z.cells _ h3]
  exact Array.getElem_mem_toList h3
 have hst:=run_storeCells_at P b o t0 (Builtin.zeroCells z.cells n).toList 0 cur w hg (by rw[hzl];simpa using hfit) hz1
 simp only[Nat.add_zero] at hst
 obtain⟨m,rfl⟩:∃ m,n=m+1:=⟨n-1,by omega⟩
 refine⟨(cur.toList.take o++(Builtin.zeroCells z.cells (m+1)).toList++cur.toList.drop (o+(Builtin.zeroCells z.cells (m+1)).toList.length)).toArray,?_,?_,?_⟩
 ·simp only[Builtin.clear_,List.getElem?_toArray,List.getElem?_cons_zero,Sem.run_bind,run_underlying ht,Result.andThen_ok,hv,hst,Sem.run_pure]
 ·simp only[List.size_toArray,jO,jT,List.length_drop,jN,hzl];omega
 ·simp only[List.append_assoc]
  rw[List.take_append_of_le_length (by simp;omega),List.take_take,Nat.min_self]
def oI2 (P:Program)(f k:Nat):Prop:=∀ (base:Option Nat) (n c i vb m vc:Nat) (cur vcur:Array Value) (e0 ve:TypeId) (cs vs:List Value) (w:World),
 i≤n→0<m→n+m≤4294967296→n≤c→c≤maxLen→m≤vc→cs.length=n*k→vs.length=m*k→(∀ v∈cs,v.oneCell'=true)→(∀ v∈vs,v.oneCell'=true) →
 (base=none→n=0∧c=0)→(∀ b,base=some b→b≠vb∧w.heap[b]?=some (.cells cur e0 (0,0))∧cur.size=c*k∧cur.toList.take (n*k)=cs) →
 w.heap[vb]?=some (.cells vcur ve (0,0))→vcur.size=vc*k→vcur.toList.take (m*k)=vs →
 Calls P f #[.slice (base.map fun b=>⟨b,0,none⟩) n c,.int .i64 i,.slice (some ⟨vb,0,none⟩) m vc] w fun e w'=>∃ B cap cells ty,e=.returned (.slice (some ⟨B,0,none⟩) (n+m) cap)∧(base=some B∨B=w.heap.size) ∧
  Turned w w' B cells ty∧n+m≤cap∧cap≤maxLen∧cells.size=cap*k∧cells.toList.take ((n+m)*k)=cs.take (i*k)++vs++cs.drop (i*k)
def oI3 (P:Program)(f k:Nat):Prop:=∀ (b n c i j:Nat) (cur:Array Value) (e0:TypeId) (cs:List Value) (w:World),
 i<j→j≤n→n≤c→c≤maxLen→cs.length=n*k→(∀ v∈cs,v.oneCell'=true)→w.heap[b]?=some (.cells cur e0 (0,0))→cur.size=c*k→cur.toList.take (n*k)=cs →
 Calls P f #[.slice (some ⟨b,0,none⟩) n c,.int .i64 i,.int .i64 j] w fun e w'=>∃ cells,e=.returned (.slice (some ⟨b,0,none⟩) (n-(j-i)) c) ∧
  Turned w w' b cells e0∧cells.size=c*k∧cells.toList.take ((n-(j-i))*k)=cs.take (i*k)++cs.drop (j*k)
theorem pE3 {p q r:Sh}{args:List AVal}{x:zB7 [(0,p),(1,q),(2,r)]}(hl:args.length=3)(hx:zC6 [(0,p),(1,q),(2,r)] (zT6 0 args)=some x) :
  ∃ A B C,args=[A,B,C]∧p.parse A=some x.1∧q.parse B=some x.2.1∧r.parse C=some x.2.2.1:=by
 obtain⟨A,B,C,rfl⟩:∃ A B C,args=[A,B,C]:=by
  match args,hl with
  |[A,B,C],_=>exact⟨A,B,C,rfl⟩
 refine⟨A,B,C,rfl,?_⟩
 obtain⟨l,m,o,_⟩:=x
 simp only[zC6,zT6,St.get] at hx
 split at hx
 ·rename_i y z hy hz
  simp only[jA,jG] at hx
  split at hz
  ·rename_i y' z' hy' hz'
   simp only[jA] at hz
   rw[← hz] at hx
   split at hz'
   ·rename_i y2 z2 hy2 _
    simp only[jA] at hz'
    rw[← hz'] at hx
    simp only[jG] at hx
    rw[← hx.1,← hx.2.1,← hx.2.2.1]
    exact⟨by simpa using hy,by simpa[Nat.beq,zA9] using hy',by simpa[Nat.beq,zA9] using hy2⟩
   ·cases hz'
  ·cases hz
 ·cases hx
theorem tW1 {G:Gh}{w:World}{t:Ty}{l:List t.den}{T:Nat}{v:Value}(htl:t.isL=false)(h:zF4 G w t l T true v) :
  zZ3 t∧∃ (base:Option Nat) (cap:Nat) (cur:Array Value) (e:TypeId) (us:List Value),v=.slice (base.map fun b=>⟨b,0,none⟩) l.length cap∧(base=none→l.length=0∧cap=0)∧l.length≤cap∧cap≤maxLen∧zJ1 (zB0 G.χ w t) l us ∧
   (∀ b,base=some b→b=G.γ T∧w.heap[b]?=some (.cells cur e (0,0))∧cur.size=cap*t.size∧cur.toList.take (l.length*t.size)=us∧∀ o,G.χ b o=zB2 T):=by
 obtain⟨hvt,⟨rfl,rfl⟩ | ⟨cap,cur,e,us,rfl,h2,h3,h4,h5,h6,h7,h8⟩⟩:=zB4 h htl
 ·exact⟨hvt,none,0,#[],0,[],rfl,fun _=>⟨rfl,rfl⟩,jI _,Nat.zero_le _,rfl,fun b hb=>by cases hb⟩
 ·refine⟨hvt,some (G.γ T),cap,cur,e,us,rfl,(fun h=>by cases h),h3,h4,h6,fun b hb=>?_⟩
  injection hb with hb
  subst hb
  exact⟨rfl,h2,h5,h7,fun o=>by rw[h8,if_neg (by simp)]⟩
theorem qN8 {f:Nat}{t:Ty}{o:zB7 [(0,Sh.own t 400000 true),(1,Sh.val (.int .i64)),(2,Sh.own t 400200 true)]→yA []}(htl:t.isL=false)(hfn:∃ fn,P.funcs[f]?=some fn∧fn.body.isSome=true∧fn.name≠"runtime.NumGoroutine") (H:oI2 P f t.size) :
  SpecOk P f (fnSpec [(0,.own t 400000 true),(1,.val (.int .i64)),(2,.own t 400200 true)] (.own t 0 true) [] (fun x=>0≤x.2.1∧x.2.1≤(List.length (α:=t.den) x.1:Int)∧0<List.length (α:=t.den) x.2.2.1∧((List.length (α:=t.den) x.1+List.length (α:=t.den) x.2.2.1:Nat):Int)≤4294967296)
   (fun x=>List.take (α:=t.den) (Int.toNat x.2.1) x.1++(x.2.2.1++List.drop (α:=t.den) (Int.toNat x.2.1) x.1)) o):=by
 refine⟨hfn,fun args co hsp hok G w vals hlen hglob hreps=>?_⟩
 unfold fnSpec at hsp
 generalize hal:Nat.beq args.length _=b at hsp
 cases b with
 |false=>cases hsp
 |true =>
  simp only[jE] at hsp
  split at hsp
  ·rename_i x hx
   injection hsp with hsp
   subst hsp
   obtain⟨A,B,C,rfl,pA,pB,pC⟩:=pE3 (jC hal) hx
   obtain⟨v,u,q,rfl⟩:∃ v u q,vals=[v,u,q]:=by
    match vals,hlen with
    |[v,u,q],_=>exact⟨v,u,q,rfl⟩
   have hok:=hok _ (jH.2 rfl)
   obtain⟨l,i,r,_⟩:=x
   simp only at pA pB pC hok
   have hA:=zE2 pA (hreps 0 A v rfl rfl)
   have hB:=zE2 pB (hreps 1 B u rfl rfl)
   have hC:=zE2 pC (hreps 2 C q rfl rfl)
   simp only[Sh.mk,zA] at hA hB hC
   rw[VRep_int.1 hB]
   obtain⟨h0,h1,h2,h3⟩:=hok
   have hi':∃ j:Nat,(i:Int)=(j:Int):=Int.eq_ofNat_of_zero_le h0
   obtain⟨j,rfl⟩:=hi'
   have h1:(j:Int)≤(List.length (α:=t.den) l:Int):=h1
   have h3:((List.length (α:=t.den) l+List.length (α:=t.den) r:Nat):Int)≤4294967296:=h3
   obtain⟨hvt,base,cap,cur,e,us,rfl,a1,a2,a3,a4,a5⟩:=tW1 htl hA
   obtain⟨_,vbase,vcap,vcur,ve,vs,rfl,b1,b2,b3,b4,b5⟩:=tW1 htl hC
   obtain⟨vb,rfl⟩:∃ vb,vbase=some vb:=by
    cases vbase with
    |none=>have:=(b1 rfl).1;omega
    |some vb=>exact⟨vb,rfl⟩
   obtain⟨c1,c2,c3,c4,c5⟩:=b5 vb rfl
   have ul:=zB3 (k:=t.size) (fun _ _ h=>zA1 h) a4
   have vl:=zB3 (k:=t.size) (fun _ _ h=>zA1 h) b4
   have hc:=H base (List.length (α:=t.den) l) cap j vb (List.length (α:=t.den) r) vcap cur vcur e ve us vs w (by omega) h2 (by omega) a2 a3 b2 ul vl (yK0 (fun _ _ h=>yA9 h) a4) (yK0 (fun _ _ h=>yA9 h) b4) a1
    (fun b hb=>⟨fun e=>by
     have:=(a5 b hb).2.2.2.2 0
     rw[e,c5 0] at this
     exact absurd (zA6 this) (by decide),(a5 b hb).2.1,(a5 b hb).2.2.1,(a5 b hb).2.2.2.1⟩) c2 c3 c4
   refine hc.mono ?_
   rintro e' w' ⟨B,cap',cells,ty,rfl,d1,d2,d3,d4,d5,d6⟩
   have hnl:List.length (α:=t.den) (List.take (α:=t.den) j l++(r++List.drop (α:=t.den) j l))=List.length (α:=t.den) l+List.length (α:=t.den) r:=by
    simp only[jO,jT,List.length_drop];omega
   have hL:zJ1 (zB0 G.χ w t) (List.take (α:=t.den) j l++(r++List.drop (α:=t.den) j l)) (us.take (j*t.size)++(vs++us.drop (j*t.size))):=
    yC9 (yM9 (k:=t.size) (fun _ _ h=>zA1 h) j a4) (yC9 b4 (yN (k:=t.size) (fun _ _ h=>zA1 h) j a4))
   obtain⟨f1,f2⟩:=xT4 (G:=G) hvt hL d2 (by
    rcases d1 with h|h
    ·left;intro o;rw[(a5 B h).2.2.2.2 o];unfold zB2;omega
    ·right;omega) (by rw[hnl];exact d3) d4 d5 (by rw[hnl,d6,List.append_assoc])
   refine⟨_,_,rfl,f1,?_,fun i k A' u h=>by cases h⟩
   simp only[Sh.mk,zA]
   rw[hnl] at f2
   exact f2
  ·cases hsp
theorem qN9 {f:Nat}{t:Ty}{o:zB7 [(0,Sh.own t 400000 true),(1,Sh.val (.int .i64)),(2,Sh.val (.int .i64))]→yA []}(htl:t.isL=false)(hfn:∃ fn,P.funcs[f]?=some fn∧fn.body.isSome=true∧fn.name≠"runtime.NumGoroutine") (H:oI3 P f t.size) :
  SpecOk P f (fnSpec [(0,.own t 400000 true),(1,.val (.int .i64)),(2,.val (.int .i64))] (.own t 0 true) [] (fun x=>0≤x.2.1∧x.2.1<x.2.2.1∧x.2.2.1≤(List.length (α:=t.den) x.1:Int))
   (fun x=>List.take (α:=t.den) (Int.toNat x.2.1) x.1++List.drop (α:=t.den) (Int.toNat x.2.2.1) x.1) o):=by
 refine⟨hfn,fun args co hsp hok G w vals hlen hglob hreps=>?_⟩
 unfold fnSpec at hsp
 generalize hal:Nat.beq args.length _=b at hsp
 cases b with
 |false=>cases hsp
 |true =>
  simp only[jE] at hsp
  split at hsp
  ·rename_i x hx
   injection hsp with hsp
   subst hsp
   obtain⟨A,B,C,rfl,pA,pB,pC⟩:=pE3 (jC hal) hx
   obtain⟨v,u,q,rfl⟩:∃ v u q,vals=[v,u,q]:=by
    match vals,hlen with
    |[v,u,q],_=>exact⟨v,u,q,rfl⟩
   have hok:=hok _ (jH.2 rfl)
   obtain⟨l,i,r,_⟩:=x
   simp only at pA pB pC hok
   have hA:=zE2 pA (hreps 0 A v rfl rfl)
   have hB:=zE2 pB (hreps 1 B u rfl rfl)
   have hC:=zE2 pC (hreps 2 C q rfl rfl)
   simp only[Sh.mk,zA] at hA hB hC
   rw[VRep_int.1 hB,VRep_int.1 hC]
   obtain⟨h0,h1,h2⟩:=hok
   have hi':∃ j:Nat,(i:Int)=(j:Int):=Int.eq_ofNat_of_zero_le h0
   obtain⟨i,rfl⟩:=hi'
   have hr':∃ j:Nat,(r:Int)=(j:Int):=Int.eq_ofNat_of_zero_le (Int.le_of_lt (Int.lt_of_le_of_lt h0 h1))
   obtain⟨j,rfl⟩:=hr'
   have h1:(i:Int)<(j:Int):=h1
   have h2:(j:Int)≤(List.length (α:=t.den) l:Int):=h2
   obtain⟨hvt,base,cap,cur,e,us,rfl,a1,a2,a3,a4,a5⟩:=tW1 htl hA
   obtain⟨b,rfl⟩:∃ b,base=some b:=by
    cases base with
    |none=>have:=(a1 rfl).1;omega
    |some b=>exact⟨b,rfl⟩
   obtain⟨c1,c2,c3,c4,c5⟩:=a5 b rfl
   have ul:=zB3 (k:=t.size) (fun _ _ h=>zA1 h) a4
   have hc:=H b (List.length (α:=t.den) l) cap i j cur e us w (by omega) (by omega) a2 a3 ul (yK0 (fun _ _ h=>yA9 h) a4) c2 c3 c4
   refine hc.mono ?_
   rintro e' w' ⟨cells,rfl,d2,d5,d6⟩
   have hnl:List.length (α:=t.den) (List.take (α:=t.den) i l++List.drop (α:=t.den) j l)=List.length (α:=t.den) l-(j-i):=by
    simp only[jO,jT,List.length_drop];omega
   have hL:zJ1 (zB0 G.χ w t) (List.take (α:=t.den) i l++List.drop (α:=t.den) j l) (us.take (i*t.size)++us.drop (j*t.size)):=
    yC9 (yM9 (k:=t.size) (fun _ _ h=>zA1 h) i a4) (yN (k:=t.size) (fun _ _ h=>zA1 h) j a4)
   obtain⟨f1,f2⟩:=xT4 (G:=G) hvt hL d2 (.inl fun o=>by rw[c5 o];unfold zB2;omega) (by rw[hnl];omega) a3 d5 (by rw[hnl,d6])
   refine⟨_,_,rfl,f1,?_,fun i k A' u h=>by cases h⟩
   simp only[Sh.mk,zA]
   rw[hnl] at f2
   exact f2
  ·cases hsp
end Go.Am
