/- The abstract machine: slices.Insert and slices.Delete, by contracts on memory. No condition. -/
import Derived.Test.YtmmpcldfjocfmaaGreatDoorMach5
namespace Go.Am
open Go Go.RowKit
variable {gtab:GlobTab}{P:Program}
theorem tF (w:World)(t e ty:TypeId)(z:Value)(ht:P.underlying t=some (.slice e))(hv:(zeroValue e).run P w=.ok z w)(b o n c:Nat)(cur:Array Value)(t0:TypeId)(hn:0<n)
  (hg:w.heap[b]?=some (.cells cur t0 (0,0))) (hfit:o+n*z.cells.size≤cur.size) (h1:∀ v∈z.cells.toList,v.oneCell'=true) :
  ∃ cells,(Builtin.clear_ #[t] ty #[.slice (some ⟨b,o,none⟩) n c]).run P w=.ok (.tuple #[]) (w.setRow b cells)∧cells.size=cur.size∧cells.toList.take o=cur.toList.take o:=by
 have hzl:(Builtin.zeroCells z.cells n).toList.length=n*z.cells.size:=xF rfl;have hz1:∀ v∈(Builtin.zeroCells z.cells n).toList,v.oneCell'=true:=by
  intro v hv;refine h1 v ?_;simp only[Builtin.zeroCells] at hv;simp at hv;obtain⟨i,hi,rfl⟩:=hv;have h0:0<z.cells.size:=by
   rcases Nat.eq_zero_or_pos z.cells.size with h|h
   ·rw[h] at hi;omega
   ·exact h
  have h3:i % z.cells.size<z.cells.size:=Nat.mod_lt _ h0;rw[getElem!_pos z.cells _ h3];exact Array.getElem_mem_toList h3
 have hst:=run_storeCells_at P b o t0 (Builtin.zeroCells z.cells n).toList 0 cur w hg (by grind) hz1;obtain⟨m,rfl⟩:∃ m,n=m+1:=⟨n-1,by omega⟩;refine⟨(cur.toList.take o++(Builtin.zeroCells z.cells (m+1)).toList++cur.toList.drop (o+(Builtin.zeroCells z.cells (m+1)).toList.length)).toArray,?_,?_,?_⟩
 ·simp_all [Builtin.clear_,run_underlying]
 all_goals grind
def rY4 (P:Program)(f k:Nat):Prop:=∀ (b n c i j:Nat) (cur:Array Value) (e0:TypeId) (cs:List Value) (w:World),
 i<j→j≤n→n≤c→c≤maxLen→cs.length=n*k→(∀ v∈cs,v.oneCell'=true)→w.heap[b]?=some (.cells cur e0 (0,0))→cur.size=c*k→cur.toList.take (n*k)=cs →
 Calls P f #[.slice (some ⟨b,0,none⟩) n c,.int .i64 i,.int .i64 j] w fun e w'=>∃ cells,e=.returned (.slice (some ⟨b,0,none⟩) (n-(j-i)) c) ∧
  Turned w w' b cells e0∧cells.size=c*k∧cells.toList.take ((n-(j-i))*k)=cs.take (i*k)++cs.drop (j*k)
theorem rY5 {p q r:Sh}{args:List AVal}{x:zB3 [(0,p),(1,q),(2,r)]}(hl:args.length=3)(hx:zC7 [(0,p),(1,q),(2,r)] (zW3 0 args)=some x) :
  ∃ A B C,args=[A,B,C]∧p.parse A=some x.1∧q.parse B=some x.2.1∧r.parse C=some x.2.2.1:=by
 obtain⟨A,B,C,rfl⟩:∃ A B C,args=[A,B,C]:=by
  match args,hl with
  |[A,B,C],_=>simp_all
 refine⟨A,B,C,rfl,?_⟩;obtain⟨l,m,o,_⟩:=x;simp[zC7,zW3,St.get] at hx;split at hx
 ·rename_i y z hy hz;simp  at hx;split at hz
  ·rename_i y' z' hy' hz';simp  at hz;rw[← hz] at hx;split at hz'
   ·rename_i y2 z2 hy2 _;simp  at hz';rw[← hz'] at hx;simp only[Prod.mk.injEq] at hx;rw[← hx.1,← hx.2.1,← hx.2.2.1];exact⟨by simp_all,by simpa[Nat.beq,zA7] using hy',by simpa[Nat.beq,zA7] using hy2⟩
   grind
  grind
 grind
theorem sY1 {G:Gh}{w:World}{t:Ty}{l:List t.den}{T:Nat}{v:Value}(htl:t.isL=false)(h:zF9 G w t l T true v) :
  yF t∧∃ (base:Option Nat) (cap:Nat) (cur:Array Value) (e:TypeId) (us:List Value),v=.slice (base.map fun b=>⟨b,0,none⟩) l.length cap∧(base=none→l.length=0∧cap=0)∧l.length≤cap∧cap≤maxLen∧zL6 (zB5 G.χ w t) l us ∧
   (∀ b,base=some b→b=G.γ T∧w.heap[b]?=some (.cells cur e (0,0))∧cur.size=cap*t.size∧cur.toList.take (l.length*t.size)=us∧∀ o,G.χ b o=zB0 T):=by
 obtain⟨hvt,⟨rfl,rfl⟩ | ⟨cap,cur,e,us,rfl,h2,h3,h4,h5,h6,h7,h8⟩⟩:=zB1 h htl
 ·exact⟨hvt,none,0,#[],0,[],rfl,fun _=>⟨rfl,rfl⟩,Nat.le_refl _,Nat.zero_le _,rfl,fun b hb=>by grind⟩
 ·refine⟨hvt,some (G.γ T),cap,cur,e,us,rfl,(fun h=>by grind),h3,h4,h6,fun b hb=>?_⟩;simp_all
theorem sY2 {f:Nat}{t:Ty}{o:zB3 [(0,Sh.own t 400000 true),(1,Sh.val (.int .i64)),(2,Sh.val (.int .i64))]→zT8 []}(htl:t.isL=false)(hfn:∃ fn,P.funcs[f]?=some fn∧fn.body.isSome=true∧fn.name≠"runtime.NumGoroutine") (H:rY4 P f t.size) :
  SpecOk P f (fnSpec [(0,.own t 400000 true),(1,.val (.int .i64)),(2,.val (.int .i64))] (.own t 0 true) [] (fun x=>0≤x.2.1∧x.2.1<x.2.2.1∧x.2.2.1≤(List.length (α:=t.den) x.1:Int))
   (fun x=>List.take (α:=t.den) (Int.toNat x.2.1) x.1++List.drop (α:=t.den) (Int.toNat x.2.2.1) x.1) o):=by
 refine⟨hfn,fun args co hsp hok G w vals hlen hglob hreps=>?_⟩;unfold fnSpec at hsp;generalize hal:Nat.beq args.length _=b at hsp;cases b with
 |false=>cases hsp
 |true =>
  simp only[cond_true] at hsp;split at hsp
  ·rename_i x hx;injection hsp with hsp
   subst hsp;obtain⟨A,B,C,rfl,pA,pB,pC⟩:=rY5 (Nat.eq_of_beq_eq_true hal) hx;obtain⟨v,u,q,rfl⟩:∃ v u q,vals=[v,u,q]:=by
    match vals,hlen with
    |[v,u,q],_=>exact⟨v,u,q,rfl⟩
   have hok:=hok _ (List.mem_singleton.2 rfl);obtain⟨l,i,r,_⟩:=x;simp only at pA pB pC hok;have hA:=zE5 pA (hreps 0 A v rfl rfl);have hB:=zE5 pB (hreps 1 B u rfl rfl);have hC:=zE5 pC (hreps 2 C q rfl rfl);simp only[Sh.mk,zA] at hA hB hC;rw[VRep_int.1 hB,VRep_int.1 hC];obtain⟨h0,h1,h2⟩:=hok;have hi':∃ j:Nat,(i:Int)=(j:Int):=Int.eq_ofNat_of_zero_le h0;obtain⟨i,rfl⟩:=hi';have hr':∃ j:Nat,(r:Int)=(j:Int):=Int.eq_ofNat_of_zero_le (Int.le_of_lt (Int.lt_of_le_of_lt h0 h1));obtain⟨j,rfl⟩:=hr';have h1:(i:Int)<(j:Int):=h1;have h2:(j:Int)≤(List.length (α:=t.den) l:Int):=h2;obtain⟨hvt,base,cap,cur,e,us,rfl,a1,a2,a3,a4,a5⟩:=sY1 htl hA;obtain⟨b,rfl⟩:∃ b,base=some b:=by
    cases base with
    |none=>have:=(a1 rfl).1;omega
    |some b=>exact⟨b,rfl⟩
   obtain⟨c1,c2,c3,c4,c5⟩:=a5 b rfl;have ul:=zC5 (k:=t.size) (fun _ _ h=>zA1 h) a4;have hc:=H b (List.length (α:=t.den) l) cap i j cur e us w (by omega) (by omega) a2 a3 ul (yQ0 (fun _ _ h=>yG1 h) a4) c2 c3 c4;refine hc.mono ?_;rintro e' w' ⟨cells,rfl,d2,d5,d6⟩;have hnl:List.length (α:=t.den) (List.take (α:=t.den) i l++List.drop (α:=t.den) j l)=List.length (α:=t.den) l-(j-i):=by
    simp only[List.length_append,List.length_take,List.length_drop];omega
   have hL:zL6 (zB5 G.χ w t) (List.take (α:=t.den) i l++List.drop (α:=t.den) j l) (us.take (i*t.size)++us.drop (j*t.size)):=
    yI4 (yT1 (k:=t.size) (fun _ _ h=>zA1 h) i a4) (yT2 (k:=t.size) (fun _ _ h=>zA1 h) j a4)
   obtain⟨f1,f2⟩:=wF9 (G:=G) hvt hL d2 (.inl fun o=>by rw[c5 o];unfold zB0;omega) (by rw[hnl];omega) a3 d5 (by rw[hnl,d6]);refine⟨_,_,rfl,f1,?_,(fun i k A' u h=>by cases h),fun k B h=>by cases h⟩;simp only[Sh.mk,zA];rw[hnl] at f2;exact f2
  ·cases hsp
end Go.Am
