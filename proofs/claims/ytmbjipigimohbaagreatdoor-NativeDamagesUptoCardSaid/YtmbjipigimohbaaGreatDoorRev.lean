/- The abstract machine: slices.Reverse at elements of any plain type, by the shelf's contract. No condition. -/
import Derived.Test.YtmbjipigimohbaaGreatDoorMach5
import Derived.Shelf.SlicesQ.Reverse
namespace Go.Am
open Go Go.RowKit Go.Proofs
variable {gtab:GlobTab}{P:Program}
theorem rT {α:Type}{R:α→List Value→Prop}{k:Nat}(d:α):∀ {l:List α}{us:List Value},us.length=l.length*k→(∀ i,i<l.length→R (l.getD i d) (seg us (i*k) k))→zM5 R l us:=by
 intro l
 induction l with
 |nil=>simp_all [zM5]
 |cons x l ih =>
  intro us h hr;have h0:=hr 0 (by simp);refine⟨us.take k,us.drop k,(List.take_append_drop k us).symm,by grind [seg],ih (by grind [Nat.add_mul]) fun i hi=>?_⟩;have:=hr (i+1) (by grind);simp_all [seg,Nat.add_mul,Nat.add_comm]
structure Chunk (k:Nat) where
 l:List Value
 len:l.length=k
 one:∀ v∈l,v.oneCell'=true
instance {k:Nat}:Inhabited (Chunk k):=⟨⟨List.replicate k (.int .i64 0),by simp,fun v hv=>by rw[(List.mem_replicate.1 hv).2];rfl⟩⟩
theorem Chunk.ext {k:Nat}{a b:Chunk k}(h:a.l=b.l):a=b:=by cases a;simp_all
theorem sP8 {w:World}{b:Nat}{f:Array Value→Array Value}{c:Array Value}{e:TypeId}{fr:Nat×Nat}(h:w.heap[b]?=some (.cells c e fr)):(Sort.mapBlock w b f).heap[b]?=some (.cells (f c) e fr):=by
 simp[Sort.mapBlock,Array.getElem?_modify,h,Sort.onCells]
theorem rC4 {w:World}{b b':Nat}{f:Array Value→Array Value}(h:b'≠b):(Sort.mapBlock w b f).heap[b']?=w.heap[b']?:=by
 simp[Sort.mapBlock,Array.getElem?_modify,Ne.symm h]
def pM3 (P:Program)(f k:Nat):Prop:=
 (∀ (blk cap:Nat) (d:Array (Chunk k)) (w:World),Sort.HoldsK Chunk.l k w blk 0 d→d.size≤9223372036854775807 →
  Calls P f #[.slice (some ⟨blk,0,none⟩) d.size cap] w fun e w'=>e=.returned (.tuple #[])∧∃ n,w'=Sort.putRowK Chunk.l k (Sort.ahead w n) blk 0 d.reverse) ∧
 (∀ w:World,Calls P f #[.slice none 0 0] w fun e w'=>e=.returned (.tuple #[])∧w'=w)
theorem qG7 {f:Nat}{t:Ty}(hpos:0<t.size)(htl:t.isL=false)(hfn:∃ fn,P.funcs[f]?=some fn∧fn.body.isSome=true∧fn.name≠"runtime.NumGoroutine") (H:pM3 P f t.size) :
  SpecOk P f (fnSpec [(0,.own t 400000 true)] (.tup .nl) [(0,.own t 400000 true)] (fun _=>True) (fun _=>()) (fun x=>(x.1.reverse,()))):=by
 refine⟨hfn,fun args co hsp _ G w vals hlen hglob hreps=>?_⟩;unfold fnSpec at hsp;generalize hal:Nat.beq args.length _=b at hsp;cases b with
 |false=>cases hsp
 |true =>
  simp only[cond_true] at hsp;split at hsp
  ·rename_i x hx;injection hsp with hsp
   subst hsp;have hl:args.length=1:=Nat.eq_of_beq_eq_true hal;obtain⟨A,rfl⟩:∃ A,args=[A]:=by
    match args,hl with
    |[A],_=>exact⟨A,rfl⟩
   obtain⟨v,rfl⟩:∃ v,vals=[v]:=by
    match vals,hlen with
    |[v],_=>exact⟨v,rfl⟩
   obtain⟨l,_⟩:=x;have hp:(Sh.own t 400000 true).parse A=some l:=by
    simp only[zD9,yE5,St.get] at hx;split at hx
    ·rename_i y z hy _;simp only[Option.some.injEq,Prod.mk.injEq] at hx;rw[← hx.1];simpa using hy
    ·cases hx
   have hA:=zE4 hp (hreps 0 A v rfl rfl).arep;have hnb:zF7 A=false:=by
    cases A with
    |box τ c=>simp[Sh.parse,xB1] at hp
    |_=>rfl
   simp only[Sh.mk,zA] at hA;have key:Calls P f #[v] w fun e w'=>e=.returned (.tuple #[])∧Frame0 G.χ w G.χ w'∧zG3 G w' t l.reverse 400000 true v:=by
    have hA:=zB1 hA htl
    ·obtain⟨hvt,⟨rfl,rfl⟩ | ⟨cap,cur,e,us,rfl,h2,h3,h4,h5,h6,h7,h8⟩⟩:=hA
     ·refine (H.2 w).mono ?_;rintro e w' ⟨rfl,rfl⟩;exact⟨rfl,xI1,.inl ⟨hvt,.inl ⟨rfl,rfl⟩⟩⟩
     ·have hcol:∀ o,G.χ (G.γ 400000) o=zA9 400000:=fun o=>by rw[h8,if_neg (by simp)]
      have hul:=zD1 (k:=t.size) (fun _ _ h=>zA1 h) h6;have hone:=yT3 (fun _ _ h=>yI3 h) h6;have hsegl:∀ i,i<l.length→(seg us (i*t.size) t.size).length=t.size:=fun i hi=>by
       have:i*t.size+t.size≤l.length*t.size:=by rw[← Nat.succ_mul];exact Nat.mul_le_mul_right _ hi
       simp only[seg,List.length_take,List.length_drop];omega
      let d:Array (Chunk t.size):=Array.ofFn fun i:Fin l.length=>⟨seg us (i.1*t.size) t.size,hsegl i.1 i.2,fun v hv=>hone v (List.mem_of_mem_drop (List.mem_of_mem_take hv))⟩
      have hd:d.size=l.length:=by simp[d]
      have hdi:∀ i,i<l.length→(d[i]!).l=seg us (i*t.size) t.size:=fun i hi=>by
       rw[getElem!_pos d i (by rw[hd];exact hi)];simp[d]
      have hflat:∀ j,j<l.length*t.size→us[j]?=some (((d[j / t.size]!).l)[j % t.size]!):=fun j hj=>by
       have h1:j / t.size<l.length:=Nat.div_lt_of_lt_mul (by rw[Nat.mul_comm];exact hj);have h2:j % t.size<t.size:=Nat.mod_lt _ hpos;have h3:j / t.size*t.size+j % t.size=j:=by rw[Nat.mul_comm];exact Nat.div_add_mod j t.size
       rw[hdi _ h1,getElem!_pos _ _ (by rw[hsegl _ h1];exact h2),← List.getElem?_eq_getElem,seg_getElem?,if_pos h2,h3]
      have hH:Sort.HoldsK Chunk.l t.size w (G.γ 400000) 0 d:=by
       intro j hj;rw[Sort.size_flatK,hd] at hj;have hu:=hflat j hj;have hjc:cur.toList[j]?=some (((d[j / t.size]!).l)[j % t.size]!):=by
        rw[← h7,List.getElem?_take,if_pos hj] at hu;exact hu
       refine⟨?_,by simp[World.frozen?,h2]⟩;rw[Sort.get_flatK _ _ _ _ (by rw[hd];exact hj),Nat.zero_add];simp only[World.cell?,h2];simpa using hjc
      have hc:=H.1 (G.γ 400000) cap d w hH (by rw[hd];simp only[maxLen] at h4;omega);rw[hd] at hc;refine hc.mono ?_;rintro e' w' ⟨rfl,n,rfl⟩;have hb:(Sort.putRowK Chunk.l t.size (Sort.ahead w n) (G.γ 400000) 0 d.reverse).heap[G.γ 400000]?=some (.cells (Sort.putCells id 0 (Sort.flatK Chunk.l t.size d.reverse) cur) e (0,0)):=sP8 (w:=Sort.ahead w n) h2;have hne:∀ b,b≠G.γ 400000→(Sort.putRowK Chunk.l t.size (Sort.ahead w n) (G.γ 400000) 0 d.reverse).heap[b]?=w.heap[b]?:=fun b hb=>rC4 (w:=Sort.ahead w n) hb;have hsz:w.heap.size≤(Sort.putRowK Chunk.l t.size (Sort.ahead w n) (G.γ 400000) 0 d.reverse).heap.size:=by simp[Sort.putRowK,Sort.ahead]
      generalize hw':Sort.putRowK Chunk.l t.size (Sort.ahead w n) (G.γ 400000) 0 d.reverse=w' at hb hne hsz ⊢;have hprot:∀ b o,b<w.heap.size→G.χ b o=0→G.χ b o=0∧w'.cell? ⟨b,o,none⟩=w.cell? ⟨b,o,none⟩:=fun b o _ h0=>⟨h0,by
       simp only[World.cell?,hne b (fun e=>by rw[e,hcol] at h0;exact zA7 _ h0.symm)]⟩
      refine⟨rfl,⟨by rw[← hw'];rfl,by rw[← hw'];rfl,by rw[← hw'];rfl,hsz,fun b hb' hle=>hne b (fun e=>by have:=hle 0;rw[e,hcol] at this;have:=zK9 400000;omega),fun b o hb' hle=>⟨rfl,by
       simp only[World.cell?,hne b (fun e=>by rw[e,hcol] at hle;have:=zK9 400000;omega)]⟩⟩,.inl ⟨hvt,.inr ⟨cap,_,e,(Sort.putCells id 0 (Sort.flatK Chunk.l t.size d.reverse) cur).toList.take (l.length*t.size),by rw[List.length_reverse],hb,by rw[List.length_reverse];exact h3,h4,by simp[Sort.putCells,h5],?_,by rw[List.length_reverse],fun o=>by rw[hcol];simp⟩⟩⟩
      have hlc:l.length*t.size≤cur.size:=by rw[h5];exact Nat.mul_le_mul_right _ h3
      have hrs:d.reverse.size=l.length:=by rw[Array.size_reverse,hd]
      refine rT (k:=t.size) t.dflt (by simp[Sort.putCells];omega) fun i hi=>?_;rw[List.length_reverse] at hi;have hib:i*t.size+t.size≤l.length*t.size:=by rw[← Nat.succ_mul];exact Nat.mul_le_mul_right _ hi
      have hseg:seg ((Sort.putCells id 0 (Sort.flatK Chunk.l t.size d.reverse) cur).toList.take (l.length*t.size)) (i*t.size) t.size=seg us ((l.length-1-i)*t.size) t.size:=by
       rw[← hdi (l.length-1-i) (by omega)];apply List.ext_getElem?;intro c;rw[seg_getElem?];by_cases hc:c<t.size
       ·rw[if_pos hc,List.getElem?_take,if_pos (by omega)];have h10:i*t.size+c<cur.size:=by omega
        have h11:(i*t.size+c) / t.size=i:=by rw[Nat.mul_comm,Nat.mul_add_div hpos,Nat.div_eq_of_lt hc,Nat.add_zero]
        have h12:(i*t.size+c) % t.size=c:=by rw[Nat.mul_comm,Nat.mul_add_mod,Nat.mod_eq_of_lt hc]
        have h13:d.reverse[i]! =d[l.length-1-i]!:=by
         rw[getElem!_pos d.reverse i (by rw[hrs];exact hi),getElem!_pos d (l.length-1-i) (by rw[hd];omega),Array.getElem_reverse];simp only[hd]
        have h14:=Sort.get_flatK Chunk.l t.size d.reverse (i*t.size+c) (by rw[hrs];omega);rw[h11,h12,h13] at h14;rw[Array.getElem?_toList];simp only[Sort.putCells,Array.getElem?_mapIdx];rw[Array.getElem?_eq_getElem h10,Option.map_some,if_pos ⟨Nat.zero_le _,by rw[Sort.size_flatK,hrs];omega⟩,Nat.sub_zero,h14];rw[getElem!_pos _ c (by rw[(d[l.length-1-i]!).len];exact hc),List.getElem?_eq_getElem (by rw[(d[l.length-1-i]!).len];exact hc)];rfl
       ·rw[if_neg hc,List.getElem?_eq_none (by rw[(d[l.length-1-i]!).len];omega)]
      rw[hseg];have hg:=zR3 h6 (i:=l.length-1-i) (by omega);have hrv:l.reverse.getD i t.dflt=l.getD (l.length-1-i) t.dflt:=by
       rw[List.getD_eq_getElem?_getD,List.getD_eq_getElem?_getD,List.getElem?_reverse hi]
      rw[hrv];exact zA5 hprot hg
   refine key.mono ?_;rintro e w' ⟨rfl,hf,ho⟩;refine⟨_,G,rfl,hf,by simp only[Sh.mk,zA],fun i k A' u hk h1 h2=>?_,fun k B h=>by cases h⟩;have hk:(i,k)∈[(0,wB0 _ _)]:=hk;simp only[wB0,Sh.mk,List.mem_singleton,Prod.mk.injEq] at hk;obtain⟨rfl,rfl⟩:=hk;simp only[List.getElem?_cons_zero,Option.some.injEq] at h1 h2;subst h1 h2;refine⟨fun τ k0 e=>by rw[e] at hnb;simp[zF7] at hnb,fun one ps τ k0 e=>by rw[e] at hp;simp[Sh.parse,xB1] at hp,fun _ _=>?_⟩;simp only[zA];exact ho
  ·cases hsp
end Go.Am
