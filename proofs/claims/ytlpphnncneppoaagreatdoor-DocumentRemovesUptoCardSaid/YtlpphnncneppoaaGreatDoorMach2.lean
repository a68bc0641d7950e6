/- The abstract machine, part 2: a typed interpreter for the program's code, and that it is sound. No condition. -/
import Derived.Test.YtlpphnncneppoaaGreatDoorMach1
import Derived.MapKept
import Derived.OrdersIn
import Derived.RangeFuncCalls
namespace Go.Am
open Go Go.RowKit
open Go.Builtin (append_ firstCells lenOf max2 max_ min2 min_ zeroCells)
open Go.Instr (findNow mapUpdate storeAt)
open Go.Result (andThen_ok)
open Go.Sem (run_bind run_pure)
open Go.World (cell?)
open _root_.Array (range toList_inj)
open _root_.List (any_cons append_assoc append_nil cons_append ext_getElem? length length_set map map_cons map_map map_nil mem_cons nil_append replicate set zip zipWith)
open _root_.Nat (add_mul blt le_trans lt_of_lt_of_le succ_mul)
open _root_.Option (isNone isSome_none toList_none toList_some)
variable {P:Program}{c:Ctx}{G:Gh}{w:World}{tm:Array Value}
def Gh.reown (G:Gh)(b d n:Nat)(m:Bool):Gh:=
 {χ:=λb' o=>if b'=b then (if m=false/\o<n then 0 else AL d) else G.χ b' o,β:=G.β,γ:=λs=>if s=d then b else G.γ s }
variable {B:AVal}{v:Value}
theorem yQ3{t:Ty}(ht:t.isL=false){l2:List t.den}(I:zA G w tm none B v)(h:dI t B=some l2):∃a cap,v=.slice a l2.length cap/\(l2=[]\/∃ad us,a=some ad/\C6 (AN G.χ w t) l2 us/\∀j u,us[j]?=some u->w.cell? (ad.add j)=some u):=by (have pure:∀{v},AN G.χ w (.sl t) l2 [v]->∃a cap,v=.slice a l2.length cap/\(l2=[]\/∃ad us,a=some ad/\C6 (AN G.χ w t) l2 us/\∀j u,us[j]?=some u->w.cell? (ad.add j)=some u):=by intro v C;obtain⟨a,cap,hv,C⟩:=C;injection hv with hv _;refine⟨a,cap,hv,?_⟩;rcases C with C|⟨b,o,us,ha,_,J,R⟩;grind;exact .inr ⟨⟨b,o,none⟩,us,ha,J,λj u hu=>by rw[Addr.add_mid];exact (R j u hu).1⟩);cases B with|own t' l T m=>obtain⟨e,rfl⟩:=E5 h;injection e with e;subst e;rcases (EE I ht).2 with ⟨rfl,rfl⟩ | ⟨cap,cur,e,us,rfl,h2,J,R,h5,h6,h7,h8⟩;simp_all;refine⟨_,cap,rfl,.inr ⟨_,us,rfl,h6,λj u hu=>?_⟩⟩;rw[Addr.add_mid];rw[<-h7,List.getElem?_take] at hu;split at hu;simp[cell?,h2];simpa using hu;cases hu|nn b=>simp[dI] at h;obtain⟨a,cap,rfl,_⟩:=I;simp_all|_=>have hv:=Ip h rfl I;exact pure ((zC rfl).1 hv)
variable {e ty:TypeId}{cap k:Nat}
theorem zQ7{T:TypeId}(ht:P.underlying T=some (.slice e)){i:TypeInfo}(j:P.info? e=some i){base:Option Addr}{n:Nat}(C:n<=cap){a:Option Addr}(w:World):(append_ #[T,T] ty #[.slice base n cap,.slice a 0 k]).run P w=.ok (.slice base n cap) w:=by cases a with|none=>cases base<;>simp[append_,run_underlying ht,sizeOf,typeInfo,j,lenOf,C,firstCells,storeCells]|some a=>cases base<;>simp[append_,run_underlying ht,sizeOf,typeInfo,j,lenOf,C,firstCells,loadCells,loadCellsFrom,storeCells]
theorem yB9 (t ty e C:TypeId)(i:TypeInfo)(ht:P.underlying t=some (.slice e))(I:P.info? e=some i)(g sLen sCap:Nat)(cur:Array Value)(J:w.heap[g]?=some (.cells cur C (0,0)))(a:Addr)(m c:Nat)(news:List Value)(R:news.length=m*i.size)(qq:∀j u,news[j]?=some u->w.cell? (a.add j)=some u)(h1:∀u∈news,u.oneCell')(ky:sLen+m<=sCap)(ki:sLen*i.size+news.length<=cur.size):(append_ #[t,t] ty #[.slice (some ⟨g,0,none⟩) sLen sCap,.slice (some a) m c]).run P w=.ok (.slice (some ⟨g,0,none⟩) (sLen+m) sCap) (w.setRow g (cur.toList.take (sLen*i.size)++news++cur.toList.drop (sLen*i.size+news.length)).toArray):=by have hf:=run_firstCells_some (P:=P) w i.size m a m c news R qq;have kZ:=run_storeCells_at P g (sLen*i.size) C news 0 cur w J (by grind) h1;simp[append_,run_underlying ht,sizeOf,typeInfo,I,lenOf,ky,hf,Addr.add_lit,kZ]
variable {d U:Nat}{m:Bool}
theorem yQ4{n:Nat}{w':World}(I:k<=n)(kh:∀o,G.χ (G.γ U) o=if m=false/\o<k then 0 else AL U)(kN:w.heap.size<=w'.heap.size)(kH:∀b,b≠G.γ U->b<w.heap.size->w'.heap[b]?=w.heap[b]?)(kF:∀o,o<k->w'.cell? ⟨G.γ U,o,none⟩=w.cell? ⟨G.γ U,o,none⟩):Ext (λx=>x=AL U\/x=AL d) (λx=>x=AL d) G w (G.reown (G.γ U) d n m) w':=by refine⟨λb o hb h=>?_,λb hb h=>?_,kN,λs _=>rfl,λT C=>?_,λ_ h=>.inr h⟩;by_cases e:b=G.γ U;subst e;by_cases j:m=false/\o<k;exact⟨by simp only[Gh.reown];rw[if_pos trivial,if_pos ⟨j.1,by omega⟩],kF o j.2⟩;grind [absurd,DE];simp_all [Gh.reown,cell?];(have e:b≠G.γ U:=by intro e;subst e;exact h k (by rw[kh,if_neg (by omega)];exact .inl rfl));simp_all [Gh.reown];simp only[Gh.reown];rw[if_neg (λe=>C (by rw[e]))]
theorem yF4{χ0:Nat->Nat->Nat}{w0:World}(h:Frame0 χ0 w0 G.χ w){n:Nat}{w':World}(R:k<=n)(kh:∀o,G.χ (G.γ U) o=if m=false/\o<k then 0 else AL U)(C:w'.os=w.os/\w'.tape=w.tape/\w'.output=w.output)(kN:w.heap.size<=w'.heap.size)(kH:∀b,b≠G.γ U->b<w.heap.size->w'.heap[b]?=w.heap[b]?)(kF:∀o,o<k->w'.cell? ⟨G.γ U,o,none⟩=w.cell? ⟨G.γ U,o,none⟩):Frame0 χ0 w0 (G.reown (G.γ U) d n m).χ w':=by refine⟨C.1.trans h.os,C.2.1.trans h.tape,C.2.2.trans h.output,le_trans h.size kN,λb hb j=>?_,λb o hb j=>?_⟩;(have e:b≠G.γ U:=by intro e;subst e;have I:=(h.cell (G.γ U) k hb (j k)).1;grind [AL]);rw[kH b e (lt_of_lt_of_le hb h.size)];exact h.block b hb j;have I:=h.cell b o hb j;by_cases e:b=G.γ U;subst e;by_cases hm:m=false/\o<k;have J:=kh o;rw[if_pos hm] at J;refine⟨?_,by grind⟩;simp only[Gh.reown];rw[if_pos trivial,if_pos ⟨hm.1,by omega⟩,<-I.1,J];grind [AL];refine⟨by grind [Gh.reown],?_⟩;rw[<-I.2];simp[cell?,kH b e (lt_of_lt_of_le hb h.size)]
theorem Wy{n:Nat}{w':World}(kN:w.heap.size<=w'.heap.size)(kH:∀b,b<w.heap.size->w'.heap[b]?=w.heap[b]?):Ext (λx=>x=AL U\/x=AL d) (λx=>x=AL d) G w (G.reown w.heap.size d n m) w':=by refine⟨λb o hb h=>?_,λb hb _=>?_,kN,λs _=>rfl,λT j=>?_,λ_ h=>.inr h⟩;exact⟨by simp only[Gh.reown];grind,by grind [cell?]⟩;exact⟨kH b hb,λo=>by simp only[Gh.reown];rw[if_neg (by omega)]⟩;simp only[Gh.reown];rw[if_neg (λe=>j (by rw[e]))]
theorem zU4{χ0:Nat->Nat->Nat}{w0:World}(h:Frame0 χ0 w0 G.χ w){n:Nat}{w':World}(j:w'.os=w.os/\w'.tape=w.tape/\w'.output=w.output)(kN:w.heap.size<=w'.heap.size)(kH:∀b,b<w.heap.size->w'.heap[b]?=w.heap[b]?):Frame0 χ0 w0 (G.reown w.heap.size d n m).χ w':=by refine⟨j.1.trans h.os,j.2.1.trans h.tape,j.2.2.trans h.output,le_trans h.size kN,λb hb C=>?_,λb o hb C=>?_⟩;rw[kH b (lt_of_lt_of_le hb h.size)];exact h.block b hb C;have J:=h.cell b o hb C;have I:=lt_of_lt_of_le hb h.size;exact⟨by simp only[Gh.reown];grind,by grind [cell?]⟩
variable {us:List Value}
theorem yQ5{t:Ty}{l:List t.den}{rest:List Value}{w':World}{e:Nat}(hv:Ik t)(h:C6 (AN G.χ w t) l us)(C:Ext (λx=>x=AL d\/x=AL d) (λx=>x=AL d) G w (G.reown w.heap.size d (l.length*t.size) m) w')(hb:w'.heap[w.heap.size]?=some (.cells (us++rest).toArray e (0,0)))(gO:(us++rest).length=cap*t.size)(j:l.length<=cap)(hm:cap<=maxLen):BQ (G.reown w.heap.size d (l.length*t.size) m) w' t l d m (.slice (some ⟨w.heap.size,0,none⟩) l.length cap):=by have qp:=FU (k:=t.size) (λ_ _ h=>CO h) h;refine .inl ⟨hv,.inr ⟨cap,(us++rest).toArray,e,us,by simp[Gh.reown],?_,j,hm,by grind,?_,?_,λo=>?_⟩⟩;simp_all [Gh.reown];exact EU (λ_ _ h=>CX C.prot h) h;all_goals simp_all [Gh.reown]
theorem eY{z:Array Value}{n:Nat}(h:z.size=k):(zeroCells z n).toList.length=n*k:=by grind [size_zeroCells]
variable {bv:Value}
theorem zQ9{χ0:Nat->Nat->Nat}{w0:World}(C:Frame0 χ0 w0 G.χ w){t:Ty}{T:TypeId}(hT:AY P (.sl t) (.inl T)){l l2:List t.den}
  (hA:(v=.slice none 0 0/\l=[])\/BQ G w t l U m v)
  {ns:List Value}(hB:∃a cap,bv=.slice a l2.length cap/\(l2=[]\/∃ad,a=some ad/\C6 (AN G.χ w t) l2 ns/\∀j u,ns[j]?=some u->w.cell? (ad.add j)=some u))
  (hlen:l.length+l2.length<=4294967296) :
  ∃v' w' G',(append_ #[T,T] ty #[v,bv]).run P w=.ok v' w'/\Ext (λx=>x=AL U\/x=AL d) (λx=>x=AL d) G w G' w'/\Frame0 χ0 w0 G'.χ w'/\BQ G' w' t (l++l2) d m v'/\(l2=[]\/∀b k c,v'=.slice (some ⟨b,0,none⟩) k c->∀j u,ns[j]?=some u->w'.cell? ⟨b,l.length*t.size+j,none⟩=some u):=by
 obtain⟨e,h1,h2⟩:=GQ hT;obtain⟨⟨i,z,hi,hs,qs,hz,ik,_⟩,_⟩:=GP h2;have ko:Ik t:=by have:=Nx h2;exact⟨this,FV h2⟩
 have iz:z.cells.size=t.size:=by rw[<-jN,ik,eV]
 obtain⟨a,cap2,rfl,hB⟩:=hB;have nz:(v=.slice none 0 0/\l=[])\/∃cap cur e0 us,v=.slice (some ⟨G.γ U,0,none⟩) l.length cap/\w.heap[G.γ U]?=some (.cells cur e0 (0,0))/\l.length<=cap/\cap<=maxLen/\cur.size=cap*t.size /\
   C6 (AN G.χ w t) l us/\cur.toList.take (l.length*t.size)=us/\(∀o,G.χ (G.γ U) o=if m=false/\o<l.length*t.size then 0 else AL U):=by
  rcases hA with hA | hA
  ·exact .inl hA
  ·exact (EE hA ko.2).2
 have I:l.length+l2.length<=maxLen:=by simp only[maxLen];omega
 have kL:(l.length+l2.length)*i.bytes<=140737488355328:=by
  calc (l.length+l2.length)*i.bytes<=4294967296*32768:=Nat.mul_le_mul hlen qs
   _=140737488355328:=by decide
 by_cases iV:l2=[]
 ·subst iV;rcases nz with ⟨rfl,rfl⟩ | ⟨cap,cur,e0,us,rfl,g1,g2,g3,g4,g5,g6,g7⟩
  ·refine⟨.slice none 0 0,w,G.reown w.heap.size d 0 m,zQ7 h1 hi (jI _) w,Wy (jI _) (λ_ _=>rfl),zU4 C ⟨rfl,rfl,rfl⟩ (jI _) (λ_ _=>rfl),by exact .inl ⟨ko,.inl ⟨rfl,rfl⟩⟩,.inl rfl⟩
  ·have J:Ext (λx=>x=AL U\/x=AL d) (λx=>x=AL d) G w (G.reown (G.γ U) d (l.length*t.size) m) w:=yQ4 (jI _) g7 (jI _) (λ_ _ _=>rfl) (λ_ _=>rfl);refine⟨_,w,G.reown (G.γ U) d (l.length*t.size) m,zQ7 h1 hi g2 w,J,yF4 C (jI _) g7 ⟨rfl,rfl,rfl⟩ (jI _) (λ_ _ _=>rfl) (λ_ _=>rfl),.inl ⟨ko,.inr ⟨cap,cur,e0,us,?_,?_,?_,g3,g4,?_,?_,λo=>?_⟩⟩,.inl rfl⟩
   ·simp[Gh.reown]
   ·simp only[Gh.reown,if_true];exact g1
   ·simpa using g2
   ·rw[append_nil];exact EU (λ_ _ h=>CX J.prot h) g5
   ·simpa using g6
   ·simp only[Gh.reown,if_true,append_nil]
 ·rcases hB with hB | ⟨ad,rfl,n1,n2⟩
  ·exact absurd hB iV
  have nl:=FU (k:=t.size) (λ_ _ h=>CO h) n1;have none1:=Pc (λ_ _ h=>N2 h) n1;have hl2p:0<l2.length:=List.length_pos_iff.2 iV;rcases nz with ⟨rfl,rfl⟩ | ⟨cap,cur,e0,us,rfl,g1,g2,g3,g4,g5,g6,g7⟩
  ·have R:=run_append_nil (P:=P) w T ty e i z h1 hi hz ad l2.length cap2 ns (by rw[nl,hs]) n2 hl2p (by have:=I;simp only[maxLen,List.length_nil] at this;omega) (by have:=kL;simp only[List.length_nil,Nat.zero_add] at this;omega);have gW:=grownCap_ge w l2.length 0 e;have ni:=grownCap_le_maxLen w l2.length 0 e (by simpa using I);have kH:∀b,b<w.heap.size->(w.drew.alloc (.cells (ns.toArray++zeroCells z.cells (grownCap w l2.length 0 e-l2.length)) e)).heap[b]?=w.heap[b]?:=λb hb=>Below.heap_alloc w.drew _ b hb;have kN:w.heap.size<=(w.drew.alloc (.cells (ns.toArray++zeroCells z.cells (grownCap w l2.length 0 e-l2.length)) e)).heap.size:=by simp
   refine⟨_,_,G.reown w.heap.size d (l2.length*t.size) m,R,Wy kN kH,zU4 C ⟨rfl,rfl,rfl⟩ kN kH,?_,.inr λb k c gP j u hj=>?_⟩
   rotate_left
   ·simp only[Value.slice.injEq,jA,Addr.mk.injEq] at gP;rw[<-gP.1.1];have kV:(w.drew.alloc (.cells (ns.toArray++zeroCells z.cells (grownCap w l2.length 0 e-l2.length)) e)).heap[w.heap.size]?=some (.cells (ns.toArray++zeroCells z.cells (grownCap w l2.length 0 e-l2.length)) e (0,0)):=by
     rw[show (w.heap.size)=w.drew.heap.size from rfl,Lc]
    simp only[cell?,kV];have ql:j<ns.length:=(List.getElem?_eq_some_iff.1 hj).1;simpa[Array.getElem?_append,ql] using hj
   have J:=Wy (G:=G) (U:=d) (d:=d) (n:=l2.length*t.size) (m:=m) kN kH;rw[nil_append];exact yQ5 (cap:=grownCap w l2.length 0 e) (rest:=(zeroCells z.cells (grownCap w l2.length 0 e-l2.length)).toList) (e:=e) ko n1 J (by rw[show (w.heap.size)=w.drew.heap.size from rfl,Lc];simp) (by rw[jO,nl,eY iz,<-add_mul];congr 1;omega) gW ni
  ·have ul:=FU (k:=t.size) (λ_ _ h=>CO h) g5;by_cases ky:l.length+l2.length<=cap
   ·have ki:l.length*i.size+ns.length<=cur.size:=by rw[hs,nl,g4,<-add_mul];exact jS _ ky
    have R:=yB9 (P:=P) (w:=w) T ty e e0 i h1 hi (G.γ U) l.length cap cur g1 ad l2.length cap2 ns (by rw[nl,hs]) n2 none1 ky ki;rw[hs] at R;have kl:(cur.toList.take (l.length*t.size)++ns++cur.toList.drop (l.length*t.size+ns.length)).length=cap*t.size:=by
     have h3:l.length*t.size+ns.length<=cap*t.size:=by rw[<-g4,<-hs];exact ki
     simp only[jO,jT,List.length_drop,jN,g4];omega
    generalize iW:(cur.toList.take (l.length*t.size)++ns++cur.toList.drop (l.length*t.size+ns.length))=cur' at R kl;have iX:=setRow_heap w (G.γ U) cur cur'.toArray e0 (0,0) g1;have kH:∀b,b≠G.γ U->b<w.heap.size->(w.setRow (G.γ U) cur'.toArray).heap[b]?=w.heap[b]?:=λb hb _=>setRow_other w (G.γ U) b _ hb;have kN:w.heap.size<=(w.setRow (G.γ U) cur'.toArray).heap.size:=by simp[World.setRow]
    have kF:∀o,o<l.length*t.size->(w.setRow (G.γ U) cur'.toArray).cell? ⟨G.γ U,o,none⟩=w.cell? ⟨G.γ U,o,none⟩:=by
     intro o ho;have h3:l.length*t.size<=cur.size:=by rw[g4];exact jS _ g2
     simp only[cell?,iX,g1];simp only[isSome_none,Bool.false_eq_true,if_false,List.getElem?_toArray];rw[<-iW,append_assoc,List.getElem?_append_left (by simp;omega),List.getElem?_take,if_pos ho];simp
    have hle:l.length*t.size<=(l.length+l2.length)*t.size:=jS _ (by omega);have J:Ext (λx=>x=AL U\/x=AL d) (λx=>x=AL d) G w (G.reown (G.γ U) d ((l.length+l2.length)*t.size) m) (w.setRow (G.γ U) cur'.toArray):=yQ4 hle g7 kN kH kF;refine⟨_,_,G.reown (G.γ U) d ((l.length+l2.length)*t.size) m,R,J,yF4 C hle g7 ⟨rfl,rfl,rfl⟩ kN kH kF,.inl ⟨ko,.inr ⟨cap,cur'.toArray,e0,us++ns,?_,?_,?_,g3,by simpa using kl,?_,?_,λo=>?_⟩⟩,.inr λb k c gP j u hj=>?_⟩
    rotate_right
    ·simp only[Value.slice.injEq,jA,Addr.mk.injEq] at gP;rw[<-gP.1.1];simp only[cell?,iX];have ql:j<ns.length:=(List.getElem?_eq_some_iff.1 hj).1;have h3:l.length*t.size<=cur.size:=by rw[g4];exact jS _ g2
     simp only[isSome_none,Bool.false_eq_true,if_false,List.getElem?_toArray];rw[<-iW,append_assoc,List.getElem?_append_right (by simp;omega),List.getElem?_append_left (by simp;omega)];simpa[Nat.min_eq_left h3] using hj
    ·simp[Gh.reown]
    ·simp only[Gh.reown,if_true];exact iX
    ·simpa using ky
    ·exact EU (λ_ _ h=>CX J.prot h) (Wr g5 n1)
    ·show List.take ((l++l2).length*t.size) cur'=us++ns;have:(l++l2).length*t.size=(us++ns).length:=by rw[jO,jO,ul,nl,add_mul]
     rw[<-iW,g6,this];exact List.take_left
    ·simp only[Gh.reown,if_true,jO]
   ·have holds:∀j u,us[j]?=some u->w.cell? ((⟨G.γ U,0,none⟩:Addr).add j)=some u:=by
     intro j u hu;rw[Addr.add_mid];rw[<-g6,List.getElem?_take] at hu;split at hu
     ·simp only[cell?,g1];simpa using hu
     ·cases hu
    have R:=run_append_grow (P:=P) w T ty e i z h1 hi hz ⟨G.γ U,0,none⟩ l.length cap us (by rw[ul,hs]) holds ad l2.length cap2 ns (by rw[nl,hs]) n2 (by omega) (by have:=I;simp only[maxLen] at this;omega) (growslice_fits (by omega) kL);have gW:=grownCap_ge w (l.length+l2.length) cap e;have ni:=grownCap_le_maxLen w (l.length+l2.length) cap e I;generalize grownCap w (l.length+l2.length) cap e=nc at R gW ni;have kH:∀b,b<w.heap.size->(w.drew.alloc (.cells (us.toArray++ns.toArray++zeroCells z.cells (nc-(l.length+l2.length))) e)).heap[b]?=w.heap[b]?:=λb hb=>Below.heap_alloc w.drew _ b hb;have kN:w.heap.size<=(w.drew.alloc (.cells (us.toArray++ns.toArray++zeroCells z.cells (nc-(l.length+l2.length))) e)).heap.size:=by simp
    refine⟨_,_,G.reown w.heap.size d ((l++l2).length*t.size) m,R,Wy kN kH,zU4 C ⟨rfl,rfl,rfl⟩ kN kH,?_,.inr λb k c gP j u hj=>?_⟩
    rotate_left
    ·simp only[Value.slice.injEq,jA,Addr.mk.injEq] at gP;rw[<-gP.1.1];have kV:(w.drew.alloc (.cells (us.toArray++ns.toArray++zeroCells z.cells (nc-(l.length+l2.length))) e)).heap[w.heap.size]?=some (.cells (us.toArray++ns.toArray++zeroCells z.cells (nc-(l.length+l2.length))) e (0,0)):=by
      rw[show (w.heap.size)=w.drew.heap.size from rfl,Lc]
     simp only[cell?,kV];have ql:j<ns.length:=(List.getElem?_eq_some_iff.1 hj).1;rw[<-Array.getElem?_toList];simp only[Array.toList_append,append_assoc,<-ul];rw[List.getElem?_append_right (by omega),List.getElem?_append_left (by simp;omega)];simpa using hj
    have J:=Wy (G:=G) (U:=d) (d:=d) (n:=(l++l2).length*t.size) (m:=m) kN kH;have:=yQ5 (cap:=nc) (rest:=(zeroCells z.cells (nc-(l.length+l2.length))).toList) (e:=e) ko (Wr g5 n1) J (by rw[show (w.heap.size)=w.drew.heap.size from rfl,Lc];simp) (by rw[jO,jO,ul,nl,eY iz,<-add_mul,<-add_mul];congr 1;omega) (by simpa using gW) ni;simpa using this
theorem zZ7{χ0:Nat->Nat->Nat}{w0:World}(C:Frame0 χ0 w0 G.χ w){t:Ty}{T:TypeId}(I:AY P (.sl t) (.inl T)){l l2:List t.den}(J:(v=.slice none 0 0/\l=[])\/BQ G w t l U m v)(R:∃a cap,bv=.slice a l2.length cap/\(l2=[]\/∃ad us,a=some ad/\C6 (AN G.χ w t) l2 us/\∀j u,us[j]?=some u->w.cell? (ad.add j)=some u))(hlen:l.length+l2.length<=4294967296):∃v' w' G',(append_ #[T,T] ty #[v,bv]).run P w=.ok v' w'/\Ext (λx=>x=AL U\/x=AL d) (λx=>x=AL d) G w G' w'/\Frame0 χ0 w0 G'.χ w'/\BQ G' w' t (l++l2) d m v':=by obtain⟨a,cap,hv,h⟩:=R;rcases h with h|⟨ad,us,h1,h2,h3⟩;obtain⟨v',w',G',q1,q2,q3,q4,_⟩:=zQ9 (ty:=ty) (d:=d) (ns:=[]) C I J ⟨a,cap,hv,.inl h⟩ hlen;grind;obtain⟨v',w',G',q1,q2,q3,q4,_⟩:=zQ9 (ty:=ty) (d:=d) (ns:=us) C I J ⟨a,cap,hv,.inr ⟨ad,h1,h2,h3⟩⟩ hlen;grind
structure Turned (w w':World) (B:Nat) (cells:Array Value) (ty:TypeId):Prop where
 os:w'.os=w.os
 tape:w'.tape=w.tape
 output:w'.output=w.output
 size:w.heap.size<=w'.heap.size
 at':w'.heap[B]?=some (.cells cells ty (0,0))
 oth:∀b,b<w.heap.size->b≠B->w'.heap[b]?=w.heap[b]?
variable {b:Nat}{cs:Array Value}
theorem Turned.row{w:World}{cur:Array Value}(h:w.heap[b]?=some (.cells cur e (0,0))):Turned w (w.setRow b cs) b cs e:=⟨rfl,rfl,rfl,by simp_all,setRow_heap w b cur cs e (0,0) h,λk _ j=>setRow_other w b k cs j⟩
variable {cells:Array Value}
theorem Turned.new{w:World}:Turned w (w.alloc (.cells cells e)) w.heap.size cells e:=⟨rfl,rfl,rfl,by simp,Lc w _,λb hb _=>Below.heap_alloc w _ b hb⟩
theorem Turned.next{w w' w'':World}(h:Turned w w' b cs e)(j:Turned w' w'' b cells ty):Turned w w'' b cells ty:=⟨j.os.trans h.os,j.tape.trans h.tape,j.output.trans h.output,le_trans h.size j.size,j.at',λk C hb=>(j.oth k (lt_of_lt_of_le C h.size) hb).trans (h.oth k C hb)⟩
theorem Turned.drew{w w':World}(h:Turned w.drew w' b cs e):Turned w w' b cs e:=⟨h.os,h.tape,h.output,h.size,h.at',h.oth⟩
theorem Turned.drew'{w w':World}(h:Turned w w' b cs e):Turned w w'.drew b cs e:=⟨h.os,h.tape,h.output,h.size,h.at',h.oth⟩
theorem xY3{G:Gh}{w w':World}{t:Ty}{l:List t.den}{B:Nat}(ko:Ik t)(R:C6 (AN G.χ w t) l us)(j:Turned w w' B cells ty)(J:(∀o,1<G.χ B o)\/w.heap.size<=B)(gO:l.length<=cap)(hm:cap<=maxLen)(kl:cells.size=cap*t.size)(C:cells.toList.take (l.length*t.size)=us):Frame0 G.χ w (G.reown B 0 0 true).χ w'/\BQ (G.reown B 0 0 true) w' t l 0 true (.slice (some ⟨B,0,none⟩) l.length cap):=by (have kG:∀b o,b<w.heap.size->G.χ b o<=1->(G.reown B 0 0 true).χ b o=G.χ b o/\w'.cell? ⟨b,o,none⟩=w.cell? ⟨b,o,none⟩:=by intro b o hb h0;(have kj:b≠B:=by grind);exact⟨by grind [Gh.reown],by simp[cell?,j.oth b hb kj]⟩);refine⟨⟨j.os,j.tape,j.output,j.size,λb hb h=>?_,kG⟩,.inl ⟨ko,.inr ⟨cap,cells,ty,us,?_,?_,gO,hm,kl,?_,C,λo=>?_⟩⟩⟩;refine j.oth b hb ?_;rcases J with I | I;have:=I 0;grind;grind;simp[Gh.reown];exact j.at';all_goals grind [EU,CX,trans,Gh.reown]
theorem xW4{t:Ty}{l:List t.den}{B:Nat}{w':World}{χ0:Nat->Nat->Nat}{w0:World}(j:Frame0 χ0 w0 G.χ w)(ko:Ik t)(hL:C6 (AN G.χ w t) l us)(C:Turned w w' B cells ty)(hB:w.heap.size<=B)(gO:l.length<=cap)(hm:cap<=maxLen)(kl:cells.size=cap*t.size)(J:cells.toList.take (l.length*t.size)=us):Ext (λx=>x=AL d\/x=AL d) (λx=>x=AL d) G w (G.reown B d 0 true) w'/\Frame0 χ0 w0 (G.reown B d 0 true).χ w'/\BQ (G.reown B d 0 true) w' t l d true (.slice (some ⟨B,0,none⟩) l.length cap):=by (have hx:Ext (λx=>x=AL d\/x=AL d) (λx=>x=AL d) G w (G.reown B d 0 true) w':=by refine⟨λb o hb h=>?_,λb hb _=>?_,C.size,λs _=>rfl,λT C=>?_,λ_ h=>.inr h⟩;exact⟨by simp only[Gh.reown];grind,by simp[cell?,C.oth b hb (by omega)]⟩;exact⟨C.oth b hb (by omega),λo=>by simp only[Gh.reown];rw[if_neg (by omega)]⟩;simp only[Gh.reown];rw[if_neg (λe=>C (by rw[e]))]);refine⟨hx,⟨C.os.trans j.os,C.tape.trans j.tape,C.output.trans j.output,le_trans j.size C.size,λb hb R=>?_,λb o hb R=>?_⟩,.inl ⟨ko,.inr ⟨cap,cells,ty,us,?_,?_,gO,hm,kl,?_,J,λo=>?_⟩⟩⟩;have I:=lt_of_lt_of_le hb j.size;rw[C.oth b I (by omega)];exact j.block b hb R;have h1:=j.cell b o hb R;have I:=lt_of_lt_of_le hb j.size;exact⟨by simp only[Gh.reown];grind,by rw[<-h1.2];simp[cell?,C.oth b I (by omega)]⟩;simp[Gh.reown];simp[Gh.reown];exact C.at';exact EU (λ_ _ h=>CX hx.prot h) hL;grind [Gh.reown]
def xJ8 (P:Program)(f k:Nat):Prop:=(∃fn,P.funcs[f]?=some fn/\fn.body.isSome/\fn.name≠"runtime.NumGoroutine") /\
 ∀(b o n c:Nat) (cur:Array Value) (e0:TypeId) (us:List Value) (w:World),0<n->n<=4294967296->n<=c->us.length=n*k->(∀v∈us,v.oneCell'=true)->w.heap[b]?=some (.cells cur e0 (0,0))->(∀j u,us[j]?=some u->cur.toList[o+j]?=some u) ->
  Calls P f #[.slice (some ⟨b,o,none⟩) n c] w λe w'=>∃B cap cells ty,e=.returned (.slice (some ⟨B,0,none⟩) n cap)/\w.heap.size<=B/\Turned w w' B cells ty/\n<=cap/\cap<=maxLen/\cells.size=cap*k/\cells.toList.take (n*k)=us
open Go Go.RowKit Go.MapKept
variable {P:Program}{c:Ctx}{G:Gh}{w:World}{tm:Array Value}
def N4:Ty->Bool
 |.int _=>true|.str=>true|.bool=>true|_=>false
def Jq (P:Program)(l:List (Nat×(Ty×Ty))):Bool:=l.all λe=>match P.underlying e.1 with
 |some (.map a b)=>AY P e.2.1 (.inl a)&&AY P e.2.2 (.inl b)&&N4 e.2.1&&e.2.2.noPtr
 |_=>false
structure MapTyIs (P:Program) (T:Nat) (k v:Ty):Prop where
 is:∃a b,P.underlying T=some (.map a b)/\AY P k (.inl a)/\AY P v (.inl b)=true
 key:N4 k=true
 np:v.noPtr=true
variable {T:Nat}
theorem yM3(h:Jq P c.maps){k v:Ty}(hm:c.mapTy T=some (k,v)):MapTyIs P T k v:=by (have gC:(T,(k,v))∈c.maps:=by unfold Ctx.mapTy at hm;generalize c.maps=l at hm;induction l<;>grind [look,Nat.beq,jC,jQ]);have:=List.all_eq_true.1 h _ gC;split at this;rename_i a b hu;simp at this;exact⟨⟨a,b,hu,this.1.1.1,this.1.1.2⟩,this.1.2,this.2⟩;grind
theorem xV2{k:Ty}{a:Nat}(j:N4 k)(ht:AY P k (.inl a)):∃d,P.underlying a=some d/\∀{χ:Nat->Nat->Nat}{x:k.den}{v:Value},DO χ w k x v->IsKey d v:=by cases k with|int k=>exact⟨_,eB ht,λh=>by grind [VRep_int,IsKey]⟩|str=>exact⟨_,Nw ht,λh=>by grind [VRep_str,IsKey]⟩|bool=>exact⟨_,yO7 ht,λh=>by grind [VRep_bool,IsKey]⟩|_=>grind [N4]
variable {χ:Nat->Nat->Nat}
theorem xW5{k:Ty}(j:N4 k){x y:k.den}{u:Value}(C:DO χ w k x v)(I:DO χ w k y u):k.eqb x y=true↔u=v:=by cases k<;>grind [VRep_int,Ty.eqb,VRep_str,bool,VRep_bool,N4]
theorem yZ5{k e:Ty}{d:TypeDesc}(hk:N4 k)(I:∀{x:k.den}{v:Value},DO χ w k x v->IsKey d v){x:k.den}(J:DO χ w k x v):∀{l:List (k.den×e.den×Unit)}{es:List MapEntry}(i:Nat),Il χ w k e l es->(E7 k e x l=none/\findNow d v es i=some none/\∀y,He k e x y l=l++[(x,y,())])\/∃y j en,E7 k e x l=some y/\findNow d v es i=some (some (i+j,en.val))/\es[j]?=some en/\en.key=v/\DO χ w e y en.val/\∀z,He k e x z l=l.set j (x,z,()):=by intro l;induction l with|nil=>intro es i h;subst h;exact .inl ⟨rfl,rfl,λy=>rfl⟩|cons q l ih=>intro es i h;obtain⟨en,r,rfl,R,h2,h3⟩:=h;obtain⟨b,hb,C⟩:=sameNow_of_keys (I J) (I R);have hq:=xW5 hk J R;cases b with|true=>have e1:=C.1 rfl;exact .inr ⟨q.2.1,0,en,by grind [E7],by grind [findNow],rfl,e1.symm,h2,λz=>by grind [He]⟩|false=>rcases ih (i+1) h3 with ⟨g1,g2,g3⟩ | ⟨y,j,en',g1,g2,g3,g4,g5,g6⟩;grind [E7,findNow,He];exact .inr ⟨y,j+1,en',by grind [E7],by grind [findNow],by simpa using g3,g4,g5,λz=>by grind [He]⟩
variable {τ:Ty}
theorem xJ9(ht:AY P τ (.inl b))(J:τ.noPtr):∃z,(zeroValue b).run P w=.ok z w/\DO χ w τ τ.dflt z:=by obtain⟨⟨i,z,R,_,_,hz,I,C⟩,_⟩:=GP ht;refine⟨z,by simp_all [zeroValue,typeInfo],DC τ,S7 J,?_⟩;cases j:τ.isAgg with|true=>rw[j] at C;simp;cases z<;>simp[Wo] at C;simp only[Value.cells] at I;rw[<-I]|false=>rw[j] at C;cases z<;>simp[Wo] at C<;>simpa[Value.cells] using I.symm
theorem yM4{k e:Ty}{l:List (k.den×e.den×Unit)}(h:BQ G w (Hd k e) l T m v):dX G w k e l T v:=by rcases h with h|⟨_,I,J,l',ht,R,h⟩;exact absurd h.1.2 (by simp[Ty.isL]);injection ht with C j;injection j with j _;subst C;subst j;simp_all
variable {A:AVal}{p:List Prop}
theorem yM5(hm:Jq P c.maps){x y:AVal}{u:Value}{ok:Bool}(hx:zA G w tm none x v)(hy:zA G w tm none y u)(h:yT1 c T x y ok=some (p,A)) :
  ∃r,(Instr.lookup T v u ok).run P w=.ok r w/\zA G w tm none A r:=by
 unfold yT1 at h;split at h
 ·rename_i k e hT;obtain⟨⟨a,b,hu,hk,he⟩,iY,J⟩:=yM3 hm hT;split at h
  ·rename_i t l U m;split at h
   ·rename_i l' q R hq;obtain⟨ec,R⟩:=E5 R;injection ec with ec
    subst ec;subst R;obtain⟨es,clock,rfl,hb,hE,_⟩:=yM4 hx;have I:=Ip hq (by cases k<;>first|rfl|grind [N4]) hy
    obtain⟨d,hd,ma⟩:=xV2 (w:=w) iY hk;have ta:∀r:Option (Nat×Value),findNow d u es.toList 0=some r->(Instr.lookup T (.map (some (G.γ U))) u ok).run P w =
      ((match r with|some (_,z)=>pure (z,true)|none=>(do pure (<-zeroValue b,false)):Sem (Value×Bool)).run P w).andThen λz=>(pure (if ok then .tuple #[z.1,.bool z.2] else z.1):Sem Value).run P:=by
     intro r C;simp[Instr.lookup,run_underlying hu,Go.MapKept.run_getObj_map hb,run_checkKey hd (ma I) es.isEmpty 9999,run_findKey hd C];cases r with
     |none=>simp ;cases Sem.run P (zeroValue b) w<;>rfl
     |some q=>rfl
    obtain⟨z0,hz0,hzr⟩:=xJ9 (P:=P) (w:=w) (χ:=G.χ) he J;rcases yZ5 iY (e:=e) (d:=d) ma I 0 hE with ⟨g1,g2,_⟩ | ⟨y',j,en,g1,g2,g3,g4,g5,_⟩
    ·have C:=ta _ g2;simp[hz0] at C;rw[g1] at h;cases ok with
     |true =>
      obtain⟨rfl,rfl⟩:=h;refine⟨_,C,?_⟩;exact⟨_,[.bool false],rfl,hzr,_,[],rfl,VRep_bool.2 rfl,rfl⟩
     |false =>
      grind [zA]
    ·have C:=ta _ g2;simp  at C;rw[g1] at h;cases ok with
     |true =>
      obtain⟨rfl,rfl⟩:=h;refine⟨_,C,?_⟩;exact⟨_,[.bool true],rfl,g5,_,[],rfl,VRep_bool.2 rfl,rfl⟩
     |false =>
      grind [zA]
   grind
  grind
 grind
theorem yU3{k e:Ty}:∀{l:List (k.den×e.den×Unit)}{es:List MapEntry}{x:k.den×e.den×Unit}{en:MapEntry},Il χ w k e l es->DO χ w k x.1 en.key->DO χ w e x.2.1 en.val->Il χ w k e (l++[x]) (es++[en]):=by intro l;induction l with|nil=>intro es x en h j C;subst h;exact⟨en,[],rfl,j,C,rfl⟩|cons q l I=>rintro es x en ⟨J,r,rfl,g1,g2,g3⟩ j C;exact⟨J,r++[en],rfl,g1,g2,I g3 j C⟩
theorem xR3{k e:Ty}:∀{l:List (k.den×e.den×Unit)}{es:List MapEntry}{x:k.den×e.den×Unit}{en:MapEntry}{j:Nat},Il χ w k e l es->DO χ w k x.1 en.key->DO χ w e x.2.1 en.val->Il χ w k e (l.set j x) (es.set j en):=by intro l;induction l with|nil=>grind [Il]|cons q l J=>rintro es x en j ⟨R,r,rfl,g1,g2,g3⟩ C I;cases j with|zero=>exact⟨en,r,rfl,C,I,g3⟩|succ j=>exact⟨R,r.set j en,rfl,g1,g2,J g3 C I⟩
variable {ev kv:Value}
theorem zW5{k e:Ty}(hT:MapTyIs P T k e){l:List (k.den×e.den×Unit)}{x:k.den}{y:e.den}(hM:dX G w k e l U v)(C:DO G.χ w k x kv)(he:DO G.χ w e y ev):∃es' clock',(mapUpdate T v kv ev).run P w=.ok () { w with heap:=w.heap.setIfInBounds (G.γ U) (.map es' clock') }/\Il G.χ w k e (He k e x y l) es'.toList:=by obtain⟨⟨a,b,hu,J,_⟩,iY,_⟩:=hT;obtain⟨es,clock,rfl,hb,hE,_⟩:=hM;obtain⟨d,I,ma⟩:=xV2 (w:=w) iY J;rcases yZ5 iY (e:=e) (d:=d) ma C 0 hE with ⟨g1,g2,g3⟩ | ⟨y',j,en,g1,g2,g3,g4,g5,g6⟩;refine⟨es.push { key:=kv,val:=ev,born:=clock },clock+1,?_,?_⟩;simp[mapUpdate,run_underlying hu,Go.MapKept.run_getObj_map hb,run_checkKey I (ma C),run_findKey I g2,run_setObj_map _ hb];grind [Array.toList_push,yU3];(have hj:es[j]?=some en:=by grind);refine⟨es.modify j λR=>{ R with key:=kv,val:=ev },clock,?_,?_⟩;simp[mapUpdate,run_underlying hu,Go.MapKept.run_getObj_map hb,run_checkKey I (ma C),run_findKey I g2,hj,g4,run_keyThatStays (ma C),run_setObj_map _ hb];(have:(es.modify j λR=>{ R with key:=kv,val:=ev }).toList=es.toList.set j { en with key:=kv,val:=ev }:=by apply ext_getElem?;grind);grind [xR3]
variable {gtab:GlobTab}{P:Program}{c:Ctx}{G:Gh}{w:World}{tm:Array Value}{n:Nat}{χ0:Nat->Nat->Nat}{w0:World}{S:St}{a:Act}
theorem xR4{g:Nat}:∀{l:List (Nat×(τ:Ty)×τ.den)},xH l g=.junk\/∃τ x,(g,⟨τ,x⟩)∈l/\xH l g=.val (.ptr τ) x:=by intro l;induction l with|nil=>exact .inl rfl|cons e r j=>obtain⟨k,τ,x⟩:=e;simp only[xH];cases hb:Nat.beq k g with|true=>have:=jC hb;subst this;exact .inr ⟨τ,x,jQ ..,rfl⟩|false=>grind
theorem Jr (j:Rel n χ0 w0 S a w G)(x:Operand):zA G w a.tmps none (arg S x) (a.eval x):=by cases x with|tmp t=>have h:=j.reps t;grind [arg,Act.eval,zA,E2,Ty.poff,S1]|const v=>simp[arg,Act.eval];unfold xU9;split;all_goals grind [FW,zD,zA,VRep_str]|func f=>grind [arg,Act.eval,zA]|global g=>simp[arg,Act.eval];rcases xR4 (g:=g) (l:=GlobTab.tab) with h|⟨τ,x,C,I⟩;grind [zA];obtain⟨vs,J,R⟩:=j.glob g τ x C;grind [S3]
def FX (tm:Array Value)(gd:Gd):Prop:=∀s w g,gd=some (s,w,g)->tm.getD s undef=.bool w
variable {gd:Gd}
theorem Wz(C:FX tm gd)(h:zA G w tm none A v):zA G w tm none (zF gd A) v:=by cases A with|opt s w' g A=>simp only[zA] at h;simp only[zF];split;rename_i I w'' g';(cases j:(Nat.beq s I&&(w'==w'')) with|false=>simp[zA]|true=>simp only[jB] at j;have e:=jC j.1;subst e;have:=C s w'' g' rfl;grind);grind [zA]|_=>grind [zF]
variable {γ β α:Type}
theorem xR5{R:β->γ->Prop}{f:α->β}{g:α->γ}:∀(l:List α),(∀x∈l,R (f x) (g x))->C2 R (l.map f) (l.map g):=by intro l;induction l with|nil=>intro _;trivial|cons x l j=>intro h;exact⟨h x (by simp),j (λy C=>h y (by grind))⟩
variable {s:Nat}
theorem yU4(j:FX tm gd)(h:zA G w tm (some s) A v):∃u,zA G w tm (some s) (zF gd A) u:=by cases A with|opt C w' g A=>(have I:zA G w tm none (.opt C w' g A) v:=by grind [zA]);exact⟨v,OX (Wz j I)⟩|_=>exact⟨v,h⟩
theorem yZ6(j:Rel n χ0 w0 S a w G)(C:FX a.tmps gd)(l:List Operand):C2 (zA G w a.tmps none) ((l.map (arg S)).map (zF gd)) (l.map a.eval):=by grind [map_map,xR5,Wz,Jr]
theorem N5(j:Rel n χ0 w0 S a w G)(h:EF A=some s):zA G w a.tmps (some s) (C4 S A) (a.tmps.getD s undef):=by cases A with|ref C τ p=>simp[EF] at h;subst h;exact j.reps _|eref C T t i p=>simp[EF] at h;subst h;exact j.reps _|rref C=>simp[EF] at h;subst h;exact j.reps _|_=>grind [EF]
theorem Ld{R:α->β->Prop}{x:α}{l:List β}(h:C2 R [x] l):∃y,l=[y]/\R x y:=by match l,h with |[y],h=>exact⟨y,rfl,h.1⟩
theorem eZ{R:α->β->Prop}{x y:α}{l:List β}(h:C2 R [x,y] l):∃u v,l=[u,v]/\R x u/\R y v:=by match l,h with |[u,v],h=>exact⟨u,v,rfl,h.1,h.2.1⟩
theorem xR6:∀{xs:List AVal}{vs:List Value},C2 (zA G w tm none) xs vs->zA G w tm none (AVal.ofL xs) (.tuple vs.toArray):=by intro xs;induction xs with|nil=>grind [C2,AVal.ofL,zA]|cons x xs j=>intro vs h;cases vs<;>simp only[C2] at h;exact⟨_,_,rfl,h.1,j h.2⟩
set_option maxHeartbeats 800000 in
theorem xK (km:E3 P c.tys)(hmt:Jq P c.maps)(ny:Jp P c.fts)(o:Oper){d:Nat}{xs ks:List AVal}{p:List Prop}{A:AVal}(hm:HN o.op=false)
  (hx:C2 (zA G w a.tmps none) xs ((CB o.op).map a.eval)) (hk:∀(i:Nat) X k,xs[i]?=some X->ks[i]?=some k->∀s,EF X=some s->∃u,zA G w a.tmps (some s) k u)
  (h:HM c d o.op xs ks=some (p,A)) (hp:∀q∈p,q):∃v,(execOp a.eval o).run P w=.ok (.value v) w/\zA G w a.tmps none A v:=by
 obtain⟨dst,op,ty,pos,after,guard⟩:=o;simp only at hm hx h ⊢;unfold HM at h;split at h
 ·-- move
  rename_i x A';simp only[jA,jG] at h;obtain⟨rfl,rfl⟩:=h;simp only[CB,map_cons,map_nil] at hx;obtain⟨y,e,h1⟩:=Ld hx;simp only[List.cons.injEq,and_true] at e;subst e;exact⟨_,by simp[execOp],h1⟩
 ·-- assign
  simp only[jA,jG] at h;obtain⟨rfl,rfl⟩:=h;simp only[CB,map_cons,map_nil] at hx;obtain⟨y,e,h1⟩:=Ld hx;simp only[List.cons.injEq,and_true] at e;subst e;exact⟨_,by simp[execOp],h1⟩
 ·simp[HN] at hm
 ·simp[HN] at hm
 ·-- load
  rename_i T x A' k;simp only[CB,map_cons,map_nil] at hx;obtain⟨y,e,h1⟩:=Ld hx;simp only[List.cons.injEq,and_true] at e;subst e;obtain⟨u,h2,h3⟩:=yF1 km ny h1 (λs hs=>hk 0 A' k rfl rfl s hs) h hp;exact⟨u,by simp[execOp,h2],h3⟩
 ·-- nilCheck
  rename_i x A';simp only[CB,map_cons,map_nil] at hx;obtain⟨y,e,h1⟩:=Ld hx;simp only[List.cons.injEq,and_true] at e;subst e;split at h
  ·simp only[jA,jG] at h;obtain⟨rfl,rfl⟩:=h;have h2:=h1;simp only[zA] at h2;have h2:=(zC rfl).1 h2;simp only[AN] at h2;obtain⟨b,of,us,hv,_⟩:=h2;injection hv with hv _
   exact⟨a.eval x,by simp[execOp,hv],h1⟩
  ·simp only[jA,jG] at h;obtain⟨rfl,rfl⟩:=h;have h2:=h1;simp only[zA] at h2;exact⟨a.eval x,by simp[execOp,h2.2],h1⟩
  ·simp only[jA,jG] at h;obtain⟨rfl,rfl⟩:=h;have h2:=h1;simp only[zA] at h2;exact⟨a.eval x,by simp[execOp,h2.2.2],h1⟩
  ·simp only[jA,jG] at h;obtain⟨rfl,rfl⟩:=h;have h2:=h1;simp only[zA] at h2;obtain⟨vs,hv,_⟩:=h2;exact⟨a.eval x,by simp[execOp,hv],h1⟩
  ·cases h
 ·-- binOp
  rename_i bo T x y yt A' B;simp only[CB,map_cons,map_nil] at hx;obtain⟨u,v,e,h1,h2⟩:=eZ hx;simp only[List.cons.injEq,and_true] at e;obtain⟨rfl,rfl⟩:=e;obtain⟨r,h3,h4⟩:=xC0 (ox:=x) km h1 h2 h hp;refine⟨r,?_,h4⟩;show (do let s <-(do eqGuard bo T x y (a.eval x) (a.eval y);binOp bo T (a.eval x) (a.eval y):Sem Value);pure (Next.value s):Sem Next).run P w=_
  rw[run_bind,h3];rfl
 ·-- unOp
  simp only[CB,map_cons,map_nil] at hx;obtain⟨y,e,h1⟩:=Ld hx;simp only[List.cons.injEq,and_true] at e;subst e;obtain⟨u,h2,h3⟩:=xJ3 (P:=P) h1 h hp;exact⟨u,by simp[execOp,h2],h3⟩
 ·-- convert
  simp only[CB,map_cons,map_nil] at hx;obtain⟨y,e,h1⟩:=Ld hx;simp only[List.cons.injEq,and_true] at e;subst e;obtain⟨u,h2,h3⟩:=yU km h1 h;exact⟨u,by simp[execOp,h2],h3⟩
 ·-- build
  simp only[CB] at hx;obtain⟨u,h2,h3⟩:=yQ km hx h;exact⟨u,by simp[execOp,h2],h3⟩
 ·simp[HN] at hm
 ·simp[HN] at hm
 ·-- slice
  rename_i T x lo hi A' r;have key:∀{vlo vhi:Option Value},vlo=lo.map a.eval->vhi=hi.map a.eval->(∃r,(Instr.sliceAt T (a.eval x) vlo vhi none).run P w=.ok r w/\zA G w a.tmps none A r)->∃v,(execOp a.eval ⟨dst,.slice T x lo hi none,ty,pos,after,guard⟩).run P w=.ok (.value v) w/\zA G w a.tmps none A v:=by
   rintro _ _ rfl rfl ⟨r,h1,h2⟩;exact⟨r,by simp[execOp,h1],h2⟩
  cases lo with
  |none =>
   cases hi with
   |none =>
    simp only[CB,toList_none,nil_append,map_cons,map_nil] at hx;cases r with
    |cons _ _=>simp[C2] at hx
    |nil=>exact key rfl rfl (zM km hx.1 (λA e=>by simp[Hf] at e) (λ_=>rfl) (λA e=>by simp[Hf] at e) (λ_=>rfl) h hp)
   |some y =>
    simp only[CB,toList_none,toList_some,nil_append,append_nil,map_cons,map_nil] at hx
    match r,hx with
    |[B],hx=>exact key rfl rfl (zM km hx.1 (λA e=>by simp[Hf] at e) (λ_=>rfl) (λA e=>by simp only[Hf,jA] at e;subst e;exact⟨_,rfl,hx.2.1⟩) (λe=>by simp[Hf] at e) h hp)
  |some z =>
   cases hi with
   |none =>
    simp only[CB,toList_none,toList_some,append_nil,map_cons,map_nil] at hx
    match r,hx with
    |[B],hx=>exact key rfl rfl (zM km hx.1 (λA e=>by simp only[Hf,jA] at e;subst e;exact⟨_,rfl,hx.2.1⟩) (λe=>by simp[Hf] at e) (λA e=>by simp[Hf] at e) (λ_=>rfl) h hp)
   |some y =>
    simp only[CB,toList_none,toList_some,append_nil,map_cons,map_nil,cons_append,nil_append] at hx
    match r,hx with
    |[B,C],hx=>exact key rfl rfl (zM km hx.1 (λA e=>by simp only[Hf,jA] at e;subst e;exact⟨_,rfl,hx.2.1⟩) (λe=>by simp[Hf] at e) (λA e=>by simp only[Hf,jA] at e;subst e;exact⟨_,rfl,hx.2.2.1⟩) (λe=>by simp[Hf] at e) h hp)
 ·-- fieldAddr
  simp only[CB,map_cons,map_nil] at hx;obtain⟨y,e,h1⟩:=Ld hx;simp only[List.cons.injEq,and_true] at e;subst e;obtain⟨u,h2,h3⟩:=yB5 km h1 h;exact⟨u,by simp[execOp,h2],h3⟩
 ·-- field
  simp only[CB,map_cons,map_nil] at hx;obtain⟨y,e,h1⟩:=Ld hx;simp only[List.cons.injEq,and_true] at e;subst e;obtain⟨u,h2,h3⟩:=yP2 km h1 h;exact⟨u,by simp[execOp,h2],h3⟩
 ·-- indexAddr
  simp only[CB,map_cons,map_nil] at hx;obtain⟨u,v,e,h1,h2⟩:=eZ hx;simp only[List.cons.injEq,and_true] at e;obtain⟨rfl,rfl⟩:=e;obtain⟨r,h3,h4⟩:=yB6 km h1 h2 h hp;exact⟨r,by simp[execOp,h3],h4⟩
 ·-- index
  simp only[CB,map_cons,map_nil] at hx;obtain⟨u,v,e,h1,h2⟩:=eZ hx;simp only[List.cons.injEq,and_true] at e;obtain⟨rfl,rfl⟩:=e;obtain⟨r,h3,h4⟩:=yP1 km h1 h2 h hp;exact⟨r,by simp[execOp,h3],h4⟩
 ·-- extract
  simp only[CB,map_cons,map_nil] at hx;obtain⟨y,e,h1⟩:=Ld hx;simp only[List.cons.injEq,and_true] at e;subst e;obtain⟨u,h2,h3⟩:=yH9 (P:=P) h1 h;exact⟨u,by simp[execOp,h2],h3⟩
 ·-- lookup
  simp only[CB,map_cons,map_nil] at hx;obtain⟨u,v,e,h1,h2⟩:=eZ hx;simp only[List.cons.injEq,and_true] at e;obtain⟨rfl,rfl⟩:=e;obtain⟨r,h3,h4⟩:=yM5 hmt h1 h2 h;exact⟨r,by simp[execOp,h3],h4⟩
 ·-- makeMap
  simp[HN] at hm
 ·-- makeFunc
  rename_i f fs cs0;split at h
  ·rename_i hfs;simp only[jA,jG] at h;obtain⟨rfl,rfl⟩:=h;have hfs':fs=#[]:=by simpa using hfs
   subst hfs';simp only[CB] at hx;refine⟨.func (.func f) #[] (cs0.map a.eval),by simp[execOp,Instr.makeFunc],?_⟩;simp only[zA];refine⟨_,rfl,?_⟩;have:=xR6 hx;rw[show (map a.eval cs0.toList).toArray=cs0.map a.eval from toList_inj.1 (by simp)] at this;exact this
  ·cases h
 ·-- len
  rename_i args ats A';simp only[CB] at hx;obtain⟨y,e,h1⟩:=Ld hx;have ke:args.map a.eval=#[y]:=by
   apply toList_inj.1;simpa using e
  obtain⟨u,h2,h3⟩:=xC1 (ty:=ty) km h1 h;exact⟨u,by simp[execOp,resolve,invoke,builtin,ke,h2],h3⟩
 ·-- max
  rename_i args ats;simp only[CB] at hx;obtain⟨v,r,e,u,h2,h3⟩:=yJ (P:=P) (g:=max2) xR1 hx h;have ke:(args.map a.eval).toList=v::r:=by simpa using e
  exact⟨u,by simp[execOp,resolve,invoke,builtin,max_,e,h2],h3⟩
 ·-- min
  rename_i args ats;simp only[CB] at hx;obtain⟨v,r,e,u,h2,h3⟩:=yJ (P:=P) (g:=min2) xR2 hx h;exact⟨u,by simp[execOp,resolve,invoke,builtin,min_,e,h2],h3⟩
 ·cases h
variable {gtab:GlobTab}{P:Program}{c:Ctx}{G:Gh}{w:World}{tm:Array Value}{n:Nat}{χ0:Nat->Nat->Nat}{w0:World}{S:St}{a:Act}
theorem yJ1 (z:List Value)(k n:Nat)(C:z.length=k)(R:0<k):((range (n*k)).map (λi=>z.toArray[i % z.toArray.size]!)).toList=(replicate n z).flatten:=by apply ext_getElem?;intro j;by_cases I:j<n*k;(have J:j % k<z.length:=by rw[C];exact Nat.mod_lt _ R);(have key:∀(n j:Nat),j<n*k->(replicate n z).flatten[j]?=z[j % k]?:=by intro n;induction n with|zero=>omega|succ n ih=>intro j I;simp[List.replicate_succ];by_cases h1:j<k;rw[List.getElem?_append_left (by omega),Nat.mod_eq_of_lt h1];rw[List.getElem?_append_right (by omega),ih (j-z.length) (by rw[succ_mul] at I;omega),C,Nat.mod_eq_sub_mod (a:=j) (by omega)]);grind;simp_all
theorem zR(z:List Value){n m:Nat}(h:n<=m):(replicate m z).flatten=(replicate n z).flatten++(replicate (m-n) z).flatten:=by grind [List.flatten_append,List.replicate_append_replicate]
theorem yM6{t:Ty}{T:TypeId}{ie:TypeInfo}{z:Value}(h1:P.underlying T=some (.slice e))(iT:P.info? e=some ie)(hz:ie.zero=some z)(gV:ie.size=t.size)(qs:ie.bytes<=32768)(qe:z.cells=(DC t).toArray)(tb:0<t.size)(n m:Int)(hb:0<=n/\n<=m/\m<=4294967296)(k1 k2:IntKind):(Instr.makeSlice T (.int k1 n) (.int k2 m)).run P w=.ok (.slice (some ⟨w.heap.size,0,none⟩) n.toNat m.toNat) (w.alloc (.cells ((replicate n.toNat (DC t)).flatten++(replicate (m.toNat-n.toNat) (DC t)).flatten).toArray e)):=by have mb:IntKind.i64.wrap n=n:=IntWalk.i64_in _ (by omega);have j:IntKind.i64.wrap m=m:=IntWalk.i64_in _ (by omega);have hbm:(ie.bytes:Int)*m<=32768*4294967296:=Int.mul_le_mul (by omega) hb.2.2 (by omega) (by omega);(have tx:((range (m.toNat*t.size)).map (λi=>(if m.toNat*t.size=0 then (#[]:Array Value) else (DC t).toArray)[i % (if m.toNat*t.size=0 then (#[]:Array Value) else (DC t).toArray).size]!))=((replicate n.toNat (DC t)).flatten++(replicate (m.toNat-n.toNat) (DC t)).flatten).toArray:=by by_cases J:m.toNat*t.size=0;(have R:m.toNat=0:=by grind [Nat.mul_eq_zero]);(have gu:n.toNat=0:=by omega);simp[R,gu];simp only[if_neg J];apply toList_inj.1;rw[yJ1 _ _ _ eV tb,zR (DC t) (show n.toNat<=m.toNat by omega)]);(have gQ:¬(281474976710656<(ie.bytes:Int)*m):=by omega);(have C:¬m<0:=by omega);(have gu:¬n<0:=by omega);(have I:¬m<n:=by omega);rw[<-tx];by_cases J:m.toNat*t.size=0;simp[Instr.makeSlice,run_underlying h1,asInt,asIntOf,typeInfo,sizeOf,iT,gV,mb,j,gQ,C,gu,I,J,newRow];simp[Instr.makeSlice,run_underlying h1,asInt,asIntOf,typeInfo,sizeOf,zeroValue,iT,hz,qe,gV,mb,j,gQ,C,gu,I,J,newRow]
theorem yM7{t:Ty}{e:Nat}(j:t.noPtr)(hv:Ik t)(n m:Int)(hb:0<=n/\n<=m/\m<=4294967296):zA (G.newArr w.heap.size d) (w.alloc (.cells ((replicate n.toNat (DC t)).flatten++(replicate (m.toNat-n.toNat) (DC t)).flatten).toArray e)) tm (some d) (.own t (replicate n.toNat t.dflt) d true) (.slice (some ⟨w.heap.size,0,none⟩) n.toNat m.toNat):=by have:=xJ7 (G:=G) (w:=w) (tm:=tm) (l:=replicate n.toNat t.dflt) (rest:=(replicate (m.toNat-n.toNat) (DC t)).flatten) (d:=d) (e:=e) (cap:=m.toNat) (zJ (S7 j) n.toNat) hv (by rw[<-zR (DC t) (show n.toNat<=m.toNat by omega)];simp[eV]) (by grind) (by simp only[maxLen];omega);grind
variable {xs:List AVal}{o:Oper}
theorem xK0(km:E3 P c.tys){ps:Array (Nat×Operand)}(ho:o.op=.buildSlice T U ps)(hfr:Frame0 χ0 w0 G.χ w)(I:C2 (zA G w a.tmps none) xs ((ps.toList.map (·.2)).map a.eval))(h:dH c T U d (Gi ps.toList xs)=some (p,A)):xZ4 A/\∃v w' G',(execOp a.eval o).run P w=.ok (.value v) w'/\(Ext (· =BL d) (· =BL d) G w G' w'\/Ext (· =AL d) (· =AL d) G w G' w')/\Frame0 χ0 w0 G'.χ w'/\∀tm,zA G' w' tm (some d) A v:=by unfold dH at h;split at h;rename_i hz0;(cases hb:(c.wr.any (Nat.beq d)&&Nat.beq U 1) with|false=>simp only[hb,jD] at h;cases h|true=>simp only[hb,jE] at h;simp only[jB] at hb;have e:=jC hb.2;subst e;split at h;rename_i s J;(cases R:s.isL with|true=>simp[R] at h|false=>simp only[R,Bool.not_false,jE,jA,jG] at h;obtain⟨rfl,rfl⟩:=h;have hT:=Im km T (by rw[J];simp);rw[J] at hT;obtain⟨e,h1,h2⟩:=GQ hT;obtain⟨⟨ie,z,iT,gV,_,hz,ik,_⟩,_⟩:=GP h2;(have qe:z.cells=#[.slice none 0 0]:=by apply toList_inj.1;rw[ik];rfl);have gV:ie.size=1:=gV;(have hlx:xs.length=ps.toList.length:=by rw[N3 I];simp);obtain⟨e1,C⟩:=zQ5 hlx;rw[hz0] at e1 C;simp only[map_cons,map_nil] at e1 C;rw[<-e1] at I;(obtain⟨o1,iD⟩:∃o1,ps.toList=[(0,o1)]:=by match hq:ps.toList,C with |[(k,o1)],C=>simp only[map_cons,map_nil,List.cons.injEq,and_true] at C;exact⟨o1,by rw[<-C]⟩);rw[iD] at I;simp only[map_cons,map_nil] at I;have hv:=I.1;simp only[zA] at hv;(have kU:(ps.map λ(i,x)=>(i,a.eval x)).toList=[(0,.slice none 0 0)]:=by rw[Array.toList_map,iD];simp[hv]);(have kf:(Instr.buildSlice T 1 (ps.map λ(i,x)=>(i,a.eval x))).run P w=.ok (.slice (some ⟨w.heap.size,0,none⟩) 1 1) (w.alloc (.cells #[.slice none 0 0] e)):=by refine run_buildSlice w T e 1 _ #[.slice none 0 0] ie z h1 iT hz (by rw[gV];decide) (by rw[gV];decide) ?_;rw[kU,gV,qe];have qf:(Value.slice none 0 0).cells=#[.slice none 0 0]:=rfl;simp[Instr.fill,show range 1=#[0] from rfl,qf]);refine⟨rfl,.slice (some ⟨w.heap.size,0,none⟩) 1 1,w.alloc (.cells #[.slice none 0 0] e),G.newArr w.heap.size d,?_,.inr (Wv _ d),Pe hfr _ _ (λb o hb=>by simp only[Gh.newArr];rw[if_neg (by omega)]),λtm=>?_⟩;unfold execOp;simp[ho,kf];simp only[zA];have kz:(Ty.sl s).plain:=Nx h2;simp only[Ty.plain,jB] at kz;refine⟨⟨kz.2,R⟩,.inr ⟨by omega,.inr ⟨1,#[.slice none 0 0],e,by simp[Gh.newArr],?_,by simp,by simp[maxLen],by simp,λo=>by simp[Gh.newArr],λj x hj=>?_⟩⟩⟩;simp only[Gh.newArr,if_true];exact Lc w _;cases j with|zero=>simp only[List.getElem?_cons_zero,jA] at hj;subst hj;exact⟨.slice none 0 0,by simp,by rw[if_pos rfl];exact⟨⟨kz.2,R⟩,.inl ⟨rfl,rfl⟩⟩⟩|succ j=>simp at hj);cases h);cases h
theorem xC4(km:E3 P c.tys)(_hmt:Jq P c.maps)(ny:Jp P c.fts)(o:Oper){ks:List AVal}(hm:HN o.op)(I:Frame0 χ0 w0 G.χ w)(C:C2 (zA G w a.tmps none) xs ((CB o.op).map a.eval))(h:HM c d o.op xs ks=some (p,A))(hp:∀q∈p,q):xZ4 A/\∃v w' G',(execOp a.eval o).run P w=.ok (.value v) w'/\(Ext (· =BL d) (· =BL d) G w G' w'\/Ext (· =AL d) (· =AL d) G w G' w')/\Frame0 χ0 w0 G'.χ w'/\∀tm,zA G' w' tm (some d) A v:=by obtain⟨dst,op,ty,pos,after,guard⟩:=o;simp only at hm C h ⊢;cases op with|box T x=>simp only[CB,map_cons,map_nil] at C;(match xs,C with |[A'],C=>simp only[HM] at h;cases j:(c.is T (c.ty T)&&AVal.fits (c.ty T) A') with|false=>simp[j] at h|true=>simp only[j,jE,jA,jG] at h;obtain⟨rfl,rfl⟩:=h;simp only[jB] at j;have J:=DV km j.1;obtain⟨us,h1,h2⟩:=Wt C.1 j.2 (FV J);have iU:=Pd h2 (S6 h1);(have hcel':(a.eval x).cells=us.toArray:=by rw[<-iU]);refine⟨rfl,.pointer (some ⟨w.heap.size,0,none⟩),w.alloc (.cells us.toArray T),G.newBox w.heap.size d,?_,.inl (eW _ d),Pe I _ _ (λb o hb=>by simp only[Gh.newBox];rw[if_neg (by omega)]),λtm=>xJ6 h1 ⟨Nx J,FV J⟩⟩;simp[execOp,Instr.box,newVar,newRow,hcel'])|alloc T=>simp only[CB,map_nil] at C;(match xs,C with |[],C=>simp only[HM] at h;cases hfn:c.fts.any (Nat.beq T) with|true=>simp only[hfn,jE,jA,jG] at h;obtain⟨rfl,rfl⟩:=h;obtain⟨i,_,z,u,hi,_,_,_,hz,ik⟩:=yT6 ny hfn;refine⟨rfl,.pointer (some ⟨w.heap.size,0,none⟩),w.alloc (.cells #[u] T),G.newBox w.heap.size d,?_,.inl (eW _ d),Pe I _ _ (λb o hb=>by simp only[Gh.newBox];rw[if_neg (by omega)]),λtm=>?_⟩;simp[execOp,Instr.alloc,zeroValue,typeInfo,hi,hz,newVar,newRow,ik];simp only[zA];refine⟨by simp[Gh.newBox],u,T,?_,λo=>by simp[Gh.newBox]⟩;simp only[Gh.newBox,if_true];exact Lc w _|false=>simp only[hfn,jD] at h;cases j:(c.is T (c.ty T)&&(c.ty T).noPtr) with|false=>simp[j] at h|true=>simp only[j,jE,jA,jG] at h;obtain⟨rfl,rfl⟩:=h;simp only[jB] at j;have J:=DV km j.1;obtain⟨⟨i,z,hi,hs,_,hz,ik,_⟩,_⟩:=GP J;have h1:AF G w (c.ty T) (zT5 (c.ty T)) (DC (c.ty T)):=yZ3 j.2 (Nx J);(have qe:z.cells=(DC (c.ty T)).toArray:=by rw[<-ik]);refine⟨rfl,.pointer (some ⟨w.heap.size,0,none⟩),w.alloc (.cells (DC (c.ty T)).toArray T),G.newBox w.heap.size d,?_,.inl (eW _ d),Pe I _ _ (λb o hb=>by simp only[Gh.newBox];rw[if_neg (by omega)]),λtm=>xJ6 h1 ⟨Nx J,FV J⟩⟩;simp[execOp,Instr.alloc,zeroValue,typeInfo,hi,hz,newVar,newRow,qe])|buildSlice T len ps=>simp only[CB] at C;simp only[HM] at h;(cases iZ:dH c T len d (Gi ps.toList xs) with|some r=>simp only[iZ,jA] at h;subst h;exact xK0 km rfl I C iZ|none=>simp only[iZ] at h;unfold yD5 at h;split at h;rename_i t R;have J:=Im km T (by rw[R];simp);rw[R] at J;(cases j:((Gi ps.toList xs).all (λq=>blt q.1 len)&&Nat.ble (len*t.size) 16777216&&blt 0 t.size&&t.noPtr) with|false=>simp[j] at h|true=>simp only[j,jE] at h;simp only[jB] at j;obtain⟨⟨⟨qf,gM⟩,tb⟩,hc4⟩:=j;have gM:len*t.size<=16777216:=jR gM;have tb:0<t.size:=jR tb;split at h;rename_i l hl;simp only[jA,jG] at h;obtain⟨rfl,rfl⟩:=h;obtain⟨e,h1,h2⟩:=GQ J;obtain⟨⟨ie,z,iT,gV,_,hz,ik,_⟩,_⟩:=GP h2;(have qe:z.cells=(DC t).toArray:=by rw[<-ik]);(have hlx:xs.length=ps.toList.length:=by rw[N3 C];simp);obtain⟨e1,e2⟩:=zQ5 hlx;(have kU:(ps.map λ(i,x)=>(i,a.eval x)).toList=zip ((Gi ps.toList xs).map (·.1)) ((ps.toList.map (·.2)).map a.eval):=by rw[e2,<-yP9];simp);(have gj:C2 (zA G w a.tmps none) ((Gi ps.toList xs).map (·.2)) ((ps.toList.map (·.2)).map a.eval):=by rw[e1];exact C);(have mc:C6 (AN G.χ w t) (replicate len t.dflt) ((range (len*t.size)).map (λi=>(DC t).toArray[i % (DC t).toArray.size]!)).toList:=by rw[yJ1 _ _ _ eV tb];exact zJ (S7 hc4) len);obtain⟨cells',h5,h6,h7⟩:=yP8 (G:=G) (w:=w) (tm:=a.tmps) (FV h2) (λq hq=>by simp;exact jR (List.all_eq_true.1 qf q hq)) gj rfl mc hl;(have hlen:l.length=len:=by rw[h7];simp);(have kf:(Instr.buildSlice T len (ps.map λ(i,x)=>(i,a.eval x))).run P w=.ok (.slice (some ⟨w.heap.size,0,none⟩) len len) (w.alloc (.cells cells' e)):=by by_cases h0:len*t.size=0;(have hl0:len=0:=by rcases Nat.mul_eq_zero.1 h0 with h|h<;>omega);subst hl0;(have iD:(ps.map λ(i,x)=>(i,a.eval x)).toList=[]:=by rw[kU];cases hq:Gi ps.toList xs with|nil=>simp|cons q r=>rw[hq] at qf;simp[blt] at qf);rw[<-kU,iD] at h5;simp only[Instr.fill,jA,Nat.zero_mul] at h5;subst h5;(have hps':(ps.map λ(i,x)=>(i,a.eval x))=#[]:=by simpa using iD);rw[hps'];simp[Instr.buildSlice,run_underlying h1,sizeOf,typeInfo,iT,Instr.fill,newRow,show range 0=#[] from rfl];refine run_buildSlice w T e len _ cells' ie z h1 iT hz (by rw[gV];simpa using gM) (by rw[gV];exact h0) ?_;rw[kU,gV,qe];exact h5);refine⟨rfl,.slice (some ⟨w.heap.size,0,none⟩) len len,w.alloc (.cells cells' e),G.newArr w.heap.size d,?_,.inr (Wv _ d),Pe I _ _ (λb o hb=>by simp only[Gh.newArr];rw[if_neg (by omega)]),λtm=>?_⟩;simp[execOp,kf];have qp:=FU (k:=t.size) (λ_ _ h=>CO h) h6;have hle:len<=len*t.size:=Nat.le_mul_of_pos_right _ tb;have:=xJ7 (G:=G) (w:=w) (tm:=tm) (rest:=[]) (d:=d) (e:=e) (cap:=len) h6 ⟨Nx h2,FV h2⟩ (by rw[append_nil,qp,hlen]) (by omega) (by simp only[maxLen];omega);simpa[hlen] using this;cases h);cases h)|makeSlice T x y=>simp only[CB,map_cons,map_nil] at C;(match xs,C with |[A',B'],C=>simp only[HM] at h;unfold yY6 at h;split at h;rename_i t k1 n1 k2 m1 R;have J:=Im km T (by rw[R];simp);rw[R] at J;(cases j:(blt 0 t.size&&t.noPtr) with|false=>simp[j] at h|true=>simp only[j,jE,jA,jG] at h;obtain⟨rfl,rfl⟩:=h;simp only[jB] at j;have tb:0<t.size:=jR j.1;obtain⟨e,h1,h2⟩:=GQ J;obtain⟨⟨ie,z,iT,gV,qs,hz,ik,_⟩,_⟩:=GP h2;(have qe:z.cells=(DC t).toArray:=by rw[<-ik]);have hb:=hp _ (jH.2 rfl);have ib:=C.1;have gm:=C.2.1;simp only[zA] at ib gm;have hv1:=VRep_int.1 ib;have tc:=VRep_int.1 gm;have kf:=yM6 (w:=w) h1 iT hz gV qs qe tb n1 m1 hb k1 k2;refine⟨rfl,_,_,G.newArr w.heap.size d,by simp only[execOp,hv1,tc,run_bind,kf,andThen_ok,run_pure];rfl,.inr (Wv _ d),Pe I _ _ (λb o hb=>by simp only[Gh.newArr];rw[if_neg (by omega)]),λtm=>?_⟩;exact yM7 j.2 ⟨Nx h2,FV h2⟩ n1 m1 hb);cases h)|makeMap T r=>(cases r with|some r=>simp[HM] at h|none=>simp only[CB,map_nil] at C;match xs,C with |[],C=>simp only[HM] at h;unfold xV at h;split at h;rename_i k e J;simp only[jA,jG] at h;obtain⟨rfl,rfl⟩:=h;refine⟨rfl,.map (some w.heap.size),w.alloc (.map #[] 0),G.newArr w.heap.size d,?_,.inr (Wv _ d),Pe I _ _ (λb o hb=>by simp only[Gh.newArr];rw[if_neg (by omega)]),λtm=>?_⟩;simp[execOp,Instr.makeMap,Result.andThen];simp only[zA];refine .inr ⟨rfl,k,e,[],rfl,HEq.rfl,#[],0,by simp[Gh.newArr],?_,rfl,λo=>by simp[Gh.newArr]⟩;simp only[Gh.newArr,if_true];exact Lc w _;cases h)|_=>simp[HN] at hm
variable {gtab:GlobTab}{P:Program}{c:Ctx}{G:Gh}{w:World}{tm:Array Value}{n:Nat}{χ0:Nat->Nat->Nat}{w0:World}{S:St}{a:Act}
variable {u:St}
theorem N6:∀{s:Nat},(∀e∈u,e.1≠BO)->St.has s u->(u++S).get s=u.get s:=by
 induction u<;>grind [St.has,St.get,Nat.beq]
theorem Le:∀{s:Nat},(∀e∈u,e.1≠BO)->St.has s u=false->(u++S).get s=S.get s:=by
 induction u with
 |nil=>grind
 |cons e r C =>
  intro s I h;obtain⟨k,A⟩:=e;simp only[St.has,any_cons,jJ] at h;simp[St.get,h.1];have j:Nat.beq k BO=false:=by
   cases J:Nat.beq k BO<;>simp_all
  simp[j];exact C (λe he=>I e (by grind)) h.2
theorem fA:∀{s:Nat},St.has s u->(∀e∈u,e.1≠BO)->(s,u.get s)∈u:=by
 induction u<;>grind [St.has,St.get,Nat.beq,jC]
theorem xK1{p:AVal->Bool}(j:p .junk):∀{S:St}{s:Nat},S.all (λe=>p e.2)->p (S.get s):=by
 intro S
 induction S<;>grind [St.get]
theorem FY(h:d<a.tmps.size):(a.put (some d) v).tmps.getD s undef=if s=d then v else a.tmps.getD s undef:=by
 simp[Act.put,Array.getElem?_setIfInBounds];by_cases e:s=d
 ·grind
 ·rw[if_neg (λj=>e j.symm),if_neg e]
theorem N7:(a.put none v)=a:=rfl
variable {dst:Option Nat}
theorem xR7:(a.put dst v).tmps.size=a.tmps.size:=by cases dst<;>simp[Act.put]
theorem put_defers:(a.put dst v).defers=a.defers:=by cases dst<;>rfl
variable {Y X:Nat->Prop}
theorem GR{G':Gh}{w':World}(j:Rel n χ0 w0 S a w G)(hn:n<=BO)(hu:∀e∈u,e.1<n)(hd:∀d,dst=some d->St.has d u=true)
  (I:Ext X Y G w G' w') (h0:¬X 0) (C:Frame0 χ0 w0 G'.χ w') (hold:∀s,St.has s u=false->¬(S.get s).names X Y (some s))
  (ua:∀s d,dst=some d->St.has s u=false->(S.get s).hung d=false)
  (kV:∀s,St.has s u->zA G' w' (a.put dst v).tmps (some s) (u.get s) ((a.put dst v).tmps.getD s undef)):Rel n χ0 w0 (u++S) (a.put dst v) w' G':=by
 have ub:∀e∈u,e.1≠BO:=λe he=>by grind
 refine⟨by rw[xR7];exact j.len,by rw[put_defers];exact j.defers,λs=>?_,C,Nv I.prot j.glob⟩;cases J:St.has s u with
 |true=>grind [N6]
 |false =>
  rw[Le ub J];have h1:=dZ I h0 a.tmps (hold s J) (j.reps s);have iq:∀k,(k=s\/(S.get s).hung k=true)->(a.put dst v).tmps.getD k undef=a.tmps.getD k undef:=by
   intro k R;cases dst with
   |none=>rfl
   |some d =>
    have gG:d<a.tmps.size:=by
     have:=hd d rfl;have:=hu _ (fA this ub);rw[j.len];grind
    rw[FY gG,if_neg];rcases R with rfl|R
    ·grind
    ·grind
  grind [zO]
theorem W2(C:Rel n χ0 w0 S a w G)(I:n<=BO)(hd:d<n)(ua:∀s,(S.get s).hung d=false)(hA:A.hung d=false)
  (h:zA G w a.tmps none A v):Rel n χ0 w0 ([(d,A)]++S) (a.put (some d) v) w G:=by
 refine GR (X:=λ_=>False) (Y:=λ_=>False) C I (λe he=>by grind) (λJ e=>by simp_all [St.has]) ⟨λ_ _ _ h=>⟨h,rfl⟩,λ_ _ _=>⟨rfl,λ_=>rfl⟩,jI _,λ_ _=>rfl,λ_ _=>rfl,λ_ h=>h⟩ id C.frame
  (λs _=>?_) (λs J e _=>by grind) (λs hs=>?_)
 ·have key:∀(A:AVal) (s:Option Nat),¬A.names (λ_=>False) (λ_=>False) s:=by
   intro A
   induction A with
   |opt _ _ _ A j=>grind [AVal.names]
   |box τ a j=>intro s;cases s<;>simp[AVal.names]<;>exact j none
   |cons a b gA gq=>grind [AVal.names]
   |agg f a j=>grind [AVal.names]
   |tup a j=>grind [AVal.names]
   |fn f a j=>grind [AVal.names]
   |raw=>intro s;cases s<;>simp[AVal.names]
   |_=>grind [AVal.names]
  grind
 ·have e:d=s:=by simp_all [St.has]
  subst e;have gG:d<a.tmps.size:=by rw[C.len];grind
  have R:St.get [(d,A)] d=A:=by simp[St.get]
  rw[R,FY gG,if_pos rfl];refine zO (λk hk=>?_) (OX h);rw[FY gG,if_neg]
  grind
variable {gtab:GlobTab}{P:Program}{c:Ctx}{G:Gh}{w:World}{tm:Array Value}{n:Nat}{χ0:Nat->Nat->Nat}{w0:World}{S:St}{a:Act}
def SpecOk [GlobTab] (P:Program)(f:Nat)(sp:Spec):Prop:=
 (∃fn,P.funcs[f]?=some fn/\fn.body.isSome/\fn.name≠"runtime.NumGoroutine") /\
 ∀args co,sp args=some co->(∀q∈co.ok,q)->∀(G:Gh) (w:World) (vals:List Value),vals.length=args.length->GlobOk G.χ w ->
  (∀(i:Nat) A v,args[i]?=some A->vals[i]?=some v->zA G w #[] (some i) A v) ->
  Calls P f vals.toArray w λe w'=>∃v G',e=.returned v/\Frame0 G.χ w G'.χ w'/\zA G' w' #[] none co.res v /\
   (∀(i:Nat) k A u,(i,k)∈co.outs->args[i]?=some A->vals[i]?=some u ->
    (∀τ k0,A=.box τ k0->zA G' w' #[] (some i) (.box τ k) u/\G'.β i=G.β i)/\(Ff A=false->zA G' w' #[] none k u))
def Pg [GlobTab] (P:Program)(f:Nat)(e:List AVal->Option (List Prop×AVal)):Prop:=
 ∀args p A,e args=some (p,A)->(∀q∈p,q)->∀(G:Gh) (w:World) (tm:Array Value) (vals:List Value),C2 (zA G w tm none) args vals ->
  ∃v,(callFunc f vals.toArray).run P w=.ok (.value v) w/\zA G w tm none A v
theorem yF5{G':Gh}{w':World}(kG:∀b o,b<w.heap.size->G.χ b o=0->G'.χ b o=0/\w'.cell? ⟨b,o,none⟩=w.cell? ⟨b,o,none⟩):∀{cs:AVal}{v:Value},cs.pureL->zA G w tm none cs v->zA G' w' cells none cs v:=by intro cs;induction cs with|nl=>grind [zA]|cons a b _ gq=>intro v j h;(cases a with|val τ y=>grind [AVal.pureL,zA,Gk]|nil=>grind [AVal.pureL,zA]|fn f c=>cases c<;>grind [AVal.pureL,zA]|_=>simp[AVal.pureL] at j)|_=>intro v j;simp[AVal.pureL] at j
def Gm (β:Nat->Nat)(b:Nat):List AVal->Nat->Option Nat
 |[],_=>none
 |.ref s _ []::r,i=>if β s=b then some i else Gm β b r (i+1)
 |_::r,i=>Gm β b r (i+1)
theorem yA{β:Nat->Nat}:∀{ys:List AVal}{i j:Nat},Gm β b ys i=some j->∃s τ,i<=j/\ys[j-i]?=some (.ref s τ [])/\β s=b:=by intro ys;induction ys with|nil=>grind [Gm]|cons A r C=>intro i j h;(have rest:Gm β b r (i+1)=some j->∃s τ,i<=j/\(A::r)[j-i]?=some (.ref s τ [])/\β s=b:=by grind);cases A with|ref s τ p=>cases p<;>grind [Gm]|_=>exact rest h
theorem xC5{β:Nat->Nat}:∀{ys:List AVal}{i k:Nat},ys[k]?=some (.ref s τ [])->(∀j C τ',j<k->ys[j]?=some (.ref C τ' [])->β C≠β s)->Gm β (β s) ys i=some (i+k):=by intro ys;induction ys with|nil=>grind|cons A r I=>intro i k h kj;cases k with|zero=>grind [List.getElem?_cons_zero,jA,Gm]|succ k=>have J:=I (i:=i+1) (k:=k) (by grind) (λj C τ' R hs=>kj (j+1) C τ' (by omega) (by grind));rw[show i+(k+1)=i+1+k from by omega,<-J];cases A with|ref C τ' p=>(cases p with|nil=>simp only[Gm];rw[if_neg (kj 0 C τ' (by omega) (by simp))]|cons _ _=>grind [Gm])|_=>simp only[Gm]
theorem yU5:∀{ys:List AVal}{i j s C:Nat}{τ τ':Ty},LI ys->i<j->ys[i]?=some (.ref s τ [])->ys[j]?=some (.ref C τ' [])->s≠C:=by intro ys;induction ys with|nil=>grind|cons A r ih=>intro i j s C τ τ' R gz I hj;(have gC:∀{k:Nat}{l:List AVal},l[k]?=some (.ref C τ' [])->C∈refs l:=by intro k l;induction l generalizing k with|nil=>grind|cons B l J=>intro h;cases k with|zero=>grind [List.getElem?_cons_zero,jA,refs]|succ k=>have:=J (k:=k) (by grind);cases B<;>simp[refs,this]);(have qt:LI r:=by cases A<;>simp_all [LI]);cases j with|zero=>omega|succ j=>cases i with|zero=>simp only[List.getElem?_cons_zero,jA] at I;subst I;simp only[LI,jB,jK] at R;have hm:=gC (k:=j) (l:=r) (by simpa using hj);intro e;subst e;have:=R.1;rw[List.any_eq_false] at this;exact this s hm (by simp)|succ i=>exact ih (i:=i) (j:=j) qt (by omega) (by simpa using I) (by simpa using hj)
def Gh.callee (G:Gh)(ys:List AVal):Gh:=
 {χ:=λb o=>if G.χ b o=0 then 0 else match Gm G.β b ys 0 with|some i=>BL i|none=>1,
  β:=λi=>match ys[i]? with|some (.ref s _ _)=>G.β s|_=>0,
  γ:=G.γ }
def Gh.back (G G':Gh)(b0:Nat)(D:Option Nat):Gh:=
 {χ:=λb o=>if b<b0 then G.χ b o else match D with
   |some d=>if G'.χ b o=0 then 0 else if G'.χ b o=AL 0 then AL d else if G'.χ b o=AL 1 then AL (100000+d) else if G'.χ b o=AL 2 then AL (200000+d) else if G'.χ b o=AL 3 then AL (300000+d) else 2
   |none=>if G'.χ b o=0 then 0 else 2,
  β:=G.β,
  γ:=λT=>match D with
   |some d=>if T=d then G'.γ 0 else if T=100000+d then G'.γ 1 else if T=200000+d then G'.γ 2 else if T=300000+d then G'.γ 3 else G.γ T
   |none=>G.γ T }
variable {i:Nat}{ys:List AVal}
theorem xC6{Y k:AVal}(R:ys[i]?=some Y)(j:zA G w tm none Y v)(I:∀s,EF Y=some s->zA G w tm (some s) k kv)(ku:∀s τ,Y=.ref s τ []->Gm G.β (G.β s) ys 0=some i):zA (G.callee ys) w #[] (some i) (Ed Y k) v:=by have kG:∀b o,b<w.heap.size->G.χ b o=0->(G.callee ys).χ b o=0/\w.cell? ⟨b,o,none⟩=w.cell? ⟨b,o,none⟩:=λb o _ h=>⟨by grind [Gh.callee],rfl⟩;cases Y with|val τ x=>grind [Ed,zA,Gk]|nil=>grind [Ed,zA]|own t l T m=>simp only[Ed];(cases m with|true=>simp[zA]|false=>exact Gk kG ((zC rfl).2 (Gl j)))|agg f b=>simp only[Ed];split;rename_i x C;exact Gk kG (Ip C rfl j);grind [zA]|fn f cs=>grind [Ed,zA,yF5]|ref s τ p=>(cases p with|nil=>(cases k with|box τ' k=>simp only[Ed];(cases hb:Ty.beq τ' τ with|false=>simp[zA]|true=>have e:=Ty.eq_of_beq hb;subst e;split;rename_i x C;obtain⟨ko,cur,e,g1,g2,g3⟩:=N0 (I s rfl);simp only[zA] at j ⊢;(have hβ:(G.callee ys).β i=G.β s:=by grind [Gh.callee]);refine⟨by grind [Ty.poff],ko,cur,e,by grind,?_,λo=>?_⟩;simp only[AF];exact⟨trivial,ko.2,CX kG (JV C g2)⟩;rw[hβ];(have J:G.χ (G.β s) o≠0:=by grind [BL]);simp only[Gh.callee];rw[if_neg J,ku s τ' rfl];grind [zA])|_=>simp[Ed,zA])|cons _ _=>grind [Ed,zA])|_=>simp[Ed,zA]
theorem Iq (T:Nat):5<=AL T:=by grind [AL]
theorem N8 (s:Nat):4<=BL s:=by grind [BL]
def F3 (G:Gh)(ys:List AVal)(b:Nat):Prop:=(Gm G.β b ys 0).isSome=true
structure Back (G:Gh) (w:World) (ys:List AVal) (G':Gh) (w':World):Prop where
 frame:Frame0 (G.callee ys).χ w G'.χ w'
 given:∀b,F3 G ys b->(∀o,4<=G.χ b o)/\∃i,∀o,G'.χ b o=BL i
theorem Back.old{G':Gh}{w':World}(h:Back G w ys G' w'){o:Nat}(hb:b<w.heap.size):G'.χ b o<=1\/∃i,G'.χ b o=BL i:=by by_cases j:F3 G ys b;obtain⟨_,i,C⟩:=h.given b j;grind;(have hle:(G.callee ys).χ b o<=1:=by grind [Gh.callee,F3]);exact .inl (by rw[(h.frame.cell b o hb hle).1];grind)
theorem Back.prot{G':Gh}{w':World}(h:Back G w ys G' w')(D:Option Nat):∀b o,b<w'.heap.size->G'.χ b o=0->(G.back G' w.heap.size D).χ b o=0/\w'.cell? ⟨b,o,none⟩=w'.cell? ⟨b,o,none⟩:=by intro b o _ C;simp only[Gh.back];by_cases hb:b<w.heap.size;by_cases j:F3 G ys b;obtain⟨_,i,I⟩:=h.given b j;grind [absurd,Hh];(have hle:(G.callee ys).χ b o<=1:=by grind [Gh.callee,F3]);have J:=(h.frame.cell b o hb hle).1;grind [Gh.callee,F3];grind
theorem Back.orep{G':Gh}{w':World}(h:Back G w ys G' w')(hT:T<4){t:Ty}{l:List t.den}(j:BQ G' w' t l T m v):BQ (G.back G' w.heap.size (some d)) w' t l (T*100000+d) m v:=by (have hγ:(G.back G' w.heap.size (some d)).γ (T*100000+d)=G'.γ T:=by simp only[Gh.back];all_goals grind);refine zW (λj=>⟨j.1,?_⟩) hγ rfl (h.prot (some d)) (λ_ I o=>?_) j;rotate_left;(have kV:¬G'.γ T<w.heap.size:=by intro hb;rcases h.old (o:=0) hb with C|⟨i,C⟩;all_goals grind [Iq,CI]);grind [Gh.back,AL];rcases j.2 with J|⟨cap,cur,e,us,J,h2,R,h4,h5,h6,h7,h8⟩;grind;(have kV:¬G'.γ T<w.heap.size:=by intro hb;rcases h.old (o:=l.length*t.size) hb with C|⟨i,C⟩;all_goals grind [Iq,CI]);refine .inr ⟨cap,cur,e,us,by grind,by grind,R,h4,h5,EU (λ_ _ I=>CX (h.prot (some d)) I) h6,h7,λo=>?_⟩;grind [Gh.back,AL]
theorem Back.trep{G':Gh}{w':World}(h:Back G w ys G' w'):∀{A:AVal}{τ:Ty}{vs:List Value},E8 A->AF G' w' τ A vs->AF (G.back G' w.heap.size (some d)) w' τ (A.tagTo d) vs:=by intro A;induction A with|val τ' x=>intro τ vs _ ht;exact⟨ht.1,ht.2.1,CX (h.prot (some d)) ht.2.2⟩|nil=>grind [AVal.tagTo,AF]|own t l T m=>intro τ vs j ht;have j:T<4:=jR j;obtain⟨C,v,I,J⟩:=ht;exact⟨C,v,I,h.orep j J⟩|agg f b R=>grind [E8,AVal.tagTo,AF]|nl=>grind [AVal.tagTo,AF]|junk=>grind [AVal.tagTo,AF]|cons x y kP kK=>grind [E8,AVal.tagTo,AF]|_=>grind [AF]
theorem Back.arep{G':Gh}{w':World}(h:Back G w ys G' w'):∀{A:AVal}{v:Value},E8 A->zA G' w' #[] none A v->zA (G.back G' w.heap.size (some d)) w' tm none (A.tagTo d) v:=by intro A;induction A with|junk=>grind [AVal.tagTo,zA]|val τ' x=>intro v _ ht;exact Gk (h.prot (some d)) ht|nil=>grind [AVal.tagTo,zA]|own t l T m=>intro v j ht;have j:T<4:=jR j;exact h.orep j ht|agg f b _=>intro v j ht;obtain⟨vs,C,I⟩:=ht;exact⟨vs,C,h.trep j I⟩|nl=>grind [AVal.tagTo,zA]|cons x y kP kK=>grind [E8,AVal.tagTo,zA]|tup b J=>grind [E8,AVal.tagTo,zA]|_=>grind [E8]
variable {gtab:GlobTab}{P:Program}{c:Ctx}{G:Gh}{w:World}{tm:Array Value}{n:Nat}{χ0:Nat->Nat->Nat}{w0:World}{S:St}{a:Act}
variable {f:Nat}{args:List AVal}{co:CallOut}
theorem zO7:∀{fns:List (Nat×Spec)},OU fns f args=some co->∃sp,(f,sp)∈fns/\sp args=some co:=by intro fns;induction fns<;>grind [OU,Nat.beq,jC]
theorem yF6:∀{outs:List (Nat×AVal)}{u:St},Si ys args outs=some u->(∀i k,(i,k)∈outs->∃s τ j,ys[i]?=some (.ref s τ [])/\args[i]?=some (.box τ j)/\(s,.box τ k)∈u)/\(∀e∈u,∃i k s τ j,(i,k)∈outs/\ys[i]?=some (.ref s τ [])/\args[i]?=some (.box τ j)/\e=(s,.box τ k)/\Sg k):=by intro outs;induction outs with|nil=>grind [Si,jA]|cons q r I=>intro u h;obtain⟨i,k⟩:=q;simp only[Si] at h;split at h;rename_i s τ τ' j u' J R h3;(cases hb:(Ty.beq τ' τ&&AVal.fits τ k&&Sg k) with|false=>grind|true=>simp[hb] at h;subst h;simp at hb;have e:=Ty.eq_of_beq hb.1.1;subst e;obtain⟨g1,g2⟩:=I h3;constructor;grind;intro e he;rcases mem_cons.1 he with he|he;exact⟨i,k,s,τ',j,by simp,J,R,he,hb.2⟩;obtain⟨i',k',s',τ'',C,q1,q2,q3,q4⟩:=g2 e he;exact⟨i',k',s',τ'',C,by simp[q1],q2,q3,q4⟩);grind
theorem yF7{outs:List (Nat×AVal)}:∀{args:List AVal}{j i:Nat}{τ:Ty}{C:AVal},LH outs j args->args[i]?=some (.box τ C)->∃k,(j+i,k)∈outs:=by intro args;induction args with|nil=>grind|cons A r J=>intro j i τ C I h;simp[LH] at I;cases i<;>grind [List.getElem?_cons_zero,Ff]
theorem zO8:∀{ys args:List AVal}{i s:Nat}{τ:Ty}{A:AVal},JN ys args->ys[i]?=some (.ref s τ [])->args[i]?=some A->Ff A:=by intro ys;induction ys with|nil=>grind|cons y r j=>intro args i s τ A C I J;cases args with|nil=>grind|cons B l=>(have qt:JN r l:=by cases y with|ref R τ' p=>cases p<;>simp_all [JN]|_=>grind [JN]);grind [List.getElem?_cons_zero,JN]
theorem yA0{f:α->β->γ}{xs:List α}{ys:List β}{z:γ}(h:(zipWith f xs ys)[i]?=some z):∃x y,xs[i]?=some x/\ys[i]?=some y/\z=f x y:=by grind
theorem xC7{f:α->β->γ}{xs:List α}{ys:List β}{x:α}{y:β}(j:xs[i]?=some x)(C:ys[i]?=some y):(zipWith f xs ys)[i]?=some (f x y):=by grind
theorem Ph{R:α->β->Prop}:∀{xs:List α}{ys:List β}{i:Nat}{x:α}{y:β},C2 R xs ys->xs[i]?=some x->ys[i]?=some y->R x y:=by intro xs;induction xs with|nil=>grind|cons a r j=>intro ys i x y h C I;cases ys<;>grind [C2,List.getElem?_cons_zero,jA]
theorem xC8{Y k:AVal}(h:Ed Y k=.box τ A):∃s j,Y=.ref s τ []/\k=.box τ j:=by cases Y with|ref s τ' p=>(cases p with|nil=>(cases k with|box τ'' j=>simp only[Ed] at h;(cases hb:Ty.beq τ'' τ' with|false=>grind|true=>have e:=Ty.eq_of_beq hb;subst e;split at h;all_goals simp_all)|_=>grind [Ed])|cons _ _=>grind [Ed])|own t l T m=>grind [Ed]|agg f b=>grind [Ed]|fn f cs=>grind [Ed]|_=>grind [Ed]
theorem yJ2:∀{A:AVal}{os:Option Nat},(∀d,dst=some d->∀j,j<4->A.hasTag (j*100000+d)=false)->(∀s,os=some s->St.has s u=false)->¬A.names (λx=>(∃s,x=BL s/\St.has s u=true)\/∃d j,dst=some d/\j<4/\x=AL (j*100000+d)) (λx=>∃d j,dst=some d/\j<4/\x=AL (j*100000+d)) os:=by intro A;induction A with|own t l T m=>intro os ht _;simp only[AVal.names];rintro (⟨s,e,_⟩ | ⟨d,j,R,C,e⟩);exact CI _ _ e.symm;have:=CJ e;subst this;have:=ht d R j C;simp[AVal.hasTag] at this|eref s T t i p=>intro os ht _;simp only[AVal.names];rintro⟨d,j,R,C,e⟩;have:=CJ e;subst this;have:=ht d R j C;simp[AVal.hasTag] at this|ref s τ p=>intro os _ _;simp only[AVal.names];rintro⟨d,j,_,_,e⟩;exact CI _ _ e|opt _ _ _ A I=>intro os ht _;simp only[AVal.names];exact I ht (λs e=>by cases e)|box τ b I=>intro os ht hs;(cases os with|none=>simp only[AVal.names];exact I ht (λs e=>by cases e)|some s=>simp only[AVal.names,not_or];refine⟨⟨?_,?_⟩,I ht (λs e=>by cases e)⟩;rintro⟨s',e,h⟩;have:=JW e;subst this;rw[hs s rfl] at h;cases h;rintro⟨d,j,_,_,e⟩;exact CI _ _ e)|cons x y kP kK=>intro os ht _;simp only[AVal.names,not_or];refine⟨kP (λd J j C=>?_) (λs e=>by cases e),kK (λd J j C=>?_) (λs e=>by cases e)⟩;have:=ht d J j C;simp only[AVal.hasTag,jJ] at this;exact this.1;have:=ht d J j C;simp only[AVal.hasTag,jJ] at this;exact this.2|agg f b I=>intro os ht _;simp only[AVal.names];exact I ht (λs e=>by cases e)|tup b I=>intro os ht _;simp only[AVal.names];exact I ht (λs e=>by cases e)|fn f b I=>intro os ht _;simp only[AVal.names];exact I ht (λs e=>by cases e)|raw=>intro os _ hs;(cases os with|none=>simp[AVal.names]|some s=>simp only[AVal.names];rintro (⟨s',e,h⟩ | ⟨d,j,_,_,e⟩);have:=JW e;subst this;rw[hs s rfl] at h;cases h;exact CI _ _ e)|ownh t l T i U m=>intro os ht _;simp only[AVal.names,not_or];refine⟨⟨λ⟨s,e,_⟩=>CI _ _ e.symm,λ⟨d,j,J,C,e⟩=>?_⟩,λ⟨s,e,_⟩=>CI _ _ e.symm,λ⟨d,j,J,C,e⟩=>?_⟩;have h:=ht d J j C;have:=CJ e;subst this;simp[AVal.hasTag] at h;have h:=ht d J j C;have:=CJ e;subst this;simp[AVal.hasTag] at h|rref s=>intro os _ _;simp only[AVal.names];rintro⟨d,j,_,_,e⟩;exact CI _ _ e|fptr f caps=>intro os _ _;simp only[AVal.names];rintro⟨k,τ,_,d,j,_,_,e⟩;exact CI _ _ e|_=>intro os _ _;simp[AVal.names]
theorem yQ7(hR:Rel n χ0 w0 S a w G){sp:Spec}(hsp:SpecOk P f sp)(gf:C2 (zA G w a.tmps none) ys us)(nj:sp (zipWith Ed ys (ys.map (C4 S)))=some co)(kg:∀q∈co.ok,q)(hcov:LH co.outs 0 (zipWith Ed ys (ys.map (C4 S))))(kQ:LI ys)(hall:JN ys (zipWith Ed ys (ys.map (C4 S))))(gR:Si ys (zipWith Ed ys (ys.map (C4 S))) co.outs=some u):Calls P f us.toArray w λe w'=>∃v G',e=.returned v/\Back G w ys G' w'/\zA G' w' #[] none co.res v/\(∀b,F3 G ys b->∃s,St.has s u/\∀o,G.χ b o=BL s)/\∀e∈u,∃s τ k,e=(s,.box τ k)/\Sg k/\(∃i,G'.β i=G.β s/\zA G' w' #[] (some i) (.box τ k) (a.tmps.getD s undef))/\(∀o,G.χ (G.β s) o=BL s)/\G.β s<w.heap.size:=by (have hlen:us.length=(zipWith Ed ys (ys.map (C4 S))).length:=by simp[N3 gf]);have uc:=N3 gf;(have GM:∀(i:Nat) s τ,ys[i]?=some (.ref s τ [])->∃k',S.get s=.box τ k'/\(∀o,G.χ (G.β s) o=BL s)/\G.β s<w.heap.size/\us[i]?=some (a.tmps.getD s undef)/\∃I,(zipWith Ed ys (ys.map (C4 S)))[i]?=some (.box τ I):=by intro i s τ C;(have J:(ys.map (C4 S))[i]?=some (S.get s):=by simp[C,C4]);have hz:=xC7 (f:=Ed) C J;have hb:=zO8 hall C hz;(obtain⟨τ',I,iA⟩:∃τ' I,Ed (.ref s τ []) (S.get s)=.box τ' I:=by cases hh:Ed (.ref s τ []) (S.get s)<;>simp_all [Ff]);obtain⟨s',k',e1,e2⟩:=xC8 iA;injection e1 with e1 e3 _;subst e1;subst e3;have hr:=hR.reps s;rw[e2] at hr;obtain⟨ko,cur,e,g1,g2,g3⟩:=N0 hr;(obtain⟨v,hv⟩:∃v,us[i]?=some v:=by (have:i<us.length:=by rw[<-uc];exact (List.getElem?_eq_some_iff.1 C).1);exact⟨us[i],jL this⟩);have tc:=Ph gf C hv;simp only[zA] at tc hr;refine⟨k',e2,g3,zE g1,?_,I,by rw[hz,iA]⟩;rw[hv,tc.2,hr.1];simp[Ty.poff]);(have ku:∀(i:Nat) s τ,ys[i]?=some (.ref s τ [])->Gm G.β (G.β s) ys 0=some i:=by intro i s τ C;have:=xC5 (β:=G.β) (i:=0) C (λj s' τ' hj gJ e=>by obtain⟨_,_,c1,_⟩:=GM i s τ C;obtain⟨_,_,c2,_⟩:=GM j s' τ' gJ;have h1:=c1 0;have R:=c2 0;rw[e,h1] at R;exact yU5 kQ hj gJ C (JW R).symm);simpa using this);refine ((hsp.2 _ co nj kg (G.callee ys) w us hlen (Nv (λb o _ h=>⟨by simp[Gh.callee,h],rfl⟩) hR.glob) (λi A v hA hv=>?_)).mono ?_);obtain⟨Y,k,hY,J,rfl⟩:=yA0 hA;(have gK:k=C4 S Y:=by simp[hY] at J;exact J.symm);subst gK;exact xC6 (kv:=match EF Y with |some s=>a.tmps.getD s undef|none=>undef) hY (Ph gf hY hv) (λs hs=>by rw[hs];exact N5 hR hs) (λs τ e=>by subst e;exact ku i s τ hY);rintro e w' ⟨v,G',rfl,hfr,kO,gX⟩;(have ud:∀(i:Nat) s τ,ys[i]?=some (.ref s τ [])->G'.β i=G.β s/\∃k,(i,k)∈co.outs/\zA G' w' #[] (some i) (.box τ k) (a.tmps.getD s undef):=by intro i s τ C;obtain⟨k',e2,g3,g4,hv,I,hz⟩:=GM i s τ C;obtain⟨k,J⟩:=yF7 hcov hz;rw[Nat.zero_add] at J;obtain⟨h1,R⟩:=(gX i k _ _ J hz hv).1 τ I rfl;exact⟨by rw[R];simp[Gh.callee,C],k,J,h1⟩);refine⟨v,G',rfl,⟨hfr,λb hb=>?_⟩,kO,λb hb=>?_,λe he=>?_⟩;simp only[F3,Option.isSome_iff_exists] at hb;obtain⟨i,hi⟩:=hb;obtain⟨s,τ,_,C,rfl⟩:=yA hi;simp only[Nat.sub_zero] at C;obtain⟨_,_,g3,_⟩:=GM i s τ C;obtain⟨h1,k,_,R⟩:=ud i s τ C;obtain⟨_,cur,e,q1,q2,q3⟩:=N0 R;exact⟨λo=>by rw[g3];exact N8 s,i,λo=>by rw[<-h1];exact q3 o⟩;simp only[F3,Option.isSome_iff_exists] at hb;obtain⟨i,hi⟩:=hb;obtain⟨s,τ,_,C,rfl⟩:=yA hi;simp only[Nat.sub_zero] at C;obtain⟨_,_,g3,_⟩:=GM i s τ C;obtain⟨_,k,J,_⟩:=ud i s τ C;obtain⟨s',τ',I,q1,q2,q3⟩:=(yF6 gR).1 i k J;rw[C] at q1;injection q1 with q1;injection q1 with q1 q4 _;subst q1;exact⟨s,List.any_eq_true.2 ⟨_,q3,by simp⟩,g3⟩;obtain⟨i,k,s,τ,I,hm,C,hz,rfl,hvk⟩:=(yF6 gR).2 e he;obtain⟨k',e2,g3,g4,hv,_,_⟩:=GM i s τ C;obtain⟨h1,R⟩:=(gX i k _ _ hm hz hv).1 τ I rfl;(have h3:G'.β i=G.β s:=by rw[R];simp[Gh.callee,C]);exact⟨s,τ,k,rfl,hvk,⟨i,h3,h1⟩,g3,g4⟩
variable {gtab:GlobTab}{P:Program}{c:Ctx}{G:Gh}{w:World}{tm:Array Value}{n:Nat}{χ0:Nat->Nat->Nat}{w0:World}{S:St}{a:Act}
theorem yF8{o:Nat}(h:¬F3 G ys b):(G.callee ys).χ b o<=1:=by
 grind [Gh.callee,F3]
theorem yZ7{G':Gh}{w':World}(D:Option Nat)(h:Back G w ys G' w')(R:∀b,F3 G ys b->∃s,St.has s u/\∀o,G.χ b o=BL s) :
  Ext (λx=>(∃s,x=BL s/\St.has s u=true)\/∃d j,D=some d/\j<4/\x=AL (j*100000+d)) (λx=>∃d j,D=some d/\j<4/\x=AL (j*100000+d)) G w (G.back G' w.heap.size D) w':=by
 refine⟨λb o hb h0=>?_,λb hb hX=>?_,h.frame.size,λs _=>rfl,λT C=>?_,λ_ h=>.inr h⟩
 ·refine⟨by simp_all [Gh.back],?_⟩;exact (h.frame.cell b o hb (by grind [Gh.callee])).2
 ·have I:¬F3 G ys b:=by
   intro J;obtain⟨s,h1,h2⟩:=R b J;simp_all
  exact⟨h.frame.block b hb (λo=>yF8 I),λo=>by simp_all [Gh.back]⟩
 ·simp only[Gh.back];cases D with
  |none=>rfl
  |some d =>
   simp only;rw[if_neg (λe=>C ⟨d,0,rfl,by omega,by grind⟩),if_neg (λe=>C ⟨d,1,rfl,by omega,by rw[e]⟩),if_neg (λe=>C ⟨d,2,rfl,by omega,by rw[e]⟩),if_neg (λe=>C ⟨d,3,rfl,by omega,by rw[e]⟩)]
theorem yJ3(j:Frame0 χ0 w0 G.χ w){G':Gh}{w':World}(D:Option Nat)(h:Back G w ys G' w')(hg:∀b,F3 G ys b->∃s,St.has s u/\∀o,G.χ b o=BL s) :
  Frame0 χ0 w0 (G.back G' w.heap.size D).χ w':=by
 refine⟨h.frame.os.trans j.os,h.frame.tape.trans j.tape,h.frame.output.trans j.output,le_trans j.size h.frame.size,λb hb J=>?_,λb o hb J=>?_⟩
 ·have C:=lt_of_lt_of_le hb j.size;have I:¬F3 G ys b:=by
   have R:=(j.cell b 0 hb (J 0)).1
   grind [N8]
  rw[h.frame.block b C (λo=>yF8 I)];exact j.block b hb J
 ·have C:=lt_of_lt_of_le hb j.size;have R:=j.cell b o hb J;refine⟨by grind [Gh.back],?_⟩;have I:¬F3 G ys b:=by
   grind [N8]
  rw[(h.frame.cell b o C (yF8 I)).2]
  grind
def Eo (dst:Option Nat)(res:AVal)(u:St):St:=
 match dst with
 |some d=>(d,res.tagTo d)::u
 |none=>u
theorem yM9(hR:Rel n χ0 w0 S a w G)(hn:n<=BO){G':Gh}{w':World}{res:AVal}(h:Back G w ys G' w')(kO:zA G' w' #[] none res v)(hro:E8 res=true)
  (hg:∀b,F3 G ys b->∃s,St.has s u/\∀o,G.χ b o=BL s)
  (hu:∀e∈u,∃s τ k,e=(s,.box τ k)/\Sg k/\(∃i,G'.β i=G.β s/\zA G' w' #[] (some i) (.box τ k) (a.tmps.getD s undef))/\(∀o,G.χ (G.β s) o=BL s)/\G.β s<w.heap.size)
  (I:∀e∈(Eo dst res u),e.1<n) (ua:∀s d,dst=some d->(S.get s).hung d=false)
  (gH:∀d,dst=some d->∀s j,j<4->(S.get s).hasTag (j*100000+d)=false) :
  Rel n χ0 w0 ((Eo dst res u)++S) (a.put dst v) w' (G.back G' w.heap.size dst):=by
 have nk:∀s,St.has s (Eo dst res u)=false->St.has s u=false:=by
  intro s C;cases dst with
  |none=>exact C
  |some d=>simp only[Eo,St.has,any_cons,jJ] at C;exact C.2
 have qu:∀e∈(Eo dst res u),e.1≠BO:=λe he=>by grind
 have hmemU:∀e∈u,e.1<n:=by
  cases dst<;>grind [Eo]
 have J:∀e∈u,e.1≠BO:=λe he=>by grind
 refine GR hR hn I (λd e=>by simp_all [St.has,Eo]) (yZ7 dst h hg) (λhX=>hX.elim (λ⟨s,e,_⟩=>Hh s e) (λ⟨d,j,_,_,e⟩=>DE _ e)) (yJ3 hR.frame dst h hg)
  (λs C=>yJ2 (λd R j hj=>gH d R s j hj) (λs' e=>by grind)) (λs d e _=>ua s d e) (λs C=>?_)
 have GM:∀s,St.has s u->(∀d,dst=some d->s≠d)->zA (G.back G' w.heap.size dst) w' (a.put dst v).tmps (some s) (u.get s) ((a.put dst v).tmps.getD s undef):=by
  intro s C kj;have hm:=fA C J;obtain⟨s',τ,k,e,hvk,⟨i,hi,hb⟩,kh,iX⟩:=hu _ hm;injection e with e1 e2
  subst e1;rw[e2];have iq:(a.put dst v).tmps.getD s undef=a.tmps.getD s undef:=by
   cases dst with
   |none=>rfl
   |some d =>
    have R:d<a.tmps.size:=by rw[hR.len];exact I (d,res.tagTo d) (by simp[Eo])
    rw[FY R,if_neg (kj d rfl)]
  rw[iq];obtain⟨h1,ko,cur,e,h2,h3,h4⟩:=hb;refine⟨by rw[hi] at h1;exact h1,ko,cur,e,by rw[hi] at h2;exact h2,?_,λo=>?_⟩
  ·cases k with
   |val τ' x=>exact⟨h3.1,h3.2.1,CX (h.prot dst) h3.2.2⟩
   |_=>simp[Sg] at hvk
  ·simp only[Gh.back];rw[if_pos iX];exact kh o
 cases dst with
 |none=>exact GM s C (λd e=>by grind)
 |some d =>
  have R:d<a.tmps.size:=by rw[hR.len];exact I (d,res.tagTo d) (by simp[Eo])
  simp only[Eo] at C ⊢;by_cases e:s=d
  ·subst e;have:St.get ((s,res.tagTo s)::u) s=res.tagTo s:=by simp[St.get]
   rw[this,FY R,if_pos rfl];refine zO (tm:=(a.put (some s) v).tmps) (λk hk=>rfl) (OX (h.arep hro kO))
  ·have gJ:St.has s u:=by
    simp only[St.has,any_cons,Bool.or_eq_true] at C;rcases C with C|C
    ·exact absurd (jC C).symm e
    ·exact C
   have kT:St.get ((d,res.tagTo d)::u) s=u.get s:=by
    have h1:Nat.beq d s=false:=by grind [Nat.beq,absurd,jC]
    have h2:Nat.beq d BO=false:=by cases hb:Nat.beq d BO with
     |false=>rfl
     |true=>exact absurd (jC hb) (qu (d,res.tagTo d) (by simp[Eo]))
    simp[St.get,h1,h2]
   grind
variable {gtab:GlobTab}{P:Program}{c:Ctx}{G:Gh}{w:World}{tm:Array Value}{n:Nat}{χ0:Nat->Nat->Nat}{w0:World}{S:St}{a:Act}
structure CtxOk [GlobTab] (P:Program) (c:Ctx):Prop where
 tys:E3 P c.tys=true
 fns:∀f sp,(f,sp)∈c.fns->SpecOk P f sp
 exts:∀f e,(f,e)∈c.exts->Pg P f e
 maps:Jq P c.maps=true
 fts:Jp P c.fts=true
 n:c.n<=BO
 clones:∀f k,(f,k)∈c.clones->xJ8 P f k
def Js (tm:Array Value)(gd:Gd):Prop:=∀s want g,gd=some (s,want,g)->(tm.getD s undef=.bool want↔g=true)
theorem xC9(C:Rel n χ0 w0 S a w G){dsts:List (Option Nat)}{g0:Option (Nat×Bool)}(h:KW dsts S g0=some gd):Js a.tmps gd:=by
 intro s want g e;subst e;cases g0 with
 |none=>grind [KW]
 |some q =>
  simp only[KW] at h;split at h
  ·rename_i I J;split at h
   ·have j:=C.reps I
    grind [zA,VRep_bool]
   ·rename_i s2 R g2 b hb;simp  at h;obtain⟨rfl,rfl,rfl⟩:=h;have j:=C.reps I;rw[hb] at j;cases g2 with
    |true=>rw[VRep_bool.1 (j.2.1 rfl)];grind
    |false=>rw[j.2.2 rfl];simp[undef]
   grind
  grind
theorem W3(j:Js tm gd)(kM:FX tm gd)(h:zA G w tm none A v):zA G w tm none (E1 gd A) v:=by
 cases gd with
 |none=>exact h
 |some q =>
  obtain⟨s,want,g⟩:=q;have C:g:=(j s want g rfl).1 (kM s want g rfl);exact⟨j s want g rfl,λ_=>h,λe=>by grind⟩
theorem W4(j:Js tm gd)(kM:FX tm gd){l:List Prop}(h:∀q∈Np gd l,q):∀q∈l,q:=by
 cases gd with
 |none=>exact h
 |some q =>
  obtain⟨s,want,g⟩:=q;intro q I;have C:g:=(j s want g rfl).1 (kM s want g rfl);exact h (g->q) (by simp_all [Np]) C
variable {want:Bool}
theorem yN(j:Rel n χ0 w0 S a w G)(C:n<=BO){g:Bool}(I:Js a.tmps (some (s,want,g)))(ir:a.tmps.getD s undef≠.bool want)(J:d<n)(R:∀s,(S.get s).hung d=false)(hA:(AVal.opt s want g A).hung d=false) :
  Rel n χ0 w0 ([(d,.opt s want g A)]++S) (a.put (some d) undef) w G:=by
 refine W2 j C J R hA ?_;simp only[zA];have hg:g=false:=by
  cases g with
  |false=>rfl
  |true=>exact absurd ((I s want true rfl).2 rfl) ir
 simp_all
theorem yF9(kM:FX tm gd){x:Operand}{ac:Act}(iq:ac.tmps=tm)(hb:ac.eval x=.bool want)(h:zA G w tm none A v):zA G w tm none (Sk gd x want A) v:=by
 cases A with
 |opt s w' g A =>
  cases x with
  |tmp cc =>
   simp only[Sk];cases j:(Nat.beq s cc&&(w'==want)) with
   |false=>grind [Wz]
   |true =>
    simp_all [zA,Act.eval]
  |_=>grind [Sk,Wz]
 |_=>grind [Sk]
variable {gtab:GlobTab}{P:Program}{c:Ctx}{G:Gh}{w:World}{tm:Array Value}{n:Nat}{χ0:Nat->Nat->Nat}{w0:World}{S:St}{a:Act}
structure MapOk (Bad:Nat->Prop) (G:Gh) (w:World) (G':Gh) (w':World) (g:(t:Ty)->List t.den->Nat->Bool->AVal) (h:Nat->Nat->Ty->Int->Fq->AVal):Prop where
 prot:∀b o,b<w.heap.size->G.χ b o=0->G'.χ b o=0/\w'.cell? ⟨b,o,none⟩=w.cell? ⟨b,o,none⟩
 ref:∀s,G'.β s=G.β s
 box:∀s,(∀o,G.χ (G.β s) o=BL s)->G.β s<w.heap.size->w'.heap[G.β s]?=w.heap[G.β s]?/\∀o,G'.χ (G.β s) o=BL s
 own1:∀t l T m v,¬Bad T->BQ G w t l T m v->(g t l T m).fitsT (.sl t)->AF G' w' (.sl t) (g t l T m) [v]
 own2:∀t l T m v,¬Bad T->BQ G w t l T m v->∀tm,zA G' w' tm none (g t l T m) v
 eref:∀s T t i p v,¬Bad T->∀tm,zA G w tm none (.eref s T t i p) v->zA G' w' tm none (h s T t i p) v
variable {Bad:Nat->Prop}{G':Gh}{w':World}{g:(t:Ty)->List t.den->Nat->Bool->AVal}{h:Nat->Nat->Ty->Int->Fq->AVal}
theorem xK3{t:Ty}(h:A.laxT (.sl t)):A.fitsT (.sl t)=true\/A=.junk:=by cases A with|junk=>simp_all|val τ' y=>exact .inl h|nil=>exact .inl h|own t l T m=>exact .inl h|nl=>exact .inl h|agg f c=>grind [AVal.laxT,Ty.beq]|cons a b=>grind [AVal.laxT,GH]|_=>grind [AVal.laxT]
theorem MapOk.trep (H:MapOk Bad G w G' w' g h):∀{A:AVal}{τ:Ty}{vs:List Value},(∀T,Bad T->A.hasTag T=false)->AF G w τ A vs->(A.mapOwn g h).laxT τ->AF G' w' τ (A.mapOwn g h) vs:=by intro A;induction A with|val τ' x=>intro τ vs _ ht _;exact⟨ht.1,ht.2.1,CX H.prot ht.2.2⟩|nil=>grind [AVal.mapOwn,AF]|own t l T m=>intro τ vs hb ht j;obtain⟨rfl,v,rfl,I⟩:=ht;rcases xK3 j with C|C;exact H.own1 t l T m v (λJ=>by have:=hb T J;simp_all [AVal.hasTag]) I C;rw[C];exact⟨rfl,v,rfl,S6 (G:=G) (w:=w) (A:=.own t l T m) (τ:=.sl t) (vs:=[v]) (by grind [AF]) v (jH.2 rfl)⟩|agg f b R=>intro τ vs hb ht j;obtain⟨rfl,ht⟩:=ht;simp only[AVal.mapOwn] at j ⊢;(cases hc:(b.mapOwn g h).laxT f with|false=>grind [AVal.laxT,Ty.isSl]|true=>simp only[jE,AF];exact⟨trivial,R hb ht hc⟩)|nl=>grind [AVal.mapOwn,AF]|junk=>grind [AVal.mapOwn,AF]|cons x y kP kK=>intro τ vs hb ht j;obtain⟨C,t1,us,ws,rfl,rfl,h2,h3⟩:=ht;simp[AVal.mapOwn,AVal.laxT,GH] at j;exact⟨C,t1,us,ws,rfl,rfl,kP (λT hT=>by grind [AVal.hasTag,jJ]) h2 j.1,kK (λT hT=>by grind [AVal.hasTag,jJ]) h3 j.2⟩|_=>grind [AF]
theorem MapOk.arep (H:MapOk Bad G w G' w' g h):∀{A:AVal}{os:Option Nat}{v:Value},(∀T,Bad T->A.hasTag T=false)->zA G w tm os A v->zA G' w' tm os (A.mapOwn g h) v:=by intro A;induction A with|junk=>intro os v _ _;simp only[AVal.mapOwn,zA]|val τ x=>intro os v _ j;simp only[AVal.mapOwn,zA] at j ⊢;exact Gk H.prot j|nil=>intro os v _ j;simp only[AVal.mapOwn,zA] at j ⊢;exact j|nn b=>intro os v _ j;simp only[AVal.mapOwn,zA] at j ⊢;exact j|own t l T m=>intro os v hb j;simp only[zA] at j;simp only[AVal.mapOwn];exact OX (H.own2 t l T m v (λhB=>by have:=hb T hB;simp[AVal.hasTag] at this) j tm)|eref s T t i p=>intro os v hb j;simp only[AVal.mapOwn];exact OX (H.eref s T t i p v (λhB=>by have:=hb T hB;simp[AVal.hasTag] at this) tm (S1 j (λτ c=>by simp) (by simp)))|opt s' want gg A J=>intro os v hb j;simp only[AVal.mapOwn,zA] at j ⊢;exact⟨j.1,λe=>J hb (j.2.1 e),j.2.2⟩|box τ b J=>intro os v hb j;simp only[AVal.mapOwn];(cases os with|none=>simp only[zA] at j|some s=>cases hc:(b.mapOwn g h).laxT τ with|false=>simp only[jD,zA]|true=>simp only[jE];simp only[zA] at j ⊢;obtain⟨I,ko,cur,e,C,R,h4⟩:=j;obtain⟨q1,q2⟩:=H.box s h4 (zE C);exact⟨by rw[H.ref];exact I,ko,cur,e,by rw[H.ref,q1];exact C,H.trep hb R hc,λo=>by rw[H.ref];exact q2 o⟩)|ref s' τ p=>intro os v _ j;simp only[AVal.mapOwn,zA] at j ⊢;rw[H.ref];exact j|agg f b _=>intro os v hb j;simp only[AVal.mapOwn];(cases hc:(b.mapOwn g h).laxT f with|false=>simp only[jD,zA]|true=>simp only[jE];simp only[zA] at j ⊢;obtain⟨vs,I,C⟩:=j;exact⟨vs,I,H.trep hb C hc⟩)|nl=>intro os v _ j;simp only[AVal.mapOwn,zA] at j ⊢;exact j|cons x y kP kK=>intro os v hb j;simp only[AVal.mapOwn,zA] at j ⊢;obtain⟨u,us,I,C,R⟩:=j;exact⟨u,us,I,kP (λT hT=>by have:=hb T hT;simp only[AVal.hasTag,jJ] at this;exact this.1) C,kK (λT hT=>by have:=hb T hT;simp only[AVal.hasTag,jJ] at this;exact this.2) R⟩|tup b J=>intro os v hb j;simp only[AVal.mapOwn,zA] at j ⊢;exact J hb j|fn f b J=>intro os v hb j;simp only[AVal.mapOwn,zA] at j ⊢;obtain⟨vs,I,C⟩:=j;exact⟨vs,I,J hb C⟩|raw=>intro os v _ j;simp only[AVal.mapOwn];(cases os with|none=>simp only[zA] at j|some s=>simp only[zA] at j ⊢;obtain⟨I,u,e,C,h4⟩:=j;obtain⟨q1,q2⟩:=H.box s h4 (zE C);exact⟨by rw[H.ref];exact I,u,e,by rw[H.ref,q1];exact C,λo=>by rw[H.ref];exact q2 o⟩)|rref s'=>intro os v _ j;simp only[AVal.mapOwn,zA] at j ⊢;rw[H.ref];exact j|ownh t l T i U m=>intro os v _ _;simp only[AVal.mapOwn,zA]|fptr f caps=>intro os v _ j;simp only[AVal.mapOwn,zA] at j ⊢;obtain⟨b,I,C,R⟩:=j;(have hb:b<w.heap.size:=by by_cases hb:b<w.heap.size;exact hb;have:w.heap[b]?=none:=Array.getElem?_eq_none (by omega);simp[cell?,this] at R);obtain⟨h4,h5⟩:=H.prot b 0 hb C;refine⟨b,I,h4,?_⟩;rw[h5,R];congr 3;refine List.map_congr_left λq hq=>?_;cases q with|none=>rfl|some q=>obtain⟨k,τ⟩:=q;simp only[HP];rw[H.ref]
theorem yG:∀{A:AVal}{d:Nat},A.hung d=false->(∀t l T m,(g t l T m).hung d=false)->(∀s T t i p,(h s T t i p).hung d=false)->(A.mapOwn g h).hung d=false:=by intro A;induction A with|own t l T m=>grind [AVal.mapOwn]|eref s T t i p=>grind [AVal.mapOwn]|opt R want gg A j=>grind [AVal.hung,jJ,AVal.mapOwn]|box τ b _=>grind [AVal.mapOwn,AVal.hung]|agg f b _=>grind [AVal.mapOwn,AVal.hung]|cons x y kP kK=>grind [AVal.hung,jJ,AVal.mapOwn]|tup b j=>intro d C I J;exact j C I J|fn f b j=>intro d C I J;exact j C I J|_=>intro d _ _ _;simp[AVal.mapOwn,AVal.hung]
theorem fB{k:AVal->AVal}:∀{R:St}{s:Nat},St.has s (CS T k S R)->(CS T k S R).get s=k (S.get s)/\(S.get s).hasTag T=true\/(∃e∈CS T k S R,e.1=BO):=by intro R;induction R with|nil=>grind [CS,St.has]|cons e r I=>intro s C;obtain⟨j,A⟩:=e;simp only[CS] at C ⊢;cases ht:(S.get j).hasTag T with|false=>grind|true=>simp at C ⊢;simp only[St.get];cases hb:Nat.beq j s with|true=>simp_all|false=>(have gJ:St.has s (CS T k S r):=by grind [St.has]);cases ub:Nat.beq j BO with|true=>simp_all|false=>grind
theorem fE{k:AVal->AVal}:∀{R:St}{s:Nat},St.has s R->(S.get s).hasTag T->St.has s (CS T k S R):=by intro R;induction R with|nil=>grind [St.has]|cons e r C=>intro s j ht;obtain⟨I,A⟩:=e;simp only[CS];simp only[St.has,any_cons,Bool.or_eq_true] at j;cases nm:(S.get I).hasTag T with|false=>rcases j with j|j;grind [jC];exact C j ht|true=>simp only[jE,St.has,any_cons,Bool.or_eq_true];rcases j with j|j;grind;exact .inr (C j ht)
theorem Pj:∀{S:St},(S.get s)≠.junk->St.has s S:=by intro S;induction S with|nil=>intro h;exact absurd rfl h|cons e r j=>intro h;obtain⟨k,A⟩:=e;simp only[St.get] at h;simp only[St.has,any_cons,Bool.or_eq_true];cases hb:Nat.beq k s with|true=>simp_all|false=>right;cases C:Nat.beq k BO with|true=>grind|false=>simp[hb,C] at h;exact j h
theorem W5(h:A.hasTag T):A≠.junk:=by grind [AVal.hasTag]
variable {gtab:GlobTab}{P:Program}{c:Ctx}{G:Gh}{w:World}{tm:Array Value}{n:Nat}{χ0:Nat->Nat->Nat}{w0:World}{S:St}{a:Act}
theorem yQ8:∀{A:AVal}{s:Option Nat},A.hasTag U=false->A.hasTag d=false->¬A.names (λx=>x=AL U\/x=AL d) (λx=>x=AL d) s:=by
 intro A
 induction A with
 |own t l T m=>intro s C j;simp[AVal.names];exact⟨λe=>by have:=CJ e;simp_all [AVal.hasTag],λe=>by have:=CJ e;simp_all [AVal.hasTag]⟩
 |ownh t l T i V m =>
  intro s C j;simp[AVal.hasTag] at C j;have key:∀K,Nat.beq U K=false->Nat.beq d K=false->¬(AL K=AL U\/AL K=AL d):=λK R k2 e=>by
   rcases e with e|e
   ·have:=CJ e;simp_all
   ·have:=CJ e;simp_all
  grind [AVal.names]
 |eref J T t i p=>intro s _ j;exact λe=>by have:=CJ e;simp_all [AVal.hasTag]
 |ref J τ p=>grind [AVal.names,CI]
 |opt _ _ _ A I=>intro s C j;exact I C j
 |box τ b I =>
  intro s C j;cases s with
  |none=>exact I C j
  |some s=>simp[AVal.names];exact⟨⟨CI _ _,CI _ _⟩,I C j⟩
 |cons x y kP kK=>grind [AVal.hasTag,AVal.names]
 |agg f b I=>intro s C j;exact I C j
 |tup b I=>intro s C j;exact I C j
 |fn f b I=>intro s C j;exact I C j
 |raw =>
  intro s _ _;cases s<;>grind [AVal.names,CI]
 |rref J=>grind [AVal.names,CI]
 |fptr f caps=>grind [AVal.names,CI]
 |_=>grind [AVal.names]
theorem Jt(h:BZ T S)(s:Nat):(S.get s).hasTag T=false:=by
 have:=xK1 (p:=λA=>!(A.hasTag T)) (S:=S) (s:=s) (by simp[AVal.hasTag]) h
 grind
theorem yQ9(h:GK d S)(s:Nat):(S.get s).hasRef d=false:=by
 have:=xK1 (p:=λA=>!(A.hasRef d)) (S:=S) (s:=s) (by simp[AVal.hasRef]) h
 grind
theorem xR8{G':Gh}{w':World}(j:Ext (λx=>x=AL U\/x=AL d) (λx=>x=AL d) G w G' w') :
  MapOk (λT=>T=d) G w G' w' (λt l T' m=>cond (Nat.beq U T') (cond m (.junk) (.val (.sl t) l)) (.own t l T' m)) (λs T' t i p=>cond (Nat.beq U T') (.junk) (.eref s T' t i p)):=by
 have R:¬((0:Nat)=AL U\/(0:Nat)=AL d):=by rintro (e|e);exact DE _ e;exact DE _ e
 refine⟨j.prot,λs=>j.box s (CI _ _),λs kh I=>?_,λt l T m v J C hf=>?_,λt l T m v J C tm=>?_,λs T t i p v J tm ha=>?_⟩
 ·have:=j.block _ I (λo=>by grind [CI])
  grind
 ·cases hb:Nat.beq U T with
  |true =>
   simp  at hf ⊢;cases m with
   |true=>grind [AVal.fitsT]
   |false=>simp only[jD,AF];exact⟨trivial,rfl,CX j.prot (Gl C)⟩
  |false =>
   simp only[jD,AF];refine⟨trivial,v,rfl,GO j R ?_ C⟩;rintro (e|e)
   ·have:=CJ e;simp_all
   grind [CJ]
 ·cases hb:Nat.beq U T with
  |true =>
   cases m with
   |true=>simp[zA]
   |false=>exact Lb (CX j.prot (Gl C))
  |false =>
   refine GO j R ?_ C;rintro (e|e)
   ·have:=CJ e;simp_all
   grind [CJ]
 ·cases hb:Nat.beq U T with
  |true=>simp[zA]
  |false =>
   simp[zA] at ha ⊢;rw[j.tag T (λe=>J (CJ e))]
   grind
theorem xK4(h:A.hung d=false):(A.lose U).hung d=false:=by
 refine yG h (λt l T m=>?_) (λs T t i p=>?_)
 all_goals grind [AVal.hung]
theorem fF(C:Rel n χ0 w0 S a w G)(hn:n<=BO){R:AVal}{v':Value}{G':Gh}{w':World}(hd:BZ d S=true)
  (J:Ext (λx=>x=AL U\/x=AL d) (λx=>x=AL d) G w G' w') (I:Frame0 χ0 w0 G'.χ w') (hr:∀tm,zA G' w' tm (some d) R v')
  (j:∀e∈(d,R)::CS U (AVal.lose U) S S,e.1<n) (hh:∀s,(S.get s).hung d=false) :
  Rel n χ0 w0 (((d,R)::CS U (AVal.lose U) S S)++S) (a.put (some d) v') w' G':=by
 have h0:¬((0:Nat)=AL U\/(0:Nat)=AL d):=by rintro (e|e);exact DE _ e;exact DE _ e
 have gG:d<a.tmps.size:=by rw[C.len];simp_all
 refine GR C hn j (λd' e=>by simp_all [St.has]) J h0 I (λs hs=>?_) (λs d' e _=>by grind) (λs hs=>?_)
 ·refine yQ8 ?_ (Jt hd s);cases ht:(S.get s).hasTag U with
  |false=>rfl
  |true=>have:=fE (k:=AVal.lose U) (Pj (W5 ht)) ht;grind [St.has]
 ·by_cases e:s=d
  ·subst e;have:St.get ((s,R)::CS U (AVal.lose U) S S) s=R:=by simp[St.get]
   rw[this,FY gG,if_pos rfl]
   grind
  ·have h1:Nat.beq d s=false:=by grind [Nat.beq,absurd,jC]
   have h2:Nat.beq d BO=false:=by cases hb:Nat.beq d BO with
    |false=>rfl
    |true=>have:=j (d,R) (by simp);grind [jC]
   have gJ:St.has s (CS U (AVal.lose U) S S):=by grind [St.has]
   have kT:St.get ((d,R)::CS U (AVal.lose U) S S) s=AVal.lose U (S.get s):=by
    grind [St.get,fB]
   rw[kT,FY gG,if_neg e];refine zO (tm:=a.tmps) (λk hk=>?_) ((xR8 J).arep (λT hT=>by grind [Jt]) (C.reps s));rw[FY gG,if_neg]
   grind [xK4]
variable {gtab:GlobTab}{P:Program}{c:Ctx}{G:Gh}{w:World}{tm:Array Value}{n:Nat}{χ0:Nat->Nat->Nat}{w0:World}{S:St}{a:Act}
theorem yZ8{c:List Value}{o m:Nat}(h:o+m<=k):seg (c.take k) o m=seg c o m:=by apply ext_getElem?;intro j;simp[seg_getElem?,List.getElem?_take];by_cases C:j<m;simp only[C,if_true];rw[if_pos (by omega)];grind
theorem yU6{c:List Value}{o:Nat}(h:o+us.length<=k)(I:k<=c.length):(spl c o us).take k=spl (c.take k) o us:=by apply ext_getElem?;intro j;rw[List.getElem?_take,spl_getElem? _ _ _ _ (by omega),spl_getElem? _ _ _ _ (by grind),List.getElem?_take];by_cases C:j<k;grind;rw[if_neg C,if_neg (by omega),if_neg C]
theorem yR{c:List Value}{o:Nat}(h:k<=o)(I:o+us.length<=c.length):(spl c o us).take k=c.take k:=by apply ext_getElem?;intro j;rw[List.getElem?_take,List.getElem?_take,spl_getElem? _ _ _ _ I];by_cases C:j<k;rw[if_pos C,if_pos C,if_neg (by omega)];simp_all [if_neg]
variable {v0:Value}
theorem xD(hfr:Frame0 χ0 w0 G.χ w){t:Ty}(gr:t.isL=false){l:List t.den}{q:Fq}{y:t.den}(ho:BQ G w t l U true v0)(hi:i<l.length)(hq:E2 t q)(hv:AF G w (t.pty q) B us)(hy:AVal.as t (AVal.put q (.val t (l.getD i t.dflt)) B)=some y):(∃cur e,w.heap[G.γ U]?=some (.cells cur e (0,0))/\i*t.size+t.poff q+us.length<=cur.size)/\Frame0 χ0 w0 G.χ (w.setCells (G.γ U) (i*t.size+t.poff q) us)/\Ext (λx=>x=AL U) (λ_=>False) G w G (w.setCells (G.γ U) (i*t.size+t.poff q) us)/\MapOk (λ_=>False) G w G (w.setCells (G.γ U) (i*t.size+t.poff q) us) (λt' l T' m=>cond (Nat.beq U T') (match Ty.cast t' y with |some y'=>cond m (.own t' (l.set i y') T' m) (.junk)|none=>.junk) (.own t' l T' m)) (λs T' t i p=>.eref s T' t i p):=by obtain⟨⟨kz,gD⟩,ho⟩:=EE ho gr;rcases ho with ⟨_,rfl⟩ | ⟨cap,cur,e,uz,rfl,h2,h3,h4,h5,h6,h7,h8⟩;simp at hi;(have kh:∀o,G.χ (G.γ U) o=AL U:=λo=>by rw[h8,if_neg (by simp)]);have qp:=FU (k:=t.size) (λ_ _ h=>CO h) h6;have hg:=N1 h6 hi;(have kN:i*t.size+t.size<=l.length*t.size:=by rw[<-succ_mul];exact jS _ (by omega));(have hlc:l.length*t.size<=cur.size:=by rw[h5];exact jS _ h3);(have hc0:AF G w t (.val t (l.getD i t.dflt)) (seg uz (i*t.size) t.size):=by simp only[AF];exact⟨trivial,gD,hg⟩);obtain⟨k1,k2,k3,k4⟩:=Ny kz gD hq hc0;have gw:=zB hv;have C:=Nz hy;have kV:=JV hy (yZ1 kz gD hq hc0 hv (OZ C));(have ki:i*t.size+t.poff q+us.length<=cur.size:=by omega);have I:Ext (λx=>x=AL U) (λ_=>False) G w G (w.setCells (G.γ U) (i*t.size+t.poff q) us):=Ww (λo=>kh o) (DE U);obtain⟨cur',c1,c2⟩:=S8 (G.γ U) e (0,0) us (i*t.size+t.poff q) w cur h2 ki;(have kJ:∀{l2:List t.den}{v2:Value},BQ G w t l2 U true v2->BQ G (w.setCells (G.γ U) (i*t.size+t.poff q) us) t (l2.set i y) U true v2:=by intro l2 v2 gv;have gv:=EE gv gr;refine .inl ⟨⟨kz,gD⟩,?_⟩;rcases gv.2 with ⟨rfl,rfl⟩ | ⟨cap2,cur2,e2,uz2,rfl,g2,g3,g4,g5,g6,g7,g8⟩;exact .inl ⟨rfl,by simp⟩;rw[h2] at g2;injection g2 with g2;injection g2 with g2 g2e _;subst g2;have hul2:=FU (k:=t.size) (λ_ _ h=>CO h) g6;(have hlc2:l2.length*t.size<=cur.size:=by rw[g5];exact jS _ g3);by_cases hi2:i<l2.length;(have j:i*t.size+t.size<=l2.length*t.size:=by rw[<-succ_mul];exact jS _ (by omega));(have J:seg uz2 (i*t.size) t.size=seg uz (i*t.size) t.size:=by rw[<-g7,<-h7,yZ8 j,yZ8 kN]);refine .inr ⟨cap2,cur',e,spl uz2 (i*t.size) (spl (seg uz2 (i*t.size) t.size) (t.poff q) us),by simp,c1,by simpa using g3,g4,?_,?_,?_,λo=>by rw[kh,if_neg (by simp)]⟩;rw[<-jN,c2,zN (by rw[jN];exact ki),jN];exact g5;exact EU (λ_ _ h=>CX I.prot h) (yL9 (R:=AN G.χ w t) (k:=t.size) (λ_ _ h=>CO h) (by rw[J];exact kV) g6 hi2);rw[c2,length_set,yU6 (by omega) (by rw[jN];exact hlc2),g7,Wq _ _ _ _ _ (by omega) (by omega)];have j:l2.length*t.size<=i*t.size:=jS _ (by omega);rw[List.set_eq_of_length_le (by omega)];refine .inr ⟨cap2,cur',e,uz2,by simp,c1,g3,g4,?_,EU (λ_ _ h=>CX I.prot h) g6,?_,λo=>by rw[kh,if_neg (by simp)]⟩;rw[<-jN,c2,zN (by rw[jN];exact ki),jN];exact g5;rw[c2,yR (by omega) (by rw[jN];exact ki),g7]);refine⟨⟨cur,e,h2,ki⟩,Wx hfr (λo=>by rw[kh];have:=Iq U;omega),I,I.prot,λs=>rfl,λs kl hlt=>?_,λt2 l2 T m v2 _ gv hf=>?_,λt2 l2 T m v2 _ gv tm=>?_,λs T t i p v _ tm ha=>ha⟩;have:=I.block _ hlt (λo=>by rw[kl];exact CI _ _);exact⟨this.1,kl⟩;(cases hb:Nat.beq U T with|false=>simp only[jD,AF];exact⟨trivial,v2,rfl,GO I (DE U) (λe=>by have:=CJ e;subst this;simp at hb) gv⟩|true=>have:=jC hb;subst this;simp only[hb,jE] at hf ⊢;cases hc:Ty.cast t2 y with|none=>simp[hc,AVal.fitsT] at hf|some y'=>obtain⟨e',rfl⟩:=E5 hc;subst e';cases m with|false=>simp[hc,AVal.fitsT] at hf|true=>simp only[jE,AF];exact⟨trivial,v2,rfl,kJ gv⟩);cases hb:Nat.beq U T with|false=>simp only[jD,zA];exact GO I (DE U) (λe=>by have:=CJ e;subst this;simp at hb) gv|true=>have:=jC hb;subst this;simp only[jE];cases hc:Ty.cast t2 y with|none=>simp only[zA]|some y'=>obtain⟨e',rfl⟩:=E5 hc;subst e';cases m with|false=>simp only[jD,zA]|true=>simp only[jE,zA];exact kJ gv
variable {o':Obj}{es:Array MapEntry}{clock:Nat}
theorem xW6(C:∀o,G.χ (G.γ U) o=AL U)(hb:w.heap[G.γ U]?=some (.map es clock)):Ext (λx=>x=AL U) (λ_=>False) G w G { w with heap:=w.heap.setIfInBounds (G.γ U) o' }:=by have kj:∀j,j≠G.γ U->({ w with heap:=w.heap.setIfInBounds (G.γ U) o' }:World).heap[j]?=w.heap[j]?:=λj h=>(Go.MapKept.heap_set hb).2 j h;refine⟨λj o hb h=>⟨h,?_⟩,λj hb h=>⟨kj j ?_,λ_=>rfl⟩,by simp,λ_ _=>rfl,λ_ _=>rfl,λ_ h=>h.elim⟩;grind [DE,cell?];intro e;simp_all
theorem xK5(h:Frame0 χ0 w0 G.χ w)(I:∀o,G.χ (G.γ U) o=AL U)(hb:w.heap[G.γ U]?=some (.map es clock)):Frame0 χ0 w0 G.χ { w with heap:=w.heap.setIfInBounds (G.γ U) o' }:=by have kj:∀j,j≠G.γ U->({ w with heap:=w.heap.setIfInBounds (G.γ U) o' }:World).heap[j]?=w.heap[j]?:=λj h=>(Go.MapKept.heap_set hb).2 j h;(have ue:∀j o,j<w0.heap.size->χ0 j o<=1->j≠G.γ U:=by intro j o kE C e;have:=(h.cell j o kE C).1;grind [Iq]);refine⟨h.os,h.tape,h.output,by simpa using h.size,λj kE C=>?_,λj o kE C=>?_⟩;rw[kj j (ue j 0 kE (C 0))];exact h.block j kE C;have J:=h.cell j o kE C;grind [cell?]
theorem xK6(hfr:Frame0 χ0 w0 G.χ w){k e:Ty}(hT:MapTyIs P T k e){l:List (k.den×e.den×Unit)}{x:k.den}{y:e.den}(hM:dX G w k e l U v)(hk:DO G.χ w k x kv)(he:DO G.χ w e y ev):∃w',(mapUpdate T v kv ev).run P w=.ok () w'/\Frame0 χ0 w0 G.χ w'/\Ext (λx=>x=AL U) (λ_=>False) G w G w'/\MapOk (λ_=>False) G w G w' (λt' l T' m=>cond (Nat.beq U T') (match Ty.cast (a:=.sl t') (.sl (Hd k e)) l with |some l'=>.own (Hd k e) (He k e x y l') T' m|none=>.junk) (.own t' l T' m)) (λs T' t i p=>.eref s T' t i p):=by obtain⟨es',clock',kf,hE'⟩:=zW5 hT hM hk he;have hM0:=hM;obtain⟨es,clock,hv,hb,hE,kh⟩:=hM;have R:=xW6 (G:=G) (w:=w) kh (o':=.map es' clock') hb;(have kJ:∀{l2:List (k.den×e.den×Unit)}{m:Bool}{v2:Value},BQ G w (Hd k e) l2 U m v2->BQ G { w with heap:=w.heap.setIfInBounds (G.γ U) (.map es' clock') } (Hd k e) (He k e x y l2) U m v2:=by intro l2 m v2 gv;(have hm:m:=by rcases gv with h|h;exact absurd h.1.2 (by simp[Ty.isL]);exact h.1);subst hm;have hM2:=yM4 gv;(have tc:v2=v:=by obtain⟨_,_,h,_⟩:=hM2;rw[h,hv]);subst tc;obtain⟨es2,clock2,td,hE2⟩:=zW5 hT hM2 hk he;rw[kf] at td;injection td with _ hw;have hh:=congrArg (λw:World=>w.heap[G.γ U]?) hw;simp only[(Go.MapKept.heap_set hb).1,jA,Obj.map.injEq] at hh;obtain⟨rfl,_⟩:=hh;exact .inr ⟨rfl,k,e,_,rfl,HEq.rfl,es',clock',hv,(Go.MapKept.heap_set hb).1,yE2 R.prot hE2,kh⟩);refine⟨_,kf,xK5 hfr kh hb,R,R.prot,λs=>rfl,λs kl hlt=>?_,λt2 l2 T' m v2 _ gv hf=>?_,λt2 l2 T' m v2 _ gv tm=>?_,λs T' t i p v _ tm ha=>ha⟩;have:=R.block _ hlt (λo=>by rw[kl];exact CI _ _);exact⟨this.1,kl⟩;(cases j:Nat.beq U T' with|false=>simp only[jD,AF];exact⟨trivial,v2,rfl,GO R (DE U) (λe=>by have:=CJ e;subst this;simp at j) gv⟩|true=>have:=jC j;subst this;simp only[j,jE] at hf ⊢;split at hf;rename_i I C;obtain⟨J,C⟩:=E5 C;injection J with J;subst J;have C:l2=I:=C;subst C;simp only[AF];exact⟨trivial,v2,rfl,kJ gv⟩;simp[AVal.fitsT] at hf);cases j:Nat.beq U T' with|false=>simp only[jD,zA];exact GO R (DE U) (λe=>by have:=CJ e;subst this;simp at j) gv|true=>have:=jC j;subst this;simp only[jE];split;rename_i I C;obtain⟨J,C⟩:=E5 C;injection J with J;subst J;have C:l2=I:=C;subst C;simp only[zA];exact kJ gv;simp only[zA]
theorem zY2:∀{A:AVal}{s:Option Nat},A.hasTag U=false->¬A.names (λx=>x=AL U) (λ_=>False) s:=by intro A;induction A with|own t l T m=>intro s j;exact λe=>by have:=CJ e;simp_all [AVal.hasTag]|ownh t l T i V m=>intro s j;simp[AVal.names];exact⟨λe=>by have:=CJ e;simp_all [AVal.hasTag],λe=>by have:=CJ e;simp_all [AVal.hasTag]⟩|opt _ _ _ A C=>intro s j;exact C j|box τ b C=>intro s j;(cases s with|none=>exact C j|some s=>simp[AVal.names];exact⟨CI _ _,C j⟩)|cons x y kP kK=>grind [AVal.hasTag,AVal.names]|agg f b C=>intro s j;exact C j|tup b C=>intro s j;exact C j|fn f b C=>intro s j;exact C j|raw=>intro s _;cases s<;>grind [AVal.names,CI]|_=>grind [AVal.names]
theorem zY3(J:Rel n χ0 w0 S a w G)(hn:n<=BO){G':Gh}{w':World}{g:(t:Ty)->List t.den->Nat->Bool->AVal}{h:Nat->Nat->Ty->Int->Fq->AVal}{Bad:Nat->Prop}(hx:Ext X Y G w G' w')(h0:¬X 0)(C:Frame0 χ0 w0 G'.χ w')(hm:MapOk Bad G w G' w' g h)(j:∀T,Bad T->∀s,(S.get s).hasTag T=false)(gn:∀s,(S.get s).hasTag U=false->¬(S.get s).names X Y (some s))(I:∀e∈CS U (AVal.mapOwn g h) S S,e.1<n):Rel n χ0 w0 (CS U (AVal.mapOwn g h) S S++S) a w' G':=by have:=GR (u:=CS U (AVal.mapOwn g h) S S) (dst:=none) (v:=undef) J hn I (λd e=>by grind) hx h0 C (λs R=>gn s (by grind [fE,AVal.mapOwn,Pj,W5])) (λs d e=>by grind) (λs R=>by rcases fB R with h3|⟨e,he,h3⟩;rw[h3.1];exact hm.arep (λT hT=>j T hT s) (J.reps s);grind);exact this
theorem yG0(R:Rel n χ0 w0 S a w G)(hn:n<=BO){G':Gh}{w':World}{k:AVal->AVal}(hx:Ext X Y G w G' w')(h0:¬X 0)(j:Frame0 χ0 w0 G'.χ w')(hk:∀s,(S.get s).hasTag U->zA G' w' a.tmps (some s) (k (S.get s)) (a.tmps.getD s undef))(gn:∀s,(S.get s).hasTag U=false->¬(S.get s).names X Y (some s))(C:∀e∈CS U k S S,e.1<n):Rel n χ0 w0 (CS U k S S++S) a w' G':=by have:=GR (u:=CS U k S S) (dst:=none) (v:=undef) R hn C (λd e=>by grind) hx h0 j (λs J=>gn s (by grind [fE,Pj,W5])) (λs d e=>by grind) (λs J=>by rcases fB J with I|⟨e,he,I⟩;rw[I.1];exact hk s I.2;grind);exact this
theorem xD0{G':Gh}{w':World}(C:Ext X Y G w G' w'){t:Ty}{l:List (List t.den)}{j:Nat}{x:List t.den}(hT:¬X (AL T))(gk:∀u,yT G w t (List.getD (α:=List t.den) l j []) U m u->yT G' w' t x U want u)(hTU:T≠U)(h:Jn G w t l T j U m v):Jn G' w' t (set (α:=List t.den) l j x) T j U want v:=by obtain⟨hv,⟨he,_⟩ | ⟨kj,⟨J,R⟩ | ⟨cap,cur,e,J,R,h3,h4,h5,h6,h7⟩⟩⟩:=h;grind;exact⟨hv,.inr ⟨kj,.inl ⟨J,by grind⟩⟩⟩;have hb:=C.block (G.γ T) (zE R) (λo=>by grind);have hg:=C.tag T (λh=>hT (C.sub _ h));refine⟨hv,.inr ⟨kj,.inr ⟨cap,cur,e,by grind,by grind,by grind,h4,h5,λo=>by grind,λk y I=>?_⟩⟩⟩;rw[List.getElem?_set] at I;by_cases e:j=k;split at I;grind;grind;rw[if_neg e] at I;obtain⟨u,hu,hr⟩:=h7 k y I;have e':¬k=j:=λh=>e h.symm;rw[if_neg e'] at hr;exact⟨u,hu,by rw[if_neg e'];exact CX C.prot hr⟩
theorem yN0{R:α->List Value->Prop}(C:∀x vs,R x vs->vs.length=1):∀{l:List α}{us:List Value},C6 R l us->us.length=l.length/\∀(j:Nat) (x:α),l[j]?=some x->∃u,us[j]?=some u/\R x [u]:=by intro l;induction l with|nil=>grind [C6]|cons y l J=>rintro us ⟨vs,ws,rfl,I,hl⟩;have:=C _ _ I;match vs,this with |[v],_=>grind
theorem xR9{R:α->List Value->Prop}:∀{l:List α}{us:List Value},us.length=l.length->(∀(j:Nat) (x:α),l[j]?=some x->∃u,us[j]?=some u/\R x [u])->C6 R l us:=by intro l;induction l with|nil=>intro us h _;simp at h;subst h;rfl|cons y l J=>intro us h C;cases us with|nil=>grind|cons v us=>obtain⟨u,hu,I⟩:=C 0 y rfl;simp at hu;subst hu;exact⟨[v],us,rfl,I,J (by grind) λj x hj=>by obtain⟨u,hu,I⟩:=C (j+1) x (by grind);grind⟩
variable {V:Nat}
theorem yU7(C:Frame0 χ0 w0 G.χ w){s:Ty}{T:TypeId}(hT:AY P (.sl (.sl s)) (.inl T)){l:List (List s.den)}(hA:BQ G w (.sl s) l U true v)(hB:Jn G w s [[]] b 0 V m bv)(hVU:V≠U)(hTV:b≠V)(I:V≠d)(hlen:length (α:=List s.den) l+1<=4294967296):∃v' w' G',(append_ #[T,T] ty #[v,bv]).run P w=.ok v' w'/\Ext (λx=>x=AL U\/x=AL d) (λx=>x=AL d) G w G' w'/\Frame0 χ0 w0 G'.χ w'/\Jn G' w' s (List.append (α:=List s.den) l [[]]) d (length (α:=List s.den) l) V m v':=by obtain⟨ko,⟨he,_⟩ | ⟨_,⟨_,h0⟩ | ⟨cap,cur,e,rfl,h2,h3,h4,h5,h6,h7⟩⟩⟩:=hB;grind;grind;obtain⟨u,hu,J⟩:=h7 0 [] rfl;rw[if_pos rfl] at J;(have hc:AN G.χ w (.sl s) ([]:List s.den) [u]:=by simp only[AN];rcases J.2 with ⟨rfl,_⟩ | ⟨cap',_,_,_,rfl,_⟩;all_goals simp_all);obtain⟨v',w',G',q1,q2,q3,q4,q5⟩:=zQ9 (P:=P) (t:=.sl s) (ty:=ty) (d:=d) (l2:=[[]]) (ns:=[u]) C hT (.inr hA) ⟨some ⟨G.γ b,0,none⟩,cap,rfl,.inr ⟨⟨G.γ b,0,none⟩,rfl,⟨[u],[],rfl,hc,rfl⟩,λj u' R=>by grind [Addr.add_mid,cell?]⟩⟩ hlen;refine⟨v',w',G',q1,q2,q3,ko,.inr ⟨λe=>I e.symm,.inr ?_⟩⟩;(have h0:¬((0:Nat)=AL U\/(0:Nat)=AL d):=by rintro (e|e);exact DE _ e;exact DE _ e);have iR:=Wm q2 h0 (by grind [CJ]) J;rcases (EE q4 rfl).2 with ⟨_,h⟩ | ⟨cap',cur',e',us,rfl,g2,g3,g4,g5,g6,g7,g8⟩;grind;have gx:=(q5.resolve_left (by simp)) _ _ _ rfl 0 u rfl;obtain⟨k1,k2⟩:=yN0 (λy vs h=>by grind [CO,Ty.size]) g6;refine⟨cap',cur',e',rfl,g2,g3,g4,by rw[g5];simp[Ty.size],λo=>by rw[g8,if_neg (by simp)],λj x R=>?_⟩;by_cases e:j=length (α:=List s.den) l;subst e;(have hx:x=[]:=by have:(l++[([]:List s.den)])[length (α:=List s.den) l]?=some x:=R;simpa using this.symm);subst hx;refine⟨u,?_,by rw[if_pos rfl];exact iR⟩;simp only[cell?,g2] at gx;simpa[Ty.size] using gx;obtain⟨u',gI,hc'⟩:=k2 j x R;refine⟨u',?_,by rw[if_neg e];exact hc'⟩;rw[<-g7,List.getElem?_take] at gI;split at gI;exact gI;cases gI
theorem yJ4(j:Frame0 χ0 w0 G.χ w){s:Ty}{l:List (List s.den)}{u:Value}{x:List s.den}(ho:Jn G w s l U i U true v0)(hi:i<length (α:=List s.den) l)(kj:V≠U)(hu:yT G w s x V m u):(∃cur e,w.heap[G.γ U]?=some (.cells cur e (0,0))/\i+1<=cur.size)/\Frame0 χ0 w0 G.χ (w.setCells (G.γ U) i [u])/\Ext (λx=>x=AL U) (λ_=>False) G w G (w.setCells (G.γ U) i [u])/\Jn G (w.setCells (G.γ U) i [u]) s (set (α:=List s.den) l i x) U i V m v0:=by obtain⟨hv,⟨_,⟨hm,_⟩ | ⟨_,hK⟩⟩ | ⟨he,_⟩⟩:=ho;grind;rotate_left;grind;rcases hK with ⟨_,h0⟩ | ⟨cap,cur,e,rfl,J,h3,h4,h5,kh,h7⟩;grind;(have ki:i+1<=cur.size:=by omega);have R:Ext (λx=>x=AL U) (λ_=>False) G w G (w.setCells (G.γ U) i [u]):=Ww (λo=>kh o) (DE U);obtain⟨cur',c1,c2⟩:=S8 (G.γ U) e (0,0) [u] i w cur J (by grind);refine⟨⟨cur,e,J,ki⟩,Wx j (λo=>by grind [Iq]),R,hv,.inr ⟨λe=>kj e.symm,.inr ⟨cap,cur',e,by grind,c1,by grind,h4,?_,kh,λk y C=>?_⟩⟩⟩;grind [jN,zN];rw[c2];rw[List.getElem?_set] at C;(have I:∀k,(spl cur.toList i [u])[k]?=if i<=k/\k<i+1 then [u][k-i]? else cur.toList[k]?:=λk=>by rw[spl_getElem? _ _ _ _ (by exact ki)];rfl);by_cases e:i=k;refine⟨u,by grind,?_⟩;grind [Wm,DE,CJ];rw[if_neg e] at C;have e':¬k=i:=λh=>e h.symm;obtain⟨u',gI,hr⟩:=h7 k y C e';refine⟨u',?_,by rw[if_neg e'];exact CX R.prot hr⟩;rw[I,if_neg (by omega)];grind
theorem xD1(hfr:Frame0 χ0 w0 G.χ w){s:Ty}(hs:s.isL=false){l:List (List s.den)}{u:Value}{x:List s.den}(ho:BQ G w (.sl s) l U true v0)(hi:i<length (α:=List s.den) l)(kj:V≠U)(hu:BQ G w s x V m u):(∃cur e,w.heap[G.γ U]?=some (.cells cur e (0,0))/\i+1<=cur.size)/\Frame0 χ0 w0 G.χ (w.setCells (G.γ U) i [u])/\Ext (λx=>x=AL U) (λ_=>False) G w G (w.setCells (G.γ U) i [u])/\MapOk (λ_=>False) G w G (w.setCells (G.γ U) i [u]) (λt0 l0 T0 m0=>cond (Nat.beq U T0) (match Ty.cast (a:=.sl t0) (.sl (.sl s)) l0 with |some l1=>cond m0 (.ownh s (set (α:=List s.den) l1 i x) U i V m) (.junk)|none=>.junk) (.own t0 l0 T0 m0)) (λs T' t i p=>.eref s T' t i p):=by have hu:=EE hu hs;obtain⟨ko,ho⟩:=EE ho rfl;rcases ho with ⟨_,h0⟩ | ⟨cap,cur,e,uz,rfl,h2,h3,h4,h5,h6,h7,h8⟩;rw[h0] at hi;simp at hi;(have kh:∀o,G.χ (G.γ U) o=AL U:=λo=>by rw[h8,if_neg (by simp)]);(have h5':cur.size=cap:=by rw[h5];simp[Ty.size]);(have ki:i+1<=cur.size:=by omega);have C:Ext (λx=>x=AL U) (λ_=>False) G w G (w.setCells (G.γ U) i [u]):=Ww (λo=>kh o) (DE U);obtain⟨cur',c1,c2⟩:=S8 (G.γ U) e (0,0) [u] i w cur h2 (by simpa using ki);(have kJ:∀{l2:List (List s.den)}{v2:Value},BQ G w (.sl s) l2 U true v2->Jn G (w.setCells (G.γ U) i [u]) s (set (α:=List s.den) l2 i x) U i V m v2:=by intro l2 v2 gv;have gv:=EE gv rfl;refine⟨hu.1,.inr ⟨λe=>kj e.symm,?_⟩⟩;rcases gv.2 with ⟨rfl,h0⟩ | ⟨cap2,cur2,e2,uz2,rfl,g2,g3,g4,g5,g6,g7,g8⟩;exact .inl ⟨rfl,by rw[h0];rfl⟩;rw[h2] at g2;injection g2 with g2;injection g2 with g2 g2e _;subst g2;obtain⟨k1,k2⟩:=yN0 (λy vs h=>by have:=CO h;simpa[Ty.size] using this) g6;refine .inr ⟨cap2,cur',e,by rw[length_set],c1,by rw[length_set];exact g3,g4,?_,kh,λk y j=>?_⟩;rw[<-jN,c2,zN (by rw[jN];exact ki),jN,g5];simp[Ty.size];rw[c2];rw[List.getElem?_set] at j;(have I:∀k,(spl cur.toList i [u])[k]?=if i<=k/\k<i+1 then [u][k-i]? else cur.toList[k]?:=λk=>by rw[spl_getElem? _ _ _ _ (by rw[jN];exact ki)];rfl);by_cases e:i=k;rw[if_pos e] at j;subst e;split at j;injection j with j;subst j;refine⟨u,by rw[I,if_pos ⟨jI _,by omega⟩];simp,?_⟩;rw[if_pos rfl];exact Wm C (DE U) (λe=>kj (CJ e)) hu;cases j;rw[if_neg e] at j;obtain⟨u',gI,hr⟩:=k2 k y j;have J:¬k=i:=λh=>e h.symm;refine⟨u',?_,by rw[if_neg J];exact CX C.prot hr⟩;rw[I,if_neg (by omega)];rw[<-g7,List.getElem?_take] at gI;split at gI;exact gI;cases gI);refine⟨⟨cur,e,h2,ki⟩,Wx hfr (λo=>by rw[kh];have:=Iq U;omega),C,C.prot,λs=>rfl,λs kl hlt=>?_,λt2 l2 T m v2 _ gv hf=>?_,λt2 l2 T m v2 _ gv tm=>?_,λs T t i p v _ tm ha=>ha⟩;have:=C.block _ hlt (λo=>by rw[kl];exact CI _ _);exact⟨this.1,kl⟩;(cases hb:Nat.beq U T with|false=>simp only[jD,AF];exact⟨trivial,v2,rfl,GO C (DE U) (λe=>by have:=CJ e;subst this;simp at hb) gv⟩|true=>simp only[hb,jE] at hf;split at hf;cases m<;>simp[AVal.fitsT] at hf;simp[AVal.fitsT] at hf);cases hb:Nat.beq U T with|false=>simp only[jD,zA];exact GO C (DE U) (λe=>by have:=CJ e;subst this;simp at hb) gv|true=>have:=jC hb;subst this;simp only[jE];split;rename_i l1 R;obtain⟨J,R⟩:=E5 R;injection J with J;subst J;have R:l2=l1:=R;subst R;(cases m with|false=>simp only[jD,zA]|true=>simp only[jE,zA];exact kJ gv);simp only[zA]
variable {rd:Option Nat}{gtab:GlobTab}{P:Program}{c:Ctx}{G:Gh}{w:World}{tm:Array Value}{n:Nat}{χ0:Nat->Nat->Nat}{w0:World}{S:St}{a:Act}
def fz (r:Option Nat):Fence:={ Fence.wide with round:=r }
theorem xK7{x:Next}{w':World}(C:(execOp a.eval o).run P w=.ok x w')(I:∀d,x≠.defer d):(o.semAt rd a.eval).run P w=.ok x w':=by by_cases h:∃c,o.op=.defer c;obtain⟨c,J⟩:=h;(have he:execOp a.eval o=(resolve a.eval c o.type >>= λd=>pure (.defer d)):=by grind [execOp]);(cases R:(resolve a.eval c o.type).run P w with|ok d j=>(have:Next.defer d=x:=by simp_all);grind|halt y j=>simp_all);grind [Oper.semAt_eq]
variable {Q:Exit->Act->World->Prop}
theorem LQ{next:Act->World->Prop}{w':World}(j:(execOp a.eval o).run P w=.ok (.value v) w')(h:next (a.put o.dst v) w'):o.wpIn (fz rd) 0 P a w next Q:=by refine⟨λ_ _=>trivial,?_⟩;rw[show (fz rd).round=rd from rfl,xK7 j (by simp)];exact h
theorem S9{next:Act->World->Prop}{w':World}(j:(execOp a.eval o).run P w=.ok .skip w')(h:next (a.put o.dst undef) w'):o.wpIn (fz rd) 0 P a w next Q:=by refine⟨λ_ _=>trivial,?_⟩;rw[show (fz rd).round=rd from rfl,xK7 j (by simp)];exact h
theorem SA{next:Act->World->Prop}{args:Array Value}{w':World}(j:(execOp a.eval o).run P w=.ok (.enter f args) w')(h:Calls P f args w' λe w''=>∃v,e=.returned v/\next (a.put o.dst v) w''):o.wpIn (fz rd) 0 P a w next Q:=by refine⟨λ_ _=>trivial,?_⟩;rw[show (fz rd).round=rd from rfl,xK7 j (by simp),Oper.uponIn_enter];refine⟨λe=>(by cases e),?_⟩;have C:CallsIn Fence.wide (0-1) P f args w' λe w''=>∃v,e=.returned v/\next (a.put o.dst v) w'':=callsIn_wide.2 h;refine CallsIn.mono (F:=fz rd) C ?_;simp_all
variable {hv:Bool}
theorem xD2(j:Rel n χ0 w0 S a w G)(hn:n<=BO)(hi:Js a.tmps gd)(kM:FX a.tmps gd){x y z:Operand}(ho:o.op=.pick x y z)(h:yC gd o.dst x [arg S x,arg S y,arg S z]=some (p,u,hv))(I:∀e∈u,e.1<n)(hh:∀s,∀e∈u,(S.get s).hung e.1=false)(gN:∀e∈u,∀J∈u,e.2.hung J.1=false){next:Act->World->Prop}(hZ:∀v w' G',Rel n χ0 w0 (u++S) (a.put o.dst v) w' G'->next (a.put o.dst v) w'):o.wpIn (fz rd) 0 P a w next Q:=by unfold yC at h;split at h;rename_i d C A B hd hl;obtain⟨rfl,rfl,rfl⟩:=hl;split at h;rename_i b τ av τ' yv e1 e2 e3;split at h;rename_i zv hz;obtain⟨rfl,rfl,rfl⟩:=h;obtain⟨J,rfl⟩:=E5 hz;have R:=Wz kM (Jr j x);rw[e1] at R;have ng:=VRep_bool.1 R;have hA:=λhb=>yF9 (x:=x) (want:=true) kM (ac:=a) rfl hb (Jr j y);have hB:=λhb=>yF9 (x:=x) (want:=false) kM (ac:=a) rfl hb (Jr j z);(have kf:(execOp a.eval o).run P w=.ok (.value (if b then a.eval y else a.eval z)) w:=by unfold execOp;simp_all [asBool]);refine LQ kf (hZ _ w G ?_);rw[hd];refine W2 j hn (I _ (jH.2 rfl)) (λs=>hh s _ (jH.2 rfl)) (gN _ (jH.2 rfl) _ (jH.2 rfl)) (W3 hi kM ?_);grind;grind;grind;grind
theorem yR0:∀(i:Nat) X k,xs[i]?=some X->((xs.map (C4 S)).map (zF gd))[i]?=some k->k=zF gd (C4 S X):=by grind
def Gh.still (G:Gh)(b k:Nat):Gh:={ G with χ:=λb' o=>if b'=b/\o<k then 0 else G.χ b' o }
theorem zY4:∀j o,j<w.heap.size->G.χ j o=0->(G.still b k).χ j o=0/\w.cell? ⟨j,o,none⟩=w.cell? ⟨j,o,none⟩:=by grind [Gh.still]
theorem yR1(hb:∀o,o<k->G.χ b o=0\/X (G.χ b o)):Ext X (λ_=>False) G w (G.still b k) w:=by refine⟨zY4,λj _ h=>⟨rfl,λo=>?_⟩,jI _,λ_ _=>rfl,λ_ _=>rfl,λ_ h=>h.elim⟩;grind [Gh.still]
theorem yG1(j:Frame0 χ0 w0 G.χ w)(hb:∀o,o<k->G.χ b o=0\/1<G.χ b o):Frame0 χ0 w0 (G.still b k).χ w:=by refine⟨j.os,j.tape,j.output,j.size,j.block,λC o kE I=>?_⟩;have:=j.cell C o kE I;simp only[Gh.still];split;grind;grind
theorem yU8(I:∀x,X x->x=AL T):∀{A:AVal}{s:Option Nat},A.hasTag T=false->¬A.names X (λ_=>False) s:=by intro A;induction A with|own t l T' m=>intro s j;exact λe=>by have:=CJ (I _ e);simp_all [AVal.hasTag]|ownh t l T' i V m=>intro s j;simp[AVal.names];exact⟨λe=>by have:=CJ (I _ e);simp_all [AVal.hasTag],λe=>by have:=CJ (I _ e);simp_all [AVal.hasTag]⟩|opt _ _ _ A C=>intro s j;exact C j|box τ b C=>intro s j;(cases s with|none=>exact C j|some s=>simp[AVal.names];exact⟨λe=>CI _ _ (I _ e),C j⟩)|cons x y kP kK=>grind [AVal.hasTag,AVal.names]|agg f b C=>intro s j;exact C j|tup b C=>intro s j;exact C j|fn f b C=>intro s j;exact C j|raw=>intro s _;cases s<;>grind [AVal.names,CI]|_=>grind [AVal.names]
theorem fG{t:Ty}(gr:t.isL=false){l:List t.den}(j:Frame0 χ0 w0 G.χ w)(h:BQ G w t l T m v):∃G',Ext (λx=>x=AL T) (λ_=>False) G w G' w/\Frame0 χ0 w0 G'.χ w/\G'.β=G.β/\∀v',BQ G w t l T m v'->BQ G' w t l T false v':=by (have kh:∀o,o<l.length*t.size->G.χ (G.γ T) o=0\/G.χ (G.γ T) o=AL T:=by rcases (EE h gr).2 with C | ⟨cap,cur,e,us,I,J,R,h4,h5,h6,h7,h8⟩;all_goals grind);refine⟨G.still (G.γ T) (l.length*t.size),yR1 kh,yG1 j λo ho=>(kh o ho).imp id λe=>by grind [Iq],rfl,λv' h=>.inl ⟨(EE h gr).1,?_⟩⟩;rcases (EE h gr).2 with C | ⟨cap,cur,e,us,I,J,R,h4,h5,h6,h7,h8⟩;all_goals grind [EU,CX,zY4,Gh.still]
theorem xK8{t:Ty}{l:List t.den}(j:Rel n χ0 w0 ((d,.own t l T m)::u++S) a w G)(hn:n<=BO)(hd:d<n)(ht:BZ T (u++S))(gr:t.isL=false):∃G',Rel n χ0 w0 ((d,.own t l T false)::u++S) a w G':=by (have hg:∀B:AVal,St.get ((d,B)::u++S) d=B:=λB=>by simp[St.get]);have J:=j.reps d;rw[hg] at J;obtain⟨G',R,C,_,kZ⟩:=fG gr j.frame J;refine⟨G',j.len,j.defers,λs=>?_,C,Nv R.prot j.glob⟩;by_cases e:d=s;grind [zA];(have h1:Nat.beq d s=false:=by grind [Nat.beq,absurd,jC]);(have h2:Nat.beq d BO=false:=by grind [Nat.beq,jC]);(have I:∀B:AVal,St.get ((d,B)::u++S) s=St.get (u++S) s:=λB=>by grind [St.get]);have:=j.reps s;rw[I] at this ⊢;exact dZ R (λe=>DE _ e) _ (yU8 (λx h=>h) (Jt ht s)) this
theorem xS(j:Rel n χ0 w0 ([(d,B)]++S) a w G)(C:n<=BO)(I:d<n)(h:zA G w a.tmps (some d) A (a.tmps.getD d undef)):Rel n χ0 w0 ([(d,A)]++S) a w G:=by refine⟨j.len,j.defers,λs=>?_,j.frame,j.glob⟩;have:=j.reps s;simp only[cons_append,St.get] at this ⊢;grind [Nat.beq,jC]
theorem xD3{q:Nat×Bool×Bool}{t:Ty}{l:List t.den}{G':Gh}{w':World}(hn:n<=BO)(hR:Rel n χ0 w0 S a w G)(hi:Js a.tmps (some q))(kM:FX a.tmps (some q))(hd:o.dst=some d)(hr:GK d S)(ht:BZ d S)(gr:t.isL=false)(hlt:∀e∈[(d,E1 (some q) (.val (.sl t) l))],e.1<n)(hh:∀s,∀e∈[(d,E1 (some q) (.val (.sl t) l))],(S.get s).hung e.1=false)(gN:(E1 (some q) (.val (.sl t) l)).hung d=false)(gj:Ext (· =BL d) (· =BL d) G w G' w'\/Ext (· =AL d) (· =AL d) G w G' w')(C:Frame0 χ0 w0 G'.χ w')(hA:∀tm,zA G' w' tm (some d) (.own t l d m) v){K:Act->World->Prop}(hK:∀G'',Rel n χ0 w0 ([(d,E1 (some q) (.val (.sl t) l))]++S) (a.put o.dst v) w' G''->K (a.put o.dst v) w'):K (a.put o.dst v) w':=by have gG:d<n:=hlt _ (jH.2 rfl);(have I:d<a.tmps.size:=by rw[hR.len];exact gG);rw[hd] at hK ⊢;(have kQ:∀s,St.has s [(d,AVal.own t l d m)]->s=d:=by intro s j;simp[St.has] at j;exact j.symm);(have kS:∀s,St.has s [(d,AVal.own t l d m)]=false->s≠d:=by intro s j e;subst e;simp[St.has] at j);(have kV:∀s,St.has s [(d,AVal.own t l d m)]->zA G' w' (a.put (some d) v).tmps (some s) (St.get [(d,AVal.own t l d m)] s) ((a.put (some d) v).tmps.getD s undef):=by intro s j;have:=kQ s j;subst this;(have hg:∀B:AVal,St.get [(s,B)] s=B:=λB=>by simp[St.get]);rw[hg,FY I,if_pos rfl];exact hA _);(have iE:∀e∈[(d,AVal.own t l d m)],e.1<n:=λe he=>by simp at he;subst he;exact gG);have J:∀s,(S.get s).hung d=false:=λs=>hh s _ (jH.2 rfl);(have hR1:Rel n χ0 w0 ([(d,AVal.own t l d m)]++S) (a.put (some d) v) w' G':=by rcases gj with gj | gj;exact GR hR hn iE (λd' e=>by injection e with e;subst e;simp[St.has]) gj (Hh d) C (λs j=>yQ0 (yQ9 hr s) (λe=>kS s j (by injection e))) (λs d' e _=>by injection e with e;subst e;exact J s) kV;exact GR hR hn iE (λd' e=>by injection e with e;subst e;simp[St.has]) gj (DE d) C (λs j=>yQ1 (Jt ht s)) (λs d' e _=>by injection e with e;subst e;exact J s) kV);obtain⟨G'',R⟩:=xK8 (u:=[]) (S:=S) hR1 hn gG (by simpa using ht) gr;refine hK G'' (xS (B:=.own t l d false) R hn gG ?_);have h2:=R.reps d;(have hg:St.get ([(d,AVal.own t l d false)]++S) d=.own t l d false:=by simp[St.get]);simp only[nil_append,cons_append] at hg h2;rw[hg] at h2;simp only[zA] at h2;(have h3:zA G'' w' (a.put (some d) v).tmps none (.val (.sl t) l) ((a.put (some d) v).tmps.getD d undef):=by simp only[zA];rw[zC rfl];exact Gl h2);obtain⟨s,want,g⟩:=q;(have hsd:s≠d:=by intro e;subst e;simp[E1,AVal.hung] at gN);(have iq:(a.put (some d) v).tmps.getD s undef=a.tmps.getD s undef:=by rw[FY I,if_neg hsd]);have:=W3 (gd:=some (s,want,g)) (tm:=(a.put (some d) v).tmps) (λs' want' g' e=>by simp only[jA,jG] at e;obtain⟨rfl,rfl,rfl⟩:=e;rw[iq];exact hi _ _ _ rfl) (λs' want' g' e=>by simp only[jA,jG] at e;obtain⟨rfl,rfl,rfl⟩:=e;rw[iq];exact kM _ _ _ rfl) h3;simp only[E1,zA] at this ⊢;exact this
theorem xD4(I:CtxOk P c)(J:Rel c.n χ0 w0 S a w G)(hi:Js a.tmps gd)(kM:FX a.tmps gd)(h:zK c gd o.dst o.op (((CB o.op).map (arg S)).map (zF gd)) (((((CB o.op).map (arg S)).map (zF gd)).map (C4 S)).map (zF gd)) S=some (p,u,hv))(j:∀e∈u,e.1<c.n)(hh:∀s,∀e∈u,(S.get s).hung e.1=false)(gN:∀e∈u,∀e'∈u,e.2.hung e'.1=false)(hp:∀q∈p,q){next:Act->World->Prop}(hZ:∀v w' G',Rel c.n χ0 w0 (u++S) (a.put o.dst v) w' G'->next (a.put o.dst v) w'):o.wpIn (fz rd) 0 P a w next Q:=by unfold zK at h;split at h;cases h;rename_i d hd;split at h;cases h;rename_i p0 A te;have hx:=yZ6 J kM (CB o.op);(have hk:∀(i:Nat) X k,(((CB o.op).map (arg S)).map (zF gd))[i]?=some X->(((((CB o.op).map (arg S)).map (zF gd)).map (C4 S)).map (zF gd))[i]?=some k->∀s,EF X=some s->∃v,zA G w a.tmps (some s) k v:=by intro i X k h1 h2 s C;rw[yR0 i X k h1 h2];exact yU4 kM (N5 J C));cases hm:HN o.op with|false=>simp only[hm,jD,jA,jG] at h;obtain⟨rfl,rfl,rfl⟩:=h;have R:=W4 hi kM hp;obtain⟨v,kf,hA⟩:=xK I.tys I.maps I.fts o hm hx hk te R;refine LQ kf (hZ v w G ?_);rw[hd];exact W2 J I.n (j (d,E1 gd A) (by simp)) (λs=>hh s (d,E1 gd A) (by simp)) (gN (d,E1 gd A) (by simp) (d,E1 gd A) (by simp)) (W3 hi kM hA)|true=>simp only[hm,jE] at h;(have R:∀q∈p0,q:=by cases hb:(isNone gd&&GK d S&&BZ d S) with|false=>simp only[hb,jD] at h;unfold Nt at h;split at h;rename_i q' t l T m;(cases kE:(GK d S&&BZ d S&&Nat.beq T d&&!t.isL) with|false=>simp only[kE,jD] at h;cases h|true=>simp only[kE,jE,jA,jG] at h;rw[<-h.1] at hp;exact W4 hi kM hp);cases h|true=>simp only[hb,jE,jA,jG] at h;rw[h.1];exact hp);obtain⟨hf,v,w',G',kf,gj,hfr,hA⟩:=xC4 I.tys I.maps I.fts o hm J.frame hx te R;cases hb:(isNone gd&&GK d S&&BZ d S) with|false=>simp only[hb,jD] at h;unfold Nt at h;split at h;rename_i q' t l T m;(cases kE:(GK d S&&BZ d S&&Nat.beq T d&&!t.isL) with|false=>simp only[kE,jD] at h;cases h|true=>simp only[kE,jE,jA,jG] at h;obtain⟨rfl,rfl,rfl⟩:=h;simp only[jB] at kE;have hTd:=jC kE.1.2;subst hTd;refine LQ kf (xD3 I.n J hi kM hd kE.1.1.1 kE.1.1.2 (by simpa using kE.2) j hh (gN _ (jH.2 rfl) _ (jH.2 rfl)) gj hfr hA λG'' hR''=>hZ v w' G'' hR''));cases h|true=>simp only[hb,jE,jA,jG] at h;obtain⟨rfl,rfl,rfl⟩:=h;simp only[jB] at hb;refine LQ kf (hZ v w' G' ?_);rw[hd];(have gG:d<a.tmps.size:=by rw[J.len];exact j (d,A) (by simp));(have kQ:∀s,St.has s [(d,A)]->s=d:=by intro s C;simp[St.has] at C;exact C.symm);(have kS:∀s,St.has s [(d,A)]=false->s≠d:=by intro s C e;subst e;simp[St.has] at C);(have kV:∀s,St.has s [(d,A)]->zA G' w' (a.put (some d) v).tmps (some s) (St.get [(d,A)] s) ((a.put (some d) v).tmps.getD s undef):=by intro s C;have:=kQ s C;subst this;(have hg:St.get [(s,A)] s=A:=by simp[St.get]);rw[hg,FY gG,if_pos rfl];exact hA _);rcases gj with gj | gj;exact GR J I.n j (λd' e=>by injection e with e;subst e;simp[St.has]) gj (Hh d) hfr (λs C=>yQ0 (yQ9 hb.1.2 s) (λe=>kS s C (by injection e))) (λs d' e _=>by injection e with e;subst e;exact hh s (d,A) (by simp)) kV;exact GR J I.n j (λd' e=>by injection e with e;subst e;simp[St.has]) gj (DE d) hfr (λs C=>yQ1 (Jt hb.2 s)) (λs d' e _=>by injection e with e;subst e;exact hh s (d,A) (by simp)) kV
variable {gtab:GlobTab}{P:Program}{c:Ctx}{G:Gh}{w:World}{tm:Array Value}{n:Nat}{χ0:Nat->Nat->Nat}{w0:World}{S:St}{a:Act}
def lk (l:List (Nat×Nat))(x:Nat):Option Nat:=(l.find? λp=>p.1==x).map (·.2)
def EV (l:List (Nat×Nat)):Prop:=∀a b b',(a,b)∈l->(a,b')∈l->b=b'
def zQ (l:List (Nat×Nat)):List (Nat×Nat):=l.map λp=>(p.2,p.1)
variable {y x:Nat}
theorem SB:∀{l:List (Nat×Nat)},lk l x=some y->(x,y)∈l:=by grind [lk,Option.map_eq_some_iff]
variable {l:List (Nat×Nat)}
theorem Ir(j:EV l)(h:(x,y)∈l):lk l x=some y:=by cases C:lk l x with|some z=>rw[j x z y (SB C) h]|none=>grind [lk,Option.map_eq_none_iff]
theorem xW7(h:lk l x=none):(x,y)∉l:=by grind [lk,Option.map_eq_none_iff]
theorem mem_swap:(x,y)∈zQ l↔(y,x)∈l:=by simp[zQ];constructor;grind;intro h;exact⟨y,x,h,rfl,rfl⟩
theorem xW8{l:List Nat}:l.any (Nat.beq x)=true↔x∈l:=by simp_all
theorem fH:∀{l:List (Nat×Nat)},Jd (l.map (·.1))->EV l:=by intro l;induction l with|nil=>intro _ a b j h;grind|cons p r I=>intro h a b j J R;simp[Jd] at h;rcases mem_cons.1 J with e1|e1;grind;rcases mem_cons.1 R with C|C;grind;exact I h.2 a b j e1 C
theorem yJ5:∀{l:List (Nat×Nat)},Jd (l.map (·.2))->EV (zQ l):=by intro l h;refine fH ?_;rw[zQ,map_map];exact h
def E9 (HB HT:List (Nat×Nat)):List (Nat×Nat):=HB.map (λp=>(BL p.1,BL p.2))++HT.map (λp=>(AL p.1,AL p.2))
theorem cols_box{HT:List (Nat×Nat)}:(BL s,x)∈E9 l HT↔∃i,x=BL i/\(s,i)∈l:=by simp[E9];constructor;grind [JW,absurd,CI];rintro⟨i,rfl,h⟩;exact .inl ⟨s,i,h,rfl,rfl⟩
theorem cols_arr{HT:List (Nat×Nat)}:(AL T,x)∈E9 l HT↔∃U,x=AL U/\(T,U)∈HT:=by simp[E9];constructor;grind [absurd,CI,CJ];rintro⟨i,rfl,h⟩;exact .inr ⟨T,i,h,rfl,rfl⟩
theorem fI{HT:List (Nat×Nat)}(h:(x,y)∈E9 l HT):4<=x/\4<=y:=by grind [E9,N8,Iq]
theorem SC{HT:List (Nat×Nat)}(I:EV l)(J:EV HT):EV (E9 l HT):=by intro x y y' R C;have gj:=R;simp[E9] at gj;rcases gj with ⟨p,q,h,rfl,rfl⟩ | ⟨p,q,h,rfl,rfl⟩;obtain⟨i,rfl,j⟩:=cols_box.1 C;rw[I p q i h j];obtain⟨i,rfl,j⟩:=cols_arr.1 C;rw[J p q i h j]
def ren (HC:List (Nat×Nat))(x:Nat):Nat:=if x=0 then 0 else (lk HC x).getD 1
def Gh.calleeH (G:Gh)(HB HT:List (Nat×Nat)):Gh:=
 {χ:=λb o=>ren (E9 HB HT) (G.χ b o),
  β:=λi=>match lk (zQ HB) i with|some s=>G.β s|none=>0,
  γ:=λT=>match lk (zQ HT) T with|some U=>G.γ U | none=>0 }
def Gh.backH (G G':Gh)(b0:Nat)(HB HT KT:List (Nat×Nat)):Gh:=
 {χ:=λb o=>if b<b0/\lk (E9 HB HT) (G.χ b o)=none then G.χ b o else if G'.χ b o=0 then 0 else (lk (E9 (zQ HB) KT) (G'.χ b o)).getD 2,
  β:=G.β,
  γ:=λU=>match lk (zQ KT) U with|some T=>G'.γ T | none=>G.γ U }
theorem ren_zero{HT:List (Nat×Nat)}:ren (E9 l HT) x=0↔x=0:=by unfold ren;constructor;intro h;split at h;grind;(cases j:lk (E9 l HT) x with|none=>grind|some y=>have:=fI (SB j);grind);grind
theorem LR{HT:List (Nat×Nat)}(h:lk (E9 l HT) x=none):ren (E9 l HT) x<=1:=by grind [ren]
theorem zP{HT:List (Nat×Nat)}:∀b o,b<w.heap.size->G.χ b o=0->(G.calleeH l HT).χ b o=0/\w.cell? ⟨b,o,none⟩=w.cell? ⟨b,o,none⟩:=λb o _ h=>⟨by grind [Gh.calleeH,ren_zero],rfl⟩
theorem xD5{HB HT:List (Nat×Nat)}(C:EV HB)(I:EV HT)(J:EV (zQ HT))(hm:(U,T)∈HT){t:Ty}{l:List t.den}(h:BQ G w t l U m v):BQ (G.calleeH HB HT) w t l T m v:=by refine zW (λh=>⟨h.1,?_⟩) (by simp only[Gh.calleeH];rw[Ir J (mem_swap.2 hm)]) rfl zP (λ_ j o=>?_) h;rotate_left;simp only[Gh.calleeH];rw[j];unfold ren;rw[if_neg (λe=>DE U e.symm),Ir (SC C I) (cols_arr.2 ⟨T,rfl,hm⟩)];rfl;rcases h.2 with h|⟨cap,cur,e,us,q1,q2,R,q4,q5,q6,q7,q8⟩;grind;(have hγ:(G.calleeH HB HT).γ T=G.γ U:=by simp only[Gh.calleeH];rw[Ir J (mem_swap.2 hm)]);refine .inr ⟨cap,cur,e,us,by grind,by grind,R,q4,q5,EU (λ_ _ j=>CX zP j) q6,q7,λo=>?_⟩;rw[hγ];simp only[Gh.calleeH];rw[q8 o];split;exact ren_zero.2 rfl;unfold ren;rw[if_neg (λe=>DE U e.symm),Ir (SC C I) (cols_arr.2 ⟨T,rfl,hm⟩)];rfl
theorem yN2{G':Gh}{w':World}{R:List (Nat×Nat)}(kG:∀b o,b<w.heap.size->G.χ b o=0->G'.χ b o=0/\w'.cell? ⟨b,o,none⟩=w.cell? ⟨b,o,none⟩)(kJ:∀U T,(U,T)∈R->∀(t:Ty)(l:List t.den) m v,BQ G w t l U m v->BQ G' w' t l T m v):∀{A:AVal}{τ:Ty}{vs:List Value}{b:Nat},(∀p∈A.tags τ b,p∈R)->AF G w τ A vs->AF G' w' τ (A.pos τ b) vs:=by intro A;induction A with|val τ' x=>grind [AVal.pos,AF,CX]|nil=>grind [AVal.pos,AF]|own t l T m=>grind [AVal.pos,AF,AVal.tags]|agg f d ih=>grind [AVal.pos,AF,AVal.tags]|nl=>grind [AVal.pos,AF]|cons x y kP kK=>intro τ vs b j h;obtain⟨h1,t1,us,ws,rfl,rfl,I,J⟩:=h;simp only[AVal.tags,List.mem_append] at j;exact⟨_,_,us,ws,rfl,rfl,kP (λp C=>j p (.inl C)) I,kK (λp C=>j p (.inr C)) J⟩|junk=>grind [AVal.pos,AF]|_=>grind [AF]
theorem xW9:∀{HB:List (Nat×Nat)},dM HB k=some i->(k,i)∈HB:=by intro HB;induction HB with|nil=>intro h;cases h|cons q r C=>obtain⟨s,j⟩:=q;intro h;simp only[dM] at h;cases hb:Nat.beq s k<;>simp_all
theorem xD6{G G':Gh}{HB:List (Nat×Nat)}(h:∀k i,(k,i)∈HB->G'.β i=G.β k):∀{caps l:List (Option (Nat×Ty))},OV HB caps=some l->caps.map (HP G v)=l.map (HP G' v):=by intro caps;induction caps with|nil=>grind [OV,jA]|cons q r j=>cases q<;>grind [OV,HP,xW9]
theorem xK9{HB HT:List (Nat×Nat)}(h1:EV HB)(I:EV (zQ HB))(h2:EV HT)(h3:EV (zQ HT)){wants:List Nat}{Y k:AVal}(j:zA G w tm none Y v)(hk:∀s,EF Y=some s->zA G w tm (some s) k kv)(J:∀p∈Nq wants i Y k,p∈HT)(hB:∀p∈GM i Y,p∈HB):zA (G.calleeH HB HT) w #[] (some i) (ED HB wants i Y k) v:=by have C:∀b o,b<w.heap.size->G.χ b o=0->(G.calleeH HB HT).χ b o=0/\w.cell? ⟨b,o,none⟩=w.cell? ⟨b,o,none⟩:=zP;have R:∀U T,(U,T)∈HT->∀(t:Ty) (l:List t.den) m v,BQ G w t l U m v->BQ (G.calleeH HB HT) w t l T m v:=λU T hm t l m v h=>xD5 h1 h2 h3 hm h;cases Y with|val τ x=>simp only[ED,zA] at j ⊢;exact Gk C j|nil=>simp only[ED,zA] at j ⊢;exact j|own t l T m=>simp only[ED];(cases hw:wants.any (Nat.beq i) with|true=>simp only[jE,zA] at j ⊢;exact R T (GL i) (J _ (by simp[Nq,hw])) t l m v j|false=>simp only[jD];cases m with|true=>simp only[jE,zA]|false=>simp only[jD];simp only[zA] at j ⊢;exact Gk C ((zC rfl).2 (Gl j)))|agg f d=>simp only[ED];(cases hw:wants.any (Nat.beq i) with|true=>simp only[jE];simp only[zA] at j ⊢;obtain⟨vs,e,ht⟩:=j;exact⟨vs,e,yN2 C R (λp C=>J p (by simpa[Nq,hw] using C)) ht⟩|false=>simp only[jD];split;rename_i x hx;simp only[zA];exact Gk C (Ip hx rfl j);simp only[zA])|fn f cs=>simp only[ED];(cases hq:cs.pureL with|false=>simp only[jD,zA]|true=>simp only[jE];simp only[zA] at j ⊢;obtain⟨vs,e1,e2⟩:=j;exact⟨vs,e1,yF5 C hq e2⟩)|fptr f caps=>simp only[ED];(cases hc:OV HB caps with|none=>simp only[zA]|some l=>simp only[zA] at j ⊢;obtain⟨b,rfl,h0,kF⟩:=j;(have hb:b<w.heap.size:=by by_cases hb:b<w.heap.size;exact hb;have:w.heap[b]?=none:=Array.getElem?_eq_none (by omega);simp[cell?,this] at kF);refine⟨b,rfl,(C b 0 hb h0).1,?_⟩;rw[kF,xD6 (G:=G) (G':=G.calleeH HB HT) (λk i hm=>by simp only[Gh.calleeH];rw[Ir I (mem_swap.2 hm)]) hc])|ref s τ p=>(cases p with|nil=>(cases k with|box τ' k=>simp only[ED];(cases hb:Ty.beq τ' τ with|false=>simp only[jD,zA]|true=>simp only[jE];have e:=Ty.eq_of_beq hb;subst e;obtain⟨ko,cur,e,g1,g2,g3⟩:=N0 (hk s rfl);have hm:(s,i)∈HB:=hB _ (by simp[GM]);simp only[zA] at j ⊢;(have hβ:(G.calleeH HB HT).β i=G.β s:=by simp only[Gh.calleeH];rw[Ir I (mem_swap.2 hm)]);refine⟨by rw[hβ];simpa[Ty.poff] using j.2,ko,cur,e,by rw[hβ];exact g1,yN2 C R (λp C=>J p (by simpa[Nq] using C)) g2,λo=>?_⟩;rw[hβ];simp only[Gh.calleeH];rw[g3 o];unfold ren;rw[if_neg (λe=>Hh s e.symm),Ir (SC h1 h2) (cols_box.2 ⟨i,rfl,hm⟩)];rfl)|_=>simp only[ED,zA])|cons _ _=>simp only[ED,zA])|_=>simp only[ED,zA]
section
variable {HB HT KT:List (Nat×Nat)}{G':Gh}{w':World}
theorem zT (C:Frame0 (G.calleeH HB HT).χ w G'.χ w'):∀b o,b<w'.heap.size->G'.χ b o=0->(G.backH G' w.heap.size HB HT KT).χ b o=0/\w'.cell? ⟨b,o,none⟩=w'.cell? ⟨b,o,none⟩:=by intro b o _ I;refine⟨?_,rfl⟩;simp only[Gh.backH];split;rename_i j;have:=(C.cell b o j.1 (LR j.2)).1;rw[I] at this;exact ren_zero.1 this.symm;simp_all
theorem yR2(C:Frame0 (G.calleeH HB HT).χ w G'.χ w')(R:EV (zQ HB))(h2:EV KT)(h3:EV (zQ KT)){T U:Nat}(hm:(T,U)∈KT){t:Ty}{l:List t.den}{m:Bool}{v:Value}(h:BQ G' w' t l T m v):BQ (G.backH G' w.heap.size HB HT KT) w' t l U m v:=by refine zW (λh=>⟨h.1,?_⟩) (by simp only[Gh.backH];rw[Ir h3 (mem_swap.2 hm)]) rfl (zT C) (λ_ I o=>?_) h;rotate_left;simp only[Gh.backH];split;rename_i j;have J:=(C.cell _ o j.1 (LR j.2)).1;grind [LR,Gh.calleeH,Iq];rw[I o,if_neg (λe=>DE T e.symm),Ir (SC R h2) (cols_arr.2 ⟨U,rfl,hm⟩)];rfl;rcases h.2 with h|⟨cap,cur,e,us,q1,q2,q3,q4,q5,q6,q7,I⟩;grind;(have hγ:(G.backH G' w.heap.size HB HT KT).γ U=G'.γ T:=by simp only[Gh.backH];rw[Ir h3 (mem_swap.2 hm)]);refine .inr ⟨cap,cur,e,us,by grind,by grind,q3,q4,q5,EU (λ_ _ j=>CX (zT C) j) q6,q7,λo=>?_⟩;rw[hγ];simp only[Gh.backH];split;rename_i j;have J:=(C.cell _ o j.1 (LR j.2)).1;rw[I o] at J;by_cases mg:m=false/\o<l.length*t.size;rw[if_pos mg] at J;rw[if_pos mg];exact ren_zero.1 J.symm;grind [LR,Gh.calleeH,Iq];rw[I o];by_cases mg:m=false/\o<l.length*t.size;rw[if_pos mg,if_pos rfl,if_pos mg];rw[if_neg mg,if_neg (λe=>DE T e.symm),if_neg mg,Ir (SC R h2) (cols_arr.2 ⟨U,rfl,hm⟩)];rfl
theorem xL(j:Frame0 (G.calleeH HB HT).χ w G'.χ w')(_h0:EV HB)(C:EV (zQ HB))(I:EV KT)(h3:EV (zQ KT))(_hT:EV HT){s i:Nat}(hm:(s,i)∈HB)(kh:∀o,G.χ (G.β s) o=BL s)(hβ:G'.β i=G.β s){τ:Ty}{k:AVal}{u:Value}(hK:∀p∈k.tags τ (GL s),p∈KT)(h:zA G' w' #[] (some i) (.box τ k) u):zA (G.backH G' w.heap.size HB HT KT) w' tm (some s) (.box τ (k.pos τ (GL s))) u:=by obtain⟨J,ko,cur,e,R,q3,q4⟩:=h;refine⟨by rw[hβ] at J;exact J,ko,cur,e,by rw[hβ] at R;exact R,yN2 (zT j) (λU T hm t l m v h=>yR2 j C I h3 hm h) hK q3,λo=>?_⟩;simp only[Gh.backH];rw[if_neg,<-hβ,q4 o,if_neg (λe=>Hh i e.symm),Ir (SC C I) (cols_box.2 ⟨s,rfl,mem_swap.2 hm⟩)];rfl;rintro⟨_,hn⟩;rw[kh o] at hn;exact xW7 hn (cols_box.2 ⟨i,rfl,hm⟩)
theorem xL0 (j:Frame0 (G.calleeH HB HT).χ w G'.χ w'):Ext (λx=>(∃y,(x,y)∈E9 HB HT)\/∃U,U∈KT.map (·.2)/\x=AL U) (λx=>∃U,U∈KT.map (·.2)/\x=AL U) G w (G.backH G' w.heap.size HB HT KT) w':=by refine⟨λb o hb R=>?_,λb hb hX=>?_,j.size,λs _=>rfl,λT J=>?_,λ_ h=>.inr h⟩;(have C:lk (E9 HB HT) (G.χ b o)=none:=by cases I:lk (E9 HB HT) (G.χ b o) with|none=>rfl|some y=>have:=fI (SB I);omega);refine⟨by simp_all [Gh.backH],?_⟩;exact (j.cell b o hb (LR C)).2;(have C:∀o,lk (E9 HB HT) (G.χ b o)=none:=λo=>by grind [lk,E9,absurd,SB]);exact⟨j.block b hb (λo=>LR (C o)),λo=>by simp_all [Gh.backH]⟩;simp only[Gh.backH];cases I:lk (zQ KT) T with|none=>rfl|some U=>exact absurd ⟨T,List.mem_map.2 ⟨(U,T),mem_swap.1 (SB I),rfl⟩,rfl⟩ J
theorem yU9 (J:Frame0 (G.calleeH HB HT).χ w G'.χ w')(j:Frame0 χ0 w0 G.χ w):Frame0 χ0 w0 (G.backH G' w.heap.size HB HT KT).χ w':=by (have kS:∀b o,b<w0.heap.size->χ0 b o<=1->lk (E9 HB HT) (G.χ b o)=none:=λb o hb C=>by cases R:lk (E9 HB HT) (G.χ b o) with|none=>rfl|some y=>have:=fI (SB R);have:=(j.cell b o hb C).1;omega);refine⟨J.os.trans j.os,J.tape.trans j.tape,J.output.trans j.output,le_trans j.size J.size,λb hb C=>?_,λb o hb C=>?_⟩;have I:=lt_of_lt_of_le hb j.size;rw[J.block b I (λo=>LR (kS b o hb (C o)))];exact j.block b hb C;have I:=lt_of_lt_of_le hb j.size;have hn:=kS b o hb C;have h3:=j.cell b o hb C;refine⟨by simp_all [Gh.backH],?_⟩;rw[(J.cell b o I (LR hn)).2];grind
end
variable {d:Nat}
theorem xD7{G':Gh}{w':World}(kG:∀b o,b<w.heap.size->G.χ b o=0->G'.χ b o=0/\w'.cell? ⟨b,o,none⟩=w.cell? ⟨b,o,none⟩)(kJ:∀T,T<4->∀(t:Ty)(l:List t.den) m v,BQ G w t l T m v->BQ G' w' t l (T*100000+d) m v):∀{A:AVal}{τ:Ty}{vs:List Value},E8 A->AF G w τ A vs->AF G' w' τ (A.tagTo d) vs:=by intro A;induction A with|val τ' x=>grind [AVal.tagTo,AF,CX]|nil=>grind [AVal.tagTo,AF]|own t l T m=>intro τ vs j ht;have j:T<4:=jR j;grind [AVal.tagTo,AF]|agg f b ih=>grind [E8,AVal.tagTo,AF]|nl=>grind [AVal.tagTo,AF]|junk=>grind [AVal.tagTo,AF]|cons x y kP kK=>intro τ vs j ht;simp[E8] at j;obtain⟨C,t1,us,ws,e,I,J,R⟩:=ht;exact⟨C,t1,us,ws,e,I,kP j.1 J,kK j.2 R⟩|_=>intro τ vs _ ht;simp only[AF] at ht
theorem xD8{G':Gh}{w':World}{tm':Array Value}(kG:∀b o,b<w.heap.size->G.χ b o=0->G'.χ b o=0/\w'.cell? ⟨b,o,none⟩=w.cell? ⟨b,o,none⟩)(kJ:∀T,T<4->∀(t:Ty)(l:List t.den) m v,BQ G w t l T m v->BQ G' w' t l (T*100000+d) m v):∀{A:AVal}{v:Value},E8 A->zA G w tm none A v->zA G' w' tm' none (A.tagTo d) v:=by intro A;induction A with|junk=>grind [AVal.tagTo,zA]|val τ' x=>grind [AVal.tagTo,zA,Gk]|nil=>grind [AVal.tagTo,zA]|own t l T m=>intro v j ht;have j:T<4:=jR j;grind [AVal.tagTo,zA]|agg f b _=>grind [E8,AVal.tagTo,zA,xD7]|nl=>grind [AVal.tagTo,zA]|cons x y kP kK=>intro v j ht;simp[E8] at j;obtain⟨u,us,C,I,J⟩:=ht;exact⟨u,us,C,kP j.1 I,kK j.2 J⟩|tup b R=>intro v j ht;exact R j ht|_=>intro v j _;simp[E8] at j
variable {rd:Option Nat}{gtab:GlobTab}{P:Program}{c:Ctx}{G:Gh}{w:World}{tm:Array Value}{n:Nat}{χ0:Nat->Nat->Nat}{w0:World}{S:St}{a:Act}
variable {s0:Nat}
theorem zY6:∀{A:AVal}{s:Option Nat},s≠some s0->¬A.names (λx=>x=BL s0) (λ_=>False) s:=by intro A;induction A with|own t l T m=>grind [AVal.names,CI]|ownh t l T i V m=>grind [AVal.names,CI]|opt _ _ _ A j=>grind [AVal.names]|box τ b j=>intro s h;cases s<;>grind [AVal.names,JW]|raw=>intro s h;cases s<;>grind [AVal.names,JW]|cons x y kP kK=>grind [AVal.names]|agg f b j=>grind [AVal.names]|tup b j=>grind [AVal.names]|fn f b j=>grind [AVal.names]|_=>grind [AVal.names]
variable {s:Nat}
theorem xD9{v:Value}:∀{cs:AVal}{caps:List (Option (Nat×Ty))}{xs:Array Value},KX s cs=some caps->zA G w tm none cs (.tuple xs)->v=.pointer (some ⟨G.β s,0,none⟩)->xs.toList=caps.map (HP G v):=by intro cs;induction cs with|nl=>grind [KX,jA,zA,Value.tuple.injEq]|cons A t _ I=>intro caps xs h J hv;simp[zA] at J;obtain⟨x,r,rfl,j,R⟩:=J;(cases A with|ref k τ p=>(cases p with|nil=>simp only[KX] at h;split at h;rename_i l C;simp at h;subst h;simp[zA,Ty.poff] at j;have:=I C R hv;simp only[map_cons,HP];rw[<-this,j.2];cases h|cons _ _=>simp[KX] at h)|rref s'=>simp only[KX] at h;(cases hb:Nat.beq s s' with|false=>grind|true=>have:=jC hb;subst this;split at h;rename_i l C;simp at h;subst h;have:=I C R hv;simp only[map_cons,HP];rw[<-this,j,hv];grind)|_=>grind [KX])|_=>grind [KX]
def Gh.ice (G:Gh)(b:Nat):Gh:={ G with χ:=λb' o=>if b'=b then 0 else G.χ b' o }
variable {T:Nat}
theorem xL1{X:Nat->Prop}{G':Gh}{w':World}(C:∀x,X x->x=AL T)(j:Ext X (λ_=>False) G w G' w'):MapOk (λ_=>False) G w G' w' (λt l T' m=>cond (Nat.beq T T') (.junk) (.own t l T' m)) (λs T' t i p=>cond (Nat.beq T T') (.junk) (.eref s T' t i p)):=by have R:¬X 0:=λh=>DE _ (C 0 h);refine⟨j.prot,λs=>j.box s id,λs kh I=>?_,λt l T' m v _ J hf=>?_,λt l T' m v _ J tm=>?_,λs T' t i p v _ tm ha=>?_⟩;have:=j.block _ I (λo=>by grind [CI]);grind;(cases hb:Nat.beq T T' with|true=>grind [AVal.fitsT]|false=>simp only[jD,AF];exact⟨trivial,v,rfl,GO j R (λe=>by have:=CJ (C _ e);simp_all) J⟩);(cases hb:Nat.beq T T' with|true=>simp[zA]|false=>exact GO j R (λe=>by have:=CJ (C _ e);simp_all) J);cases hb:Nat.beq T T' with|true=>simp[zA]|false=>simp[zA] at ha ⊢;rw[j.tag T' id];grind
variable {U V i:Nat}{m:Bool}
theorem xE{t:Ty}{x:List t.den}{c:Ctx}:∀{R:St}{s:Nat},St.has s (LJ c U t i x V m s0 S R)->(LJ c U t i x V m s0 S R).get s=(cond (Nat.beq s s0||c.wr.any (Nat.beq s)) ((S.get s).fill U t i x V m) ((S.get s).gone U))\/∃e∈LJ c U t i x V m s0 S R,e.1=BO:=by intro R;induction R<;>grind [LJ,St.has,St.get,Nat.beq,jQ,jC]
theorem xE0{t:Ty}{x:List t.den}{c:Ctx}(ht:(S.get s).hasTag U):∀{R:St},St.has s R->St.has s (LJ c U t i x V m s0 S R):=by intro R;induction R with|nil=>grind [St.has]|cons e r j=>intro h;obtain⟨q,A⟩:=e;simp only[LJ];simp only[St.has,any_cons,Bool.or_eq_true] at h;cases nm:(S.get q).hasTag U with|false=>rcases h with h|h;simp_all;exact j h|true=>simp only[jE,St.has,any_cons,Bool.or_eq_true];rcases h with h|h;grind;exact .inr (j h)
theorem yV{i:Int}:∀{l:List Nat},l.any (Nat.beq s)->s≠s0->(∀q∈dJ U i s0 S l,q)->∀q∈Wc U i (S.get s),q:=by intro l;induction l with|nil=>grind|cons k r C=>intro h kj j;simp[dJ] at j;grind [jC,Nat.beq,absurd]
variable {o:Oper}{y x:Operand}{A:AVal}{p:List Prop}{u:St}{hv:Bool}{Q:Exit->Act->World->Prop}
theorem yV0(hc:CtxOk P c)(J:Rel c.n χ0 w0 S a w G){v:AVal}(ho:o.op=.store T x y)(hd:o.dst=none)(hA:zA G w a.tmps none A (a.eval x))(hV:zA G w a.tmps none v (a.eval y))(h:dK c T A (C4 S A) v S=some (p,u,hv))(hlt:∀e∈u,e.1<c.n)(hp:∀q∈p,q){next:Act->World->Prop}(hZ:∀v w' G',Rel c.n χ0 w0 (u++S) (a.put o.dst v) w' G'->next (a.put o.dst v) w'):o.wpIn (fz rd) 0 P a w next Q:=by unfold dK at h;split at h;rename_i s0 U t i q;split at h;rename_i t' l U' j U2 hk;have kW:=N5 J (A:=.eref s0 U t i q) rfl;rw[hk] at kW;unfold yD7 at h;split at h;rename_i sv xv V m;(cases hb:(Ty.beq (.sl t') t&&Nat.beq U' U2&&Nat.beq U' U&&c.is T (.sl t')&&q.isEmpty&&!(Nat.beq V U)&&!t'.isL) with|false=>grind|true=>simp only[hb,jE] at h;split at h;rename_i xv' mh;simp only[jA,jG] at h;obtain⟨rfl,rfl,rfl⟩:=h;simp only[jB,jK] at hb;obtain⟨⟨⟨⟨⟨⟨b1,b2⟩,b3⟩,b4⟩,b5⟩,b6⟩,b7⟩:=hb;have e:=Ty.eq_of_beq b1;subst e;have e:=jC b2;subst e;have e:=jC b3;subst e;have hq:q=[]:=List.isEmpty_iff.1 b5;subst hq;have hT:=DV hc.tys b4;(have kj:V≠U':=λe=>by grind);obtain⟨e',mh⟩:=E5 mh;injection e' with e';subst e';subst mh;obtain⟨gz,qm⟩:=hp _ (jQ ..);subst gz;obtain⟨iL,_,hxa⟩:=hA;(have hi:i.toNat<length (α:=List sv.den) l:=by omega);obtain⟨⟨cur,e,g1,g2⟩,R,hx,hH⟩:=yJ4 (u:=a.eval y) J.frame kW hi kj (EE hV b7);have kQ:=Wu hV;have kf:=zI (P:=P) (w:=w) (u:=a.eval y) (us:=[a.eval y]) (b:=G.γ U') (o:=i.toNat) (cur:=cur) (e:=e) hT (Pd (τ:=.sl sv) (us:=[a.eval y]) (by simp[Io,Ty.isAgg]) (by grind)) (by simp[Ty.size]) (by grind) g1 (by grind);(have kX:(execOp a.eval o).run P w=.ok .skip (w.setCells (G.γ U') i.toNat [a.eval y]):=by unfold execOp;simp[ho,hxa,Ty.size,Ty.poff,kf]);refine S9 kX (hZ undef _ G ?_);rw[hd,N7];have hmap:=xL1 (T:=U') (λx h=>h) hx;have hgone:∀s,zA G (w.setCells (G.γ U') i.toNat [a.eval y]) a.tmps (some s) ((S.get s).gone U') (a.tmps.getD s undef):=λs=>hmap.arep (λ_ h=>h.elim) (J.reps s);refine GR (dst:=none) (v:=undef) J hc.n hlt (λd e=>by grind) hx (λe=>DE _ e) R (λI gJ=>?_) (λs d e=>by grind) (λI gJ=>?_);refine yU8 (λx h=>h) ?_;grind [xE0,Pj,W5];rw[N7];rcases xE gJ with h3|⟨e,he,h3⟩;rw[h3];(cases hsel:(Nat.beq I s0||c.wr.any (Nat.beq I)) with|false=>grind|true=>simp only[jE];(have mi:∀q∈Wc U' i (S.get I),q:=by by_cases e0:I=s0;subst e0;simp only[C4] at hk;rw[hk];have h0:=hp _ (jQ ..);intro q hq;simp only[Wc,Nat.beq_refl,Bool.and_self,jE,jH] at hq;rw[hq];exact⟨trivial,h0.2⟩;simp only[Bool.or_eq_true] at hsel;rcases hsel with h|h;grind [absurd,jC];exact yV h e0 λq hq=>hp q (jP _ hq));have qv:=J.reps I;have hg:=hgone I;generalize S.get I=A at qv mi hg ⊢;cases A with|ownh t2 l2 T2 j2 U3 m2=>(cases m2 with|false=>exact hg|true=>simp only[AVal.fill];cases qw:(Nat.beq T2 U'&&Nat.beq U3 U') with|false=>simp only[jD,zA]|true=>simp only[jE];simp only[Wc,qw,jE,jH,forall_eq] at mi;simp only[jB] at qw;have e1:=jC qw.1;have e2:=jC qw.2;subst e1;subst e2;split;rename_i x2 gm;obtain⟨e3,gm⟩:=E5 gm;injection e3 with e3;subst e3;subst gm;obtain⟨q1,q2⟩:=mi;subst q1;(have iV:i.toNat<length (α:=List sv.den) l2:=by omega);exact (yJ4 J.frame qv iV kj (EE hV b7)).2.2.2;grind [zA])|_=>exact hg);have:=hlt e he;have:=hc.n;omega;grind);grind;rename_i t' l U' hk;have kW:=N5 J (A:=.eref s0 U t i q) rfl;rw[hk] at kW;(cases hho:xW1 v with|true=>simp[hho,jE] at h;unfold yD6 at h;split at h;rename_i sv xv V m;(cases hb:(Ty.beq t' t&&Ty.beq (.sl sv) t'&&Nat.beq U' U&&c.is T (.sl sv)&&q.isEmpty&&!(Nat.beq V U)&&!sv.isL) with|false=>grind|true=>simp[hb,jE,jA,jG] at h;obtain⟨rfl,rfl,rfl⟩:=h;simp only[jB,jK] at hb;have e:=Ty.eq_of_beq hb.1.1.1.1.1.1;subst e;have e:=Ty.eq_of_beq hb.1.1.1.1.1.2;subst e;have e:=jC hb.1.1.1.1.2;subst e;have hT:=DV hc.tys hb.1.1.1.2;(have kj:V≠U':=λe=>by grind);have qm:=hp _ (jH.2 rfl);obtain⟨iL,_,hxv⟩:=hA;(have hi:i.toNat<length (α:=List sv.den) l:=by omega);obtain⟨⟨cur,e,g1,g2⟩,R,hx,hm⟩:=xD1 (u:=a.eval y) J.frame hb.2 kW hi kj hV;have kQ:=Wu hV;have kf:=zI (P:=P) (w:=w) (u:=a.eval y) (us:=[a.eval y]) (b:=G.γ U') (o:=i.toNat) (cur:=cur) (e:=e) hT (Pd (τ:=.sl sv) (us:=[a.eval y]) (by simp[Io,Ty.isAgg]) (by grind)) (by simp[Ty.size]) (by grind) g1 (by grind);(have kX:(execOp a.eval o).run P w=.ok .skip (w.setCells (G.γ U') i.toNat [a.eval y]):=by unfold execOp;simp_all [Ty.size,Ty.poff]);refine S9 kX (hZ undef _ G ?_);rw[hd,N7];exact zY3 J hc.n hx (DE U') R hm (λT hT=>hT.elim) (λs hs=>zY2 hs) hlt);grind|false=>simp only[hho,jD] at h;cases hb:(Ty.beq t' t&&Nat.beq U' U&&c.is T (t'.pty q)&&AVal.fits (t'.pty q) v) with|false=>grind|true=>simp only[hb,jE] at h;simp only[jB] at hb;have e:=Ty.eq_of_beq hb.1.1.1;subst e;have e:=jC hb.1.1.2;subst e;split at h;rename_i yv hy;obtain⟨rfl,rfl,rfl⟩:=h;have hT:=DV hc.tys hb.1.2;have qm:=hp _ (jH.2 rfl);simp only[zA] at hA kW;obtain⟨iL,hq,hxv⟩:=hA;(have hi:i.toNat<l.length:=by omega);obtain⟨us,h1,h2⟩:=Wt hV hb.2 (FV hT);obtain⟨⟨cur,e,g1,g2⟩,R,hx,hm⟩:=xD J.frame (yZ hq hT) kW hi hq h1 hy;have iU:=Pd h2 (S6 h1);have kf:=zI (P:=P) (w:=w) (u:=a.eval y) hT iU (zB h1) (S6 h1) g1 g2;(have kX:(execOp a.eval o).run P w=.ok .skip (w.setCells (G.γ U') (i.toNat*t'.size+t'.poff q) us):=by grind [execOp,run_bind,andThen_ok,run_pure]);refine S9 kX (hZ undef _ G ?_);rw[hd,N7];refine yG0 J hc.n hx (DE U') R (λs hs=>?_) (λs hs=>zY2 hs) hlt;have qv:=J.reps s;generalize S.get s=A at qv hs ⊢;(cases A with|ownh t2 l2 T2 j V m2=>simp only[AVal.setEl];(cases gB:(Nat.beq U' V&&m2&&!(Nat.beq T2 V)) with|false=>simp only[jD,zA]|true=>simp only[jB] at gB;obtain⟨⟨gB,rfl⟩,hb3⟩:=gB;have e:=jC gB;subst e;cases kl:Ty.cast t2 yv with|none=>grind [zA]|some y'=>have ko:Ik t2:=qv.1;(have hTU:T2≠U':=λe=>by grind);refine xD0 hx (λe=>hTU (CJ e)) (λu hu=>?_) hTU qv;have h9:=hm.own2 t2 _ U' true u (λh=>h) (.inl hu) a.tmps;simp only[Nat.beq_refl,jE,kl,zA] at h9;exact EE h9 ko.2)|_=>exact hm.arep (λT hT=>hT.elim) qv);grind);grind;rename_i s;split at h;rename_i f cs hkc;(cases ny:c.fts.any (Nat.beq T) with|false=>grind|true=>simp only[ny,jE] at h;split at h;rename_i caps hcaps;simp only[jA,jG] at h;obtain⟨rfl,rfl,rfl⟩:=h;have kW:=N5 J (A:=.rref s) rfl;rw[hkc] at kW;simp only[zA] at kW hA hV;obtain⟨_,u0,e,hb,kh⟩:=kW;obtain⟨vs,hv,kl⟩:=hV;obtain⟨i,_,_,_,hi,_,kN,_,_,_⟩:=yT6 hc.fts ny;have kQ:(Value.func (.func f) #[] vs).oneCell':=rfl;(have kf:(storeAt T (a.eval x) (a.eval y)).run P w=.ok () (w.setCells (G.β s) 0 [.func (.func f) #[] vs]):=by have:=run_storeCells_cells (P:=P) (G.β s) 0 [.func (.func f) #[] vs] 0 w (λj hj=>by grind [cell?]) (λj hj=>by grind [World.frozen?]) (λu hu=>by grind);simp_all [storeAt,Instr.sureAddr,storeVar,sizeOf,typeInfo,Value.cells]);(have kX:(execOp a.eval o).run P w=.ok .skip (w.setCells (G.β s) 0 [.func (.func f) #[] vs]):=by grind [execOp,run_bind,andThen_ok,run_pure]);obtain⟨cur',g1,g2⟩:=S8 (G.β s) e (0,0) [.func (.func f) #[] vs] 0 w #[u0] hb (by simp);refine S9 kX (hZ undef _ (G.ice (G.β s)) ?_);rw[hd];(have kS:∀I,St.has I [(s,AVal.fptr f caps)]=false->I≠s:=by intro I hs e;simp_all [St.has]);(have uf:∀b o,G.χ b o=0->b≠G.β s:=λb o h0 e=>by grind [Hh]);(have hext:Ext (λx=>x=BL s) (λ_=>False) G w (G.ice (G.β s)) (w.setCells (G.β s) 0 [.func (.func f) #[] vs]):=by refine⟨λb o kE h0=>⟨by simp_all [Gh.ice],?_⟩,λb kE hX=>?_,by simp_all [eX],λ_ _=>rfl,λ_ _=>rfl,λ_ h=>h.elim⟩;grind [cell?,Pf];(have kj:b≠G.β s:=by intro e;simp_all);exact⟨Pf (G.β s) _ 0 w b kj,λo=>by simp_all [Gh.ice]⟩);(have R:Frame0 χ0 w0 (G.ice (G.β s)).χ (w.setCells (G.β s) 0 [.func (.func f) #[] vs]):=by have h1:=Wx J.frame (b:=G.β s) (o:=0) (us:=[.func (.func f) #[] vs]) (λo=>by grind [N8]);refine⟨h1.os,h1.tape,h1.output,h1.size,h1.block,λb o kE hc'=>⟨?_,(h1.cell b o kE hc').2⟩⟩;have h2:=(h1.cell b o kE hc').1;(have kj:b≠G.β s:=by grind [N8]);simp_all [Gh.ice]);refine GR J hc.n hlt (λd e=>by grind) hext (Hh s) R (λI gJ=>zY6 (λe=>kS I gJ (by grind))) (λ_ d e=>by grind) (λI gJ=>?_);(have:I=s:=by simp_all [St.has]);subst this;(have hg:St.get [(I,AVal.fptr f caps)] I=.fptr f caps:=by simp[St.get]);rw[hg,N7];(have hval:a.tmps.getD I undef=.pointer (some ⟨G.β I,0,none⟩):=by grind);rw[hval];refine⟨G.β I,rfl,by simp[Gh.ice],?_⟩;have hvs:=xD9 (v:=.pointer (some ⟨G.β I,0,none⟩)) hcaps kl rfl;simp only[cell?];(have h2:cur'=#[.func (.func f) #[] vs]:=by apply toList_inj.1;rw[g2];apply ext_getElem?;grind [spl_getElem?]);(have h3:vs=(caps.map (HP (G.ice (G.β I)) (.pointer (some ⟨G.β I,0,none⟩)))).toArray:=by apply toList_inj.1;rw[hvs];refine List.map_congr_left λq _=>?_;cases q<;>rfl);grind;grind);grind;split at h;rename_i uu kZ;obtain⟨rfl,rfl,rfl⟩:=h;obtain⟨s,C⟩:=uu;(have mj:∀I,EF A=some I->zA G w a.tmps (some I) (C4 S A) (match EF A with |some s=>a.tmps.getD s undef|none=>undef):=by grind [N5]);obtain⟨us,off,kf,kh,qv,hC⟩:=yQ2 hc.tys hA mj hV kZ;(have kX:(execOp a.eval o).run P w=.ok .skip (w.setCells (G.β s) off us):=by grind [execOp,run_bind,andThen_ok,run_pure]);refine S9 kX (hZ undef _ G ?_);rw[hd];rw[qv] at hC;(have kQ:∀I,St.has I [(s,C)]->I=s:=by simp_all [St.has]);(have kS:∀I,St.has I [(s,C)]=false->I≠s:=by intro I hs e;subst e;simp[St.has] at hs);refine GR J hc.n hlt (λd e=>by grind) (Ww (X:=λx=>x=BL s) (λo=>kh o) (Hh s)) (Hh s) (Wx J.frame (λo=>by grind [N8])) (λI gJ=>zY6 (λe=>kS I gJ (by grind))) (λ_ d e=>by grind) (λI gJ=>?_);have:=kQ I gJ;subst this;(have hg:St.get [(I,C)] I=C:=by simp[St.get]);rw[hg];exact hC;grind
variable {B:AVal}
theorem yN3(J:CtxOk P c)(hR:Rel c.n χ0 w0 S a w G){z:Operand}{C:AVal}(ho:o.op=.mapUpdate T x y z)(hd:o.dst=none)(hA:zA G w a.tmps none A (a.eval x))(hB:zA G w a.tmps none B (a.eval y))(hC:zA G w a.tmps none C (a.eval z))(h:dL c T A B C S=some (p,u,hv))(R:∀e∈u,e.1<c.n){next:Act->World->Prop}(hZ:∀v w' G',Rel c.n χ0 w0 (u++S) (a.put o.dst v) w' G'->next (a.put o.dst v) w'):o.wpIn (fz rd) 0 P a w next Q:=by unfold dL at h;split at h;rename_i k e I;have hmt:=yM3 J.maps I;split at h;rename_i t l U m;split at h;rename_i l' xv yv hl hx hy;obtain⟨rfl,rfl,rfl⟩:=h;obtain⟨ec,hl⟩:=E5 hl;injection ec with ec;subst ec;obtain⟨⟨ka,kb,_,hka,hkb⟩,_,_⟩:=hmt;have hkv:=Ip hx (FV hka) hB;have hev:=Ip hy (FV hkb) hC;obtain⟨w',kf,hfr,j,hm⟩:=xK6 hR.frame (yM3 J.maps I) (yM4 hA) hkv hev;(have kX:(execOp a.eval o).run P w=.ok .skip w':=by grind [execOp,run_bind,andThen_ok,run_pure]);refine S9 kX (hZ undef _ G ?_);rw[hd,N7];exact zY3 hR J.n j (DE U) hfr hm (λT I=>I.elim) (λs hs=>zY2 hs) R;grind;grind;grind
variable {args:Array Operand}{ats:Array TypeId}
theorem zY7(hc:CtxOk P c)(J:Rel c.n χ0 w0 S a w G){va vb:Value}(ho:o.op=.call { callee:=.builtin .append,args,argTypes:=ats })(ug:ats.toList=[T,T])(hd:o.dst=some d)(ke:args.toList.map a.eval=[va,vb])(hA:zA G w a.tmps none A va)(hB:zA G w a.tmps none B vb)(h:Wd c d T A B S=some (p,u,hv))(hlt:∀e∈u,e.1<c.n)(hh:∀s,∀e∈u,(S.get s).hung e.1=false)(hp:∀q∈p,q){next:Act->World->Prop}(hZ:∀v w' G',Rel c.n χ0 w0 (u++S) (a.put o.dst v) w' G'->next (a.put o.dst v) w'):o.wpIn (fz rd) 0 P a w next Q:=by (have hats':ats=#[T,T]:=by grind);(have hargs':args.map a.eval=#[va,vb]:=by grind);(have uh:∀{v':Value}{w':World},(append_ #[T,T] o.type #[va,vb]).run P w=.ok v' w'->(execOp a.eval o).run P w=.ok (.value v') w':=by unfold execOp;grind [resolve,run_bind,run_pure,andThen_ok,invoke,builtin]);unfold Wd at h;cases ml:BZ d S with|false=>grind|true=>simp[ml,jE] at h;split at h;rename_i p0 R U iM;obtain⟨rfl,rfl,rfl⟩:=h;unfold xH8 at iM;split at iM;rename_i s T' V m;split at iM;rename_i t' l U';(cases hb:(c.is T (.sl (.sl s))&&!(Nat.beq V U')&&!(Nat.beq T' V)&&!(Nat.beq V d)) with|false=>simp_all|true=>simp only[hb,jE] at iM;simp at hb;split at iM;rename_i l1 gE;simp only[jA,jG] at iM;obtain⟨rfl,rfl,rfl⟩:=iM;obtain⟨e,gE⟩:=E5 gE;injection e with e;subst e;have gE:l=l1:=gE;subst gE;have hlen:=hp _ (jH.2 rfl);obtain⟨v',w',G',hr,hx,j,kJ⟩:=yU7 (ty:=o.type) (U:=U') (d:=d) J.frame (DV hc.tys hb.1.1.1) hA hB (λe=>by subst e;simp at hb) (λe=>by subst e;simp at hb) (λe=>by subst e;simp at hb) (by omega);refine LQ (uh hr) (hZ v' w' G' ?_);rw[hd];exact fF (d:=d) (U:=U') (v':=v') J hc.n ml hx j (λtm=>by grind [zA]) hlt (λs=>hh s _ (jQ ..));grind);grind;grind;unfold xH7 at h;cases I:c.ty T with|sl t=>have hT:=Im hc.tys T (by rw[I];simp);rw[I] at hT;simp only[I] at h;(cases gp:blt 0 t.size with|false=>grind|true=>simp[gp,Bool.not_true,jD] at h;cases C:dI t B with|none=>simp[C] at h|some l2=>simp only[C] at h;have hBs:=yQ3 (eC hT) hB C;cases A with|nil=>obtain⟨rfl,rfl,rfl⟩:=h;have hb:=hp _ (jH.2 rfl);obtain⟨v',w',G',hr,hx,j,kJ⟩:=zZ7 (ty:=o.type) (U:=d) (d:=d) (m:=true) (l:=([]:List t.den)) J.frame hT (.inl ⟨hA,rfl⟩) hBs (by simp;omega);refine LQ (uh hr) (hZ v' w' G' ?_);rw[hd];(have htd:∀R:St,CS d (AVal.lose d) S R=[]:=by intro R;induction R with|nil=>rfl|cons e r ih=>obtain⟨s,A⟩:=e;simp[CS,Jt ml s,ih]);have:=fF (d:=d) (U:=d) (R:=.own t l2 d true) (v':=v') J hc.n ml hx j (λtm=>by exact kJ) (by grind) (λs=>hh s _ (jH.2 rfl));rw[htd] at this;exact this|own t' l U m=>(cases gE:Ty.cast (a:=.sl t') (.sl t) l with|none=>grind|some l1=>simp[gE] at h;obtain⟨rfl,rfl,rfl⟩:=h;obtain⟨e,rfl⟩:=E5 gE;injection e with e;subst e;have hb:((l.length+l2.length:Nat):Int)<=4294967296:=hp _ (jH.2 rfl);obtain⟨v',w',G',hr,hx,j,kJ⟩:=zZ7 (ty:=o.type) (U:=U) (d:=d) (m:=m) (l:=l) J.frame hT (.inr hA) hBs (by omega);refine LQ (uh hr) (hZ v' w' G' ?_);rw[hd];exact fF (d:=d) (U:=U) (v':=v') J hc.n ml hx j (λtm=>by exact kJ) hlt (λs=>hh s _ (jQ ..)))|_=>simp at h)|_=>simp[I] at h
theorem W6:∀{cs:AVal}{vs:List Value},Ii cs->zA G w tm none cs (.tuple vs.toArray)->C2 (zA G w tm none) cs.toL vs:=by intro cs;induction cs with|nl=>intro vs _ h;simp[zA] at h;have:vs=[]:=(by grind);subst this;trivial|cons x y _ kK=>intro vs j h;obtain⟨u,us,e,C,I⟩:=h;(have e:vs=u::us:=by grind);subst e;exact⟨C,kK j I⟩|_=>grind [Ii]
theorem W7{α β:Type}{R:α->β->Prop}:∀{xs:List α}{ys:List β}{xs':List α}{ys':List β},C2 R xs ys->C2 R xs' ys'->C2 R (xs++xs') (ys++ys'):=by intro xs;induction xs with|nil=>grind [C2]|cons x xs j=>intro ys xs' ys' h C;cases ys<;>simp only[C2] at h;exact⟨h.1,j h.2 C⟩
theorem xE1(hc:CtxOk P c)(I:Rel c.n χ0 w0 S a w G){gd:Gd}(hi:Js a.tmps gd)(kM:FX a.tmps gd){f:Nat}{cs:AVal}{r:List AVal}(ho:o.op=.call { callee:=.value y,args,argTypes:=ats })(hf:zA G w a.tmps none (.fn f cs) (a.eval y))(hr:C2 (zA G w a.tmps none) r (args.toList.map a.eval))(kl:Ii cs)(h:JO c gd o.dst f (r++cs.toL) ((r++cs.toL).map (C4 S)) S=some (p,u,hv))(C:∀e∈u,e.1<c.n)(hh:∀s,∀e∈u,(S.get s).hung e.1=false)(gN:∀e∈u,∀e'∈u,e.2.hung e'.1=false)(hp:∀q∈p,q){next:Act->World->Prop}(hZ:∀v w' G',Rel c.n χ0 w0 (u++S) (a.put o.dst v) w' G'->next (a.put o.dst v) w'):o.wpIn (fz rd) 0 P a w next Q:=by simp only[zA] at hf;obtain⟨vs,tf,ng⟩:=hf;have kt:=W6 (vs:=vs.toList) kl (by simpa using ng);have gf:=W7 hr kt;unfold JO at h;split at h;grind;rename_i co nj;obtain⟨sp,gC,hsp⟩:=zO7 nj;have kg:=hc.fns f sp gC;obtain⟨fn,h1,h2,h3⟩:=kg.1;(have kf:(execOp a.eval o).run P w=.ok (.enter f (args.toList.map a.eval++vs.toList).toArray) w:=by (have gi:(args.toList.map a.eval++vs.toList).toArray=args.map a.eval++vs:=by grind);unfold execOp;simp[ho,resolve,tf,Deferred.ofValue,invoke,callFunc,h1];grind);cases hb:(LH co.outs 0 (zipWith Ed (r++cs.toL) ((r++cs.toL).map (C4 S)))&&E8 co.res&&LI (r++cs.toL)&&JN (r++cs.toL) (zipWith Ed (r++cs.toL) ((r++cs.toL).map (C4 S)))) with|false=>simp only[hb,Bool.not_false,jE,reduceCtorEq] at h|true=>simp only[hb,Bool.not_true,jD] at h;simp only[jB] at hb;obtain⟨⟨⟨b1,b2⟩,b3⟩,b4⟩:=hb;split at h;rename_i uu gR heat;(cases gd with|none=>have tg:=λhokp=>yQ7 I kg gf hsp hokp b1 b3 b4 gR;(cases hd:o.dst with|none=>simp[hd] at h;obtain⟨rfl,rfl,rfl⟩:=h;refine SA kf ((tg hp).mono ?_);rintro e w' ⟨v,G',rfl,J,kO,hg,hu⟩;refine⟨v,rfl,hZ v w' (G.back G' w.heap.size none) ?_⟩;rw[hd];exact yM9 (dst:=none) (res:=co.res) I hc.n J kO b2 hg hu C (λs d e=>(by grind)) (λd e=>(by grind))|some d=>simp only[hd] at h;cases ml:(BZ d S&&BZ (100000+d) S&&BZ (200000+d) S&&BZ (300000+d) S) with|false=>grind|true=>simp[ml] at h;obtain⟨rfl,rfl,rfl⟩:=h;refine SA kf ((tg hp).mono ?_);rintro e w' ⟨v,G',rfl,J,kO,hg,hu⟩;refine⟨v,rfl,hZ v w' (G.back G' w.heap.size (some d)) ?_⟩;rw[hd];refine yM9 (dst:=some d) (res:=co.res) I hc.n J kO b2 hg hu C (λs d' e=>by grind [jQ]) (λd' e s j hj=>?_);injection e with e;subst e;(obtain rfl|rfl|rfl|rfl:j=0\/j=1\/j=2\/j=3:=by omega);all_goals grind [Jt])|some q=>simp only at h;split at h;rename_i d τ x hd R;obtain⟨rfl,rfl,rfl⟩:=h;have hp0:=W4 hi kM hp;refine SA kf ((yQ7 I kg gf hsp hp0 b1 b3 b4 gR).mono ?_);rintro e w' ⟨v,G',rfl,J,kO,hg,hu⟩;refine⟨v,rfl,hZ v w' (G.back G' w.heap.size none) ?_⟩;(have mm:o.dst=some d:=by grind);rw[mm];have hx:=yZ7 none J hg;(have gG:d<a.tmps.size:=by rw[I.len];exact C _ (jH.2 rfl));refine GR I hc.n C (λd' e=>by injection e with e;subst e;simp[St.has]) hx (λhX=>hX.elim (λ⟨s,e,_⟩=>Hh s e) (λ⟨d,j,_,_,e⟩=>DE _ e)) (yJ3 I.frame none J hg) (λs _=>yJ2 (λd' e=>by grind) (λs' _=>by simp[St.has])) (λs d' e _=>by injection e with e;subst e;exact hh s _ (jH.2 rfl)) (λs hs=>?_);(have hsd:s=d:=by simp[St.has] at hs;grind);subst hsd;(have hg1:St.get [(s,E1 (some q) (.val τ x))] s=E1 (some q) (.val τ x):=by simp[St.get]);rw[hg1,FY gG,if_pos rfl];refine zO (tm:=a.tmps) (λk hk=>?_) (OX (W3 hi kM ?_));rw[FY gG,if_neg];intro e;subst e;have:=gN _ (jH.2 rfl) _ (jH.2 rfl);grind;rw[R] at kO;exact Gk (J.prot none) kO;grind);grind
end Go.Am
