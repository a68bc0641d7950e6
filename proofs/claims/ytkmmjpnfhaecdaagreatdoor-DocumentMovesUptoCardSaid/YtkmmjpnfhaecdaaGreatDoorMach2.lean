/- The abstract machine, part 2: a typed interpreter for the program's code, and that it is sound. No condition. -/
import Derived.Test.YtkmmjpnfhaecdaaGreatDoorMach1
import Derived.MapKept
import Derived.OrdersIn
import Derived.RangeFuncCalls
namespace Go.Am
open Go Go.RowKit
open Go.Builtin (append_ firstCells lenOf max2 max_ min2 min_ zeroCells)
open Go.Instr (findNow mapUpdate storeAt)
open Go.Result (andThen_ok)
open Go.Sem (run_bind run_pure)
open Go.World (cell?)
open _root_.Array (range toList_inj)
open _root_.Bool (or_eq_true)
open _root_.List (any_cons any_eq_true ext_getElem? length map map_cons map_map mem_append mem_append_left mem_append_right mem_cons mem_map replicate set zip zipWith)
open _root_.Nat (add_mul blt le_trans lt_of_lt_of_le succ_mul zero_add)
variable {P:Program}{c:Ctx}{G:Gh}{w:World}{tm:Array Value}
def Gh.reown (G:Gh)(b d n:Nat)(m:Bool):Gh:=
 {χ:=λb' o=>if b'=b then (if m=false/\o<n then 0 else AM d) else G.χ b' o,β:=G.β,γ:=λs=>if s=d then b else G.γ s }
variable {B:AVal}{v:Value}
theorem yQ2{t:Ty}(ht:t.isL=false){l2:List t.den}(I:zA G w tm none B v)(h:fP t B=some l2):∃a cap,v=.slice a l2.length cap/\(l2=[]\/∃ad us,a=some ad/\C9 (AP G.χ w t) l2 us/\∀j u,us[j]?=some u->w.cell? (ad.add j)=some u):=by (have pure:∀{v},AP G.χ w (.sl t) l2 [v]->∃a cap,v=.slice a l2.length cap/\(l2=[]\/∃ad us,a=some ad/\C9 (AP G.χ w t) l2 us/\∀j u,us[j]?=some u->w.cell? (ad.add j)=some u):=by intro v C;obtain⟨a,cap,hv,C⟩:=C;injection hv with hv _;refine⟨a,cap,hv,?_⟩;rcases C with C|⟨b,o,us,ha,_,J,R⟩;grind;exact .inr ⟨⟨b,o,none⟩,us,ha,J,λj u hu=>by rw[Addr.add_mid];exact (R j u hu).1⟩);cases B with|own t' l T m=>obtain⟨e,rfl⟩:=EE h;injection e with e;subst e;rcases (EO I ht).2 with ⟨rfl,rfl⟩ | ⟨cap,cur,e,us,rfl,h2,J,R,h5,h6,h7,h8⟩;simp_all;refine⟨_,cap,rfl,.inr ⟨_,us,rfl,h6,λj u hu=>?_⟩⟩;rw[Addr.add_mid];rw[<-h7,List.getElem?_take] at hu;split at hu;simp[cell?,h2];simpa using hu;cases hu|nn b=>simp[fP] at h;obtain⟨a,cap,rfl,_⟩:=I;simp_all|_=>have hv:=I3 h rfl I;exact pure ((zC rfl).1 hv)
variable {e ty:TypeId}{cap k:Nat}
theorem zQ7{T:TypeId}(ht:P.underlying T=some (.slice e)){i:TypeInfo}(j:P.info? e=some i){base:Option Addr}{n:Nat}(C:n<=cap){a:Option Addr}(w:World):(append_ #[T,T] ty #[.slice base n cap,.slice a 0 k]).run P w=.ok (.slice base n cap) w:=by cases a with|none=>cases base<;>simp[append_,run_underlying ht,sizeOf,typeInfo,j,lenOf,C,firstCells,storeCells]|some a=>cases base<;>simp[append_,run_underlying ht,sizeOf,typeInfo,j,lenOf,C,firstCells,loadCells,loadCellsFrom,storeCells]
theorem yB7 (t ty e C:TypeId)(i:TypeInfo)(ht:P.underlying t=some (.slice e))(I:P.info? e=some i)(g sLen sCap:Nat)(cur:Array Value)(J:w.heap[g]?=some (.cells cur C (0,0)))(a:Addr)(m c:Nat)(news:List Value)(R:news.length=m*i.size)(qp:∀j u,news[j]?=some u->w.cell? (a.add j)=some u)(h1:∀u∈news,u.oneCell')(ky:sLen+m<=sCap)(kl:sLen*i.size+news.length<=cur.size):(append_ #[t,t] ty #[.slice (some ⟨g,0,none⟩) sLen sCap,.slice (some a) m c]).run P w=.ok (.slice (some ⟨g,0,none⟩) (sLen+m) sCap) (w.setRow g (cur.toList.take (sLen*i.size)++news++cur.toList.drop (sLen*i.size+news.length)).toArray):=by have hf:=run_firstCells_some (P:=P) w i.size m a m c news R qp;have gu:=run_storeCells_at P g (sLen*i.size) C news 0 cur w J (by grind) h1;simp[append_,run_underlying ht,sizeOf,typeInfo,I,lenOf,ky,hf,Addr.add_lit,gu]
variable {d U:Nat}{m:Bool}
theorem yQ3{n:Nat}{w':World}(I:k<=n)(kg:∀o,G.χ (G.γ U) o=if m=false/\o<k then 0 else AM U)(gj:w.heap.size<=w'.heap.size)(kQ:∀b,b≠G.γ U->b<w.heap.size->w'.heap[b]?=w.heap[b]?)(kx:∀o,o<k->w'.cell? ⟨G.γ U,o,none⟩=w.cell? ⟨G.γ U,o,none⟩):Ext (λx=>x=AM U\/x=AM d) (λx=>x=AM d) G w (G.reown (G.γ U) d n m) w':=by refine⟨λb o hb h=>?_,λb hb h=>?_,gj,λs _=>rfl,λT C=>?_,λ_ h=>.inr h⟩;by_cases e:b=G.γ U;subst e;by_cases j:m=false/\o<k;exact⟨by simp only[Gh.reown];rw[if_pos trivial,if_pos ⟨j.1,by omega⟩],kx o j.2⟩;grind [absurd,DG];simp_all [Gh.reown,cell?];(have e:b≠G.γ U:=by intro e;subst e;exact h k (by rw[kg,if_neg (by omega)];exact .inl rfl));simp_all [Gh.reown];simp only[Gh.reown];rw[if_neg (λe=>C (by rw[e]))]
theorem yF2{χ0:Nat->Nat->Nat}{w0:World}(h:Frame0 χ0 w0 G.χ w){n:Nat}{w':World}(R:k<=n)(kg:∀o,G.χ (G.γ U) o=if m=false/\o<k then 0 else AM U)(C:w'.os=w.os/\w'.tape=w.tape/\w'.output=w.output)(gj:w.heap.size<=w'.heap.size)(kQ:∀b,b≠G.γ U->b<w.heap.size->w'.heap[b]?=w.heap[b]?)(kx:∀o,o<k->w'.cell? ⟨G.γ U,o,none⟩=w.cell? ⟨G.γ U,o,none⟩):Frame0 χ0 w0 (G.reown (G.γ U) d n m).χ w':=by refine⟨C.1.trans h.os,C.2.1.trans h.tape,C.2.2.trans h.output,le_trans h.size gj,λb hb j=>?_,λb o hb j=>?_⟩;(have e:b≠G.γ U:=by intro e;subst e;have I:=(h.cell (G.γ U) k hb (j k)).1;grind [AM]);rw[kQ b e (lt_of_lt_of_le hb h.size)];exact h.block b hb j;have I:=h.cell b o hb j;by_cases e:b=G.γ U;subst e;by_cases hm:m=false/\o<k;have J:=kg o;rw[if_pos hm] at J;refine⟨?_,by grind⟩;simp only[Gh.reown];rw[if_pos trivial,if_pos ⟨hm.1,by omega⟩,<-I.1,J];grind [AM];refine⟨by grind [Gh.reown],?_⟩;rw[<-I.2];simp[cell?,kQ b e (lt_of_lt_of_le hb h.size)]
theorem WT{n:Nat}{w':World}(gj:w.heap.size<=w'.heap.size)(kQ:∀b,b<w.heap.size->w'.heap[b]?=w.heap[b]?):Ext (λx=>x=AM U\/x=AM d) (λx=>x=AM d) G w (G.reown w.heap.size d n m) w':=by refine⟨λb o hb h=>?_,λb hb _=>?_,gj,λs _=>rfl,λT j=>?_,λ_ h=>.inr h⟩;exact⟨by simp only[Gh.reown];grind,by grind [cell?]⟩;exact⟨kQ b hb,λo=>by simp only[Gh.reown];rw[if_neg (by omega)]⟩;simp only[Gh.reown];rw[if_neg (λe=>j (by rw[e]))]
theorem zU4{χ0:Nat->Nat->Nat}{w0:World}(h:Frame0 χ0 w0 G.χ w){n:Nat}{w':World}(j:w'.os=w.os/\w'.tape=w.tape/\w'.output=w.output)(gj:w.heap.size<=w'.heap.size)(kQ:∀b,b<w.heap.size->w'.heap[b]?=w.heap[b]?):Frame0 χ0 w0 (G.reown w.heap.size d n m).χ w':=by refine⟨j.1.trans h.os,j.2.1.trans h.tape,j.2.2.trans h.output,le_trans h.size gj,λb hb C=>?_,λb o hb C=>?_⟩;rw[kQ b (lt_of_lt_of_le hb h.size)];exact h.block b hb C;have J:=h.cell b o hb C;have I:=lt_of_lt_of_le hb h.size;exact⟨by simp only[Gh.reown];grind,by grind [cell?]⟩
variable {us:List Value}
theorem yQ4{t:Ty}{l:List t.den}{rest:List Value}{w':World}{e:Nat}(hv:Iz t)(h:C9 (AP G.χ w t) l us)(C:Ext (λx=>x=AM d\/x=AM d) (λx=>x=AM d) G w (G.reown w.heap.size d (l.length*t.size) m) w')(hb:w'.heap[w.heap.size]?=some (.cells (us++rest).toArray e (0,0)))(gU:(us++rest).length=cap*t.size)(j:l.length<=cap)(hm:cap<=maxLen):BQ (G.reown w.heap.size d (l.length*t.size) m) w' t l d m (.slice (some ⟨w.heap.size,0,none⟩) l.length cap):=by have iq:=Gy (k:=t.size) (λ_ _ h=>CO h) h;refine .inl ⟨hv,.inr ⟨cap,(us++rest).toArray,e,us,by simp[Gh.reown],?_,j,hm,by grind,?_,?_,λo=>?_⟩⟩;simp_all [Gh.reown];exact Fg (λ_ _ h=>CX C.prot h) h;all_goals simp_all [Gh.reown]
theorem o9{z:Array Value}{n:Nat}(h:z.size=k):(zeroCells z n).toList.length=n*k:=by grind [size_zeroCells]
variable {bv:Value}
theorem zQ9{χ0:Nat->Nat->Nat}{w0:World}(C:Frame0 χ0 w0 G.χ w){t:Ty}{T:TypeId}(hT:B0 P (.sl t) (.inl T)){l l2:List t.den}
  (hA:(v=.slice none 0 0/\l=[])\/BQ G w t l U m v)
  {ns:List Value}(hB:∃a cap,bv=.slice a l2.length cap/\(l2=[]\/∃ad,a=some ad/\C9 (AP G.χ w t) l2 ns/\∀j u,ns[j]?=some u->w.cell? (ad.add j)=some u))
  (hlen:l.length+l2.length<=4294967296) :
  ∃v' w' G',(append_ #[T,T] ty #[v,bv]).run P w=.ok v' w'/\Ext (λx=>x=AM U\/x=AM d) (λx=>x=AM d) G w G' w'/\Frame0 χ0 w0 G'.χ w'/\BQ G' w' t (l++l2) d m v'/\(l2=[]\/∀b k c,v'=.slice (some ⟨b,0,none⟩) k c->∀j u,ns[j]?=some u->w'.cell? ⟨b,l.length*t.size+j,none⟩=some u):=by
 obtain⟨e,h1,h2⟩:=zG hT;obtain⟨⟨i,z,hi,hs,qq,hz,ni,_⟩,_⟩:=Hc h2;have km:Iz t:=by have:=NC h2;exact⟨this,Gk h2⟩
 have iH:z.cells.size=t.size:=by grind [jN,n9]
 obtain⟨a,cap2,rfl,hB⟩:=hB;have tl:(v=.slice none 0 0/\l=[])\/∃cap cur R us,v=.slice (some ⟨G.γ U,0,none⟩) l.length cap/\w.heap[G.γ U]?=some (.cells cur R (0,0))/\l.length<=cap/\cap<=maxLen/\cur.size=cap*t.size /\
   C9 (AP G.χ w t) l us/\cur.toList.take (l.length*t.size)=us/\(∀o,G.χ (G.γ U) o=if m=false/\o<l.length*t.size then 0 else AM U):=by
  rcases hA with hA | hA
  ·grind
  ·exact (EO hA km.2).2
 have h63:l.length+l2.length<=maxLen:=by simp only[maxLen];omega
 have kU:(l.length+l2.length)*i.bytes<=140737488355328:=by
  calc (l.length+l2.length)*i.bytes<=4294967296*32768:=Nat.mul_le_mul hlen qq
   _=140737488355328:=by grind
 by_cases tn:l2=[]
 ·subst tn;rcases tl with ⟨rfl,rfl⟩ | ⟨cap,cur,R,us,rfl,g1,g2,g3,g4,g5,g6,g7⟩
  ·refine⟨.slice none 0 0,w,G.reown w.heap.size d 0 m,zQ7 h1 hi (jI _) w,WT (jI _) (λ_ _=>rfl),zU4 C ⟨rfl,rfl,rfl⟩ (jI _) (λ_ _=>rfl),by exact .inl ⟨km,.inl ⟨rfl,rfl⟩⟩,.inl rfl⟩
  ·have I:Ext (λx=>x=AM U\/x=AM d) (λx=>x=AM d) G w (G.reown (G.γ U) d (l.length*t.size) m) w:=yQ3 (jI _) g7 (jI _) (λ_ _ _=>rfl) (λ_ _=>rfl);refine⟨_,w,G.reown (G.γ U) d (l.length*t.size) m,zQ7 h1 hi g2 w,I,yF2 C (jI _) g7 ⟨rfl,rfl,rfl⟩ (jI _) (λ_ _ _=>rfl) (λ_ _=>rfl),.inl ⟨km,.inr ⟨cap,cur,R,us,?_,?_,?_,g3,g4,?_,?_,λo=>?_⟩⟩,.inl rfl⟩
   ·simp[Gh.reown]
   ·simp_all [Gh.reown]
   ·grind
   ·rw[List.append_nil];exact Fg (λ_ _ h=>CX I.prot h) g5
   all_goals simp_all [Gh.reown]
 ·rcases hB with hB | ⟨ad,rfl,n1,n2⟩
  ·grind
  have nl:=Gy (k:=t.size) (λ_ _ h=>CO h) n1;have none1:=Px (λ_ _ h=>NI h) n1;have hl2p:0<l2.length:=List.length_pos_iff.2 tn;rcases tl with ⟨rfl,rfl⟩ | ⟨cap,cur,R,us,rfl,g1,g2,g3,g4,g5,g6,g7⟩
  ·have J:=run_append_nil (P:=P) w T ty e i z h1 hi hz ad l2.length cap2 ns (by grind) n2 hl2p (by grind) (by have:=kU;simp  at this;omega);have qa:=grownCap_ge w l2.length 0 e;have nt:=grownCap_le_maxLen w l2.length 0 e (by grind);have kQ:∀b,b<w.heap.size->(w.drew.alloc (.cells (ns.toArray++zeroCells z.cells (grownCap w l2.length 0 e-l2.length)) e)).heap[b]?=w.heap[b]?:=λb hb=>Below.heap_alloc w.drew _ b hb;have gj:w.heap.size<=(w.drew.alloc (.cells (ns.toArray++zeroCells z.cells (grownCap w l2.length 0 e-l2.length)) e)).heap.size:=by simp
   refine⟨_,_,G.reown w.heap.size d (l2.length*t.size) m,J,WT gj kQ,zU4 C ⟨rfl,rfl,rfl⟩ gj kQ,?_,.inr λb k c qi j u hj=>?_⟩
   rotate_left
   ·have gx:(w.drew.alloc (.cells (ns.toArray++zeroCells z.cells (grownCap w l2.length 0 e-l2.length)) e)).heap[w.heap.size]?=some (.cells (ns.toArray++zeroCells z.cells (grownCap w l2.length 0 e-l2.length)) e (0,0)):=by
     rw[show (w.heap.size)=w.drew.heap.size from rfl,Lp]
    simp[cell?]
    grind
   have I:=WT (G:=G) (U:=d) (d:=d) (n:=l2.length*t.size) (m:=m) gj kQ;exact yQ4 (cap:=grownCap w l2.length 0 e) (rest:=(zeroCells z.cells (grownCap w l2.length 0 e-l2.length)).toList) (e:=e) km n1 I (by rw[show (w.heap.size)=w.drew.heap.size from rfl,Lp];simp) (by rw[jO,nl,o9 iH,<-add_mul];grind) qa nt
  ·have ul:=Gy (k:=t.size) (λ_ _ h=>CO h) g5;by_cases ky:l.length+l2.length<=cap
   ·have kl:l.length*i.size+ns.length<=cur.size:=by rw[hs,nl,g4,<-add_mul];exact jS _ ky
    have J:=yB7 (P:=P) (w:=w) T ty e R i h1 hi (G.γ U) l.length cap cur g1 ad l2.length cap2 ns (by grind) n2 none1 ky kl;rw[hs] at J;have kr:(cur.toList.take (l.length*t.size)++ns++cur.toList.drop (l.length*t.size+ns.length)).length=cap*t.size:=by
     grind
    generalize iZ:(cur.toList.take (l.length*t.size)++ns++cur.toList.drop (l.length*t.size+ns.length))=cur' at J kr;have nu:=setRow_heap w (G.γ U) cur cur'.toArray R (0,0) g1;have kQ:∀b,b≠G.γ U->b<w.heap.size->(w.setRow (G.γ U) cur'.toArray).heap[b]?=w.heap[b]?:=λb hb _=>setRow_other w (G.γ U) b _ hb;have gj:w.heap.size<=(w.setRow (G.γ U) cur'.toArray).heap.size:=by grind
    have kx:∀o,o<l.length*t.size->(w.setRow (G.γ U) cur'.toArray).cell? ⟨G.γ U,o,none⟩=w.cell? ⟨G.γ U,o,none⟩:=by
     intro o ho;simp only[cell?,nu,g1];simp only[Option.isSome_none,Bool.false_eq_true,if_false,List.getElem?_toArray];rw[<-iZ,List.append_assoc,List.getElem?_append_left (by grind),List.getElem?_take,if_pos ho];simp
    have hle:l.length*t.size<=(l.length+l2.length)*t.size:=jS _ (by omega);have I:Ext (λx=>x=AM U\/x=AM d) (λx=>x=AM d) G w (G.reown (G.γ U) d ((l.length+l2.length)*t.size) m) (w.setRow (G.γ U) cur'.toArray):=yQ3 hle g7 gj kQ kx;refine⟨_,_,G.reown (G.γ U) d ((l.length+l2.length)*t.size) m,J,I,yF2 C hle g7 ⟨rfl,rfl,rfl⟩ gj kQ kx,.inl ⟨km,.inr ⟨cap,cur'.toArray,R,us++ns,?_,?_,?_,g3,by grind,?_,?_,λo=>?_⟩⟩,.inr λb k c qi j u hj=>?_⟩
    rotate_right
    ·simp only[Value.slice.injEq,jA,Addr.mk.injEq] at qi;rw[<-qi.1.1];simp only[cell?,nu];simp only[Option.isSome_none,Bool.false_eq_true,if_false,List.getElem?_toArray];rw[<-iZ,List.append_assoc,List.getElem?_append_right (by grind),List.getElem?_append_left (by grind)]
     grind
    ·simp[Gh.reown]
    ·simp_all [Gh.reown,if_true]
    ·grind
    ·exact Fg (λ_ _ h=>CX I.prot h) (WL g5 n1)
    ·show List.take ((l++l2).length*t.size) cur'=us++ns;have:(l++l2).length*t.size=(us++ns).length:=by rw[jO,jO,ul,nl,add_mul]
     rw[<-iZ,g6,this];exact List.take_left
    simp_all [Gh.reown,if_true,jO]
   ·have holds:∀j u,us[j]?=some u->w.cell? ((⟨G.γ U,0,none⟩:Addr).add j)=some u:=by
     intro j u hu;rw[Addr.add_mid];rw[<-g6,List.getElem?_take] at hu;split at hu
     ·simp only[cell?,g1];simpa using hu
     ·cases hu
    have J:=run_append_grow (P:=P) w T ty e i z h1 hi hz ⟨G.γ U,0,none⟩ l.length cap us (by rw[ul,hs]) holds ad l2.length cap2 ns (by rw[nl,hs]) n2 (by omega) (by have:=h63;omega) (growslice_fits (by omega) kU);have qa:=grownCap_ge w (l.length+l2.length) cap e;have nt:=grownCap_le_maxLen w (l.length+l2.length) cap e h63;generalize grownCap w (l.length+l2.length) cap e=nc at J qa nt;have kQ:∀b,b<w.heap.size->(w.drew.alloc (.cells (us.toArray++ns.toArray++zeroCells z.cells (nc-(l.length+l2.length))) e)).heap[b]?=w.heap[b]?:=λb hb=>Below.heap_alloc w.drew _ b hb;have gj:w.heap.size<=(w.drew.alloc (.cells (us.toArray++ns.toArray++zeroCells z.cells (nc-(l.length+l2.length))) e)).heap.size:=by simp
    refine⟨_,_,G.reown w.heap.size d ((l++l2).length*t.size) m,J,WT gj kQ,zU4 C ⟨rfl,rfl,rfl⟩ gj kQ,?_,.inr λb k c qi j u hj=>?_⟩
    rotate_left
    ·simp only[Value.slice.injEq,jA,Addr.mk.injEq] at qi;rw[<-qi.1.1];have gx:(w.drew.alloc (.cells (us.toArray++ns.toArray++zeroCells z.cells (nc-(l.length+l2.length))) e)).heap[w.heap.size]?=some (.cells (us.toArray++ns.toArray++zeroCells z.cells (nc-(l.length+l2.length))) e (0,0)):=by
      rw[show (w.heap.size)=w.drew.heap.size from rfl,Lp]
     simp only[cell?,gx];have iz:j<ns.length:=(List.getElem?_eq_some_iff.1 hj).1;rw[<-Array.getElem?_toList];simp[Array.toList_append,<-ul];rw[List.getElem?_append_right (by omega),List.getElem?_append_left (by omega)];simpa using hj
    have I:=WT (G:=G) (U:=d) (d:=d) (n:=(l++l2).length*t.size) (m:=m) gj kQ;have:=yQ4 (cap:=nc) (rest:=(zeroCells z.cells (nc-(l.length+l2.length))).toList) (e:=e) km (WL g5 n1) I (by rw[show (w.heap.size)=w.drew.heap.size from rfl,Lp];simp) (by rw[jO,jO,ul,nl,o9 iH,<-add_mul,<-add_mul];grind) (by simpa using qa) nt;simpa using this
theorem zZ6{χ0:Nat->Nat->Nat}{w0:World}(C:Frame0 χ0 w0 G.χ w){t:Ty}{T:TypeId}(I:B0 P (.sl t) (.inl T)){l l2:List t.den}(J:(v=.slice none 0 0/\l=[])\/BQ G w t l U m v)(R:∃a cap,bv=.slice a l2.length cap/\(l2=[]\/∃ad us,a=some ad/\C9 (AP G.χ w t) l2 us/\∀j u,us[j]?=some u->w.cell? (ad.add j)=some u))(hlen:l.length+l2.length<=4294967296):∃v' w' G',(append_ #[T,T] ty #[v,bv]).run P w=.ok v' w'/\Ext (λx=>x=AM U\/x=AM d) (λx=>x=AM d) G w G' w'/\Frame0 χ0 w0 G'.χ w'/\BQ G' w' t (l++l2) d m v':=by obtain⟨a,cap,hv,h⟩:=R;rcases h with h|⟨ad,us,h1,h2,h3⟩;obtain⟨v',w',G',q1,q2,q3,q4,_⟩:=zQ9 (ty:=ty) (d:=d) (ns:=[]) C I J ⟨a,cap,hv,.inl h⟩ hlen;grind;obtain⟨v',w',G',q1,q2,q3,q4,_⟩:=zQ9 (ty:=ty) (d:=d) (ns:=us) C I J ⟨a,cap,hv,.inr ⟨ad,h1,h2,h3⟩⟩ hlen;grind
structure Turned (w w':World) (B:Nat) (cells:Array Value) (ty:TypeId):Prop where
 os:w'.os=w.os
 tape:w'.tape=w.tape
 output:w'.output=w.output
 size:w.heap.size<=w'.heap.size
 at':w'.heap[B]?=some (.cells cells ty (0,0))
 oth:∀b,b<w.heap.size->b≠B->w'.heap[b]?=w.heap[b]?
variable {b:Nat}{cs:Array Value}
theorem Turned.row{w:World}{cur:Array Value}(h:w.heap[b]?=some (.cells cur e (0,0))):Turned w (w.setRow b cs) b cs e:=⟨rfl,rfl,rfl,by simp_all,setRow_heap w b cur cs e (0,0) h,λk _ j=>setRow_other w b k cs j⟩
variable {cells:Array Value}
theorem Turned.new{w:World}:Turned w (w.alloc (.cells cells e)) w.heap.size cells e:=⟨rfl,rfl,rfl,by simp,Lp w _,λb hb _=>Below.heap_alloc w _ b hb⟩
theorem Turned.next{w w' w'':World}(h:Turned w w' b cs e)(j:Turned w' w'' b cells ty):Turned w w'' b cells ty:=⟨j.os.trans h.os,j.tape.trans h.tape,j.output.trans h.output,le_trans h.size j.size,j.at',λk C hb=>(j.oth k (lt_of_lt_of_le C h.size) hb).trans (h.oth k C hb)⟩
theorem Turned.drew{w w':World}(h:Turned w.drew w' b cs e):Turned w w' b cs e:=⟨h.os,h.tape,h.output,h.size,h.at',h.oth⟩
theorem Turned.drew'{w w':World}(h:Turned w w' b cs e):Turned w w'.drew b cs e:=⟨h.os,h.tape,h.output,h.size,h.at',h.oth⟩
theorem xY3{G:Gh}{w w':World}{t:Ty}{l:List t.den}{B:Nat}(km:Iz t)(R:C9 (AP G.χ w t) l us)(j:Turned w w' B cells ty)(J:(∀o,1<G.χ B o)\/w.heap.size<=B)(gU:l.length<=cap)(hm:cap<=maxLen)(kr:cells.size=cap*t.size)(C:cells.toList.take (l.length*t.size)=us):Frame0 G.χ w (G.reown B 0 0 true).χ w'/\BQ (G.reown B 0 0 true) w' t l 0 true (.slice (some ⟨B,0,none⟩) l.length cap):=by (have kz:∀b o,b<w.heap.size->G.χ b o<=1->(G.reown B 0 0 true).χ b o=G.χ b o/\w'.cell? ⟨b,o,none⟩=w.cell? ⟨b,o,none⟩:=by intro b o hb h0;(have kh:b≠B:=by grind);exact⟨by grind [Gh.reown],by simp[cell?,j.oth b hb kh]⟩);refine⟨⟨j.os,j.tape,j.output,j.size,λb hb h=>?_,kz⟩,.inl ⟨km,.inr ⟨cap,cells,ty,us,?_,?_,gU,hm,kr,?_,C,λo=>?_⟩⟩⟩;refine j.oth b hb ?_;rcases J with I | I;have:=I 0;grind;grind;simp[Gh.reown];exact j.at';all_goals grind [Fg,CX,trans,Gh.reown]
theorem xW3{t:Ty}{l:List t.den}{B:Nat}{w':World}{χ0:Nat->Nat->Nat}{w0:World}(j:Frame0 χ0 w0 G.χ w)(km:Iz t)(hL:C9 (AP G.χ w t) l us)(C:Turned w w' B cells ty)(hB:w.heap.size<=B)(gU:l.length<=cap)(hm:cap<=maxLen)(kr:cells.size=cap*t.size)(J:cells.toList.take (l.length*t.size)=us):Ext (λx=>x=AM d\/x=AM d) (λx=>x=AM d) G w (G.reown B d 0 true) w'/\Frame0 χ0 w0 (G.reown B d 0 true).χ w'/\BQ (G.reown B d 0 true) w' t l d true (.slice (some ⟨B,0,none⟩) l.length cap):=by (have hx:Ext (λx=>x=AM d\/x=AM d) (λx=>x=AM d) G w (G.reown B d 0 true) w':=by refine⟨λb o hb h=>?_,λb hb _=>?_,C.size,λs _=>rfl,λT C=>?_,λ_ h=>.inr h⟩;exact⟨by simp only[Gh.reown];grind,by simp[cell?,C.oth b hb (by omega)]⟩;exact⟨C.oth b hb (by omega),λo=>by simp only[Gh.reown];rw[if_neg (by omega)]⟩;simp only[Gh.reown];rw[if_neg (λe=>C (by rw[e]))]);refine⟨hx,⟨C.os.trans j.os,C.tape.trans j.tape,C.output.trans j.output,le_trans j.size C.size,λb hb R=>?_,λb o hb R=>?_⟩,.inl ⟨km,.inr ⟨cap,cells,ty,us,?_,?_,gU,hm,kr,?_,J,λo=>?_⟩⟩⟩;have I:=lt_of_lt_of_le hb j.size;rw[C.oth b I (by omega)];exact j.block b hb R;have h1:=j.cell b o hb R;have I:=lt_of_lt_of_le hb j.size;exact⟨by simp only[Gh.reown];grind,by rw[<-h1.2];simp[cell?,C.oth b I (by omega)]⟩;simp[Gh.reown];simp[Gh.reown];exact C.at';exact Fg (λ_ _ h=>CX hx.prot h) hL;grind [Gh.reown]
def xJ6 (P:Program)(f k:Nat):Prop:=(∃fn,P.funcs[f]?=some fn/\fn.body.isSome/\fn.name≠"runtime.NumGoroutine") /\
 ∀(b o n c:Nat) (cur:Array Value) (e0:TypeId) (us:List Value) (w:World),0<n->n<=4294967296->n<=c->us.length=n*k->(∀v∈us,v.oneCell'=true)->w.heap[b]?=some (.cells cur e0 (0,0))->(∀j u,us[j]?=some u->cur.toList[o+j]?=some u) ->
  Calls P f #[.slice (some ⟨b,o,none⟩) n c] w λe w'=>∃B cap cells ty,e=.returned (.slice (some ⟨B,0,none⟩) n cap)/\w.heap.size<=B/\Turned w w' B cells ty/\n<=cap/\cap<=maxLen/\cells.size=cap*k/\cells.toList.take (n*k)=us
open Go Go.RowKit Go.MapKept
variable {P:Program}{c:Ctx}{G:Gh}{w:World}{tm:Array Value}
def NK:Ty->Bool
 |.int _=>true|.str=>true|.bool=>true|_=>false
def Jy (P:Program)(l:List (Nat×(Ty×Ty))):Bool:=l.all λe=>match P.underlying e.1 with
 |some (.map a b)=>B0 P e.2.1 (.inl a)&&B0 P e.2.2 (.inl b)&&NK e.2.1&&e.2.2.noPtr
 |_=>false
structure MapTyIs (P:Program) (T:Nat) (k v:Ty):Prop where
 is:∃a b,P.underlying T=some (.map a b)/\B0 P k (.inl a)/\B0 P v (.inl b)=true
 key:NK k=true
 np:v.noPtr=true
variable {T:Nat}
theorem yM1(h:Jy P c.maps){k v:Ty}(hm:c.mapTy T=some (k,v)):MapTyIs P T k v:=by (have gI:(T,(k,v))∈c.maps:=by unfold Ctx.mapTy at hm;generalize c.maps=l at hm;induction l<;>grind [look,Nat.beq,jC,jQ]);have:=List.all_eq_true.1 h _ gI;split at this;rename_i a b hu;simp at this;exact⟨⟨a,b,hu,this.1.1.1,this.1.1.2⟩,this.1.2,this.2⟩;grind
theorem xV1{k:Ty}{a:Nat}(j:NK k)(ht:B0 P k (.inl a)):∃d,P.underlying a=some d/\∀{χ:Nat->Nat->Nat}{x:k.den}{v:Value},DQ χ w k x v->IsKey d v:=by cases k with|int k=>exact⟨_,jZ ht,λh=>by grind [VRep_int,IsKey]⟩|str=>exact⟨_,NB ht,λh=>by grind [VRep_str,IsKey]⟩|bool=>exact⟨_,yO6 ht,λh=>by grind [VRep_bool,IsKey]⟩|_=>grind [NK]
variable {χ:Nat->Nat->Nat}
theorem xW4{k:Ty}(j:NK k){x y:k.den}{u:Value}(C:DQ χ w k x v)(I:DQ χ w k y u):k.eqb x y=true↔u=v:=by cases k<;>grind [VRep_int,Ty.eqb,VRep_str,bool,VRep_bool,NK]
theorem yZ5{k e:Ty}{d:TypeDesc}(hk:NK k)(I:∀{x:k.den}{v:Value},DQ χ w k x v->IsKey d v){x:k.den}(J:DQ χ w k x v):∀{l:List (k.den×e.den×Unit)}{es:List MapEntry}(i:Nat),I0 χ w k e l es->(Ey k e x l=none/\findNow d v es i=some none/\∀y,GV k e x y l=l++[(x,y,())])\/∃y j en,Ey k e x l=some y/\findNow d v es i=some (some (i+j,en.val))/\es[j]?=some en/\en.key=v/\DQ χ w e y en.val/\∀z,GV k e x z l=l.set j (x,z,()):=by intro l;induction l with|nil=>intro es i h;subst h;exact .inl ⟨rfl,rfl,λy=>rfl⟩|cons q l ih=>intro es i h;obtain⟨en,r,rfl,R,h2,h3⟩:=h;obtain⟨b,hb,C⟩:=sameNow_of_keys (I J) (I R);have hq:=xW4 hk J R;cases b with|true=>have e1:=C.1 rfl;exact .inr ⟨q.2.1,0,en,by grind [Ey],by grind [findNow],rfl,e1.symm,h2,λz=>by grind [GV]⟩|false=>rcases ih (i+1) h3 with ⟨g1,g2,g3⟩ | ⟨y,j,en',g1,g2,g3,g4,g5,g6⟩;grind [Ey,findNow,GV];exact .inr ⟨y,j+1,en',by grind [Ey],by grind [findNow],by simpa using g3,g4,g5,λz=>by grind [GV]⟩
variable {τ:Ty}
theorem xJ7(ht:B0 P τ (.inl b))(J:τ.noPtr):∃z,(zeroValue b).run P w=.ok z w/\DQ χ w τ τ.dflt z:=by obtain⟨⟨i,z,R,_,_,hz,I,C⟩,_⟩:=Hc ht;refine⟨z,by simp_all [zeroValue,typeInfo],DF τ,SY J,?_⟩;cases j:τ.isAgg with|true=>rw[j] at C;simp;cases z<;>simp[WI] at C;simp only[Value.cells] at I;rw[<-I]|false=>rw[j] at C;cases z<;>simp[WI] at C<;>simpa[Value.cells] using I.symm
theorem yM2{k e:Ty}{l:List (k.den×e.den×Unit)}(h:BQ G w (Hq k e) l T m v):jW G w k e l T v:=by rcases h with h|⟨_,I,J,l',ht,R,h⟩;exact absurd h.1.2 (by simp[Ty.isL]);injection ht with C j;injection j with j _;subst C;subst j;simp_all
variable {A:AVal}{p:List Prop}
theorem yM3(hm:Jy P c.maps){x y:AVal}{u:Value}{ok:Bool}(hx:zA G w tm none x v)(hy:zA G w tm none y u)(h:yT0 c T x y ok=some (p,A)) :
  ∃r,(Instr.lookup T v u ok).run P w=.ok r w/\zA G w tm none A r:=by
 unfold yT0 at h;split at h
 ·rename_i k e hT;obtain⟨⟨a,b,hu,hk,he⟩,ua,J⟩:=yM1 hm hT;split at h
  ·rename_i t l U m;split at h
   ·rename_i l' q R hq;obtain⟨ec,R⟩:=EE R;injection ec with ec
    subst ec;subst R;obtain⟨es,clock,rfl,hb,hE,_⟩:=yM2 hx;have I:=I3 hq (by cases k<;>first|rfl|grind [NK]) hy
    obtain⟨d,hd,mn⟩:=xV1 (w:=w) ua hk;have tp:∀r:Option (Nat×Value),findNow d u es.toList 0=some r->(Instr.lookup T (.map (some (G.γ U))) u ok).run P w =
      ((match r with|some (_,z)=>pure (z,true)|none=>(do pure (<-zeroValue b,false)):Sem (Value×Bool)).run P w).andThen λz=>(pure (if ok then .tuple #[z.1,.bool z.2] else z.1):Sem Value).run P:=by
     intro r C;simp[Instr.lookup,run_underlying hu,Go.MapKept.run_getObj_map hb,run_checkKey hd (mn I) es.isEmpty 9999,run_findKey hd C];cases r with
     |none=>simp ;cases Sem.run P (zeroValue b) w<;>rfl
     |some q=>rfl
    obtain⟨z0,hz0,hzr⟩:=xJ7 (P:=P) (w:=w) (χ:=G.χ) he J;rcases yZ5 ua (e:=e) (d:=d) mn I 0 hE with ⟨g1,g2,_⟩ | ⟨y',j,en,g1,g2,g3,g4,g5,_⟩
    ·have C:=tp _ g2;simp[hz0] at C;rw[g1] at h;cases ok with
     |true =>
      obtain⟨rfl,rfl⟩:=h;refine⟨_,C,?_⟩;exact⟨_,[.bool false],rfl,hzr,_,[],rfl,VRep_bool.2 rfl,rfl⟩
     |false =>
      grind [zA]
    ·have C:=tp _ g2;simp  at C;rw[g1] at h;cases ok with
     |true =>
      obtain⟨rfl,rfl⟩:=h;refine⟨_,C,?_⟩;exact⟨_,[.bool true],rfl,g5,_,[],rfl,VRep_bool.2 rfl,rfl⟩
     |false =>
      grind [zA]
   grind
  grind
 grind
theorem yU3{k e:Ty}:∀{l:List (k.den×e.den×Unit)}{es:List MapEntry}{x:k.den×e.den×Unit}{en:MapEntry},I0 χ w k e l es->DQ χ w k x.1 en.key->DQ χ w e x.2.1 en.val->I0 χ w k e (l++[x]) (es++[en]):=by intro l;induction l with|nil=>intro es x en h j C;subst h;exact⟨en,[],rfl,j,C,rfl⟩|cons q l I=>rintro es x en ⟨J,r,rfl,g1,g2,g3⟩ j C;exact⟨J,r++[en],rfl,g1,g2,I g3 j C⟩
theorem xR2{k e:Ty}:∀{l:List (k.den×e.den×Unit)}{es:List MapEntry}{x:k.den×e.den×Unit}{en:MapEntry}{j:Nat},I0 χ w k e l es->DQ χ w k x.1 en.key->DQ χ w e x.2.1 en.val->I0 χ w k e (l.set j x) (es.set j en):=by intro l;induction l with|nil=>grind [I0]|cons q l J=>rintro es x en j ⟨R,r,rfl,g1,g2,g3⟩ C I;cases j with|zero=>exact⟨en,r,rfl,C,I,g3⟩|succ j=>exact⟨R,r.set j en,rfl,g1,g2,J g3 C I⟩
variable {ev kv:Value}
theorem zW5{k e:Ty}(hT:MapTyIs P T k e){l:List (k.den×e.den×Unit)}{x:k.den}{y:e.den}(hM:jW G w k e l U v)(C:DQ G.χ w k x kv)(he:DQ G.χ w e y ev):∃es' clock',(mapUpdate T v kv ev).run P w=.ok () { w with heap:=w.heap.setIfInBounds (G.γ U) (.map es' clock') }/\I0 G.χ w k e (GV k e x y l) es'.toList:=by obtain⟨⟨a,b,hu,J,_⟩,ua,_⟩:=hT;obtain⟨es,clock,rfl,hb,hE,_⟩:=hM;obtain⟨d,I,mn⟩:=xV1 (w:=w) ua J;rcases yZ5 ua (e:=e) (d:=d) mn C 0 hE with ⟨g1,g2,g3⟩ | ⟨y',j,en,g1,g2,g3,g4,g5,g6⟩;refine⟨es.push { key:=kv,val:=ev,born:=clock },clock+1,?_,?_⟩;simp[mapUpdate,run_underlying hu,Go.MapKept.run_getObj_map hb,run_checkKey I (mn C),run_findKey I g2,run_setObj_map _ hb];grind [Array.toList_push,yU3];(have hj:es[j]?=some en:=by grind);refine⟨es.modify j λR=>{ R with key:=kv,val:=ev },clock,?_,?_⟩;simp[mapUpdate,run_underlying hu,Go.MapKept.run_getObj_map hb,run_checkKey I (mn C),run_findKey I g2,hj,g4,run_keyThatStays (mn C),run_setObj_map _ hb];(have:(es.modify j λR=>{ R with key:=kv,val:=ev }).toList=es.toList.set j { en with key:=kv,val:=ev }:=by apply ext_getElem?;grind);grind [xR2]
variable {gtab:GlobTab}{P:Program}{c:Ctx}{G:Gh}{w:World}{tm:Array Value}{n:Nat}{χ0:Nat->Nat->Nat}{w0:World}{S:St}{a:Act}
theorem xR3{g:Nat}:∀{l:List (Nat×(τ:Ty)×τ.den)},Wz l g=.junk\/∃τ x,(g,⟨τ,x⟩)∈l/\Wz l g=.val (.ptr τ) x:=by intro l;induction l with|nil=>exact .inl rfl|cons e r j=>obtain⟨k,τ,x⟩:=e;simp only[Wz];cases hb:Nat.beq k g with|true=>have:=jC hb;subst this;exact .inr ⟨τ,x,jQ ..,rfl⟩|false=>grind
theorem Jz (j:Rel n χ0 w0 S a w G)(x:Operand):zA G w a.tmps none (arg S x) (a.eval x):=by cases x with|tmp t=>have h:=j.reps t;grind [arg,Act.eval,zA,EC,Ty.poff,SS]|const v=>simp[arg,Act.eval];unfold xU8;split;all_goals grind [Gl,FD,zA,VRep_str]|func f=>grind [arg,Act.eval,zA]|global g=>simp[arg,Act.eval];rcases xR3 (g:=g) (l:=GlobTab.tab) with h|⟨τ,x,C,I⟩;grind [zA];obtain⟨vs,J,R⟩:=j.glob g τ x C;grind [SU]
def Gm (tm:Array Value)(gd:Gd):Prop:=∀s w g,gd=some (s,w,g)->tm.getD s undef=.bool w
variable {gd:Gd}
theorem WU(C:Gm tm gd)(h:zA G w tm none A v):zA G w tm none (zF gd A) v:=by cases A with|opt s w' g A=>simp only[zA] at h;simp only[zF];split;rename_i I w'' g';(cases j:(Nat.beq s I&&(w'==w'')) with|false=>simp[zA]|true=>simp only[jB] at j;have e:=jC j.1;subst e;have:=C s w'' g' rfl;grind);grind [zA]|_=>grind [zF]
variable {γ β α:Type}
theorem xR4{R:β->γ->Prop}{f:α->β}{g:α->γ}:∀(l:List α),(∀x∈l,R (f x) (g x))->C2 R (l.map f) (l.map g):=by intro l;induction l with|nil=>intro _;trivial|cons x l j=>intro h;exact⟨h x (by simp),j (λy C=>h y (by grind))⟩
variable {s:Nat}
theorem yU4(j:Gm tm gd)(h:zA G w tm (some s) A v):∃u,zA G w tm (some s) (zF gd A) u:=by cases A with|opt C w' g A=>(have I:zA G w tm none (.opt C w' g A) v:=by grind [zA]);exact⟨v,Pt (WU j I)⟩|_=>exact⟨v,h⟩
theorem yZ6(j:Rel n χ0 w0 S a w G)(C:Gm a.tmps gd)(l:List Operand):C2 (zA G w a.tmps none) ((l.map (arg S)).map (zF gd)) (l.map a.eval):=by grind [map_map,xR4,WU,Jz]
theorem NL(j:Rel n χ0 w0 S a w G)(h:zD A=some s):zA G w a.tmps (some s) (C6 S A) (a.tmps.getD s undef):=by cases A with|ref C τ p=>simp[zD] at h;subst h;exact j.reps _|eref C T t i p=>simp[zD] at h;subst h;exact j.reps _|rref C=>simp[zD] at h;subst h;exact j.reps _|_=>grind [zD]
theorem Lq{R:α->β->Prop}{x:α}{l:List β}(h:C2 R [x] l):∃y,l=[y]/\R x y:=by match l,h with |[y],h=>exact⟨y,rfl,h.1⟩
theorem p7{R:α->β->Prop}{x y:α}{l:List β}(h:C2 R [x,y] l):∃u v,l=[u,v]/\R x u/\R y v:=by match l,h with |[u,v],h=>exact⟨u,v,rfl,h.1,h.2.1⟩
theorem xR5:∀{xs:List AVal}{vs:List Value},C2 (zA G w tm none) xs vs->zA G w tm none (AVal.ofL xs) (.tuple vs.toArray):=by intro xs;induction xs with|nil=>grind [C2,AVal.ofL,zA]|cons x xs j=>intro vs h;cases vs<;>simp only[C2] at h;exact⟨_,_,rfl,h.1,j h.2⟩
set_option maxHeartbeats 800000 in
theorem xJ8 (ki:ED P c.tys)(hmt:Jy P c.maps)(tg:yP P c.fts)(o:Oper){d:Nat}{xs ks:List AVal}{p:List Prop}{A:AVal}(hm:Ib o.op=false)
  (hx:C2 (zA G w a.tmps none) xs ((DI o.op).map a.eval)) (hk:∀(i:Nat) X k,xs[i]?=some X->ks[i]?=some k->∀s,zD X=some s->∃u,zA G w a.tmps (some s) k u)
  (h:Ia c d o.op xs ks=some (p,A)) (hp:∀q∈p,q):∃v,(execOp a.eval o).run P w=.ok (.value v) w/\zA G w a.tmps none A v:=by
 obtain⟨dst,op,ty,pos,after,guard⟩:=o;simp only at hm hx h ⊢;unfold Ia at h;split at h
 ·-- move
  simp[DI] at hx;obtain⟨y,e,h1⟩:=Lq hx;simp_all [execOp]
 ·-- assign
  simp[DI] at hx;obtain⟨y,e,h1⟩:=Lq hx;simp_all [execOp]
 ·grind [Ib]
 ·grind [Ib]
 ·-- load
  rename_i T x A' k;simp[DI] at hx;obtain⟨y,e,h1⟩:=Lq hx;simp  at e;subst e;obtain⟨u,h2,h3⟩:=yF ki tg h1 (λs hs=>hk 0 A' k rfl rfl s hs) h hp;simp_all [execOp]
 ·-- nilCheck
  simp[DI] at hx;obtain⟨y,e,h1⟩:=Lq hx;simp  at e;subst e;split at h
  ·have h2:=h1;have h2:=(zC rfl).1 h2;obtain⟨b,of,us,hv,_⟩:=h2;simp_all [execOp]
  ·obtain⟨rfl,rfl⟩:=h;simp_all [zA,execOp]
  ·obtain⟨rfl,rfl⟩:=h;simp_all [zA,execOp]
  ·have h2:=h1;obtain⟨vs,hv,_⟩:=h2;simp_all [execOp]
  grind
 ·-- binOp
  rename_i bo T x y yt A' B;obtain⟨u,v,e,h1,h2⟩:=p7 hx;obtain⟨rfl,rfl⟩:=e;obtain⟨r,h3,h4⟩:=xC (ox:=x) ki h1 h2 h hp;refine⟨r,?_,h4⟩;show (do let s <-(do eqGuard bo T x y (a.eval x) (a.eval y);binOp bo T (a.eval x) (a.eval y):Sem Value);pure (Next.value s):Sem Next).run P w=_
  rw[run_bind,h3];rfl
 ·-- unOp
  simp[DI] at hx;obtain⟨y,e,h1⟩:=Lq hx;simp  at e;subst e;obtain⟨u,h2,h3⟩:=xJ1 (P:=P) h1 h hp;simp_all [execOp]
 ·-- convert
  simp[DI] at hx;obtain⟨y,e,h1⟩:=Lq hx;simp  at e;subst e;obtain⟨u,h2,h3⟩:=yU ki h1 h;simp_all [execOp]
 ·-- build
  obtain⟨u,h2,h3⟩:=yP9 ki hx h;simp_all [execOp]
 ·grind [Ib]
 ·grind [Ib]
 ·-- slice
  rename_i T x lo hi A' r;have key:∀{vlo vhi:Option Value},vlo=lo.map a.eval->vhi=hi.map a.eval->(∃r,(Instr.sliceAt T (a.eval x) vlo vhi none).run P w=.ok r w/\zA G w a.tmps none A r)->∃v,(execOp a.eval ⟨dst,.slice T x lo hi none,ty,pos,after,guard⟩).run P w=.ok (.value v) w/\zA G w a.tmps none A v:=by
   simp_all [execOp]
  cases lo with
  |none =>
   cases hi with
   |none =>
    simp[DI] at hx;cases r with
    |cons _ _=>grind [C2]
    |nil=>exact key rfl rfl (zM ki hx.1 (λA e=>by grind [Hr]) (λ_=>rfl) (λA e=>by grind [Hr]) (λ_=>rfl) h hp)
   |some y =>
    match r,hx with
    |[B],hx=>exact key rfl rfl (zM ki hx.1 (λA e=>by grind [Hr]) (λ_=>rfl) (λA e=>by simp[Hr] at e;subst e;exact⟨_,rfl,hx.2.1⟩) (λe=>by grind [Hr]) h hp)
  |some z =>
   cases hi with
   |none =>
    match r,hx with
    |[B],hx=>exact key rfl rfl (zM ki hx.1 (λA e=>by simp[Hr] at e;subst e;exact⟨_,rfl,hx.2.1⟩) (λe=>by grind [Hr]) (λA e=>by grind [Hr]) (λ_=>rfl) h hp)
   |some y =>
    match r,hx with
    |[B,C],hx=>exact key rfl rfl (zM ki hx.1 (λA e=>by simp[Hr] at e;subst e;exact⟨_,rfl,hx.2.1⟩) (λe=>by grind [Hr]) (λA e=>by simp[Hr] at e;subst e;exact⟨_,rfl,hx.2.2.1⟩) (λe=>by grind [Hr]) h hp)
 ·-- fieldAddr
  simp[DI] at hx;obtain⟨y,e,h1⟩:=Lq hx;simp  at e;subst e;obtain⟨u,h2,h3⟩:=yB3 ki h1 h;simp_all [execOp]
 ·-- field
  simp[DI] at hx;obtain⟨y,e,h1⟩:=Lq hx;simp  at e;subst e;obtain⟨u,h2,h3⟩:=yP1 ki h1 h;simp_all [execOp]
 ·-- indexAddr
  obtain⟨u,v,e,h1,h2⟩:=p7 hx;obtain⟨rfl,rfl⟩:=e;obtain⟨r,h3,h4⟩:=yB4 ki h1 h2 h hp;simp_all [execOp]
 ·-- index
  obtain⟨u,v,e,h1,h2⟩:=p7 hx;obtain⟨rfl,rfl⟩:=e;obtain⟨r,h3,h4⟩:=yP0 ki h1 h2 h hp;simp_all [execOp]
 ·-- extract
  simp[DI] at hx;obtain⟨y,e,h1⟩:=Lq hx;simp  at e;subst e;obtain⟨u,h2,h3⟩:=yH8 (P:=P) h1 h;simp_all [execOp]
 ·-- lookup
  obtain⟨u,v,e,h1,h2⟩:=p7 hx;obtain⟨rfl,rfl⟩:=e;obtain⟨r,h3,h4⟩:=yM3 hmt h1 h2 h;simp_all [execOp]
 ·-- makeMap
  grind [Ib]
 ·-- makeFunc
  rename_i f fs cs0;split at h
  ·obtain⟨rfl,rfl⟩:=h;have hfs':fs=#[]:=by grind
   subst hfs';simp only[DI] at hx;refine⟨.func (.func f) #[] (cs0.map a.eval),by simp[execOp,Instr.makeFunc],?_⟩;simp only[zA];have:=xR5 hx;rw[show (map a.eval cs0.toList).toArray=cs0.map a.eval from toList_inj.1 (by simp)] at this
   grind
  grind
 ·-- len
  rename_i args ats A';simp only[DI] at hx;obtain⟨y,e,h1⟩:=Lq hx;have ku:args.map a.eval=#[y]:=by
   grind
  obtain⟨u,h2,h3⟩:=xC0 (ty:=ty) ki h1 h;exact⟨u,by simp[execOp,resolve,invoke,builtin,ku,h2],h3⟩
 ·-- max
  simp only[DI] at hx;obtain⟨v,r,e,u,h2,h3⟩:=yI9 (P:=P) (g:=max2) xR0 hx h;exact⟨u,by simp_all [execOp,resolve,invoke,builtin,max_],h3⟩
 ·-- min
  simp only[DI] at hx;obtain⟨v,r,e,u,h2,h3⟩:=yI9 (P:=P) (g:=min2) xR1 hx h;exact⟨u,by simp_all [execOp,resolve,invoke,builtin,min_],h3⟩
 grind
variable {gtab:GlobTab}{P:Program}{c:Ctx}{G:Gh}{w:World}{tm:Array Value}{n:Nat}{χ0:Nat->Nat->Nat}{w0:World}{S:St}{a:Act}
theorem yJ0 (z:List Value)(k n:Nat)(C:z.length=k)(R:0<k):((range (n*k)).map (λi=>z.toArray[i % z.toArray.size]!)).toList=(replicate n z).flatten:=by apply ext_getElem?;intro j;by_cases I:j<n*k;(have J:j % k<z.length:=by rw[C];exact Nat.mod_lt _ R);(have key:∀(n j:Nat),j<n*k->(replicate n z).flatten[j]?=z[j % k]?:=by intro n;induction n with|zero=>omega|succ n ih=>intro j I;simp[List.replicate_succ];by_cases h1:j<k;rw[List.getElem?_append_left (by omega),Nat.mod_eq_of_lt h1];rw[List.getElem?_append_right (by omega),ih (j-z.length) (by rw[succ_mul] at I;omega),C,Nat.mod_eq_sub_mod (a:=j) (by omega)]);grind;simp_all
theorem zR(z:List Value){n m:Nat}(h:n<=m):(replicate m z).flatten=(replicate n z).flatten++(replicate (m-n) z).flatten:=by grind [List.flatten_append,List.replicate_append_replicate]
theorem yM4{t:Ty}{T:TypeId}{ie:TypeInfo}{z:Value}(h1:P.underlying T=some (.slice e))(nj:P.info? e=some ie)(hz:ie.zero=some z)(iG:ie.size=t.size)(qq:ie.bytes<=32768)(iL:z.cells=(DF t).toArray)(tq:0<t.size)(n m:Int)(hb:0<=n/\n<=m/\m<=4294967296)(k1 k2:IntKind):(Instr.makeSlice T (.int k1 n) (.int k2 m)).run P w=.ok (.slice (some ⟨w.heap.size,0,none⟩) n.toNat m.toNat) (w.alloc (.cells ((replicate n.toNat (DF t)).flatten++(replicate (m.toNat-n.toNat) (DF t)).flatten).toArray e)):=by have mo:IntKind.i64.wrap n=n:=IntWalk.i64_in _ (by omega);have j:IntKind.i64.wrap m=m:=IntWalk.i64_in _ (by omega);have hbm:(ie.bytes:Int)*m<=32768*4294967296:=Int.mul_le_mul (by omega) hb.2.2 (by omega) (by omega);(have C:((range (m.toNat*t.size)).map (λi=>(if m.toNat*t.size=0 then (#[]:Array Value) else (DF t).toArray)[i % (if m.toNat*t.size=0 then (#[]:Array Value) else (DF t).toArray).size]!))=((replicate n.toNat (DF t)).flatten++(replicate (m.toNat-n.toNat) (DF t)).flatten).toArray:=by by_cases R:m.toNat*t.size=0;(have hz0:m.toNat=0:=by grind [Nat.mul_eq_zero]);(have gv:n.toNat=0:=by omega);simp[hz0,gv];simp only[if_neg R];apply toList_inj.1;rw[yJ0 _ _ _ n9 tq,zR (DF t) (show n.toNat<=m.toNat by omega)]);(have gV:¬(281474976710656<(ie.bytes:Int)*m):=by omega);(have I:¬m<0:=by omega);(have gv:¬n<0:=by omega);(have J:¬m<n:=by omega);rw[<-C];by_cases R:m.toNat*t.size=0;simp[Instr.makeSlice,run_underlying h1,asInt,asIntOf,typeInfo,sizeOf,nj,iG,mo,j,gV,I,gv,J,R,newRow];simp[Instr.makeSlice,run_underlying h1,asInt,asIntOf,typeInfo,sizeOf,zeroValue,nj,hz,iL,iG,mo,j,gV,I,gv,J,R,newRow]
theorem yM5{t:Ty}{e:Nat}(j:t.noPtr)(hv:Iz t)(n m:Int)(hb:0<=n/\n<=m/\m<=4294967296):zA (G.newArr w.heap.size d) (w.alloc (.cells ((replicate n.toNat (DF t)).flatten++(replicate (m.toNat-n.toNat) (DF t)).flatten).toArray e)) tm (some d) (.own t (replicate n.toNat t.dflt) d true) (.slice (some ⟨w.heap.size,0,none⟩) n.toNat m.toNat):=by have:=xJ5 (G:=G) (w:=w) (tm:=tm) (l:=replicate n.toNat t.dflt) (rest:=(replicate (m.toNat-n.toNat) (DF t)).flatten) (d:=d) (e:=e) (cap:=m.toNat) (l5 (SY j) n.toNat) hv (by rw[<-zR (DF t) (show n.toNat<=m.toNat by omega)];simp[n9]) (by grind) (by simp only[maxLen];omega);grind
variable {xs:List AVal}{o:Oper}
theorem xJ9(ki:ED P c.tys){ps:Array (Nat×Operand)}(ho:o.op=.buildSlice T U ps)(I:Frame0 χ0 w0 G.χ w)(C:C2 (zA G w a.tmps none) xs ((ps.toList.map (·.2)).map a.eval))(h:fO c T U d (Gx ps.toList xs)=some (p,A)):xZ4 A/\∃v w' G',(execOp a.eval o).run P w=.ok (.value v) w'/\(Ext (· =BM d) (· =BM d) G w G' w'\/Ext (· =AM d) (· =AM d) G w G' w')/\Frame0 χ0 w0 G'.χ w'/\∀tm,zA G' w' tm (some d) A v:=by unfold fO at h;split at h;rename_i J;(cases hb:(c.wr.any (Nat.beq d)&&Nat.beq U 1) with|false=>grind|true=>simp[hb,jE] at h;split at h;rename_i s R;(cases hs:s.isL with|true=>grind|false=>simp[hs,Bool.not_false,jE,jA,jG] at h;obtain⟨rfl,rfl⟩:=h;have hT:=I1 ki T (by grind);rw[R] at hT;obtain⟨e,h1,h2⟩:=zG hT;obtain⟨⟨ie,z,nj,iG,_,hz,ni,_⟩,_⟩:=Hc h2;(have iL:z.cells=#[.slice none 0 0]:=by apply toList_inj.1;rw[ni];rfl);have iG:ie.size=1:=iG;(have hlx:xs.length=ps.toList.length:=by rw[NJ C];simp);obtain⟨e1,e2⟩:=zQ5 hlx;rw[J] at e1 e2;rw[<-e1] at C;(obtain⟨o1,ub⟩:∃o1,ps.toList=[(0,o1)]:=by match hq:ps.toList,e2 with |[(k,o1)],e2=>grind);rw[ub] at C;have hv:=C.1;simp only[zA] at hv;(have gw:(ps.map λ(i,x)=>(i,a.eval x)).toList=[(0,.slice none 0 0)]:=by simp_all);(have ke:(Instr.buildSlice T 1 (ps.map λ(i,x)=>(i,a.eval x))).run P w=.ok (.slice (some ⟨w.heap.size,0,none⟩) 1 1) (w.alloc (.cells #[.slice none 0 0] e)):=by refine run_buildSlice w T e 1 _ #[.slice none 0 0] ie z h1 nj hz (by grind) (by grind) ?_;rw[gw,iG,iL];have qs:(Value.slice none 0 0).cells=#[.slice none 0 0]:=rfl;simp[Instr.fill,show range 1=#[0] from rfl,qs]);refine⟨rfl,.slice (some ⟨w.heap.size,0,none⟩) 1 1,w.alloc (.cells #[.slice none 0 0] e),G.newArr w.heap.size d,?_,.inr (WQ _ d),Pz I _ _ (λb o hb=>by simp only[Gh.newArr];rw[if_neg (by omega)]),λtm=>?_⟩;unfold execOp;simp_all;have kT:(Ty.sl s).plain:=NC h2;simp[Ty.plain] at kT;refine⟨⟨kT.2,hs⟩,.inr ⟨by omega,.inr ⟨1,#[.slice none 0 0],e,by simp[Gh.newArr],?_,by simp,by simp[maxLen],by simp,λo=>by simp[Gh.newArr],λj x hj=>?_⟩⟩⟩;grind [Gh.newArr,Lp];cases j with|zero=>simp at hj;subst hj;exact⟨.slice none 0 0,by simp,by exact⟨⟨kT.2,hs⟩,.inl ⟨rfl,rfl⟩⟩⟩|succ j=>grind);grind);grind
theorem xC3(ki:ED P c.tys)(_hmt:Jy P c.maps)(tg:yP P c.fts)(o:Oper){ks:List AVal}(hm:Ib o.op)(C:Frame0 χ0 w0 G.χ w)(I:C2 (zA G w a.tmps none) xs ((DI o.op).map a.eval))(h:Ia c d o.op xs ks=some (p,A))(hp:∀q∈p,q):xZ4 A/\∃v w' G',(execOp a.eval o).run P w=.ok (.value v) w'/\(Ext (· =BM d) (· =BM d) G w G' w'\/Ext (· =AM d) (· =AM d) G w G' w')/\Frame0 χ0 w0 G'.χ w'/\∀tm,zA G' w' tm (some d) A v:=by obtain⟨dst,op,ty,pos,after,guard⟩:=o;simp only at hm I h ⊢;cases op with|box T x=>(match xs,I with |[A'],I=>simp only[Ia] at h;cases j:(c.is T (c.ty T)&&AVal.fits (c.ty T) A') with|false=>grind|true=>simp[j] at h;obtain⟨rfl,rfl⟩:=h;simp at j;have J:=DY ki j.1;obtain⟨us,h1,R⟩:=WN I.1 j.2 (Gk J);have nr:=Py R (SX h1);(have hcel':(a.eval x).cells=us.toArray:=by grind);refine⟨rfl,.pointer (some ⟨w.heap.size,0,none⟩),w.alloc (.cells us.toArray T),G.newBox w.heap.size d,?_,.inl (o6 _ d),Pz C _ _ (λb o hb=>by simp only[Gh.newBox];rw[if_neg (by omega)]),λtm=>xJ4 h1 ⟨NC J,Gk J⟩⟩;simp_all [execOp,Instr.box,newVar,newRow])|alloc T=>(match xs,I with |[],I=>simp only[Ia] at h;cases hfn:c.fts.any (Nat.beq T) with|true=>simp[hfn] at h;obtain⟨rfl,rfl⟩:=h;obtain⟨i,_,z,u,hi,_,_,_,hz,ni⟩:=yT6 tg hfn;refine⟨rfl,.pointer (some ⟨w.heap.size,0,none⟩),w.alloc (.cells #[u] T),G.newBox w.heap.size d,?_,.inl (o6 _ d),Pz C _ _ (λb o hb=>by simp only[Gh.newBox];rw[if_neg (by omega)]),λtm=>?_⟩;simp_all [execOp,Instr.alloc,zeroValue,typeInfo,newVar,newRow];refine⟨by simp[Gh.newBox],u,T,?_,λo=>by simp[Gh.newBox]⟩;simp only[Gh.newBox];exact Lp w _|false=>simp[hfn,jD] at h;cases j:(c.is T (c.ty T)&&(c.ty T).noPtr) with|false=>grind|true=>simp[j] at h;obtain⟨rfl,rfl⟩:=h;simp at j;have J:=DY ki j.1;obtain⟨⟨i,z,hi,hs,_,hz,ni,_⟩,_⟩:=Hc J;have h1:AF G w (c.ty T) (zT5 (c.ty T)) (DF (c.ty T)):=yZ3 j.2 (NC J);(have iL:z.cells=(DF (c.ty T)).toArray:=by grind);refine⟨rfl,.pointer (some ⟨w.heap.size,0,none⟩),w.alloc (.cells (DF (c.ty T)).toArray T),G.newBox w.heap.size d,?_,.inl (o6 _ d),Pz C _ _ (λb o hb=>by simp only[Gh.newBox];rw[if_neg (by omega)]),λtm=>xJ4 h1 ⟨NC J,Gk J⟩⟩;simp_all [execOp,Instr.alloc,zeroValue,typeInfo,newVar,newRow])|buildSlice T len ps=>simp only[DI] at I;simp only[Ia] at h;(cases uc:fO c T len d (Gx ps.toList xs) with|some r=>simp[uc] at h;subst h;exact xJ9 ki rfl C I uc|none=>simp only[uc] at h;unfold yD3 at h;split at h;rename_i t hTy;have J:=I1 ki T (by grind);rw[hTy] at J;(cases j:((Gx ps.toList xs).all (λq=>blt q.1 len)&&Nat.ble (len*t.size) 16777216&&blt 0 t.size&&t.noPtr) with|false=>grind|true=>simp[j,jE] at h;simp only[jB] at j;obtain⟨⟨⟨qs,gT⟩,tq⟩,hc4⟩:=j;have gT:len*t.size<=16777216:=jR gT;have tq:0<t.size:=jR tq;split at h;rename_i l hl;obtain⟨rfl,rfl⟩:=h;obtain⟨e,h1,R⟩:=zG J;obtain⟨⟨ie,z,nj,iG,_,hz,ni,_⟩,_⟩:=Hc R;(have hlx:xs.length=ps.toList.length:=by rw[NJ I];simp);obtain⟨e1,e2⟩:=zQ5 hlx;(have gw:(ps.map λ(i,x)=>(i,a.eval x)).toList=zip ((Gx ps.toList xs).map (·.1)) ((ps.toList.map (·.2)).map a.eval):=by simp_all [yP8]);(have gp:C2 (zA G w a.tmps none) ((Gx ps.toList xs).map (·.2)) ((ps.toList.map (·.2)).map a.eval):=by grind);(have mq:C9 (AP G.χ w t) (replicate len t.dflt) ((range (len*t.size)).map (λi=>(DF t).toArray[i % (DF t).toArray.size]!)).toList:=by rw[yJ0 _ _ _ n9 tq];grind [l5,SY]);obtain⟨cells',h5,h6,h7⟩:=yP7 (G:=G) (w:=w) (tm:=a.tmps) (Gk R) (λq hq=>by simp;exact jR (List.all_eq_true.1 qs q hq)) gp rfl mq hl;(have hlen:l.length=len:=by grind);(have ke:(Instr.buildSlice T len (ps.map λ(i,x)=>(i,a.eval x))).run P w=.ok (.slice (some ⟨w.heap.size,0,none⟩) len len) (w.alloc (.cells cells' e)):=by by_cases h0:len*t.size=0;(have hl0:len=0:=by grind [Nat.mul_eq_zero]);subst hl0;(have ub:(ps.map λ(i,x)=>(i,a.eval x)).toList=[]:=by rw[gw];cases hq:Gx ps.toList xs<;>simp_all);rw[<-gw,ub] at h5;simp[Instr.fill] at h5;subst h5;(have hps':(ps.map λ(i,x)=>(i,a.eval x))=#[]:=by grind);rw[hps'];simp[Instr.buildSlice,run_underlying h1,sizeOf,typeInfo,nj,Instr.fill,newRow,show range 0=#[] from rfl];grind [run_buildSlice]);refine⟨rfl,.slice (some ⟨w.heap.size,0,none⟩) len len,w.alloc (.cells cells' e),G.newArr w.heap.size d,?_,.inr (WQ _ d),Pz C _ _ (λb o hb=>by simp only[Gh.newArr];rw[if_neg (by omega)]),λtm=>?_⟩;simp_all [execOp];have iq:=Gy (k:=t.size) (λ_ _ h=>CO h) h6;have hle:len<=len*t.size:=Nat.le_mul_of_pos_right _ tq;have:=xJ5 (G:=G) (w:=w) (tm:=tm) (rest:=[]) (d:=d) (e:=e) (cap:=len) h6 ⟨NC R,Gk R⟩ (by grind) (by omega) (by simp only[maxLen];omega);simp_all;grind);grind)|makeSlice T x y=>(match xs,I with |[A',B'],I=>simp only[Ia] at h;unfold yY6 at h;split at h;rename_i t k1 n1 k2 m1 hTy;have J:=I1 ki T (by grind);rw[hTy] at J;(cases j:(blt 0 t.size&&t.noPtr) with|false=>grind|true=>simp[j,jE,jA,jG] at h;obtain⟨rfl,rfl⟩:=h;simp only[jB] at j;have tq:0<t.size:=jR j.1;obtain⟨e,h1,R⟩:=zG J;obtain⟨⟨ie,z,nj,iG,qq,hz,ni,_⟩,_⟩:=Hc R;(have iL:z.cells=(DF t).toArray:=by grind);have hb:=hp _ (jH.2 rfl);have iF:=I.1;have gB:=I.2.1;have hv1:=VRep_int.1 iF;have hv2:=VRep_int.1 gB;have ke:=yM4 (w:=w) h1 nj hz iG qq iL tq n1 m1 hb k1 k2;refine⟨rfl,_,_,G.newArr w.heap.size d,by simp only[execOp,hv1,hv2,run_bind,ke];rfl,.inr (WQ _ d),Pz C _ _ (λb o hb=>by simp only[Gh.newArr];rw[if_neg (by omega)]),λtm=>?_⟩;exact yM5 j.2 ⟨NC R,Gk R⟩ n1 m1 hb);grind)|makeMap T r=>(cases r with|some r=>grind [Ia]|none=>match xs,I with |[],I=>simp only[Ia] at h;unfold xU9 at h;split at h;rename_i k e J;obtain⟨rfl,rfl⟩:=h;refine⟨rfl,.map (some w.heap.size),w.alloc (.map #[] 0),G.newArr w.heap.size d,?_,.inr (WQ _ d),Pz C _ _ (λb o hb=>by simp only[Gh.newArr];rw[if_neg (by omega)]),λtm=>?_⟩;simp[execOp,Instr.makeMap];refine .inr ⟨rfl,k,e,[],rfl,HEq.rfl,#[],0,by simp[Gh.newArr],?_,rfl,λo=>by simp[Gh.newArr]⟩;simp only[Gh.newArr];exact Lp w _;grind)|_=>grind [Ib]
variable {gtab:GlobTab}{P:Program}{c:Ctx}{G:Gh}{w:World}{tm:Array Value}{n:Nat}{χ0:Nat->Nat->Nat}{w0:World}{S:St}{a:Act}
variable {u:St}
theorem NM:∀{s:Nat},(∀e∈u,e.1≠BP)->St.has s u->(u++S).get s=u.get s:=by
 induction u<;>grind [St.has,St.get,Nat.beq]
theorem Lr:∀{s:Nat},(∀e∈u,e.1≠BP)->St.has s u=false->(u++S).get s=S.get s:=by
 induction u with
 |nil=>grind
 |cons e r C =>
  intro s I h;obtain⟨k,A⟩:=e;simp only[St.has,any_cons,jJ] at h;simp[St.get,h.1];have j:Nat.beq k BP=false:=by
   cases J:Nat.beq k BP<;>simp_all
  simp[j];exact C (λe he=>I e (by grind)) h.2
theorem p8:∀{s:Nat},St.has s u->(∀e∈u,e.1≠BP)->(s,u.get s)∈u:=by
 induction u<;>grind [St.has,St.get,Nat.beq,jC]
theorem xK{p:AVal->Bool}(j:p .junk):∀{S:St}{s:Nat},S.all (λe=>p e.2)->p (S.get s):=by
 intro S
 induction S<;>grind [St.get]
theorem Gn(h:d<a.tmps.size):(a.put (some d) v).tmps.getD s undef=if s=d then v else a.tmps.getD s undef:=by
 simp[Act.put,Array.getElem?_setIfInBounds];by_cases e:s=d
 ·grind
 ·rw[if_neg (λj=>e j.symm),if_neg e]
theorem NN:(a.put none v)=a:=rfl
variable {dst:Option Nat}
theorem xR6:(a.put dst v).tmps.size=a.tmps.size:=by cases dst<;>simp[Act.put]
theorem put_defers:(a.put dst v).defers=a.defers:=by cases dst<;>rfl
variable {Y X:Nat->Prop}
theorem Hd{G':Gh}{w':World}(j:Rel n χ0 w0 S a w G)(hn:n<=BP)(hu:∀e∈u,e.1<n)(hd:∀d,dst=some d->St.has d u=true)
  (I:Ext X Y G w G' w') (h0:¬X 0) (C:Frame0 χ0 w0 G'.χ w') (hold:∀s,St.has s u=false->¬(S.get s).names X Y (some s))
  (ud:∀s d,dst=some d->St.has s u=false->(S.get s).hung d=false)
  (gx:∀s,St.has s u->zA G' w' (a.put dst v).tmps (some s) (u.get s) ((a.put dst v).tmps.getD s undef)):Rel n χ0 w0 (u++S) (a.put dst v) w' G':=by
 have ue:∀e∈u,e.1≠BP:=λe he=>by grind
 refine⟨by rw[xR6];exact j.len,by rw[put_defers];exact j.defers,λs=>?_,C,NA I.prot j.glob⟩;cases J:St.has s u with
 |true=>grind [NM]
 |false =>
  rw[Lr ue J];have h1:=jY I h0 a.tmps (hold s J) (j.reps s);have iA:∀k,(k=s\/(S.get s).hung k=true)->(a.put dst v).tmps.getD k undef=a.tmps.getD k undef:=by
   intro k R;cases dst with
   |none=>rfl
   |some d =>
    have gP:d<a.tmps.size:=by
     have:=hd d rfl;have:=hu _ (p8 this ue);rw[j.len];grind
    rw[Gn gP,if_neg];rcases R with rfl|R
    ·grind
    ·grind
  grind [zO]
theorem WV(C:Rel n χ0 w0 S a w G)(I:n<=BP)(hd:d<n)(ud:∀s,(S.get s).hung d=false)(hA:A.hung d=false)
  (h:zA G w a.tmps none A v):Rel n χ0 w0 ([(d,A)]++S) (a.put (some d) v) w G:=by
 refine Hd (X:=λ_=>False) (Y:=λ_=>False) C I (λe he=>by grind) (λJ e=>by simp_all [St.has]) ⟨λ_ _ _ h=>⟨h,rfl⟩,λ_ _ _=>⟨rfl,λ_=>rfl⟩,jI _,λ_ _=>rfl,λ_ _=>rfl,λ_ h=>h⟩ id C.frame
  (λs _=>?_) (λs J e _=>by grind) (λs hs=>?_)
 ·have key:∀(A:AVal) (s:Option Nat),¬A.names (λ_=>False) (λ_=>False) s:=by
   intro A
   induction A with
   |opt _ _ _ A j=>grind [AVal.names]
   |box τ a j=>intro s;cases s<;>simp[AVal.names]<;>exact j none
   |cons a b gK gG=>grind [AVal.names]
   |agg f a j=>grind [AVal.names]
   |tup a j=>grind [AVal.names]
   |fn f a j=>grind [AVal.names]
   |raw=>intro s;cases s<;>simp[AVal.names]
   |_=>grind [AVal.names]
  grind
 ·have e:d=s:=by simp_all [St.has]
  subst e;have gP:d<a.tmps.size:=by rw[C.len];grind
  have R:St.get [(d,A)] d=A:=by simp[St.get]
  rw[R,Gn gP,if_pos rfl];refine zO (λk hk=>?_) (Pt h);rw[Gn gP,if_neg]
  grind
variable {gtab:GlobTab}{P:Program}{c:Ctx}{G:Gh}{w:World}{tm:Array Value}{n:Nat}{χ0:Nat->Nat->Nat}{w0:World}{S:St}{a:Act}
def SpecOk [GlobTab] (P:Program)(f:Nat)(sp:Spec):Prop:=
 (∃fn,P.funcs[f]?=some fn/\fn.body.isSome/\fn.name≠"runtime.NumGoroutine") /\
 ∀args co,sp args=some co->(∀q∈co.ok,q)->∀(G:Gh) (w:World) (vals:List Value),vals.length=args.length->GlobOk G.χ w ->
  (∀(i:Nat) A v,args[i]?=some A->vals[i]?=some v->zA G w #[] (some i) A v) ->
  Calls P f vals.toArray w λe w'=>∃v G',e=.returned v/\Frame0 G.χ w G'.χ w'/\zA G' w' #[] none co.res v /\
   (∀(i:Nat) k A u,(i,k)∈co.outs->args[i]?=some A->vals[i]?=some u ->
    (∀τ k0,A=.box τ k0->zA G' w' #[] (some i) (.box τ k) u/\G'.β i=G.β i)/\(Ft A=false->zA G' w' #[] none k u))
def P1 [GlobTab] (P:Program)(f:Nat)(e:List AVal->Option (List Prop×AVal)):Prop:=
 ∀args p A,e args=some (p,A)->(∀q∈p,q)->∀(G:Gh) (w:World) (tm:Array Value) (vals:List Value),C2 (zA G w tm none) args vals ->
  ∃v,(callFunc f vals.toArray).run P w=.ok (.value v) w/\zA G w tm none A v
theorem yF3{G':Gh}{w':World}(kz:∀b o,b<w.heap.size->G.χ b o=0->G'.χ b o=0/\w'.cell? ⟨b,o,none⟩=w.cell? ⟨b,o,none⟩):∀{cs:AVal}{v:Value},cs.pureL->zA G w tm none cs v->zA G' w' cells none cs v:=by intro cs;induction cs with|nl=>grind [zA]|cons a b _ gG=>intro v j h;(cases a with|val τ y=>grind [AVal.pureL,zA,Gz]|nil=>grind [AVal.pureL,zA]|fn f c=>cases c<;>grind [AVal.pureL,zA]|_=>simp[AVal.pureL] at j)|_=>intro v j;simp[AVal.pureL] at j
def G4 (β:Nat->Nat)(b:Nat):List AVal->Nat->Option Nat
 |[],_=>none
 |.ref s _ []::r,i=>if β s=b then some i else G4 β b r (i+1)
 |_::r,i=>G4 β b r (i+1)
theorem zZ9{β:Nat->Nat}:∀{ys:List AVal}{i j:Nat},G4 β b ys i=some j->∃s τ,i<=j/\ys[j-i]?=some (.ref s τ [])/\β s=b:=by intro ys;induction ys with|nil=>grind [G4]|cons A r C=>intro i j h;(have rest:G4 β b r (i+1)=some j->∃s τ,i<=j/\(A::r)[j-i]?=some (.ref s τ [])/\β s=b:=by grind);cases A with|ref s τ p=>cases p<;>grind [G4]|_=>exact rest h
theorem xC4{β:Nat->Nat}:∀{ys:List AVal}{i k:Nat},ys[k]?=some (.ref s τ [])->(∀j C τ',j<k->ys[j]?=some (.ref C τ' [])->β C≠β s)->G4 β (β s) ys i=some (i+k):=by intro ys;induction ys with|nil=>grind|cons A r I=>intro i k h kh;cases k with|zero=>grind [List.getElem?_cons_zero,jA,G4]|succ k=>have J:=I (i:=i+1) (k:=k) (by grind) (λj C τ' R hs=>kh (j+1) C τ' (by omega) (by grind));rw[show i+(k+1)=i+1+k from by omega,<-J];cases A with|ref C τ' p=>(cases p with|nil=>simp only[G4];rw[if_neg (kh 0 C τ' (by omega) (by simp))]|cons _ _=>grind [G4])|_=>simp only[G4]
theorem yU5:∀{ys:List AVal}{i j s C:Nat}{τ τ':Ty},LW ys->i<j->ys[i]?=some (.ref s τ [])->ys[j]?=some (.ref C τ' [])->s≠C:=by intro ys;induction ys with|nil=>grind|cons A r ih=>intro i j s C τ τ' R hij I hj;(have gI:∀{k:Nat}{l:List AVal},l[k]?=some (.ref C τ' [])->C∈refs l:=by intro k l;induction l generalizing k with|nil=>grind|cons B l J=>intro h;cases k with|zero=>grind [List.getElem?_cons_zero,jA,refs]|succ k=>have:=J (k:=k) (by grind);cases B<;>simp[refs,this]);(have qt:LW r:=by cases A<;>simp_all [LW]);cases j with|zero=>omega|succ j=>cases i with|zero=>simp only[List.getElem?_cons_zero,jA] at I;subst I;simp only[LW,jB,jK] at R;have hm:=gI (k:=j) (l:=r) (by simpa using hj);intro e;subst e;have:=R.1;rw[List.any_eq_false] at this;exact this s hm (by simp)|succ i=>exact ih (i:=i) (j:=j) qt (by omega) (by simpa using I) (by simpa using hj)
def Gh.callee (G:Gh)(ys:List AVal):Gh:=
 {χ:=λb o=>if G.χ b o=0 then 0 else match G4 G.β b ys 0 with|some i=>BM i|none=>1,
  β:=λi=>match ys[i]? with|some (.ref s _ _)=>G.β s|_=>0,
  γ:=G.γ }
def Gh.back (G G':Gh)(b0:Nat)(D:Option Nat):Gh:=
 {χ:=λb o=>if b<b0 then G.χ b o else match D with
   |some d=>if G'.χ b o=0 then 0 else if G'.χ b o=AM 0 then AM d else if G'.χ b o=AM 1 then AM (100000+d) else if G'.χ b o=AM 2 then AM (200000+d) else if G'.χ b o=AM 3 then AM (300000+d) else 2
   |none=>if G'.χ b o=0 then 0 else 2,
  β:=G.β,
  γ:=λT=>match D with
   |some d=>if T=d then G'.γ 0 else if T=100000+d then G'.γ 1 else if T=200000+d then G'.γ 2 else if T=300000+d then G'.γ 3 else G.γ T
   |none=>G.γ T }
variable {i:Nat}{ys:List AVal}
theorem xC5{Y k:AVal}(R:ys[i]?=some Y)(j:zA G w tm none Y v)(I:∀s,zD Y=some s->zA G w tm (some s) k kv)(kR:∀s τ,Y=.ref s τ []->G4 G.β (G.β s) ys 0=some i):zA (G.callee ys) w #[] (some i) (Ej Y k) v:=by have kz:∀b o,b<w.heap.size->G.χ b o=0->(G.callee ys).χ b o=0/\w.cell? ⟨b,o,none⟩=w.cell? ⟨b,o,none⟩:=λb o _ h=>⟨by grind [Gh.callee],rfl⟩;cases Y with|val τ x=>grind [Ej,zA,Gz]|nil=>grind [Ej,zA]|own t l T m=>simp only[Ej];(cases m with|true=>simp[zA]|false=>exact Gz kz ((zC rfl).2 (G3 j)))|agg f b=>simp only[Ej];split;rename_i x C;exact Gz kz (I3 C rfl j);grind [zA]|fn f cs=>grind [Ej,zA,yF3]|ref s τ p=>(cases p with|nil=>(cases k with|box τ' k=>simp only[Ej];(cases hb:Ty.beq τ' τ with|false=>simp[zA]|true=>have e:=Ty.eq_of_beq hb;subst e;split;rename_i x C;obtain⟨km,cur,e,g1,g2,g3⟩:=NG (I s rfl);simp only[zA] at j ⊢;(have hβ:(G.callee ys).β i=G.β s:=by grind [Gh.callee]);refine⟨by grind [Ty.poff],km,cur,e,by grind,?_,λo=>?_⟩;simp only[AF];exact⟨trivial,km.2,CX kz (Kb C g2)⟩;rw[hβ];(have J:G.χ (G.β s) o≠0:=by grind [BM]);simp only[Gh.callee];rw[if_neg J,kR s τ' rfl];grind [zA])|_=>simp[Ej,zA])|cons _ _=>grind [Ej,zA])|_=>simp[Ej,zA]
theorem I4 (T:Nat):5<=AM T:=by grind [AM]
theorem NO (s:Nat):4<=BM s:=by grind [BM]
def FK (G:Gh)(ys:List AVal)(b:Nat):Prop:=(G4 G.β b ys 0).isSome=true
structure Back (G:Gh) (w:World) (ys:List AVal) (G':Gh) (w':World):Prop where
 frame:Frame0 (G.callee ys).χ w G'.χ w'
 given:∀b,FK G ys b->(∀o,4<=G.χ b o)/\∃i,∀o,G'.χ b o=BM i
theorem Back.old{G':Gh}{w':World}(h:Back G w ys G' w'){o:Nat}(hb:b<w.heap.size):G'.χ b o<=1\/∃i,G'.χ b o=BM i:=by by_cases j:FK G ys b;obtain⟨_,i,C⟩:=h.given b j;grind;(have hle:(G.callee ys).χ b o<=1:=by grind [Gh.callee,FK]);exact .inl (by rw[(h.frame.cell b o hb hle).1];grind)
theorem Back.prot{G':Gh}{w':World}(h:Back G w ys G' w')(D:Option Nat):∀b o,b<w'.heap.size->G'.χ b o=0->(G.back G' w.heap.size D).χ b o=0/\w'.cell? ⟨b,o,none⟩=w'.cell? ⟨b,o,none⟩:=by intro b o _ C;simp only[Gh.back];by_cases hb:b<w.heap.size;by_cases j:FK G ys b;obtain⟨_,i,I⟩:=h.given b j;grind [absurd,Hw];(have hle:(G.callee ys).χ b o<=1:=by grind [Gh.callee,FK]);have J:=(h.frame.cell b o hb hle).1;grind [Gh.callee,FK];grind
theorem Back.orep{G':Gh}{w':World}(h:Back G w ys G' w')(hT:T<4){t:Ty}{l:List t.den}(j:BQ G' w' t l T m v):BQ (G.back G' w.heap.size (some d)) w' t l (T*100000+d) m v:=by (have hγ:(G.back G' w.heap.size (some d)).γ (T*100000+d)=G'.γ T:=by simp only[Gh.back];all_goals grind);refine zW (λj=>⟨j.1,?_⟩) hγ rfl (h.prot (some d)) (λ_ I o=>?_) j;rotate_left;(have gx:¬G'.γ T<w.heap.size:=by intro hb;rcases h.old (o:=0) hb with C|⟨i,C⟩;all_goals grind [I4,CK]);grind [Gh.back,AM];rcases j.2 with J|⟨cap,cur,e,us,J,h2,R,h4,h5,h6,h7,h8⟩;grind;(have gx:¬G'.γ T<w.heap.size:=by intro hb;rcases h.old (o:=l.length*t.size) hb with C|⟨i,C⟩;all_goals grind [I4,CK]);refine .inr ⟨cap,cur,e,us,by grind,by grind,R,h4,h5,Fg (λ_ _ I=>CX (h.prot (some d)) I) h6,h7,λo=>?_⟩;grind [Gh.back,AM]
theorem Back.trep{G':Gh}{w':World}(h:Back G w ys G' w'):∀{A:AVal}{τ:Ty}{vs:List Value},EI A->AF G' w' τ A vs->AF (G.back G' w.heap.size (some d)) w' τ (A.tagTo d) vs:=by intro A;induction A with|val τ' x=>intro τ vs _ ht;exact⟨ht.1,ht.2.1,CX (h.prot (some d)) ht.2.2⟩|nil=>grind [AVal.tagTo,AF]|own t l T m=>intro τ vs j ht;have j:T<4:=jR j;obtain⟨C,v,I,J⟩:=ht;exact⟨C,v,I,h.orep j J⟩|agg f b R=>grind [EI,AVal.tagTo,AF]|nl=>grind [AVal.tagTo,AF]|junk=>grind [AVal.tagTo,AF]|cons x y kZ kV=>grind [EI,AVal.tagTo,AF]|_=>grind [AF]
theorem Back.arep{G':Gh}{w':World}(h:Back G w ys G' w'):∀{A:AVal}{v:Value},EI A->zA G' w' #[] none A v->zA (G.back G' w.heap.size (some d)) w' tm none (A.tagTo d) v:=by intro A;induction A with|junk=>grind [AVal.tagTo,zA]|val τ' x=>intro v _ ht;exact Gz (h.prot (some d)) ht|nil=>grind [AVal.tagTo,zA]|own t l T m=>intro v j ht;have j:T<4:=jR j;exact h.orep j ht|agg f b _=>intro v j ht;obtain⟨vs,C,I⟩:=ht;exact⟨vs,C,h.trep j I⟩|nl=>grind [AVal.tagTo,zA]|cons x y kZ kV=>grind [EI,AVal.tagTo,zA]|tup b J=>grind [EI,AVal.tagTo,zA]|_=>grind [EI]
variable {gtab:GlobTab}{P:Program}{c:Ctx}{G:Gh}{w:World}{tm:Array Value}{n:Nat}{χ0:Nat->Nat->Nat}{w0:World}{S:St}{a:Act}
variable {f:Nat}{args:List AVal}{co:CallOut}
theorem zO7:∀{fns:List (Nat×Spec)},Pq fns f args=some co->∃sp,(f,sp)∈fns/\sp args=some co:=by
 intro fns
 induction fns<;>grind [Pq,Nat.beq,jC]
theorem yF4:∀{outs:List (Nat×AVal)}{u:St},SA ys args outs=some u ->
  (∀i k,(i,k)∈outs->∃s τ j,ys[i]?=some (.ref s τ [])/\args[i]?=some (.box τ j)/\(s,.box τ k)∈u) /\
  (∀e∈u,∃i k s τ j,(i,k)∈outs/\ys[i]?=some (.ref s τ [])/\args[i]?=some (.box τ j)/\e=(s,.box τ k)/\S9 k):=by
 intro outs
 induction outs with
 |nil=>grind [SA,jA]
 |cons q r I =>
  intro u h;obtain⟨i,k⟩:=q;simp only[SA] at h;split at h
  ·rename_i s τ τ' j u' J R h3;cases hb:(Ty.beq τ' τ&&AVal.fits τ k&&S9 k) with
   |false=>grind
   |true =>
    simp[hb] at h;subst h;simp  at hb;have e:=Ty.eq_of_beq hb.1.1;subst e;obtain⟨g1,g2⟩:=I h3;constructor
    ·grind
    ·intro e he;rcases mem_cons.1 he with he|he
     ·exact⟨i,k,s,τ',j,by simp,J,R,he,hb.2⟩
     ·obtain⟨i',k',s',τ'',C,q1,q2,q3,q4⟩:=g2 e he;exact⟨i',k',s',τ'',C,by simp[q1],q2,q3,q4⟩
  grind
theorem yF5{outs:List (Nat×AVal)}:∀{args:List AVal}{j i:Nat}{τ:Ty}{C:AVal},LV outs j args->args[i]?=some (.box τ C)->∃k,(j+i,k)∈outs:=by
 intro args
 induction args with
 |nil=>grind
 |cons A r J =>
  intro j i τ C I h;simp[LV] at I;cases i<;>grind [List.getElem?_cons_zero,Ft]
theorem zO8:∀{ys args:List AVal}{i s:Nat}{τ:Ty}{A:AVal},JV ys args->ys[i]?=some (.ref s τ [])->args[i]?=some A->Ft A:=by
 intro ys
 induction ys with
 |nil=>grind
 |cons y r j =>
  intro args i s τ A C I J;cases args with
  |nil=>grind
  |cons B l =>
   have qt:JV r l:=by
    cases y with
    |ref R τ' p=>cases p<;>simp_all [JV]
    |_=>grind [JV]
   grind [List.getElem?_cons_zero,JV]
theorem yA{f:α->β->γ}{xs:List α}{ys:List β}{z:γ}(h:(zipWith f xs ys)[i]?=some z):∃x y,xs[i]?=some x/\ys[i]?=some y/\z=f x y:=by
 grind
theorem xC6{f:α->β->γ}{xs:List α}{ys:List β}{x:α}{y:β}(j:xs[i]?=some x)(C:ys[i]?=some y):(zipWith f xs ys)[i]?=some (f x y):=by
 grind
theorem P2{R:α->β->Prop}:∀{xs:List α}{ys:List β}{i:Nat}{x:α}{y:β},C2 R xs ys->xs[i]?=some x->ys[i]?=some y->R x y:=by
 intro xs
 induction xs with
 |nil=>grind
 |cons a r j =>
  intro ys i x y h C I;cases ys<;>grind [C2,List.getElem?_cons_zero,jA]
theorem xC7{Y k:AVal}(h:Ej Y k=.box τ A):∃s j,Y=.ref s τ []/\k=.box τ j:=by
 cases Y with
 |ref s τ' p =>
  cases p with
  |nil =>
   cases k with
   |box τ'' j =>
    simp only[Ej] at h;cases hb:Ty.beq τ'' τ' with
    |false=>grind
    |true =>
     have e:=Ty.eq_of_beq hb;subst e;split at h
     all_goals simp_all
   |_=>grind [Ej]
  |cons _ _=>grind [Ej]
 |own t l T m=>grind [Ej]
 |agg f b=>grind [Ej]
 |fn f cs=>grind [Ej]
 |_=>grind [Ej]
theorem yJ1:∀{A:AVal}{os:Option Nat},(∀d,dst=some d->∀j,j<4->A.hasTag (j*100000+d)=false)->(∀s,os=some s->St.has s u=false) ->
  ¬A.names (λx=>(∃s,x=BM s/\St.has s u=true)\/∃d j,dst=some d/\j<4/\x=AM (j*100000+d)) (λx=>∃d j,dst=some d/\j<4/\x=AM (j*100000+d)) os:=by
 intro A
 induction A with
 |own t l T m =>
  intro os ht _;rintro (⟨s,e,_⟩ | ⟨d,j,J,I,e⟩)
  ·grind [CK]
  ·have:=CL e;have:=ht d J j I;simp_all [AVal.hasTag]
 |eref s T t i p =>
  intro os ht _;rintro⟨d,j,J,I,e⟩;have:=CL e;have:=ht d J j I;simp_all [AVal.hasTag]
 |ref s τ p=>grind [AVal.names,CK]
 |opt _ _ _ A C=>intro os ht _;exact C ht (λs e=>by grind)
 |box τ b C =>
  intro os ht hs;cases os with
  |none=>exact C ht (λs e=>by grind)
  |some s =>
   simp only[AVal.names,not_or];refine⟨⟨?_,?_⟩,C ht (λs e=>by grind)⟩
   all_goals grind [Kc,CK]
 |cons x y kZ kV =>
  grind [AVal.names,AVal.hasTag]
 |agg f b C=>intro os ht _;exact C ht (λs e=>by grind)
 |tup b C=>intro os ht _;exact C ht (λs e=>by grind)
 |fn f b C=>intro os ht _;exact C ht (λs e=>by grind)
 |raw =>
  intro os _ hs;cases os<;>grind [AVal.names,Kc,CK]
 |ownh t l T i U m =>
  intro os ht _;simp only[AVal.names,not_or];refine⟨⟨λ⟨s,e,_⟩=>CK _ _ e.symm,λ⟨d,j,R,I,e⟩=>?_⟩,λ⟨s,e,_⟩=>CK _ _ e.symm,λ⟨d,j,R,I,e⟩=>?_⟩
  ·have h:=ht d R j I;have:=CL e;simp_all [AVal.hasTag]
  ·have h:=ht d R j I;have:=CL e;simp_all [AVal.hasTag]
 |rref s=>intro os _ _;rintro⟨d,j,_,_,e⟩;grind [CK]
 |fptr f caps=>intro os _ _;rintro⟨k,τ,_,d,j,_,_,e⟩;grind [CK]
 |_=>simp[AVal.names]
theorem yQ6(hR:Rel n χ0 w0 S a w G){sp:Spec}(hsp:SpecOk P f sp)(gC:C2 (zA G w a.tmps none) ys us)
  (nv:sp (zipWith Ej ys (ys.map (C6 S)))=some co) (kf:∀q∈co.ok,q) (hcov:LV co.outs 0 (zipWith Ej ys (ys.map (C6 S)))=true) (gk:LW ys=true)
  (hall:JV ys (zipWith Ej ys (ys.map (C6 S)))=true) (gW:SA ys (zipWith Ej ys (ys.map (C6 S))) co.outs=some u) :
  Calls P f us.toArray w λe w'=>∃v G',e=.returned v/\Back G w ys G' w'/\zA G' w' #[] none co.res v /\
   (∀b,FK G ys b->∃s,St.has s u/\∀o,G.χ b o=BM s) /\
   ∀e∈u,∃s τ k,e=(s,.box τ k)/\S9 k/\(∃i,G'.β i=G.β s/\zA G' w' #[] (some i) (.box τ k) (a.tmps.getD s undef))/\(∀o,G.χ (G.β s) o=BM s)/\G.β s<w.heap.size:=by
 have hlen:us.length=(zipWith Ej ys (ys.map (C6 S))).length:=by grind [NJ]
 have hysl:=NJ gC;have Hu:∀(i:Nat) s τ,ys[i]?=some (.ref s τ [])->∃k',S.get s=.box τ k'/\(∀o,G.χ (G.β s) o=BM s)/\G.β s<w.heap.size/\us[i]?=some (a.tmps.getD s undef)/\∃I,(zipWith Ej ys (ys.map (C6 S)))[i]?=some (.box τ I):=by
  intro i s τ C;have J:(ys.map (C6 S))[i]?=some (S.get s):=by grind [C6]
  have hz:=xC6 (f:=Ej) C J;have hb:=zO8 hall C hz;obtain⟨τ',I,iM⟩:∃τ' I,Ej (.ref s τ []) (S.get s)=.box τ' I:=by
   cases hh:Ej (.ref s τ []) (S.get s)<;>simp_all [Ft]
  obtain⟨s',k',e1,e2⟩:=xC7 iM;injection e1 with e1 e3 _
  subst e3;have hr:=hR.reps s;rw[e2] at hr;obtain⟨km,cur,e,g1,g2,g3⟩:=NG hr
  grind [List.getElem?_eq_some_iff,jL,P2,zA,EZ,Ty.poff]
 have kR:∀(i:Nat) s τ,ys[i]?=some (.ref s τ [])->G4 G.β (G.β s) ys 0=some i:=by
  intro i s τ C;have:=xC4 (β:=G.β) (i:=0) C (λj s' τ' hj qu e=>by
   obtain⟨_,_,c1,_⟩:=Hu i s τ C;have h1:=c1 0
   grind [yU5,Kc])
  grind
 refine ((hsp.2 _ co nv kf (G.callee ys) w us hlen (NA (λb o _ h=>⟨by grind [Gh.callee],rfl⟩) hR.glob) (λi A v hA hv=>?_)).mono ?_)
 ·obtain⟨Y,k,hY,J,rfl⟩:=yA hA;exact xC5 (kv:=match zD Y with|some s=>a.tmps.getD s undef|none=>undef) hY (P2 gC hY hv) (λs hs=>by grind [NL]) (λs τ e=>by grind)
 ·rintro e w' ⟨v,G',rfl,hfr,kY,qb⟩;have uf:∀(i:Nat) s τ,ys[i]?=some (.ref s τ [])->G'.β i=G.β s/\∃k,(i,k)∈co.outs/\zA G' w' #[] (some i) (.box τ k) (a.tmps.getD s undef):=by
   intro i s τ C;obtain⟨k',e2,g3,g4,hv,I,hz⟩:=Hu i s τ C;obtain⟨k,J⟩:=yF5 hcov hz;rw[zero_add] at J;obtain⟨h1,h2⟩:=(qb i k _ _ J hz hv).1 τ I rfl;exact⟨by rw[h2];simp[Gh.callee,C],k,J,h1⟩
  refine⟨v,G',rfl,⟨hfr,λb hb=>?_⟩,kY,λb hb=>?_,λe he=>?_⟩
  ·simp[FK,Option.isSome_iff_exists] at hb;obtain⟨i,hi⟩:=hb;obtain⟨s,τ,_,C,rfl⟩:=zZ9 hi;obtain⟨_,_,g3,_⟩:=Hu i s τ C;obtain⟨h1,k,_,h2⟩:=uf i s τ C;obtain⟨_,cur,e,R,q2,q3⟩:=NG h2;exact⟨λo=>by rw[g3];exact NO s,i,λo=>by rw[<-h1];exact q3 o⟩
  ·simp[FK,Option.isSome_iff_exists] at hb;obtain⟨i,hi⟩:=hb;obtain⟨s,τ,_,C,rfl⟩:=zZ9 hi;simp  at C;obtain⟨_,_,g3,_⟩:=Hu i s τ C;obtain⟨_,k,J,_⟩:=uf i s τ C;obtain⟨s',τ',I,R,q2,q3⟩:=(yF4 gW).1 i k J;rw[C] at R;injection R with R
   injection R with R q4 _
   subst R;exact⟨s,any_eq_true.2 ⟨_,q3,by simp⟩,g3⟩
  ·obtain⟨i,k,s,τ,I,hm,C,hz,rfl,hvk⟩:=(yF4 gW).2 e he;obtain⟨k',e2,g3,g4,hv,_,_⟩:=Hu i s τ C;obtain⟨h1,h2⟩:=(qb i k _ _ hm hz hv).1 τ I rfl;have h3:G'.β i=G.β s:=by rw[h2];simp[Gh.callee,C]
   exact⟨s,τ,k,rfl,hvk,⟨i,h3,h1⟩,g3,g4⟩
variable {gtab:GlobTab}{P:Program}{c:Ctx}{G:Gh}{w:World}{tm:Array Value}{n:Nat}{χ0:Nat->Nat->Nat}{w0:World}{S:St}{a:Act}
theorem yF6{o:Nat}(h:¬FK G ys b):(G.callee ys).χ b o<=1:=by
 grind [Gh.callee,FK]
theorem yZ7{G':Gh}{w':World}(D:Option Nat)(h:Back G w ys G' w')(R:∀b,FK G ys b->∃s,St.has s u/\∀o,G.χ b o=BM s) :
  Ext (λx=>(∃s,x=BM s/\St.has s u=true)\/∃d j,D=some d/\j<4/\x=AM (j*100000+d)) (λx=>∃d j,D=some d/\j<4/\x=AM (j*100000+d)) G w (G.back G' w.heap.size D) w':=by
 refine⟨λb o hb h0=>?_,λb hb hX=>?_,h.frame.size,λs _=>rfl,λT C=>?_,λ_ h=>.inr h⟩
 ·refine⟨by simp_all [Gh.back],?_⟩;exact (h.frame.cell b o hb (by grind [Gh.callee])).2
 ·have I:¬FK G ys b:=by
   intro J;obtain⟨s,h1,h2⟩:=R b J;simp_all
  exact⟨h.frame.block b hb (λo=>yF6 I),λo=>by simp_all [Gh.back]⟩
 ·simp only[Gh.back];cases D with
  |none=>rfl
  |some d =>
   simp only;rw[if_neg (λe=>C ⟨d,0,rfl,by omega,by grind⟩),if_neg (λe=>C ⟨d,1,rfl,by omega,by rw[e]⟩),if_neg (λe=>C ⟨d,2,rfl,by omega,by rw[e]⟩),if_neg (λe=>C ⟨d,3,rfl,by omega,by rw[e]⟩)]
theorem yJ2(j:Frame0 χ0 w0 G.χ w){G':Gh}{w':World}(D:Option Nat)(h:Back G w ys G' w')(hg:∀b,FK G ys b->∃s,St.has s u/\∀o,G.χ b o=BM s) :
  Frame0 χ0 w0 (G.back G' w.heap.size D).χ w':=by
 refine⟨h.frame.os.trans j.os,h.frame.tape.trans j.tape,h.frame.output.trans j.output,le_trans j.size h.frame.size,λb hb J=>?_,λb o hb J=>?_⟩
 ·have C:=lt_of_lt_of_le hb j.size;have I:¬FK G ys b:=by
   have R:=(j.cell b 0 hb (J 0)).1
   grind [NO]
  rw[h.frame.block b C (λo=>yF6 I)];exact j.block b hb J
 ·have C:=lt_of_lt_of_le hb j.size;have R:=j.cell b o hb J;refine⟨by grind [Gh.back],?_⟩;have I:¬FK G ys b:=by
   grind [NO]
  rw[(h.frame.cell b o C (yF6 I)).2]
  grind
def Ew (dst:Option Nat)(res:AVal)(u:St):St:=
 match dst with
 |some d=>(d,res.tagTo d)::u
 |none=>u
theorem yM7(hR:Rel n χ0 w0 S a w G)(hn:n<=BP){G':Gh}{w':World}{res:AVal}(h:Back G w ys G' w')(kY:zA G' w' #[] none res v)(hro:EI res=true)
  (hg:∀b,FK G ys b->∃s,St.has s u/\∀o,G.χ b o=BM s)
  (hu:∀e∈u,∃s τ k,e=(s,.box τ k)/\S9 k/\(∃i,G'.β i=G.β s/\zA G' w' #[] (some i) (.box τ k) (a.tmps.getD s undef))/\(∀o,G.χ (G.β s) o=BM s)/\G.β s<w.heap.size)
  (I:∀e∈(Ew dst res u),e.1<n) (ud:∀s d,dst=some d->(S.get s).hung d=false)
  (gM:∀d,dst=some d->∀s j,j<4->(S.get s).hasTag (j*100000+d)=false) :
  Rel n χ0 w0 ((Ew dst res u)++S) (a.put dst v) w' (G.back G' w.heap.size dst):=by
 have nw:∀s,St.has s (Ew dst res u)=false->St.has s u=false:=by
  intro s C;cases dst with
  |none=>exact C
  |some d=>simp only[Ew,St.has,any_cons,jJ] at C;exact C.2
 have qv:∀e∈(Ew dst res u),e.1≠BP:=λe he=>by grind
 have hmemU:∀e∈u,e.1<n:=by
  cases dst<;>grind [Ew]
 have J:∀e∈u,e.1≠BP:=λe he=>by grind
 refine Hd hR hn I (λd e=>by simp_all [St.has,Ew]) (yZ7 dst h hg) (λhX=>hX.elim (λ⟨s,e,_⟩=>Hw s e) (λ⟨d,j,_,_,e⟩=>DG _ e)) (yJ2 hR.frame dst h hg)
  (λs C=>yJ1 (λd R j hj=>gM d R s j hj) (λs' e=>by grind)) (λs d e _=>ud s d e) (λs C=>?_)
 have Hu:∀s,St.has s u->(∀d,dst=some d->s≠d)->zA (G.back G' w.heap.size dst) w' (a.put dst v).tmps (some s) (u.get s) ((a.put dst v).tmps.getD s undef):=by
  intro s C kh;have hm:=p8 C J;obtain⟨s',τ,k,e,hvk,⟨i,hi,hb⟩,kg,nu⟩:=hu _ hm;injection e with e1 e2
  subst e1;rw[e2];have iA:(a.put dst v).tmps.getD s undef=a.tmps.getD s undef:=by
   cases dst with
   |none=>rfl
   |some d =>
    have R:d<a.tmps.size:=by rw[hR.len];exact I (d,res.tagTo d) (by simp[Ew])
    rw[Gn R,if_neg (kh d rfl)]
  rw[iA];obtain⟨h1,km,cur,e,h2,h3,h4⟩:=hb;refine⟨by rw[hi] at h1;exact h1,km,cur,e,by rw[hi] at h2;exact h2,?_,λo=>?_⟩
  ·cases k with
   |val τ' x=>exact⟨h3.1,h3.2.1,CX (h.prot dst) h3.2.2⟩
   |_=>simp[S9] at hvk
  ·simp only[Gh.back];rw[if_pos nu];exact kg o
 cases dst with
 |none=>exact Hu s C (λd e=>by grind)
 |some d =>
  have R:d<a.tmps.size:=by rw[hR.len];exact I (d,res.tagTo d) (by simp[Ew])
  simp only[Ew] at C ⊢;by_cases e:s=d
  ·subst e;have:St.get ((s,res.tagTo s)::u) s=res.tagTo s:=by simp[St.get]
   rw[this,Gn R,if_pos rfl];refine zO (tm:=(a.put (some s) v).tmps) (λk hk=>rfl) (Pt (h.arep hro kY))
  ·have qu:St.has s u:=by
    simp only[St.has,any_cons,or_eq_true] at C;rcases C with C|C
    ·exact absurd (jC C).symm e
    ·exact C
   have gq:St.get ((d,res.tagTo d)::u) s=u.get s:=by
    have h1:Nat.beq d s=false:=by grind [Nat.beq,absurd,jC]
    have h2:Nat.beq d BP=false:=by cases hb:Nat.beq d BP with
     |false=>rfl
     |true=>exact absurd (jC hb) (qv (d,res.tagTo d) (by simp[Ew]))
    simp[St.get,h1,h2]
   grind
variable {gtab:GlobTab}{P:Program}{c:Ctx}{G:Gh}{w:World}{tm:Array Value}{n:Nat}{χ0:Nat->Nat->Nat}{w0:World}{S:St}{a:Act}
structure CtxOk [GlobTab] (P:Program) (c:Ctx):Prop where
 tys:ED P c.tys=true
 fns:∀f sp,(f,sp)∈c.fns->SpecOk P f sp
 exts:∀f e,(f,e)∈c.exts->P1 P f e
 maps:Jy P c.maps=true
 fts:yP P c.fts=true
 n:c.n<=BP
 clones:∀f k,(f,k)∈c.clones->xJ6 P f k
def J0 (tm:Array Value)(gd:Gd):Prop:=∀s want g,gd=some (s,want,g)->(tm.getD s undef=.bool want↔g=true)
theorem xC8(C:Rel n χ0 w0 S a w G){dsts:List (Option Nat)}{g0:Option (Nat×Bool)}(h:Lh dsts S g0=some gd):J0 a.tmps gd:=by
 intro s want g e;subst e;cases g0 with
 |none=>grind [Lh]
 |some q =>
  simp only[Lh] at h;split at h
  ·rename_i I J;split at h
   ·have j:=C.reps I
    grind [zA,VRep_bool]
   ·rename_i s2 R g2 b hb;simp  at h;obtain⟨rfl,rfl,rfl⟩:=h;have j:=C.reps I;rw[hb] at j;cases g2 with
    |true=>rw[VRep_bool.1 (j.2.1 rfl)];grind
    |false=>rw[j.2.2 rfl];simp[undef]
   grind
  grind
theorem WW(j:J0 tm gd)(gf:Gm tm gd)(h:zA G w tm none A v):zA G w tm none (EB gd A) v:=by
 cases gd with
 |none=>exact h
 |some q =>
  obtain⟨s,want,g⟩:=q;have C:g:=(j s want g rfl).1 (gf s want g rfl);exact⟨j s want g rfl,λ_=>h,λe=>by grind⟩
theorem WX(j:J0 tm gd)(gf:Gm tm gd){l:List Prop}(h:∀q∈N4 gd l,q):∀q∈l,q:=by
 cases gd with
 |none=>exact h
 |some q =>
  obtain⟨s,want,g⟩:=q;intro q I;have C:g:=(j s want g rfl).1 (gf s want g rfl);exact h (g->q) (by simp_all [N4]) C
variable {want:Bool}
theorem yM8(j:Rel n χ0 w0 S a w G)(C:n<=BP){g:Bool}(I:J0 a.tmps (some (s,want,g)))(iB:a.tmps.getD s undef≠.bool want)(J:d<n)(R:∀s,(S.get s).hung d=false)(hA:(AVal.opt s want g A).hung d=false) :
  Rel n χ0 w0 ([(d,.opt s want g A)]++S) (a.put (some d) undef) w G:=by
 refine WV j C J R hA ?_;simp only[zA];have hg:g=false:=by
  cases g with
  |false=>rfl
  |true=>exact absurd ((I s want true rfl).2 rfl) iB
 simp_all
theorem yF7(gf:Gm tm gd){x:Operand}{ac:Act}(iA:ac.tmps=tm)(hb:ac.eval x=.bool want)(h:zA G w tm none A v):zA G w tm none (SC gd x want A) v:=by
 cases A with
 |opt s w' g A =>
  cases x with
  |tmp cc =>
   simp only[SC];cases j:(Nat.beq s cc&&(w'==want)) with
   |false=>grind [WU]
   |true =>
    simp_all [zA,Act.eval]
  |_=>grind [SC,WU]
 |_=>grind [SC]
variable {gtab:GlobTab}{P:Program}{c:Ctx}{G:Gh}{w:World}{tm:Array Value}{n:Nat}{χ0:Nat->Nat->Nat}{w0:World}{S:St}{a:Act}
structure MapOk (Bad:Nat->Prop) (G:Gh) (w:World) (G':Gh) (w':World) (g:(t:Ty)->List t.den->Nat->Bool->AVal) (h:Nat->Nat->Ty->Int->yI->AVal):Prop where
 prot:∀b o,b<w.heap.size->G.χ b o=0->G'.χ b o=0/\w'.cell? ⟨b,o,none⟩=w.cell? ⟨b,o,none⟩
 ref:∀s,G'.β s=G.β s
 box:∀s,(∀o,G.χ (G.β s) o=BM s)->G.β s<w.heap.size->w'.heap[G.β s]?=w.heap[G.β s]?/\∀o,G'.χ (G.β s) o=BM s
 own1:∀t l T m v,¬Bad T->BQ G w t l T m v->(g t l T m).fitsT (.sl t)->AF G' w' (.sl t) (g t l T m) [v]
 own2:∀t l T m v,¬Bad T->BQ G w t l T m v->∀tm,zA G' w' tm none (g t l T m) v
 eref:∀s T t i p v,¬Bad T->∀tm,zA G w tm none (.eref s T t i p) v->zA G' w' tm none (h s T t i p) v
variable {Bad:Nat->Prop}{G':Gh}{w':World}{g:(t:Ty)->List t.den->Nat->Bool->AVal}{h:Nat->Nat->Ty->Int->yI->AVal}
theorem xK1{t:Ty}(h:A.laxT (.sl t)):A.fitsT (.sl t)=true\/A=.junk:=by cases A with|junk=>simp_all|val τ' y=>exact .inl h|nil=>exact .inl h|own t l T m=>exact .inl h|nl=>exact .inl h|agg f c=>grind [AVal.laxT,Ty.beq]|cons a b=>grind [AVal.laxT,GU]|_=>grind [AVal.laxT]
theorem MapOk.trep (H:MapOk Bad G w G' w' g h):∀{A:AVal}{τ:Ty}{vs:List Value},(∀T,Bad T->A.hasTag T=false)->AF G w τ A vs->(A.mapOwn g h).laxT τ->AF G' w' τ (A.mapOwn g h) vs:=by intro A;induction A with|val τ' x=>intro τ vs _ ht _;exact⟨ht.1,ht.2.1,CX H.prot ht.2.2⟩|nil=>grind [AVal.mapOwn,AF]|own t l T m=>intro τ vs hb ht j;obtain⟨rfl,v,rfl,I⟩:=ht;rcases xK1 j with C|C;exact H.own1 t l T m v (λJ=>by have:=hb T J;simp_all [AVal.hasTag]) I C;rw[C];exact⟨rfl,v,rfl,SX (G:=G) (w:=w) (A:=.own t l T m) (τ:=.sl t) (vs:=[v]) (by grind [AF]) v (jH.2 rfl)⟩|agg f b R=>intro τ vs hb ht j;obtain⟨rfl,ht⟩:=ht;simp only[AVal.mapOwn] at j ⊢;(cases hc:(b.mapOwn g h).laxT f with|false=>grind [AVal.laxT,Ty.isSl]|true=>simp only[jE,AF];exact⟨trivial,R hb ht hc⟩)|nl=>grind [AVal.mapOwn,AF]|junk=>grind [AVal.mapOwn,AF]|cons x y kZ kV=>intro τ vs hb ht j;obtain⟨C,t1,us,ws,rfl,rfl,h2,h3⟩:=ht;simp[AVal.mapOwn,AVal.laxT,GU] at j;exact⟨C,t1,us,ws,rfl,rfl,kZ (λT hT=>by grind [AVal.hasTag,jJ]) h2 j.1,kV (λT hT=>by grind [AVal.hasTag,jJ]) h3 j.2⟩|_=>grind [AF]
theorem MapOk.arep (H:MapOk Bad G w G' w' g h):∀{A:AVal}{os:Option Nat}{v:Value},(∀T,Bad T->A.hasTag T=false)->zA G w tm os A v->zA G' w' tm os (A.mapOwn g h) v:=by intro A;induction A with|junk=>intro os v _ _;simp only[AVal.mapOwn,zA]|val τ x=>intro os v _ j;simp only[AVal.mapOwn,zA] at j ⊢;exact Gz H.prot j|nil=>intro os v _ j;simp only[AVal.mapOwn,zA] at j ⊢;exact j|nn b=>intro os v _ j;simp only[AVal.mapOwn,zA] at j ⊢;exact j|own t l T m=>intro os v hb j;simp only[zA] at j;simp only[AVal.mapOwn];exact Pt (H.own2 t l T m v (λhB=>by have:=hb T hB;simp[AVal.hasTag] at this) j tm)|eref s T t i p=>intro os v hb j;simp only[AVal.mapOwn];exact Pt (H.eref s T t i p v (λhB=>by have:=hb T hB;simp[AVal.hasTag] at this) tm (SS j (λτ c=>by simp) (by simp)))|opt s' want gg A J=>intro os v hb j;simp only[AVal.mapOwn,zA] at j ⊢;exact⟨j.1,λe=>J hb (j.2.1 e),j.2.2⟩|box τ b J=>intro os v hb j;simp only[AVal.mapOwn];(cases os with|none=>simp only[zA] at j|some s=>cases hc:(b.mapOwn g h).laxT τ with|false=>simp only[jD,zA]|true=>simp only[jE];simp only[zA] at j ⊢;obtain⟨I,km,cur,e,C,R,h4⟩:=j;obtain⟨q1,q2⟩:=H.box s h4 (EZ C);exact⟨by rw[H.ref];exact I,km,cur,e,by rw[H.ref,q1];exact C,H.trep hb R hc,λo=>by rw[H.ref];exact q2 o⟩)|ref s' τ p=>intro os v _ j;simp only[AVal.mapOwn,zA] at j ⊢;rw[H.ref];exact j|agg f b _=>intro os v hb j;simp only[AVal.mapOwn];(cases hc:(b.mapOwn g h).laxT f with|false=>simp only[jD,zA]|true=>simp only[jE];simp only[zA] at j ⊢;obtain⟨vs,I,C⟩:=j;exact⟨vs,I,H.trep hb C hc⟩)|nl=>intro os v _ j;simp only[AVal.mapOwn,zA] at j ⊢;exact j|cons x y kZ kV=>intro os v hb j;simp only[AVal.mapOwn,zA] at j ⊢;obtain⟨u,us,I,C,R⟩:=j;exact⟨u,us,I,kZ (λT hT=>by have:=hb T hT;simp only[AVal.hasTag,jJ] at this;exact this.1) C,kV (λT hT=>by have:=hb T hT;simp only[AVal.hasTag,jJ] at this;exact this.2) R⟩|tup b J=>intro os v hb j;simp only[AVal.mapOwn,zA] at j ⊢;exact J hb j|fn f b J=>intro os v hb j;simp only[AVal.mapOwn,zA] at j ⊢;obtain⟨vs,I,C⟩:=j;exact⟨vs,I,J hb C⟩|raw=>intro os v _ j;simp only[AVal.mapOwn];(cases os with|none=>simp only[zA] at j|some s=>simp only[zA] at j ⊢;obtain⟨I,u,e,C,h4⟩:=j;obtain⟨q1,q2⟩:=H.box s h4 (EZ C);exact⟨by rw[H.ref];exact I,u,e,by rw[H.ref,q1];exact C,λo=>by rw[H.ref];exact q2 o⟩)|rref s'=>intro os v _ j;simp only[AVal.mapOwn,zA] at j ⊢;rw[H.ref];exact j|ownh t l T i U m=>intro os v _ _;simp only[AVal.mapOwn,zA]|fptr f caps=>intro os v _ j;simp only[AVal.mapOwn,zA] at j ⊢;obtain⟨b,I,C,R⟩:=j;(have hb:b<w.heap.size:=by by_cases hb:b<w.heap.size;exact hb;have:w.heap[b]?=none:=Array.getElem?_eq_none (by omega);simp[cell?,this] at R);obtain⟨h4,h5⟩:=H.prot b 0 hb C;refine⟨b,I,h4,?_⟩;rw[h5,R];congr 3;refine List.map_congr_left λq hq=>?_;cases q with|none=>rfl|some q=>obtain⟨k,τ⟩:=q;simp only[Ie];rw[H.ref]
theorem yF8:∀{A:AVal}{d:Nat},A.hung d=false->(∀t l T m,(g t l T m).hung d=false)->(∀s T t i p,(h s T t i p).hung d=false)->(A.mapOwn g h).hung d=false:=by intro A;induction A with|own t l T m=>grind [AVal.mapOwn]|eref s T t i p=>grind [AVal.mapOwn]|opt R want gg A j=>grind [AVal.hung,jJ,AVal.mapOwn]|box τ b _=>grind [AVal.mapOwn,AVal.hung]|agg f b _=>grind [AVal.mapOwn,AVal.hung]|cons x y kZ kV=>grind [AVal.hung,jJ,AVal.mapOwn]|tup b j=>intro d C I J;exact j C I J|fn f b j=>intro d C I J;exact j C I J|_=>intro d _ _ _;simp[AVal.mapOwn,AVal.hung]
theorem p9{k:AVal->AVal}:∀{R:St}{s:Nat},St.has s (CW T k S R)->(CW T k S R).get s=k (S.get s)/\(S.get s).hasTag T=true\/(∃e∈CW T k S R,e.1=BP):=by intro R;induction R with|nil=>grind [CW,St.has]|cons e r I=>intro s C;obtain⟨j,A⟩:=e;simp only[CW] at C ⊢;cases ht:(S.get j).hasTag T with|false=>grind|true=>simp at C ⊢;simp only[St.get];cases hb:Nat.beq j s with|true=>simp_all|false=>(have qu:St.has s (CW T k S r):=by grind [St.has]);cases ue:Nat.beq j BP with|true=>simp_all|false=>grind
theorem r0{k:AVal->AVal}:∀{R:St}{s:Nat},St.has s R->(S.get s).hasTag T->St.has s (CW T k S R):=by intro R;induction R with|nil=>grind [St.has]|cons e r C=>intro s j ht;obtain⟨I,A⟩:=e;simp only[CW];simp only[St.has,any_cons,or_eq_true] at j;cases ny:(S.get I).hasTag T with|false=>rcases j with j|j;grind [jC];exact C j ht|true=>simp only[jE,St.has,any_cons,or_eq_true];rcases j with j|j;grind;exact .inr (C j ht)
theorem P3:∀{S:St},(S.get s)≠.junk->St.has s S:=by intro S;induction S with|nil=>intro h;exact absurd rfl h|cons e r j=>intro h;obtain⟨k,A⟩:=e;simp only[St.get] at h;simp only[St.has,any_cons,or_eq_true];cases hb:Nat.beq k s with|true=>simp_all|false=>right;cases C:Nat.beq k BP with|true=>grind|false=>simp[hb,C] at h;exact j h
theorem WY(h:A.hasTag T):A≠.junk:=by grind [AVal.hasTag]
variable {gtab:GlobTab}{P:Program}{c:Ctx}{G:Gh}{w:World}{tm:Array Value}{n:Nat}{χ0:Nat->Nat->Nat}{w0:World}{S:St}{a:Act}
theorem yQ7:∀{A:AVal}{s:Option Nat},A.hasTag U=false->A.hasTag d=false->¬A.names (λx=>x=AM U\/x=AM d) (λx=>x=AM d) s:=by
 intro A
 induction A with
 |own t l T m=>intro s C j;simp[AVal.names];exact⟨λe=>by have:=CL e;simp_all [AVal.hasTag],λe=>by have:=CL e;simp_all [AVal.hasTag]⟩
 |ownh t l T i V m =>
  intro s C j;simp[AVal.hasTag] at C j;have key:∀K,Nat.beq U K=false->Nat.beq d K=false->¬(AM K=AM U\/AM K=AM d):=λK R k2 e=>by
   rcases e with e|e
   ·have:=CL e;simp_all
   ·have:=CL e;simp_all
  grind [AVal.names]
 |eref J T t i p=>intro s _ j;exact λe=>by have:=CL e;simp_all [AVal.hasTag]
 |ref J τ p=>grind [AVal.names,CK]
 |opt _ _ _ A I=>intro s C j;exact I C j
 |box τ b I =>
  intro s C j;cases s with
  |none=>exact I C j
  |some s=>simp[AVal.names];exact⟨⟨CK _ _,CK _ _⟩,I C j⟩
 |cons x y kZ kV=>grind [AVal.hasTag,AVal.names]
 |agg f b I=>intro s C j;exact I C j
 |tup b I=>intro s C j;exact I C j
 |fn f b I=>intro s C j;exact I C j
 |raw =>
  intro s _ _;cases s<;>grind [AVal.names,CK]
 |rref J=>grind [AVal.names,CK]
 |fptr f caps=>grind [AVal.names,CK]
 |_=>grind [AVal.names]
theorem Mc(h:BY T S)(s:Nat):(S.get s).hasTag T=false:=by
 have:=xK (p:=λA=>!(A.hasTag T)) (S:=S) (s:=s) (by simp[AVal.hasTag]) h
 grind
theorem yQ8(h:Ht d S)(s:Nat):(S.get s).hasRef d=false:=by
 have:=xK (p:=λA=>!(A.hasRef d)) (S:=S) (s:=s) (by simp[AVal.hasRef]) h
 grind
theorem xR7{G':Gh}{w':World}(j:Ext (λx=>x=AM U\/x=AM d) (λx=>x=AM d) G w G' w') :
  MapOk (λT=>T=d) G w G' w' (λt l T' m=>cond (Nat.beq U T') (cond m (.junk) (.val (.sl t) l)) (.own t l T' m)) (λs T' t i p=>cond (Nat.beq U T') (.junk) (.eref s T' t i p)):=by
 have R:¬((0:Nat)=AM U\/(0:Nat)=AM d):=by rintro (e|e);exact DG _ e;exact DG _ e
 refine⟨j.prot,λs=>j.box s (CK _ _),λs kg I=>?_,λt l T m v J C hf=>?_,λt l T m v J C tm=>?_,λs T t i p v J tm ha=>?_⟩
 ·have:=j.block _ I (λo=>by grind [CK])
  grind
 ·cases hb:Nat.beq U T with
  |true =>
   simp  at hf ⊢;cases m with
   |true=>grind [AVal.fitsT]
   |false=>simp only[jD,AF];exact⟨trivial,rfl,CX j.prot (G3 C)⟩
  |false =>
   simp only[jD,AF];refine⟨trivial,v,rfl,Hb j R ?_ C⟩;rintro (e|e)
   ·have:=CL e;simp_all
   grind [CL]
 ·cases hb:Nat.beq U T with
  |true =>
   cases m with
   |true=>simp[zA]
   |false=>exact Lo (CX j.prot (G3 C))
  |false =>
   refine Hb j R ?_ C;rintro (e|e)
   ·have:=CL e;simp_all
   grind [CL]
 ·cases hb:Nat.beq U T with
  |true=>simp[zA]
  |false =>
   simp[zA] at ha ⊢;rw[j.tag T (λe=>J (CL e))]
   grind
theorem xK2(h:A.hung d=false):(A.lose U).hung d=false:=by
 refine yF8 h (λt l T m=>?_) (λs T t i p=>?_)
 all_goals grind [AVal.hung]
theorem r7(C:Rel n χ0 w0 S a w G)(hn:n<=BP){R:AVal}{v':Value}{G':Gh}{w':World}(hd:BY d S=true)
  (J:Ext (λx=>x=AM U\/x=AM d) (λx=>x=AM d) G w G' w') (I:Frame0 χ0 w0 G'.χ w') (hr:∀tm,zA G' w' tm (some d) R v')
  (j:∀e∈(d,R)::CW U (AVal.lose U) S S,e.1<n) (hh:∀s,(S.get s).hung d=false) :
  Rel n χ0 w0 (((d,R)::CW U (AVal.lose U) S S)++S) (a.put (some d) v') w' G':=by
 have h0:¬((0:Nat)=AM U\/(0:Nat)=AM d):=by rintro (e|e);exact DG _ e;exact DG _ e
 have gP:d<a.tmps.size:=by rw[C.len];simp_all
 refine Hd C hn j (λd' e=>by simp_all [St.has]) J h0 I (λs hs=>?_) (λs d' e _=>by grind) (λs hs=>?_)
 ·refine yQ7 ?_ (Mc hd s);cases ht:(S.get s).hasTag U with
  |false=>rfl
  |true=>have:=r0 (k:=AVal.lose U) (P3 (WY ht)) ht;grind [St.has]
 ·by_cases e:s=d
  ·subst e;have:St.get ((s,R)::CW U (AVal.lose U) S S) s=R:=by simp[St.get]
   rw[this,Gn gP,if_pos rfl]
   grind
  ·have h1:Nat.beq d s=false:=by grind [Nat.beq,absurd,jC]
   have h2:Nat.beq d BP=false:=by cases hb:Nat.beq d BP with
    |false=>rfl
    |true=>have:=j (d,R) (by simp);grind [jC]
   have qu:St.has s (CW U (AVal.lose U) S S):=by grind [St.has]
   have gq:St.get ((d,R)::CW U (AVal.lose U) S S) s=AVal.lose U (S.get s):=by
    grind [St.get,p9]
   rw[gq,Gn gP,if_neg e];refine zO (tm:=a.tmps) (λk hk=>?_) ((xR7 J).arep (λT hT=>by grind [Mc]) (C.reps s));rw[Gn gP,if_neg]
   grind [xK2]
variable {gtab:GlobTab}{P:Program}{c:Ctx}{G:Gh}{w:World}{tm:Array Value}{n:Nat}{χ0:Nat->Nat->Nat}{w0:World}{S:St}{a:Act}
theorem xR8{c:List Value}{o m:Nat}(h:o+m<=k):seg (c.take k) o m=seg c o m:=by apply ext_getElem?;intro j;simp[seg_getElem?,List.getElem?_take];by_cases C:j<m;simp only[C,if_true];rw[if_pos (by omega)];grind
theorem yU6{c:List Value}{o:Nat}(h:o+us.length<=k)(I:k<=c.length):(spl c o us).take k=spl (c.take k) o us:=by apply ext_getElem?;intro j;rw[List.getElem?_take,spl_getElem? _ _ _ _ (by omega),spl_getElem? _ _ _ _ (by grind),List.getElem?_take];by_cases C:j<k;grind;rw[if_neg C,if_neg (by omega),if_neg C]
theorem yQ9{c:List Value}{o:Nat}(h:k<=o)(I:o+us.length<=c.length):(spl c o us).take k=c.take k:=by apply ext_getElem?;intro j;rw[List.getElem?_take,List.getElem?_take,spl_getElem? _ _ _ _ I];by_cases C:j<k;rw[if_pos C,if_pos C,if_neg (by omega)];simp_all [if_neg]
variable {v0:Value}
theorem xC9(hfr:Frame0 χ0 w0 G.χ w){t:Ty}(gH:t.isL=false){l:List t.den}{q:yI}{y:t.den}(ho:BQ G w t l U true v0)(hi:i<l.length)(hq:EC t q)(hv:AF G w (t.pty q) B us)(hy:AVal.as t (AVal.put q (.val t (l.getD i t.dflt)) B)=some y):(∃cur e,w.heap[G.γ U]?=some (.cells cur e (0,0))/\i*t.size+t.poff q+us.length<=cur.size)/\Frame0 χ0 w0 G.χ (w.setCells (G.γ U) (i*t.size+t.poff q) us)/\Ext (λx=>x=AM U) (λ_=>False) G w G (w.setCells (G.γ U) (i*t.size+t.poff q) us)/\MapOk (λ_=>False) G w G (w.setCells (G.γ U) (i*t.size+t.poff q) us) (λt' l T' m=>cond (Nat.beq U T') (match Ty.cast t' y with |some y'=>cond m (.own t' (l.set i y') T' m) (.junk)|none=>.junk) (.own t' l T' m)) (λs T' t i p=>.eref s T' t i p):=by obtain⟨⟨kT,gN⟩,ho⟩:=EO ho gH;rcases ho with ⟨_,rfl⟩ | ⟨cap,cur,e,uz,rfl,h2,h3,h4,h5,h6,h7,h8⟩;grind;(have kg:∀o,G.χ (G.γ U) o=AM U:=λo=>by simp_all);have iq:=Gy (k:=t.size) (λ_ _ h=>CO h) h6;have hg:=NH h6 hi;(have gj:i*t.size+t.size<=l.length*t.size:=by rw[<-succ_mul];exact jS _ (by omega));(have hlc:l.length*t.size<=cur.size:=by grind);(have I:AF G w t (.val t (l.getD i t.dflt)) (seg uz (i*t.size) t.size):=by simp_all [AF]);obtain⟨k1,k2,k3,k4⟩:=ND kT gN hq I;have gA:=zB hv;have j:=NF hy;have gx:=Kb hy (yZ1 kT gN hq I hv (Pv j));(have kl:i*t.size+t.poff q+us.length<=cur.size:=by omega);have C:Ext (λx=>x=AM U) (λ_=>False) G w G (w.setCells (G.γ U) (i*t.size+t.poff q) us):=WR (λo=>kg o) (DG U);obtain⟨cur',c1,c2⟩:=SZ (G.γ U) e (0,0) us (i*t.size+t.poff q) w cur h2 kl;(have kW:∀{l2:List t.den}{v2:Value},BQ G w t l2 U true v2->BQ G (w.setCells (G.γ U) (i*t.size+t.poff q) us) t (l2.set i y) U true v2:=by intro l2 v2 gD;have gD:=EO gD gH;refine .inl ⟨⟨kT,gN⟩,?_⟩;rcases gD.2 with ⟨rfl,rfl⟩ | ⟨cap2,cur2,e2,uz2,rfl,g2,g3,g4,g5,g6,g7,g8⟩;simp_all;rw[h2] at g2;injection g2 with g2;injection g2 with g2 g2e _;subst g2;have hul2:=Gy (k:=t.size) (λ_ _ h=>CO h) g6;by_cases hi2:i<l2.length;(have J:i*t.size+t.size<=l2.length*t.size:=by rw[<-succ_mul];exact jS _ (by omega));(have hsame:seg uz2 (i*t.size) t.size=seg uz (i*t.size) t.size:=by grind [xR8]);refine .inr ⟨cap2,cur',e,spl uz2 (i*t.size) (spl (seg uz2 (i*t.size) t.size) (t.poff q) us),by simp,c1,by grind,g4,?_,?_,?_,λo=>by simp_all⟩;grind [jN,zN];exact Fg (λ_ _ h=>CX C.prot h) (yL7 (R:=AP G.χ w t) (k:=t.size) (λ_ _ h=>CO h) (by grind) g6 hi2);grind [List.length_set,yU6,jN,WK];have J:l2.length*t.size<=i*t.size:=jS _ (by omega);rw[List.set_eq_of_length_le (by omega)];refine .inr ⟨cap2,cur',e,uz2,by simp,c1,g3,g4,?_,Fg (λ_ _ h=>CX C.prot h) g6,?_,λo=>by simp_all⟩;all_goals grind [jN,zN,yQ9]);refine⟨⟨cur,e,h2,kl⟩,WS hfr (λo=>by grind [I4]),C,C.prot,λs=>rfl,λs kr hlt=>?_,λt2 l2 T m v2 _ gD hf=>?_,λt2 l2 T m v2 _ gD tm=>?_,λs T t i p v _ tm ha=>ha⟩;have:=C.block _ hlt (λo=>by grind [CK]);grind;(cases hb:Nat.beq U T with|false=>simp only[jD,AF];exact⟨trivial,v2,rfl,Hb C (DG U) (λe=>by have:=CL e;subst this;simp at hb) gD⟩|true=>have:=jC hb;subst this;simp only[hb,jE] at hf ⊢;cases hc:Ty.cast t2 y with|none=>simp[hc,AVal.fitsT] at hf|some y'=>obtain⟨e',rfl⟩:=EE hc;subst e';cases m with|false=>simp[hc,AVal.fitsT] at hf|true=>simp only[jE,AF];exact⟨trivial,v2,rfl,kW gD⟩);cases hb:Nat.beq U T with|false=>simp only[jD,zA];exact Hb C (DG U) (λe=>by have:=CL e;subst this;simp at hb) gD|true=>have:=jC hb;subst this;simp only[jE];cases hc:Ty.cast t2 y with|none=>simp only[zA]|some y'=>obtain⟨e',rfl⟩:=EE hc;subst e';cases m with|false=>simp only[jD,zA]|true=>simp only[jE,zA];exact kW gD
variable {o':Obj}{es:Array MapEntry}{clock:Nat}
theorem xW5(C:∀o,G.χ (G.γ U) o=AM U)(hb:w.heap[G.γ U]?=some (.map es clock)):Ext (λx=>x=AM U) (λ_=>False) G w G { w with heap:=w.heap.setIfInBounds (G.γ U) o' }:=by have kh:∀j,j≠G.γ U->({ w with heap:=w.heap.setIfInBounds (G.γ U) o' }:World).heap[j]?=w.heap[j]?:=λj h=>(Go.MapKept.heap_set hb).2 j h;refine⟨λj o hb h=>⟨h,?_⟩,λj hb h=>⟨kh j ?_,λ_=>rfl⟩,by simp,λ_ _=>rfl,λ_ _=>rfl,λ_ h=>h.elim⟩;grind [DG,cell?];intro e;simp_all
theorem xK3(h:Frame0 χ0 w0 G.χ w)(I:∀o,G.χ (G.γ U) o=AM U)(hb:w.heap[G.γ U]?=some (.map es clock)):Frame0 χ0 w0 G.χ { w with heap:=w.heap.setIfInBounds (G.γ U) o' }:=by have kh:∀j,j≠G.γ U->({ w with heap:=w.heap.setIfInBounds (G.γ U) o' }:World).heap[j]?=w.heap[j]?:=λj h=>(Go.MapKept.heap_set hb).2 j h;(have ug:∀j o,j<w0.heap.size->χ0 j o<=1->j≠G.γ U:=by intro j o kP C e;have:=(h.cell j o kP C).1;grind [I4]);refine⟨h.os,h.tape,h.output,by simpa using h.size,λj kP C=>?_,λj o kP C=>?_⟩;rw[kh j (ug j 0 kP (C 0))];exact h.block j kP C;have J:=h.cell j o kP C;grind [cell?]
theorem xK4(J:Frame0 χ0 w0 G.χ w){k e:Ty}(hT:MapTyIs P T k e){l:List (k.den×e.den×Unit)}{x:k.den}{y:e.den}(hM:jW G w k e l U v)(hk:DQ G.χ w k x kv)(he:DQ G.χ w e y ev):∃w',(mapUpdate T v kv ev).run P w=.ok () w'/\Frame0 χ0 w0 G.χ w'/\Ext (λx=>x=AM U) (λ_=>False) G w G w'/\MapOk (λ_=>False) G w G w' (λt' l T' m=>cond (Nat.beq U T') (match Ty.cast (a:=.sl t') (.sl (Hq k e)) l with |some l'=>.own (Hq k e) (GV k e x y l') T' m|none=>.junk) (.own t' l T' m)) (λs T' t i p=>.eref s T' t i p):=by obtain⟨es',clock',ke,hE'⟩:=zW5 hT hM hk he;obtain⟨es,clock,hv,hb,hE,kg⟩:=hM;have C:=xW5 (G:=G) (w:=w) kg (o':=.map es' clock') hb;(have kW:∀{l2:List (k.den×e.den×Unit)}{m:Bool}{v2:Value},BQ G w (Hq k e) l2 U m v2->BQ G { w with heap:=w.heap.setIfInBounds (G.γ U) (.map es' clock') } (Hq k e) (GV k e x y l2) U m v2:=by intro l2 m v2 gD;(have hm:m:=by rcases gD with h|h;exact absurd h.1.2 (by simp[Ty.isL]);grind);subst hm;have I:=yM2 gD;(have R:v2=v:=by obtain⟨_,_,h,_⟩:=I;grind);subst R;obtain⟨es2,clock2,tr,hE2⟩:=zW5 hT I hk he;rw[ke] at tr;injection tr with _ hw;have hh:=congrArg (λw:World=>w.heap[G.γ U]?) hw;simp[(Go.MapKept.heap_set hb).1] at hh;obtain⟨rfl,_⟩:=hh;exact .inr ⟨rfl,k,e,_,rfl,HEq.rfl,es',clock',hv,(Go.MapKept.heap_set hb).1,yE0 C.prot hE2,kg⟩);refine⟨_,ke,xK3 J kg hb,C,C.prot,λs=>rfl,λs kr hlt=>?_,λt2 l2 T' m v2 _ gD hf=>?_,λt2 l2 T' m v2 _ gD tm=>?_,λs T' t i p v _ tm ha=>ha⟩;have:=C.block _ hlt (λo=>by grind [CK]);grind;(cases j:Nat.beq U T' with|false=>simp only[jD,AF];exact⟨trivial,v2,rfl,Hb C (DG U) (λe=>by have:=CL e;simp_all) gD⟩|true=>have:=jC j;subst this;simp at hf ⊢;split at hf;rename_i l2' hl;obtain⟨e',hl⟩:=EE hl;injection e' with e';subst e';subst hl;simp only[AF];exact⟨trivial,v2,rfl,kW gD⟩;grind [AVal.fitsT]);cases j:Nat.beq U T' with|false=>exact Hb C (DG U) (λe=>by have:=CL e;simp_all) gD|true=>have:=jC j;grind [EE,zA]
theorem zY2:∀{A:AVal}{s:Option Nat},A.hasTag U=false->¬A.names (λx=>x=AM U) (λ_=>False) s:=by intro A;induction A with|own t l T m=>intro s j;exact λe=>by have:=CL e;simp_all [AVal.hasTag]|ownh t l T i V m=>intro s j;simp[AVal.names];exact⟨λe=>by have:=CL e;simp_all [AVal.hasTag],λe=>by have:=CL e;simp_all [AVal.hasTag]⟩|opt _ _ _ A C=>intro s j;exact C j|box τ b C=>intro s j;(cases s with|none=>exact C j|some s=>simp[AVal.names];exact⟨CK _ _,C j⟩)|cons x y kZ kV=>grind [AVal.hasTag,AVal.names]|agg f b C=>intro s j;exact C j|tup b C=>intro s j;exact C j|fn f b C=>intro s j;exact C j|raw=>intro s _;cases s<;>grind [AVal.names,CK]|_=>grind [AVal.names]
theorem zY3(J:Rel n χ0 w0 S a w G)(hn:n<=BP){G':Gh}{w':World}{g:(t:Ty)->List t.den->Nat->Bool->AVal}{h:Nat->Nat->Ty->Int->yI->AVal}{Bad:Nat->Prop}(hx:Ext X Y G w G' w')(h0:¬X 0)(C:Frame0 χ0 w0 G'.χ w')(hm:MapOk Bad G w G' w' g h)(j:∀T,Bad T->∀s,(S.get s).hasTag T=false)(gy:∀s,(S.get s).hasTag U=false->¬(S.get s).names X Y (some s))(I:∀e∈CW U (AVal.mapOwn g h) S S,e.1<n):Rel n χ0 w0 (CW U (AVal.mapOwn g h) S S++S) a w' G':=by have:=Hd (u:=CW U (AVal.mapOwn g h) S S) (dst:=none) (v:=undef) J hn I (λd e=>by grind) hx h0 C (λs R=>gy s (by grind [r0,AVal.mapOwn,P3,WY])) (λs d e=>by grind) (λs R=>by rcases p9 R with h3|⟨e,he,h3⟩;rw[h3.1];exact hm.arep (λT hT=>j T hT s) (J.reps s);grind);exact this
theorem yF9(R:Rel n χ0 w0 S a w G)(hn:n<=BP){G':Gh}{w':World}{k:AVal->AVal}(hx:Ext X Y G w G' w')(h0:¬X 0)(j:Frame0 χ0 w0 G'.χ w')(hk:∀s,(S.get s).hasTag U->zA G' w' a.tmps (some s) (k (S.get s)) (a.tmps.getD s undef))(gy:∀s,(S.get s).hasTag U=false->¬(S.get s).names X Y (some s))(C:∀e∈CW U k S S,e.1<n):Rel n χ0 w0 (CW U k S S++S) a w' G':=by have:=Hd (u:=CW U k S S) (dst:=none) (v:=undef) R hn C (λd e=>by grind) hx h0 j (λs J=>gy s (by grind [r0,P3,WY])) (λs d e=>by grind) (λs J=>by rcases p9 J with I|⟨e,he,I⟩;rw[I.1];exact hk s I.2;grind);exact this
theorem xD{G':Gh}{w':World}(C:Ext X Y G w G' w'){t:Ty}{l:List (List t.den)}{j:Nat}{x:List t.den}(hT:¬X (AM T))(gS:∀u,Ha G w t (List.getD (α:=List t.den) l j []) U m u->Ha G' w' t x U want u)(hTU:T≠U)(h:Jw G w t l T j U m v):Jw G' w' t (set (α:=List t.den) l j x) T j U want v:=by obtain⟨hv,⟨he,_⟩ | ⟨kh,⟨J,R⟩ | ⟨cap,cur,e,J,R,h3,h4,h5,h6,h7⟩⟩⟩:=h;grind;exact⟨hv,.inr ⟨kh,.inl ⟨J,by grind⟩⟩⟩;have hb:=C.block (G.γ T) (EZ R) (λo=>by grind);have hg:=C.tag T (λh=>hT (C.sub _ h));refine⟨hv,.inr ⟨kh,.inr ⟨cap,cur,e,by grind,by grind,by grind,h4,h5,λo=>by grind,λk y I=>?_⟩⟩⟩;rw[List.getElem?_set] at I;by_cases e:j=k;split at I;grind;grind;rw[if_neg e] at I;obtain⟨u,hu,hr⟩:=h7 k y I;have e':¬k=j:=λh=>e h.symm;rw[if_neg e'] at hr;exact⟨u,hu,by rw[if_neg e'];exact CX C.prot hr⟩
theorem yM9{R:α->List Value->Prop}(C:∀x vs,R x vs->vs.length=1):∀{l:List α}{us:List Value},C9 R l us->us.length=l.length/\∀(j:Nat) (x:α),l[j]?=some x->∃u,us[j]?=some u/\R x [u]:=by intro l;induction l with|nil=>grind [C9]|cons y l J=>rintro us ⟨vs,ws,rfl,I,hl⟩;have:=C _ _ I;match vs,this with |[v],_=>grind
theorem xR9{R:α->List Value->Prop}:∀{l:List α}{us:List Value},us.length=l.length->(∀(j:Nat) (x:α),l[j]?=some x->∃u,us[j]?=some u/\R x [u])->C9 R l us:=by intro l;induction l with|nil=>intro us h _;simp at h;subst h;rfl|cons y l J=>intro us h C;cases us with|nil=>grind|cons v us=>obtain⟨u,hu,I⟩:=C 0 y rfl;simp at hu;subst hu;exact⟨[v],us,rfl,I,J (by grind) λj x hj=>by obtain⟨u,hu,I⟩:=C (j+1) x (by grind);grind⟩
variable {V:Nat}
theorem yU7(C:Frame0 χ0 w0 G.χ w){s:Ty}{T:TypeId}(hT:B0 P (.sl (.sl s)) (.inl T)){l:List (List s.den)}(hA:BQ G w (.sl s) l U true v)(hB:Jw G w s [[]] b 0 V m bv)(hVU:V≠U)(hTV:b≠V)(I:V≠d)(hlen:length (α:=List s.den) l+1<=4294967296):∃v' w' G',(append_ #[T,T] ty #[v,bv]).run P w=.ok v' w'/\Ext (λx=>x=AM U\/x=AM d) (λx=>x=AM d) G w G' w'/\Frame0 χ0 w0 G'.χ w'/\Jw G' w' s (List.append (α:=List s.den) l [[]]) d (length (α:=List s.den) l) V m v':=by obtain⟨km,⟨he,_⟩ | ⟨_,⟨_,J⟩ | ⟨cap,cur,e,rfl,h2,h3,h4,h5,h6,h7⟩⟩⟩:=hB;grind;grind;obtain⟨u,hu,R⟩:=h7 0 [] rfl;(have hc:AP G.χ w (.sl s) ([]:List s.den) [u]:=by simp only[AP];rcases R.2 with ⟨rfl,_⟩ | ⟨cap',_,_,_,rfl,_⟩;all_goals grind);obtain⟨v',w',G',q1,q2,q3,q4,q5⟩:=zQ9 (P:=P) (t:=.sl s) (ty:=ty) (d:=d) (l2:=[[]]) (ns:=[u]) C hT (.inr hA) ⟨some ⟨G.γ b,0,none⟩,cap,rfl,.inr ⟨⟨G.γ b,0,none⟩,rfl,⟨[u],[],rfl,hc,rfl⟩,λj u' hj=>by grind [Addr.add_mid,cell?]⟩⟩ hlen;refine⟨v',w',G',q1,q2,q3,km,.inr ⟨λe=>I e.symm,.inr ?_⟩⟩;(have J:¬((0:Nat)=AM U\/(0:Nat)=AM d):=by rintro (e|e);exact DG _ e;exact DG _ e);have ng:=WG q2 J (by grind [CL]) R;rcases (EO q4 rfl).2 with ⟨_,h⟩ | ⟨cap',cur',e',us,rfl,g2,g3,g4,g5,g6,g7,g8⟩;grind;have gQ:=(q5.resolve_left (by simp)) _ _ _ rfl 0 u rfl;obtain⟨k1,k2⟩:=yM9 (λy vs h=>by grind [CO,Ty.size]) g6;refine⟨cap',cur',e',rfl,g2,g3,g4,by grind [Ty.size],λo=>by grind,λj x hj=>?_⟩;by_cases e:j=length (α:=List s.den) l;simp_all [cell?,Ty.size];obtain⟨u',gR,hc'⟩:=k2 j x hj;grind
theorem yJ3(j:Frame0 χ0 w0 G.χ w){s:Ty}{l:List (List s.den)}{u:Value}{x:List s.den}(ho:Jw G w s l U i U true v0)(hi:i<length (α:=List s.den) l)(kh:V≠U)(hu:Ha G w s x V m u):(∃cur e,w.heap[G.γ U]?=some (.cells cur e (0,0))/\i+1<=cur.size)/\Frame0 χ0 w0 G.χ (w.setCells (G.γ U) i [u])/\Ext (λx=>x=AM U) (λ_=>False) G w G (w.setCells (G.γ U) i [u])/\Jw G (w.setCells (G.γ U) i [u]) s (set (α:=List s.den) l i x) U i V m v0:=by obtain⟨hv,⟨_,⟨hm,_⟩ | ⟨_,hK⟩⟩ | ⟨he,_⟩⟩:=ho;grind;rotate_left;grind;rcases hK with ⟨_,h0⟩ | ⟨cap,cur,e,rfl,J,h3,h4,h5,kg,h7⟩;grind;(have kl:i+1<=cur.size:=by omega);have R:Ext (λx=>x=AM U) (λ_=>False) G w G (w.setCells (G.γ U) i [u]):=WR (λo=>kg o) (DG U);obtain⟨cur',c1,c2⟩:=SZ (G.γ U) e (0,0) [u] i w cur J (by grind);refine⟨⟨cur,e,J,kl⟩,WS j (λo=>by grind [I4]),R,hv,.inr ⟨λe=>kh e.symm,.inr ⟨cap,cur',e,by grind,c1,by grind,h4,?_,kg,λk y C=>?_⟩⟩⟩;grind [jN,zN];rw[c2];rw[List.getElem?_set] at C;(have I:∀k,(spl cur.toList i [u])[k]?=if i<=k/\k<i+1 then [u][k-i]? else cur.toList[k]?:=λk=>by rw[spl_getElem? _ _ _ _ (by exact kl)];rfl);by_cases e:i=k;refine⟨u,by grind,?_⟩;grind [WG,DG,CL];rw[if_neg e] at C;have e':¬k=i:=λh=>e h.symm;obtain⟨u',gR,hr⟩:=h7 k y C e';refine⟨u',?_,by rw[if_neg e'];exact CX R.prot hr⟩;rw[I,if_neg (by omega)];grind
theorem xD0(hfr:Frame0 χ0 w0 G.χ w){s:Ty}(hs:s.isL=false){l:List (List s.den)}{u:Value}{x:List s.den}(ho:BQ G w (.sl s) l U true v0)(hi:i<length (α:=List s.den) l)(kh:V≠U)(hu:BQ G w s x V m u):(∃cur e,w.heap[G.γ U]?=some (.cells cur e (0,0))/\i+1<=cur.size)/\Frame0 χ0 w0 G.χ (w.setCells (G.γ U) i [u])/\Ext (λx=>x=AM U) (λ_=>False) G w G (w.setCells (G.γ U) i [u])/\MapOk (λ_=>False) G w G (w.setCells (G.γ U) i [u]) (λt0 l0 T0 m0=>cond (Nat.beq U T0) (match Ty.cast (a:=.sl t0) (.sl (.sl s)) l0 with |some l1=>cond m0 (.ownh s (set (α:=List s.den) l1 i x) U i V m) (.junk)|none=>.junk) (.own t0 l0 T0 m0)) (λs T' t i p=>.eref s T' t i p):=by have hu:=EO hu hs;obtain⟨km,ho⟩:=EO ho rfl;rcases ho with ⟨_,h0⟩ | ⟨cap,cur,e,uz,rfl,h2,h3,h4,h5,h6,h7,h8⟩;grind;(have kg:∀o,G.χ (G.γ U) o=AM U:=λo=>by simp_all);(have h5':cur.size=cap:=by grind [Ty.size]);(have kl:i+1<=cur.size:=by omega);have j:Ext (λx=>x=AM U) (λ_=>False) G w G (w.setCells (G.γ U) i [u]):=WR (λo=>kg o) (DG U);obtain⟨cur',c1,c2⟩:=SZ (G.γ U) e (0,0) [u] i w cur h2 (by grind);(have kW:∀{l2:List (List s.den)}{v2:Value},BQ G w (.sl s) l2 U true v2->Jw G (w.setCells (G.γ U) i [u]) s (set (α:=List s.den) l2 i x) U i V m v2:=by intro l2 v2 gD;have gD:=EO gD rfl;refine⟨hu.1,.inr ⟨λe=>kh e.symm,?_⟩⟩;rcases gD.2 with ⟨rfl,h0⟩ | ⟨cap2,cur2,e2,uz2,rfl,g2,g3,g4,g5,g6,g7,g8⟩;exact .inl ⟨rfl,by grind⟩;rw[h2] at g2;injection g2 with g2;injection g2 with g2 g2e _;subst g2;obtain⟨k1,k2⟩:=yM9 (λy vs h=>by grind [CO,Ty.size]) g6;refine .inr ⟨cap2,cur',e,by grind,c1,by grind,g4,?_,kg,λk y J=>?_⟩;grind [jN,zN,Ty.size];rw[c2];rw[List.getElem?_set] at J;(have C:∀k,(spl cur.toList i [u])[k]?=if i<=k/\k<i+1 then [u][k-i]? else cur.toList[k]?:=λk=>by grind [spl_getElem?,jN]);by_cases e:i=k;subst e;split at J;refine⟨u,by rw[C,if_pos ⟨jI _,by omega⟩];simp,?_⟩;grind [WG,DG,CL];grind;rw[if_neg e] at J;obtain⟨u',gR,hr⟩:=k2 k y J;have I:¬k=i:=λh=>e h.symm;refine⟨u',?_,by rw[if_neg I];exact CX j.prot hr⟩;rw[C,if_neg (by omega)];rw[<-g7,List.getElem?_take] at gR;split at gR;exact gR;cases gR);refine⟨⟨cur,e,h2,kl⟩,WS hfr (λo=>by grind [I4]),j,j.prot,λs=>rfl,λs kr hlt=>?_,λt2 l2 T m v2 _ gD R=>?_,λt2 l2 T m v2 _ gD tm=>?_,λs T t i p v _ tm ha=>ha⟩;have:=j.block _ hlt (λo=>by rw[kr];exact CK _ _);grind;(cases hb:Nat.beq U T with|false=>simp only[jD,AF];exact⟨trivial,v2,rfl,Hb j (DG U) (λe=>by have:=CL e;subst this;simp at hb) gD⟩|true=>simp[hb] at R;split at R;cases m<;>simp[AVal.fitsT] at R;simp[AVal.fitsT] at R);cases hb:Nat.beq U T with|false=>exact Hb j (DG U) (λe=>by have:=CL e;subst this;simp at hb) gD|true=>have:=jC hb;subst this;simp;split;rename_i l1 hl;obtain⟨I,hl⟩:=EE hl;injection I with I;subst I;subst hl;(cases m with|false=>simp[zA]|true=>exact kW gD);simp only[zA]
variable {rd:Option Nat}{gtab:GlobTab}{P:Program}{c:Ctx}{G:Gh}{w:World}{tm:Array Value}{n:Nat}{χ0:Nat->Nat->Nat}{w0:World}{S:St}{a:Act}
def fz (r:Option Nat):Fence:={ Fence.wide with round:=r }
theorem xK5{x:Next}{w':World}(C:(execOp a.eval o).run P w=.ok x w')(I:∀d,x≠.defer d):(o.semAt rd a.eval).run P w=.ok x w':=by
 by_cases h:∃c,o.op=.defer c
 ·obtain⟨c,J⟩:=h;have he:execOp a.eval o=(resolve a.eval c o.type >>= λd=>pure (.defer d)):=by grind [execOp]
  cases R:(resolve a.eval c o.type).run P w with
  |ok d j =>
   have:Next.defer d=x:=by simp_all
   grind
  |halt y j=>simp_all
 grind [Oper.semAt_eq]
variable {Q:Exit->Act->World->Prop}
theorem Md{next:Act->World->Prop}{w':World}(j:(execOp a.eval o).run P w=.ok (.value v) w')(h:next (a.put o.dst v) w'):o.wpIn (fz rd) 0 P a w next Q:=by
 refine⟨λ_ _=>trivial,?_⟩;rw[show (fz rd).round=rd from rfl,xK5 j (by simp)];exact h
theorem Ta{next:Act->World->Prop}{w':World}(j:(execOp a.eval o).run P w=.ok .skip w')(h:next (a.put o.dst undef) w'):o.wpIn (fz rd) 0 P a w next Q:=by
 refine⟨λ_ _=>trivial,?_⟩;rw[show (fz rd).round=rd from rfl,xK5 j (by simp)];exact h
theorem Tb{next:Act->World->Prop}{args:Array Value}{w':World}(j:(execOp a.eval o).run P w=.ok (.enter f args) w')
  (h:Calls P f args w' λe w''=>∃v,e=.returned v/\next (a.put o.dst v) w''):o.wpIn (fz rd) 0 P a w next Q:=by
 refine⟨λ_ _=>trivial,?_⟩;rw[show (fz rd).round=rd from rfl,xK5 j (by simp),Oper.uponIn_enter];refine⟨λe=>(by cases e),?_⟩;have C:CallsIn Fence.wide (0-1) P f args w' λe w''=>∃v,e=.returned v/\next (a.put o.dst v) w'':=callsIn_wide.2 h
 refine CallsIn.mono (F:=fz rd) C ?_;simp_all
variable {hv:Bool}
theorem xD1(j:Rel n χ0 w0 S a w G)(hn:n<=BP)(hi:J0 a.tmps gd)(gf:Gm a.tmps gd){x y z:Operand}(ho:o.op=.pick x y z)
  (h:fX gd o.dst x [arg S x,arg S y,arg S z]=some (p,u,hv)) (I:∀e∈u,e.1<n) (hh:∀s,∀e∈u,(S.get s).hung e.1=false) (ql:∀e∈u,∀J∈u,e.2.hung J.1=false)
  {next:Act->World->Prop}(hZ:∀v w' G',Rel n χ0 w0 (u++S) (a.put o.dst v) w' G'->next (a.put o.dst v) w'):o.wpIn (fz rd) 0 P a w next Q:=by
 unfold fX at h;split at h
 ·rename_i d C A B hd hl;obtain⟨rfl,rfl,rfl⟩:=hl;split at h
  ·rename_i b τ av τ' yv e1 e2 e3;split at h
   ·rename_i zv hz;obtain⟨rfl,rfl,rfl⟩:=h;obtain⟨J,rfl⟩:=EE hz;have R:=WU gf (Jz j x);rw[e1] at R;have nk:=VRep_bool.1 R;have hA:=λhb=>yF7 (x:=x) (want:=true) gf (ac:=a) rfl hb (Jz j y);have hB:=λhb=>yF7 (x:=x) (want:=false) gf (ac:=a) rfl hb (Jz j z);have ke:(execOp a.eval o).run P w=.ok (.value (if b then a.eval y else a.eval z)) w:=by
     unfold execOp;simp_all [asBool]
    refine Md ke (hZ _ w G ?_);rw[hd];refine WV j hn (I _ (jH.2 rfl)) (λs=>hh s _ (jH.2 rfl)) (ql _ (jH.2 rfl) _ (jH.2 rfl)) (WW hi gf ?_)
    grind
   grind
  grind
 grind
theorem yR:∀(i:Nat) X k,xs[i]?=some X->((xs.map (C6 S)).map (zF gd))[i]?=some k->k=zF gd (C6 S X):=by
 grind
def Gh.still (G:Gh)(b k:Nat):Gh:={ G with χ:=λb' o=>if b'=b/\o<k then 0 else G.χ b' o }
theorem zY4:∀j o,j<w.heap.size->G.χ j o=0->(G.still b k).χ j o=0/\w.cell? ⟨j,o,none⟩=w.cell? ⟨j,o,none⟩:=by
 grind [Gh.still]
theorem yR0(hb:∀o,o<k->G.χ b o=0\/X (G.χ b o)):Ext X (λ_=>False) G w (G.still b k) w:=by
 refine⟨zY4,λj _ h=>⟨rfl,λo=>?_⟩,jI _,λ_ _=>rfl,λ_ _=>rfl,λ_ h=>h.elim⟩
 grind [Gh.still]
theorem yG(j:Frame0 χ0 w0 G.χ w)(hb:∀o,o<k->G.χ b o=0\/1<G.χ b o):Frame0 χ0 w0 (G.still b k).χ w:=by
 refine⟨j.os,j.tape,j.output,j.size,j.block,λC o kP I=>?_⟩;have:=j.cell C o kP I;simp only[Gh.still];split
 ·grind
 grind
theorem yU8(I:∀x,X x->x=AM T):∀{A:AVal}{s:Option Nat},A.hasTag T=false->¬A.names X (λ_=>False) s:=by
 intro A
 induction A with
 |own t l T' m=>intro s j;exact λe=>by have:=CL (I _ e);simp_all [AVal.hasTag]
 |ownh t l T' i V m=>intro s j;simp[AVal.names];exact⟨λe=>by have:=CL (I _ e);simp_all [AVal.hasTag],λe=>by have:=CL (I _ e);simp_all [AVal.hasTag]⟩
 |opt _ _ _ A C=>intro s j;exact C j
 |box τ b C =>
  intro s j;cases s with
  |none=>exact C j
  |some s=>simp[AVal.names];exact⟨λe=>CK _ _ (I _ e),C j⟩
 |cons x y kZ kV=>grind [AVal.hasTag,AVal.names]
 |agg f b C=>intro s j;exact C j
 |tup b C=>intro s j;exact C j
 |fn f b C=>intro s j;exact C j
 |raw =>
  intro s _;cases s<;>grind [AVal.names,CK]
 |_=>grind [AVal.names]
theorem r8{t:Ty}(gH:t.isL=false){l:List t.den}(j:Frame0 χ0 w0 G.χ w)(h:BQ G w t l T m v) :
  ∃G',Ext (λx=>x=AM T) (λ_=>False) G w G' w/\Frame0 χ0 w0 G'.χ w/\G'.β=G.β/\∀v',BQ G w t l T m v'->BQ G' w t l T false v':=by
 have kg:∀o,o<l.length*t.size->G.χ (G.γ T) o=0\/G.χ (G.γ T) o=AM T:=by
  rcases (EO h gH).2 with C | ⟨cap,cur,e,us,I,J,R,h4,h5,h6,h7,h8⟩
  all_goals grind
 refine⟨G.still (G.γ T) (l.length*t.size),yR0 kg,yG j λo ho=>(kg o ho).imp id λe=>by grind [I4],rfl,λv' h=>.inl ⟨(EO h gH).1,?_⟩⟩;rcases (EO h gH).2 with C | ⟨cap,cur,e,us,I,J,R,h4,h5,h6,h7,h8⟩
 all_goals grind [Fg,CX,zY4,Gh.still]
theorem xK6{t:Ty}{l:List t.den}(j:Rel n χ0 w0 ((d,.own t l T m)::u++S) a w G)(hn:n<=BP)(hd:d<n)(ht:BY T (u++S))(gH:t.isL=false) :
  ∃G',Rel n χ0 w0 ((d,.own t l T false)::u++S) a w G':=by
 have hg:∀B:AVal,St.get ((d,B)::u++S) d=B:=λB=>by simp[St.get]
 have J:=j.reps d;rw[hg] at J;obtain⟨G',R,C,_,gu⟩:=r8 gH j.frame J;refine⟨G',j.len,j.defers,λs=>?_,C,NA R.prot j.glob⟩;by_cases e:d=s
 ·grind [zA]
 ·have h1:Nat.beq d s=false:=by grind [Nat.beq,absurd,jC]
  have h2:Nat.beq d BP=false:=by grind [Nat.beq,jC]
  have I:∀B:AVal,St.get ((d,B)::u++S) s=St.get (u++S) s:=λB=>by grind [St.get]
  have:=j.reps s;rw[I] at this ⊢;exact jY R (λe=>DG _ e) _ (yU8 (λx h=>h) (Mc ht s)) this
theorem xS(j:Rel n χ0 w0 ([(d,B)]++S) a w G)(C:n<=BP)(I:d<n)(h:zA G w a.tmps (some d) A (a.tmps.getD d undef)):Rel n χ0 w0 ([(d,A)]++S) a w G:=by
 refine⟨j.len,j.defers,λs=>?_,j.frame,j.glob⟩;have:=j.reps s;simp only[List.cons_append,St.get] at this ⊢
 grind [Nat.beq,jC]
theorem xD2{q:Nat×Bool×Bool}{t:Ty}{l:List t.den}{G':Gh}{w':World}(hn:n<=BP)(hR:Rel n χ0 w0 S a w G)(hi:J0 a.tmps (some q))(gf:Gm a.tmps (some q))(hd:o.dst=some d)
  (hr:Ht d S=true) (ht:BY d S=true) (gH:t.isL=false) (hlt:∀e∈[(d,EB (some q) (.val (.sl t) l))],e.1<n) (hh:∀s,∀e∈[(d,EB (some q) (.val (.sl t) l))],(S.get s).hung e.1=false)
  (ql:(EB (some q) (.val (.sl t) l)).hung d=false) (gp:Ext (·=BM d) (·=BM d) G w G' w'\/Ext (·=AM d) (·=AM d) G w G' w') (j:Frame0 χ0 w0 G'.χ w') (hA:∀tm,zA G' w' tm (some d) (.own t l d m) v)
  {K:Act->World->Prop}(hK:∀G'',Rel n χ0 w0 ([(d,EB (some q) (.val (.sl t) l))]++S) (a.put o.dst v) w' G''->K (a.put o.dst v) w'):K (a.put o.dst v) w':=by
 have gP:d<n:=hlt _ (jH.2 rfl);have C:d<a.tmps.size:=by rw[hR.len];grind
 rw[hd] at hK ⊢;have gk:∀s,St.has s [(d,AVal.own t l d m)]->s=d:=by simp_all [St.has]
 have gi:∀s,St.has s [(d,AVal.own t l d m)]=false->s≠d:=by intro s I e;simp_all [St.has]
 have gx:∀s,St.has s [(d,AVal.own t l d m)]->zA G' w' (a.put (some d) v).tmps (some s) (St.get [(d,AVal.own t l d m)] s) ((a.put (some d) v).tmps.getD s undef):=by
  intro s I;have:=gk s I;subst this;have hg:∀B:AVal,St.get [(s,B)] s=B:=λB=>by simp[St.get]
  rw[hg,Gn C,if_pos rfl]
  grind
 have iN:∀e∈[(d,AVal.own t l d m)],e.1<n:=λe he=>by grind
 have J:∀s,(S.get s).hung d=false:=λs=>hh s _ (jH.2 rfl);have hR1:Rel n χ0 w0 ([(d,AVal.own t l d m)]++S) (a.put (some d) v) w' G':=by
  rcases gp with gp | gp
  ·exact Hd hR hn iN (λd' e=>by grind) gp (Hw d) j (λs I=>yQ (yQ8 hr s) (λe=>gi s I (by grind))) (λs d' e _=>by injection e with e;subst e;exact J s) gx
  ·exact Hd hR hn iN (λd' e=>by injection e with e;subst e;simp[St.has]) gp (DG d) j (λs I=>yQ0 (Mc ht s)) (λs d' e _=>by injection e with e;subst e;exact J s) gx
 obtain⟨G'',R⟩:=xK6 (u:=[]) (S:=S) hR1 hn gP (by simpa using ht) gH;refine hK G'' (xS (B:=.own t l d false) R hn gP ?_);have h2:=R.reps d;have hg:St.get ([(d,AVal.own t l d false)]++S) d=.own t l d false:=by simp[St.get]
 simp only[List.nil_append,List.cons_append] at hg h2;rw[hg] at h2;simp only[zA] at h2;have h3:zA G'' w' (a.put (some d) v).tmps none (.val (.sl t) l) ((a.put (some d) v).tmps.getD d undef):=by
  simp only[zA];rw[zC rfl];exact G3 h2
 obtain⟨s,want,g⟩:=q;have hsd:s≠d:=by
  intro e;subst e;simp[EB,AVal.hung] at ql
 have iA:(a.put (some d) v).tmps.getD s undef=a.tmps.getD s undef:=by rw[Gn C,if_neg hsd]
 have:=WW (gd:=some (s,want,g)) (tm:=(a.put (some d) v).tmps) (λs' want' g' e=>by
  obtain⟨rfl,rfl,rfl⟩:=e;rw[iA];exact hi _ _ _ rfl) (λs' want' g' e=>by
  obtain⟨rfl,rfl,rfl⟩:=e;rw[iA];exact gf _ _ _ rfl) h3
 grind [EB,zA]
theorem xD3(C:CtxOk P c)(J:Rel c.n χ0 w0 S a w G)(hi:J0 a.tmps gd)(gf:Gm a.tmps gd)
  (h:zK c gd o.dst o.op (((DI o.op).map (arg S)).map (zF gd)) (((((DI o.op).map (arg S)).map (zF gd)).map (C6 S)).map (zF gd)) S=some (p,u,hv))
  (j:∀e∈u,e.1<c.n) (hh:∀s,∀e∈u,(S.get s).hung e.1=false) (ql:∀e∈u,∀e'∈u,e.2.hung e'.1=false) (hp:∀q∈p,q)
  {next:Act->World->Prop}(hZ:∀v w' G',Rel c.n χ0 w0 (u++S) (a.put o.dst v) w' G'->next (a.put o.dst v) w'):o.wpIn (fz rd) 0 P a w next Q:=by
 unfold zK at h;split at h
 ·grind
 ·rename_i d hd;split at h
  ·grind
  ·rename_i p0 A tt;have hx:=yZ6 J gf (DI o.op);have hk:∀(i:Nat) X k,(((DI o.op).map (arg S)).map (zF gd))[i]?=some X->(((((DI o.op).map (arg S)).map (zF gd)).map (C6 S)).map (zF gd))[i]?=some k->∀s,zD X=some s->∃v,zA G w a.tmps (some s) k v:=by
    intro i X k h1 h2 s I;rw[yR i X k h1 h2];exact yU4 gf (NL J I)
   cases hm:Ib o.op with
   |false =>
    simp[hm] at h;obtain⟨rfl,rfl,rfl⟩:=h;have R:=WX hi gf hp;obtain⟨v,ke,hA⟩:=xJ8 C.tys C.maps C.fts o hm hx hk tt R;refine Md ke (hZ v w G ?_);rw[hd];exact WV J C.n (j (d,EB gd A) (by simp)) (λs=>hh s (d,EB gd A) (by simp)) (ql (d,EB gd A) (by simp) (d,EB gd A) (by simp)) (WW hi gf hA)
   |true =>
    simp[hm,jE] at h;have R:∀q∈p0,q:=by
     cases hb:(Option.isNone gd&&Ht d S&&BY d S) with
     |false =>
      unfold N7 at h;split at h
      ·rename_i q' t l T m;cases kP:(Ht d S&&BY d S&&Nat.beq T d&&!t.isL) with
       |false=>grind
       |true =>
        grind [WX]
      grind
     |true=>grind
    obtain⟨hf,v,w',G',ke,gp,hfr,hA⟩:=xC3 C.tys C.maps C.fts o hm J.frame hx tt R;cases hb:(Option.isNone gd&&Ht d S&&BY d S) with
    |false =>
     unfold N7 at h;split at h
     ·rename_i q' t l T m;cases kP:(Ht d S&&BY d S&&Nat.beq T d&&!t.isL) with
      |false=>grind
      |true =>
       simp[kP] at h;obtain⟨rfl,rfl,rfl⟩:=h;simp only[jB] at kP;have hTd:=jC kP.1.2;subst hTd;refine Md ke (xD2 C.n J hi gf hd kP.1.1.1 kP.1.1.2 (by grind) j hh (ql _ (jH.2 rfl) _ (jH.2 rfl)) gp hfr hA λG'' hR''=>hZ v w' G'' hR'')
     grind
    |true =>
     simp[hb,jE,jA,jG] at h;obtain⟨rfl,rfl,rfl⟩:=h;simp  at hb;refine Md ke (hZ v w' G' ?_);rw[hd];have gP:d<a.tmps.size:=by rw[J.len];exact j (d,A) (by simp)
     have gk:∀s,St.has s [(d,A)]->s=d:=by intro s I;simp[St.has] at I;grind
     have gi:∀s,St.has s [(d,A)]=false->s≠d:=by intro s I e;subst e;simp[St.has] at I
     have gx:∀s,St.has s [(d,A)]->zA G' w' (a.put (some d) v).tmps (some s) (St.get [(d,A)] s) ((a.put (some d) v).tmps.getD s undef):=by
      intro s I;have:=gk s I;subst this;have hg:St.get [(s,A)] s=A:=by simp[St.get]
      rw[hg,Gn gP,if_pos rfl]
      grind
     rcases gp with gp | gp
     ·exact Hd J C.n j (λd' e=>by grind) gp (Hw d) hfr (λs I=>yQ (yQ8 hb.1.2 s) (λe=>gi s I (by grind))) (λs d' e _=>by injection e with e;subst e;exact hh s (d,A) (by simp)) gx
     ·exact Hd J C.n j (λd' e=>by grind) gp (DG d) hfr (λs I=>yQ0 (Mc hb.2 s)) (λs d' e _=>by injection e with e;subst e;exact hh s (d,A) (by simp)) gx
variable {gtab:GlobTab}{P:Program}{c:Ctx}{G:Gh}{w:World}{tm:Array Value}{n:Nat}{χ0:Nat->Nat->Nat}{w0:World}{S:St}{a:Act}
def lk (l:List (Nat×Nat))(x:Nat):Option Nat:=(l.find? λp=>p.1==x).map (·.2)
def Fh (l:List (Nat×Nat)):Prop:=∀a b b',(a,b)∈l->(a,b')∈l->b=b'
def zQ (l:List (Nat×Nat)):List (Nat×Nat):=l.map λp=>(p.2,p.1)
variable {y x:Nat}
theorem Tc:∀{l:List (Nat×Nat)},lk l x=some y->(x,y)∈l:=by grind [lk,Option.map_eq_some_iff]
variable {l:List (Nat×Nat)}
theorem I5(j:Fh l)(h:(x,y)∈l):lk l x=some y:=by cases C:lk l x with|some z=>rw[j x z y (Tc C) h]|none=>grind [lk,Option.map_eq_none_iff]
theorem xW6(h:lk l x=none):(x,y)∉l:=by grind [lk,Option.map_eq_none_iff]
theorem mem_swap:(x,y)∈zQ l↔(y,x)∈l:=by simp[zQ];constructor;grind;intro h;exact⟨y,x,h,rfl,rfl⟩
theorem xW7{l:List Nat}:l.any (Nat.beq x)=true↔x∈l:=by simp_all
theorem r9:∀{l:List (Nat×Nat)},Jn (l.map (·.1))->Fh l:=by intro l;induction l with|nil=>intro _ a b j h;grind|cons p r I=>intro h a b j J R;simp[Jn] at h;rcases mem_cons.1 J with e1|e1;grind;rcases mem_cons.1 R with C|C;grind;exact I h.2 a b j e1 C
theorem yJ4:∀{l:List (Nat×Nat)},Jn (l.map (·.2))->Fh (zQ l):=by intro l h;refine r9 ?_;rw[zQ,map_map];exact h
def EJ (HB HT:List (Nat×Nat)):List (Nat×Nat):=HB.map (λp=>(BM p.1,BM p.2))++HT.map (λp=>(AM p.1,AM p.2))
theorem cols_box{HT:List (Nat×Nat)}:(BM s,x)∈EJ l HT↔∃i,x=BM i/\(s,i)∈l:=by simp[EJ];constructor;grind [Kc,absurd,CK];rintro⟨i,rfl,h⟩;exact .inl ⟨s,i,h,rfl,rfl⟩
theorem cols_arr{HT:List (Nat×Nat)}:(AM T,x)∈EJ l HT↔∃U,x=AM U/\(T,U)∈HT:=by simp[EJ];constructor;grind [absurd,CK,CL];rintro⟨i,rfl,h⟩;exact .inr ⟨T,i,h,rfl,rfl⟩
theorem yN{HT:List (Nat×Nat)}(h:(x,y)∈EJ l HT):4<=x/\4<=y:=by grind [EJ,NO,I4]
theorem Td{HT:List (Nat×Nat)}(I:Fh l)(J:Fh HT):Fh (EJ l HT):=by intro x y y' R C;have gp:=R;simp[EJ] at gp;rcases gp with ⟨p,q,h,rfl,rfl⟩ | ⟨p,q,h,rfl,rfl⟩;obtain⟨i,rfl,j⟩:=cols_box.1 C;rw[I p q i h j];obtain⟨i,rfl,j⟩:=cols_arr.1 C;rw[J p q i h j]
def ren (HC:List (Nat×Nat))(x:Nat):Nat:=if x=0 then 0 else (lk HC x).getD 1
def Gh.calleeH (G:Gh)(HB HT:List (Nat×Nat)):Gh:=
 {χ:=λb o=>ren (EJ HB HT) (G.χ b o),
  β:=λi=>match lk (zQ HB) i with|some s=>G.β s|none=>0,
  γ:=λT=>match lk (zQ HT) T with|some U=>G.γ U | none=>0 }
def Gh.backH (G G':Gh)(b0:Nat)(HB HT KT:List (Nat×Nat)):Gh:=
 {χ:=λb o=>if b<b0/\lk (EJ HB HT) (G.χ b o)=none then G.χ b o else if G'.χ b o=0 then 0 else (lk (EJ (zQ HB) KT) (G'.χ b o)).getD 2,
  β:=G.β,
  γ:=λU=>match lk (zQ KT) U with|some T=>G'.γ T | none=>G.γ U }
theorem ren_zero{HT:List (Nat×Nat)}:ren (EJ l HT) x=0↔x=0:=by unfold ren;constructor;intro h;split at h;grind;(cases j:lk (EJ l HT) x with|none=>grind|some y=>have:=yN (Tc j);grind);grind
theorem Me{HT:List (Nat×Nat)}(h:lk (EJ l HT) x=none):ren (EJ l HT) x<=1:=by grind [ren]
theorem zP{HT:List (Nat×Nat)}:∀b o,b<w.heap.size->G.χ b o=0->(G.calleeH l HT).χ b o=0/\w.cell? ⟨b,o,none⟩=w.cell? ⟨b,o,none⟩:=λb o _ h=>⟨by grind [Gh.calleeH,ren_zero],rfl⟩
theorem xD4{HB HT:List (Nat×Nat)}(C:Fh HB)(I:Fh HT)(J:Fh (zQ HT))(hm:(U,T)∈HT){t:Ty}{l:List t.den}(h:BQ G w t l U m v):BQ (G.calleeH HB HT) w t l T m v:=by refine zW (λh=>⟨h.1,?_⟩) (by simp only[Gh.calleeH];rw[I5 J (mem_swap.2 hm)]) rfl zP (λ_ j o=>?_) h;rotate_left;simp only[Gh.calleeH];rw[j];unfold ren;rw[if_neg (λe=>DG U e.symm),I5 (Td C I) (cols_arr.2 ⟨T,rfl,hm⟩)];rfl;rcases h.2 with h|⟨cap,cur,e,us,q1,q2,R,q4,q5,q6,q7,q8⟩;grind;(have hγ:(G.calleeH HB HT).γ T=G.γ U:=by simp only[Gh.calleeH];rw[I5 J (mem_swap.2 hm)]);refine .inr ⟨cap,cur,e,us,by grind,by grind,R,q4,q5,Fg (λ_ _ j=>CX zP j) q6,q7,λo=>?_⟩;rw[hγ];simp only[Gh.calleeH];rw[q8 o];split;exact ren_zero.2 rfl;unfold ren;rw[if_neg (λe=>DG U e.symm),I5 (Td C I) (cols_arr.2 ⟨T,rfl,hm⟩)];rfl
theorem yN0{G':Gh}{w':World}{R:List (Nat×Nat)}(kz:∀b o,b<w.heap.size->G.χ b o=0->G'.χ b o=0/\w'.cell? ⟨b,o,none⟩=w.cell? ⟨b,o,none⟩)(kW:∀U T,(U,T)∈R->∀(t:Ty)(l:List t.den) m v,BQ G w t l U m v->BQ G' w' t l T m v):∀{A:AVal}{τ:Ty}{vs:List Value}{b:Nat},(∀p∈A.tags τ b,p∈R)->AF G w τ A vs->AF G' w' τ (A.pos τ b) vs:=by intro A;induction A with|val τ' x=>grind [AVal.pos,AF,CX]|nil=>grind [AVal.pos,AF]|own t l T m=>grind [AVal.pos,AF,AVal.tags]|agg f d ih=>grind [AVal.pos,AF,AVal.tags]|nl=>grind [AVal.pos,AF]|cons x y kZ kV=>intro τ vs b j h;obtain⟨h1,t1,us,ws,rfl,rfl,I,J⟩:=h;simp only[AVal.tags,mem_append] at j;exact⟨_,_,us,ws,rfl,rfl,kZ (λp C=>j p (.inl C)) I,kV (λp C=>j p (.inr C)) J⟩|junk=>grind [AVal.pos,AF]|_=>grind [AF]
theorem xW8:∀{HB:List (Nat×Nat)},fT HB k=some i->(k,i)∈HB:=by intro HB;induction HB with|nil=>intro h;cases h|cons q r C=>obtain⟨s,j⟩:=q;intro h;simp only[fT] at h;cases hb:Nat.beq s k<;>simp_all
theorem xD5{G G':Gh}{HB:List (Nat×Nat)}(h:∀k i,(k,i)∈HB->G'.β i=G.β k):∀{caps l:List (Option (Nat×Ty))},Pr HB caps=some l->caps.map (Ie G v)=l.map (Ie G' v):=by intro caps;induction caps with|nil=>grind [Pr,jA]|cons q r j=>cases q<;>grind [Pr,Ie,xW8]
theorem xK7{HB HT:List (Nat×Nat)}(h1:Fh HB)(I:Fh (zQ HB))(h2:Fh HT)(h3:Fh (zQ HT)){wants:List Nat}{Y k:AVal}(j:zA G w tm none Y v)(hk:∀s,zD Y=some s->zA G w tm (some s) k kv)(J:∀p∈N5 wants i Y k,p∈HT)(hB:∀p∈Hu i Y,p∈HB):zA (G.calleeH HB HT) w #[] (some i) (EN HB wants i Y k) v:=by have C:∀b o,b<w.heap.size->G.χ b o=0->(G.calleeH HB HT).χ b o=0/\w.cell? ⟨b,o,none⟩=w.cell? ⟨b,o,none⟩:=zP;have R:∀U T,(U,T)∈HT->∀(t:Ty) (l:List t.den) m v,BQ G w t l U m v->BQ (G.calleeH HB HT) w t l T m v:=λU T hm t l m v h=>xD4 h1 h2 h3 hm h;cases Y with|val τ x=>simp only[EN,zA] at j ⊢;exact Gz C j|nil=>simp only[EN,zA] at j ⊢;exact j|own t l T m=>simp only[EN];(cases hw:wants.any (Nat.beq i) with|true=>simp only[jE,zA] at j ⊢;exact R T (GY i) (J _ (by simp[N5,hw])) t l m v j|false=>simp only[jD];cases m with|true=>simp only[jE,zA]|false=>simp only[jD];simp only[zA] at j ⊢;exact Gz C ((zC rfl).2 (G3 j)))|agg f d=>simp only[EN];(cases hw:wants.any (Nat.beq i) with|true=>simp only[jE];simp only[zA] at j ⊢;obtain⟨vs,e,ht⟩:=j;exact⟨vs,e,yN0 C R (λp C=>J p (by simpa[N5,hw] using C)) ht⟩|false=>simp only[jD];split;rename_i x hx;simp only[zA];exact Gz C (I3 hx rfl j);simp only[zA])|fn f cs=>simp only[EN];(cases hq:cs.pureL with|false=>simp only[jD,zA]|true=>simp only[jE];simp only[zA] at j ⊢;obtain⟨vs,e1,e2⟩:=j;exact⟨vs,e1,yF3 C hq e2⟩)|fptr f caps=>simp only[EN];(cases hc:Pr HB caps with|none=>simp only[zA]|some l=>simp only[zA] at j ⊢;obtain⟨b,rfl,h0,kx⟩:=j;(have hb:b<w.heap.size:=by by_cases hb:b<w.heap.size;exact hb;have:w.heap[b]?=none:=Array.getElem?_eq_none (by omega);simp[cell?,this] at kx);refine⟨b,rfl,(C b 0 hb h0).1,?_⟩;rw[kx,xD5 (G:=G) (G':=G.calleeH HB HT) (λk i hm=>by simp only[Gh.calleeH];rw[I5 I (mem_swap.2 hm)]) hc])|ref s τ p=>(cases p with|nil=>(cases k with|box τ' k=>simp only[EN];(cases hb:Ty.beq τ' τ with|false=>simp only[jD,zA]|true=>simp only[jE];have e:=Ty.eq_of_beq hb;subst e;obtain⟨km,cur,e,g1,g2,g3⟩:=NG (hk s rfl);have hm:(s,i)∈HB:=hB _ (by simp[Hu]);simp only[zA] at j ⊢;(have hβ:(G.calleeH HB HT).β i=G.β s:=by simp only[Gh.calleeH];rw[I5 I (mem_swap.2 hm)]);refine⟨by rw[hβ];simpa[Ty.poff] using j.2,km,cur,e,by rw[hβ];exact g1,yN0 C R (λp C=>J p (by simpa[N5] using C)) g2,λo=>?_⟩;rw[hβ];simp only[Gh.calleeH];rw[g3 o];unfold ren;rw[if_neg (λe=>Hw s e.symm),I5 (Td h1 h2) (cols_box.2 ⟨i,rfl,hm⟩)];rfl)|_=>simp only[EN,zA])|cons _ _=>simp only[EN,zA])|_=>simp only[EN,zA]
section
variable {HB HT KT:List (Nat×Nat)}{G':Gh}{w':World}
theorem zT (C:Frame0 (G.calleeH HB HT).χ w G'.χ w'):∀b o,b<w'.heap.size->G'.χ b o=0->(G.backH G' w.heap.size HB HT KT).χ b o=0/\w'.cell? ⟨b,o,none⟩=w'.cell? ⟨b,o,none⟩:=by intro b o _ I;refine⟨?_,rfl⟩;simp only[Gh.backH];split;rename_i j;have:=(C.cell b o j.1 (Me j.2)).1;rw[I] at this;exact ren_zero.1 this.symm;simp_all
theorem yR1(C:Frame0 (G.calleeH HB HT).χ w G'.χ w')(R:Fh (zQ HB))(h2:Fh KT)(h3:Fh (zQ KT)){T U:Nat}(hm:(T,U)∈KT){t:Ty}{l:List t.den}{m:Bool}{v:Value}(h:BQ G' w' t l T m v):BQ (G.backH G' w.heap.size HB HT KT) w' t l U m v:=by refine zW (λh=>⟨h.1,?_⟩) (by simp only[Gh.backH];rw[I5 h3 (mem_swap.2 hm)]) rfl (zT C) (λ_ I o=>?_) h;rotate_left;simp only[Gh.backH];split;rename_i j;have J:=(C.cell _ o j.1 (Me j.2)).1;grind [Me,Gh.calleeH,I4];rw[I o,if_neg (λe=>DG T e.symm),I5 (Td R h2) (cols_arr.2 ⟨U,rfl,hm⟩)];rfl;rcases h.2 with h|⟨cap,cur,e,us,q1,q2,q3,q4,q5,q6,q7,I⟩;grind;(have hγ:(G.backH G' w.heap.size HB HT KT).γ U=G'.γ T:=by simp only[Gh.backH];rw[I5 h3 (mem_swap.2 hm)]);refine .inr ⟨cap,cur,e,us,by grind,by grind,q3,q4,q5,Fg (λ_ _ j=>CX (zT C) j) q6,q7,λo=>?_⟩;rw[hγ];simp only[Gh.backH];split;rename_i j;have J:=(C.cell _ o j.1 (Me j.2)).1;rw[I o] at J;by_cases mr:m=false/\o<l.length*t.size;rw[if_pos mr] at J;rw[if_pos mr];exact ren_zero.1 J.symm;grind [Me,Gh.calleeH,I4];rw[I o];by_cases mr:m=false/\o<l.length*t.size;rw[if_pos mr,if_pos rfl,if_pos mr];rw[if_neg mr,if_neg (λe=>DG T e.symm),if_neg mr,I5 (Td R h2) (cols_arr.2 ⟨U,rfl,hm⟩)];rfl
theorem xK8(j:Frame0 (G.calleeH HB HT).χ w G'.χ w')(_h0:Fh HB)(C:Fh (zQ HB))(I:Fh KT)(h3:Fh (zQ KT))(_hT:Fh HT){s i:Nat}(hm:(s,i)∈HB)(kg:∀o,G.χ (G.β s) o=BM s)(hβ:G'.β i=G.β s){τ:Ty}{k:AVal}{u:Value}(hK:∀p∈k.tags τ (GY s),p∈KT)(h:zA G' w' #[] (some i) (.box τ k) u):zA (G.backH G' w.heap.size HB HT KT) w' tm (some s) (.box τ (k.pos τ (GY s))) u:=by obtain⟨J,km,cur,e,R,q3,q4⟩:=h;refine⟨by rw[hβ] at J;exact J,km,cur,e,by rw[hβ] at R;exact R,yN0 (zT j) (λU T hm t l m v h=>yR1 j C I h3 hm h) hK q3,λo=>?_⟩;simp only[Gh.backH];rw[if_neg,<-hβ,q4 o,if_neg (λe=>Hw i e.symm),I5 (Td C I) (cols_box.2 ⟨s,rfl,mem_swap.2 hm⟩)];rfl;rintro⟨_,hn⟩;rw[kg o] at hn;exact xW6 hn (cols_box.2 ⟨i,rfl,hm⟩)
theorem xK9 (j:Frame0 (G.calleeH HB HT).χ w G'.χ w'):Ext (λx=>(∃y,(x,y)∈EJ HB HT)\/∃U,U∈KT.map (·.2)/\x=AM U) (λx=>∃U,U∈KT.map (·.2)/\x=AM U) G w (G.backH G' w.heap.size HB HT KT) w':=by refine⟨λb o hb R=>?_,λb hb hX=>?_,j.size,λs _=>rfl,λT J=>?_,λ_ h=>.inr h⟩;(have C:lk (EJ HB HT) (G.χ b o)=none:=by cases I:lk (EJ HB HT) (G.χ b o) with|none=>rfl|some y=>have:=yN (Tc I);omega);refine⟨by simp_all [Gh.backH],?_⟩;exact (j.cell b o hb (Me C)).2;(have C:∀o,lk (EJ HB HT) (G.χ b o)=none:=λo=>by grind [lk,EJ,absurd,Tc]);exact⟨j.block b hb (λo=>Me (C o)),λo=>by simp_all [Gh.backH]⟩;simp only[Gh.backH];cases I:lk (zQ KT) T with|none=>rfl|some U=>exact absurd ⟨T,mem_map.2 ⟨(U,T),mem_swap.1 (Tc I),rfl⟩,rfl⟩ J
theorem yU9 (J:Frame0 (G.calleeH HB HT).χ w G'.χ w')(j:Frame0 χ0 w0 G.χ w):Frame0 χ0 w0 (G.backH G' w.heap.size HB HT KT).χ w':=by (have gi:∀b o,b<w0.heap.size->χ0 b o<=1->lk (EJ HB HT) (G.χ b o)=none:=λb o hb C=>by cases R:lk (EJ HB HT) (G.χ b o) with|none=>rfl|some y=>have:=yN (Tc R);have:=(j.cell b o hb C).1;omega);refine⟨J.os.trans j.os,J.tape.trans j.tape,J.output.trans j.output,le_trans j.size J.size,λb hb C=>?_,λb o hb C=>?_⟩;have I:=lt_of_lt_of_le hb j.size;rw[J.block b I (λo=>Me (gi b o hb (C o)))];exact j.block b hb C;have I:=lt_of_lt_of_le hb j.size;have hn:=gi b o hb C;have h3:=j.cell b o hb C;refine⟨by simp_all [Gh.backH],?_⟩;rw[(J.cell b o I (Me hn)).2];grind
end
variable {d:Nat}
theorem xD6{G':Gh}{w':World}(kz:∀b o,b<w.heap.size->G.χ b o=0->G'.χ b o=0/\w'.cell? ⟨b,o,none⟩=w.cell? ⟨b,o,none⟩)(kW:∀T,T<4->∀(t:Ty)(l:List t.den) m v,BQ G w t l T m v->BQ G' w' t l (T*100000+d) m v):∀{A:AVal}{τ:Ty}{vs:List Value},EI A->AF G w τ A vs->AF G' w' τ (A.tagTo d) vs:=by intro A;induction A with|val τ' x=>grind [AVal.tagTo,AF,CX]|nil=>grind [AVal.tagTo,AF]|own t l T m=>intro τ vs j ht;have j:T<4:=jR j;grind [AVal.tagTo,AF]|agg f b ih=>grind [EI,AVal.tagTo,AF]|nl=>grind [AVal.tagTo,AF]|junk=>grind [AVal.tagTo,AF]|cons x y kZ kV=>intro τ vs j ht;simp[EI] at j;obtain⟨C,t1,us,ws,e,I,J,R⟩:=ht;exact⟨C,t1,us,ws,e,I,kZ j.1 J,kV j.2 R⟩|_=>intro τ vs _ ht;simp only[AF] at ht
theorem xD7{G':Gh}{w':World}{tm':Array Value}(kz:∀b o,b<w.heap.size->G.χ b o=0->G'.χ b o=0/\w'.cell? ⟨b,o,none⟩=w.cell? ⟨b,o,none⟩)(kW:∀T,T<4->∀(t:Ty)(l:List t.den) m v,BQ G w t l T m v->BQ G' w' t l (T*100000+d) m v):∀{A:AVal}{v:Value},EI A->zA G w tm none A v->zA G' w' tm' none (A.tagTo d) v:=by intro A;induction A with|junk=>grind [AVal.tagTo,zA]|val τ' x=>grind [AVal.tagTo,zA,Gz]|nil=>grind [AVal.tagTo,zA]|own t l T m=>intro v j ht;have j:T<4:=jR j;grind [AVal.tagTo,zA]|agg f b _=>grind [EI,AVal.tagTo,zA,xD6]|nl=>grind [AVal.tagTo,zA]|cons x y kZ kV=>intro v j ht;simp[EI] at j;obtain⟨u,us,C,I,J⟩:=ht;exact⟨u,us,C,kZ j.1 I,kV j.2 J⟩|tup b R=>intro v j ht;exact R j ht|_=>intro v j _;simp[EI] at j
variable {rd:Option Nat}{gtab:GlobTab}{P:Program}{c:Ctx}{G:Gh}{w:World}{tm:Array Value}{n:Nat}{χ0:Nat->Nat->Nat}{w0:World}{S:St}{a:Act}
variable {s0:Nat}
theorem zY6:∀{A:AVal}{s:Option Nat},s≠some s0->¬A.names (λx=>x=BM s0) (λ_=>False) s:=by intro A;induction A with|own t l T m=>grind [AVal.names,CK]|ownh t l T i V m=>grind [AVal.names,CK]|opt _ _ _ A j=>grind [AVal.names]|box τ b j=>intro s h;cases s<;>grind [AVal.names,Kc]|raw=>intro s h;cases s<;>grind [AVal.names,Kc]|cons x y kZ kV=>grind [AVal.names]|agg f b j=>grind [AVal.names]|tup b j=>grind [AVal.names]|fn f b j=>grind [AVal.names]|_=>grind [AVal.names]
variable {s:Nat}{v:Value}
theorem xD8:∀{cs:AVal}{caps:List (Option (Nat×Ty))}{xs:Array Value},Lj s cs=some caps->zA G w tm none cs (.tuple xs)->v=.pointer (some ⟨G.β s,0,none⟩)->xs.toList=caps.map (Ie G v):=by intro cs;induction cs with|nl=>grind [Lj,jA,zA,Value.tuple.injEq]|cons A t _ I=>intro caps xs h J hv;simp[zA] at J;obtain⟨x,r,rfl,j,R⟩:=J;(cases A with|ref k τ p=>(cases p with|nil=>simp only[Lj] at h;split at h;rename_i l C;simp at h;subst h;simp[zA,Ty.poff] at j;have:=I C R hv;simp only[map_cons,Ie];rw[<-this,j.2];cases h|cons _ _=>simp[Lj] at h)|rref s'=>simp only[Lj] at h;(cases hb:Nat.beq s s' with|false=>grind|true=>have:=jC hb;subst this;split at h;rename_i l C;simp at h;subst h;have:=I C R hv;simp only[map_cons,Ie];rw[<-this,j,hv];grind)|_=>grind [Lj])|_=>grind [Lj]
def Gh.ice (G:Gh)(b:Nat):Gh:={ G with χ:=λb' o=>if b'=b then 0 else G.χ b' o }
variable {T:Nat}
theorem xL{X:Nat->Prop}{G':Gh}{w':World}(C:∀x,X x->x=AM T)(j:Ext X (λ_=>False) G w G' w'):MapOk (λ_=>False) G w G' w' (λt l T' m=>cond (Nat.beq T T') (.junk) (.own t l T' m)) (λs T' t i p=>cond (Nat.beq T T') (.junk) (.eref s T' t i p)):=by have R:¬X 0:=λh=>DG _ (C 0 h);refine⟨j.prot,λs=>j.box s id,λs kg I=>?_,λt l T' m v _ J hf=>?_,λt l T' m v _ J tm=>?_,λs T' t i p v _ tm ha=>?_⟩;have:=j.block _ I (λo=>by grind [CK]);grind;(cases hb:Nat.beq T T' with|true=>grind [AVal.fitsT]|false=>simp only[jD,AF];exact⟨trivial,v,rfl,Hb j R (λe=>by have:=CL (C _ e);simp_all) J⟩);(cases hb:Nat.beq T T' with|true=>simp[zA]|false=>exact Hb j R (λe=>by have:=CL (C _ e);simp_all) J);cases hb:Nat.beq T T' with|true=>simp[zA]|false=>simp[zA] at ha ⊢;rw[j.tag T' id];grind
variable {U V i:Nat}{m:Bool}
theorem xD9{t:Ty}{x:List t.den}{c:Ctx}:∀{R:St}{s:Nat},St.has s (LX c U t i x V m s0 S R)->(LX c U t i x V m s0 S R).get s=(cond (Nat.beq s s0||c.wr.any (Nat.beq s)) ((S.get s).fill U t i x V m) ((S.get s).gone U))\/∃e∈LX c U t i x V m s0 S R,e.1=BP:=by intro R;induction R<;>grind [LX,St.has,St.get,Nat.beq,jQ,jC]
theorem xE{t:Ty}{x:List t.den}{c:Ctx}(ht:(S.get s).hasTag U):∀{R:St},St.has s R->St.has s (LX c U t i x V m s0 S R):=by intro R;induction R with|nil=>grind [St.has]|cons e r j=>intro h;obtain⟨q,A⟩:=e;simp only[LX];simp only[St.has,any_cons,or_eq_true] at h;cases ny:(S.get q).hasTag U with|false=>rcases h with h|h;simp_all;exact j h|true=>simp only[jE,St.has,any_cons,or_eq_true];rcases h with h|h;grind;exact .inr (j h)
theorem yV{i:Int}:∀{l:List Nat},l.any (Nat.beq s)->s≠s0->(∀q∈fQ U i s0 S l,q)->∀q∈W5 U i (S.get s),q:=by intro l;induction l with|nil=>grind|cons k r C=>intro h kh j;simp[fQ] at j;grind [jC,Nat.beq,absurd]
variable {o:Oper}{y x:Operand}{A:AVal}{p:List Prop}{u:St}{hv:Bool}{Q:Exit->Act->World->Prop}
theorem yV0(hc:CtxOk P c)(J:Rel c.n χ0 w0 S a w G){v:AVal}(ho:o.op=.store T x y)(hd:o.dst=none)(hA:zA G w a.tmps none A (a.eval x))(hV:zA G w a.tmps none v (a.eval y))(h:fR c T A (C6 S A) v S=some (p,u,hv))(hlt:∀e∈u,e.1<c.n)(hp:∀q∈p,q){next:Act->World->Prop}(hZ:∀v w' G',Rel c.n χ0 w0 (u++S) (a.put o.dst v) w' G'->next (a.put o.dst v) w'):o.wpIn (fz rd) 0 P a w next Q:=by unfold fR at h;split at h;rename_i s0 U t i q;split at h;rename_i t' l U' j U2 hk;have gl:=NL J (A:=.eref s0 U t i q) rfl;rw[hk] at gl;unfold yD5 at h;split at h;rename_i sv xv V m;(cases hb:(Ty.beq (.sl t') t&&Nat.beq U' U2&&Nat.beq U' U&&c.is T (.sl t')&&q.isEmpty&&!(Nat.beq V U)&&!t'.isL) with|false=>grind|true=>simp only[hb,jE] at h;split at h;rename_i xv' mu;simp only[jA,jG] at h;obtain⟨rfl,rfl,rfl⟩:=h;simp only[jB,jK] at hb;obtain⟨⟨⟨⟨⟨⟨b1,b2⟩,b3⟩,b4⟩,b5⟩,b6⟩,b7⟩:=hb;have e:=Ty.eq_of_beq b1;subst e;have e:=jC b2;subst e;have e:=jC b3;subst e;have hq:q=[]:=List.isEmpty_iff.1 b5;subst hq;have hT:=DY hc.tys b4;(have kh:V≠U':=λe=>by grind);obtain⟨e',mu⟩:=EE mu;injection e' with e';subst e';subst mu;obtain⟨hij,qm⟩:=hp _ (jQ ..);subst hij;obtain⟨qw,_,hxa⟩:=hA;(have hi:i.toNat<length (α:=List sv.den) l:=by omega);obtain⟨⟨cur,e,g1,g2⟩,R,hx,hH⟩:=yJ3 (u:=a.eval y) J.frame gl hi kh (EO hV b7);have gk:=WO hV;have ke:=o8 (P:=P) (w:=w) (u:=a.eval y) (us:=[a.eval y]) (b:=G.γ U') (o:=i.toNat) (cur:=cur) (e:=e) hT (Py (τ:=.sl sv) (us:=[a.eval y]) (by simp[I2,Ty.isAgg]) (by grind)) (by simp[Ty.size]) (by grind) g1 (by grind);(have gm:(execOp a.eval o).run P w=.ok .skip (w.setCells (G.γ U') i.toNat [a.eval y]):=by unfold execOp;simp[ho,hxa,Ty.size,Ty.poff,ke]);refine Ta gm (hZ undef _ G ?_);rw[hd,NN];have hmap:=xL (T:=U') (λx h=>h) hx;have hgone:∀s,zA G (w.setCells (G.γ U') i.toNat [a.eval y]) a.tmps (some s) ((S.get s).gone U') (a.tmps.getD s undef):=λs=>hmap.arep (λ_ h=>h.elim) (J.reps s);refine Hd (dst:=none) (v:=undef) J hc.n hlt (λd e=>by grind) hx (λe=>DG _ e) R (λI qu=>?_) (λs d e=>by grind) (λI qu=>?_);refine yU8 (λx h=>h) ?_;grind [xE,P3,WY];rw[NN];rcases xD9 qu with h3|⟨e,he,h3⟩;rw[h3];(cases hsel:(Nat.beq I s0||c.wr.any (Nat.beq I)) with|false=>grind|true=>simp only[jE];(have mv:∀q∈W5 U' i (S.get I),q:=by by_cases e0:I=s0;subst e0;simp only[C6] at hk;rw[hk];have h0:=hp _ (jQ ..);intro q hq;simp only[W5,Nat.beq_refl,Bool.and_self,jE,jH] at hq;rw[hq];exact⟨trivial,h0.2⟩;simp only[or_eq_true] at hsel;rcases hsel with h|h;grind [absurd,jC];exact yV h e0 λq hq=>hp q (jP _ hq));have qx:=J.reps I;have hg:=hgone I;generalize S.get I=A at qx mv hg ⊢;cases A with|ownh t2 l2 T2 j2 U3 m2=>(cases m2 with|false=>exact hg|true=>simp only[AVal.fill];cases qy:(Nat.beq T2 U'&&Nat.beq U3 U') with|false=>simp only[jD,zA]|true=>simp only[jE];simp only[W5,qy,jE,jH,forall_eq] at mv;simp only[jB] at qy;have e1:=jC qy.1;have e2:=jC qy.2;subst e1;subst e2;split;rename_i x2 gB;obtain⟨e3,gB⟩:=EE gB;injection e3 with e3;subst e3;subst gB;obtain⟨q1,q2⟩:=mv;subst q1;(have tn:i.toNat<length (α:=List sv.den) l2:=by omega);exact (yJ3 J.frame qx tn kh (EO hV b7)).2.2.2;grind [zA])|_=>exact hg);have:=hlt e he;have:=hc.n;omega;grind);grind;rename_i t' l U' hk;have gl:=NL J (A:=.eref s0 U t i q) rfl;rw[hk] at gl;(cases hho:xW0 v with|true=>simp[hho,jE] at h;unfold yD4 at h;split at h;rename_i sv xv V m;(cases hb:(Ty.beq t' t&&Ty.beq (.sl sv) t'&&Nat.beq U' U&&c.is T (.sl sv)&&q.isEmpty&&!(Nat.beq V U)&&!sv.isL) with|false=>grind|true=>simp[hb,jE,jA,jG] at h;obtain⟨rfl,rfl,rfl⟩:=h;simp only[jB,jK] at hb;have e:=Ty.eq_of_beq hb.1.1.1.1.1.1;subst e;have e:=Ty.eq_of_beq hb.1.1.1.1.1.2;subst e;have e:=jC hb.1.1.1.1.2;subst e;have hT:=DY hc.tys hb.1.1.1.2;(have kh:V≠U':=λe=>by grind);have qm:=hp _ (jH.2 rfl);obtain⟨qw,_,hxv⟩:=hA;(have hi:i.toNat<length (α:=List sv.den) l:=by omega);obtain⟨⟨cur,e,g1,g2⟩,R,hx,hm⟩:=xD0 (u:=a.eval y) J.frame hb.2 gl hi kh hV;have gk:=WO hV;have ke:=o8 (P:=P) (w:=w) (u:=a.eval y) (us:=[a.eval y]) (b:=G.γ U') (o:=i.toNat) (cur:=cur) (e:=e) hT (Py (τ:=.sl sv) (us:=[a.eval y]) (by simp[I2,Ty.isAgg]) (by grind)) (by simp[Ty.size]) (by grind) g1 (by grind);(have gm:(execOp a.eval o).run P w=.ok .skip (w.setCells (G.γ U') i.toNat [a.eval y]):=by unfold execOp;simp_all [Ty.size,Ty.poff]);refine Ta gm (hZ undef _ G ?_);rw[hd,NN];exact zY3 J hc.n hx (DG U') R hm (λT hT=>hT.elim) (λs hs=>zY2 hs) hlt);grind|false=>simp only[hho,jD] at h;cases hb:(Ty.beq t' t&&Nat.beq U' U&&c.is T (t'.pty q)&&AVal.fits (t'.pty q) v) with|false=>grind|true=>simp only[hb,jE] at h;simp only[jB] at hb;have e:=Ty.eq_of_beq hb.1.1.1;subst e;have e:=jC hb.1.1.2;subst e;split at h;rename_i yv hy;obtain⟨rfl,rfl,rfl⟩:=h;have hT:=DY hc.tys hb.1.2;have qm:=hp _ (jH.2 rfl);simp only[zA] at hA gl;obtain⟨qw,hq,hxv⟩:=hA;(have hi:i.toNat<l.length:=by omega);obtain⟨us,h1,h2⟩:=WN hV hb.2 (Gk hT);obtain⟨⟨cur,e,g1,g2⟩,R,hx,hm⟩:=xC9 J.frame (yZ hq hT) gl hi hq h1 hy;have nr:=Py h2 (SX h1);have ke:=o8 (P:=P) (w:=w) (u:=a.eval y) hT nr (zB h1) (SX h1) g1 g2;(have gm:(execOp a.eval o).run P w=.ok .skip (w.setCells (G.γ U') (i.toNat*t'.size+t'.poff q) us):=by grind [execOp,run_bind,andThen_ok,run_pure]);refine Ta gm (hZ undef _ G ?_);rw[hd,NN];refine yF9 J hc.n hx (DG U') R (λs hs=>?_) (λs hs=>zY2 hs) hlt;have qx:=J.reps s;generalize S.get s=A at qx hs ⊢;(cases A with|ownh t2 l2 T2 j V m2=>simp only[AVal.setEl];(cases gZ:(Nat.beq U' V&&m2&&!(Nat.beq T2 V)) with|false=>simp only[jD,zA]|true=>simp only[jB] at gZ;obtain⟨⟨gZ,rfl⟩,hb3⟩:=gZ;have e:=jC gZ;subst e;cases kr:Ty.cast t2 yv with|none=>grind [zA]|some y'=>have km:Iz t2:=qx.1;(have hTU:T2≠U':=λe=>by grind);refine xD hx (λe=>hTU (CL e)) (λu hu=>?_) hTU qx;have h9:=hm.own2 t2 _ U' true u (λh=>h) (.inl hu) a.tmps;simp only[Nat.beq_refl,jE,kr,zA] at h9;exact EO h9 km.2)|_=>exact hm.arep (λT hT=>hT.elim) qx);grind);grind;rename_i s;split at h;rename_i f cs hkc;(cases tg:c.fts.any (Nat.beq T) with|false=>grind|true=>simp only[tg,jE] at h;split at h;rename_i caps hcaps;simp only[jA,jG] at h;obtain⟨rfl,rfl,rfl⟩:=h;have gl:=NL J (A:=.rref s) rfl;rw[hkc] at gl;simp only[zA] at gl hA hV;obtain⟨_,u0,e,hb,kg⟩:=gl;obtain⟨vs,hv,kr⟩:=hV;obtain⟨i,_,_,_,hi,_,gj,_,_,_⟩:=yT6 hc.fts tg;have gk:(Value.func (.func f) #[] vs).oneCell':=rfl;(have ke:(storeAt T (a.eval x) (a.eval y)).run P w=.ok () (w.setCells (G.β s) 0 [.func (.func f) #[] vs]):=by have:=run_storeCells_cells (P:=P) (G.β s) 0 [.func (.func f) #[] vs] 0 w (λj hj=>by grind [cell?]) (λj hj=>by grind [World.frozen?]) (λu hu=>by grind);simp_all [storeAt,Instr.sureAddr,storeVar,sizeOf,typeInfo,Value.cells]);(have gm:(execOp a.eval o).run P w=.ok .skip (w.setCells (G.β s) 0 [.func (.func f) #[] vs]):=by grind [execOp,run_bind,andThen_ok,run_pure]);obtain⟨cur',g1,g2⟩:=SZ (G.β s) e (0,0) [.func (.func f) #[] vs] 0 w #[u0] hb (by simp);refine Ta gm (hZ undef _ (G.ice (G.β s)) ?_);rw[hd];(have gi:∀I,St.has I [(s,AVal.fptr f caps)]=false->I≠s:=by intro I hs e;simp_all [St.has]);(have uh:∀b o,G.χ b o=0->b≠G.β s:=λb o h0 e=>by grind [Hw]);(have hext:Ext (λx=>x=BM s) (λ_=>False) G w (G.ice (G.β s)) (w.setCells (G.β s) 0 [.func (.func f) #[] vs]):=by refine⟨λb o kP h0=>⟨by simp_all [Gh.ice],?_⟩,λb kP hX=>?_,by simp_all [o7],λ_ _=>rfl,λ_ _=>rfl,λ_ h=>h.elim⟩;grind [cell?,P0];(have kh:b≠G.β s:=by intro e;simp_all);exact⟨P0 (G.β s) _ 0 w b kh,λo=>by simp_all [Gh.ice]⟩);(have R:Frame0 χ0 w0 (G.ice (G.β s)).χ (w.setCells (G.β s) 0 [.func (.func f) #[] vs]):=by have h1:=WS J.frame (b:=G.β s) (o:=0) (us:=[.func (.func f) #[] vs]) (λo=>by grind [NO]);refine⟨h1.os,h1.tape,h1.output,h1.size,h1.block,λb o kP hc'=>⟨?_,(h1.cell b o kP hc').2⟩⟩;have h2:=(h1.cell b o kP hc').1;(have kh:b≠G.β s:=by grind [NO]);simp_all [Gh.ice]);refine Hd J hc.n hlt (λd e=>by grind) hext (Hw s) R (λI qu=>zY6 (λe=>gi I qu (by grind))) (λ_ d e=>by grind) (λI qu=>?_);(have:I=s:=by simp_all [St.has]);subst this;(have hg:St.get [(I,AVal.fptr f caps)] I=.fptr f caps:=by simp[St.get]);rw[hg,NN];(have hval:a.tmps.getD I undef=.pointer (some ⟨G.β I,0,none⟩):=by grind);rw[hval];refine⟨G.β I,rfl,by simp[Gh.ice],?_⟩;have hvs:=xD8 (v:=.pointer (some ⟨G.β I,0,none⟩)) hcaps kr rfl;simp only[cell?];(have h2:cur'=#[.func (.func f) #[] vs]:=by apply toList_inj.1;rw[g2];apply ext_getElem?;grind [spl_getElem?]);(have h3:vs=(caps.map (Ie (G.ice (G.β I)) (.pointer (some ⟨G.β I,0,none⟩)))).toArray:=by apply toList_inj.1;rw[hvs];refine List.map_congr_left λq _=>?_;cases q<;>rfl);grind;grind);grind;split at h;rename_i uu gu;obtain⟨rfl,rfl,rfl⟩:=h;obtain⟨s,C⟩:=uu;(have mw:∀I,zD A=some I->zA G w a.tmps (some I) (C6 S A) (match zD A with |some s=>a.tmps.getD s undef|none=>undef):=by grind [NL]);obtain⟨us,off,ke,kg,qx,hC⟩:=yQ1 hc.tys hA mw hV gu;(have gm:(execOp a.eval o).run P w=.ok .skip (w.setCells (G.β s) off us):=by grind [execOp,run_bind,andThen_ok,run_pure]);refine Ta gm (hZ undef _ G ?_);rw[hd];rw[qx] at hC;(have gk:∀I,St.has I [(s,C)]->I=s:=by simp_all [St.has]);(have gi:∀I,St.has I [(s,C)]=false->I≠s:=by intro I hs e;subst e;simp[St.has] at hs);refine Hd J hc.n hlt (λd e=>by grind) (WR (X:=λx=>x=BM s) (λo=>kg o) (Hw s)) (Hw s) (WS J.frame (λo=>by grind [NO])) (λI qu=>zY6 (λe=>gi I qu (by grind))) (λ_ d e=>by grind) (λI qu=>?_);have:=gk I qu;subst this;(have hg:St.get [(I,C)] I=C:=by simp[St.get]);rw[hg];exact hC;grind
variable {B:AVal}
theorem yN1(J:CtxOk P c)(hR:Rel c.n χ0 w0 S a w G){z:Operand}{C:AVal}(ho:o.op=.mapUpdate T x y z)(hd:o.dst=none)(hA:zA G w a.tmps none A (a.eval x))(hB:zA G w a.tmps none B (a.eval y))(hC:zA G w a.tmps none C (a.eval z))(h:fS c T A B C S=some (p,u,hv))(R:∀e∈u,e.1<c.n){next:Act->World->Prop}(hZ:∀v w' G',Rel c.n χ0 w0 (u++S) (a.put o.dst v) w' G'->next (a.put o.dst v) w'):o.wpIn (fz rd) 0 P a w next Q:=by unfold fS at h;split at h;rename_i k e I;have hmt:=yM1 J.maps I;split at h;rename_i t l U m;split at h;rename_i l' xv yv hl hx hy;obtain⟨rfl,rfl,rfl⟩:=h;obtain⟨ec,hl⟩:=EE hl;injection ec with ec;subst ec;obtain⟨⟨ka,kb,_,hka,hkb⟩,_,_⟩:=hmt;have hkv:=I3 hx (Gk hka) hB;have hev:=I3 hy (Gk hkb) hC;obtain⟨w',ke,hfr,j,hm⟩:=xK4 hR.frame (yM1 J.maps I) (yM2 hA) hkv hev;(have gm:(execOp a.eval o).run P w=.ok .skip w':=by grind [execOp,run_bind,andThen_ok,run_pure]);refine Ta gm (hZ undef _ G ?_);rw[hd,NN];exact zY3 hR J.n j (DG U) hfr hm (λT I=>I.elim) (λs hs=>zY2 hs) R;grind;grind;grind
variable {args:Array Operand}{ats:Array TypeId}
theorem zY7(hc:CtxOk P c)(J:Rel c.n χ0 w0 S a w G){va vb:Value}(ho:o.op=.call { callee:=.builtin .append,args,argTypes:=ats })(nz:ats.toList=[T,T])(hd:o.dst=some d)(ku:args.toList.map a.eval=[va,vb])(hA:zA G w a.tmps none A va)(hB:zA G w a.tmps none B vb)(h:W6 c d T A B S=some (p,u,hv))(hlt:∀e∈u,e.1<c.n)(hh:∀s,∀e∈u,(S.get s).hung e.1=false)(hp:∀q∈p,q){next:Act->World->Prop}(hZ:∀v w' G',Rel c.n χ0 w0 (u++S) (a.put o.dst v) w' G'->next (a.put o.dst v) w'):o.wpIn (fz rd) 0 P a w next Q:=by (have hats':ats=#[T,T]:=by grind);(have hargs':args.map a.eval=#[va,vb]:=by grind);(have ui:∀{v':Value}{w':World},(append_ #[T,T] o.type #[va,vb]).run P w=.ok v' w'->(execOp a.eval o).run P w=.ok (.value v') w':=by unfold execOp;grind [resolve,run_bind,run_pure,andThen_ok,invoke,builtin]);unfold W6 at h;cases mz:BY d S with|false=>grind|true=>simp[mz,jE] at h;split at h;rename_i p0 R U iT;obtain⟨rfl,rfl,rfl⟩:=h;unfold xH7 at iT;split at iT;rename_i s T' V m;split at iT;rename_i t' l U';(cases hb:(c.is T (.sl (.sl s))&&!(Nat.beq V U')&&!(Nat.beq T' V)&&!(Nat.beq V d)) with|false=>simp_all|true=>simp only[hb,jE] at iT;simp at hb;split at iT;rename_i l1 gJ;simp only[jA,jG] at iT;obtain⟨rfl,rfl,rfl⟩:=iT;obtain⟨e,gJ⟩:=EE gJ;injection e with e;subst e;have gJ:l=l1:=gJ;subst gJ;have hlen:=hp _ (jH.2 rfl);obtain⟨v',w',G',hr,hx,j,kW⟩:=yU7 (ty:=o.type) (U:=U') (d:=d) J.frame (DY hc.tys hb.1.1.1) hA hB (λe=>by subst e;simp at hb) (λe=>by subst e;simp at hb) (λe=>by subst e;simp at hb) (by omega);refine Md (ui hr) (hZ v' w' G' ?_);rw[hd];exact r7 (d:=d) (U:=U') (v':=v') J hc.n mz hx j (λtm=>by grind [zA]) hlt (λs=>hh s _ (jQ ..));grind);grind;grind;unfold xH6 at h;cases I:c.ty T with|sl t=>have hT:=I1 hc.tys T (by rw[I];simp);rw[I] at hT;simp only[I] at h;(cases gz:blt 0 t.size with|false=>grind|true=>simp[gz,Bool.not_true,jD] at h;cases C:fP t B with|none=>simp[C] at h|some l2=>simp only[C] at h;have hBs:=yQ2 (j6 hT) hB C;cases A with|nil=>obtain⟨rfl,rfl,rfl⟩:=h;have hb:=hp _ (jH.2 rfl);obtain⟨v',w',G',hr,hx,j,kW⟩:=zZ6 (ty:=o.type) (U:=d) (d:=d) (m:=true) (l:=([]:List t.den)) J.frame hT (.inl ⟨hA,rfl⟩) hBs (by simp;omega);refine Md (ui hr) (hZ v' w' G' ?_);rw[hd];(have htd:∀R:St,CW d (AVal.lose d) S R=[]:=by intro R;induction R with|nil=>rfl|cons e r ih=>obtain⟨s,A⟩:=e;simp[CW,Mc mz s,ih]);have:=r7 (d:=d) (U:=d) (R:=.own t l2 d true) (v':=v') J hc.n mz hx j (λtm=>by exact kW) (by grind) (λs=>hh s _ (jH.2 rfl));rw[htd] at this;exact this|own t' l U m=>(cases gJ:Ty.cast (a:=.sl t') (.sl t) l with|none=>grind|some l1=>simp[gJ] at h;obtain⟨rfl,rfl,rfl⟩:=h;obtain⟨e,rfl⟩:=EE gJ;injection e with e;subst e;have hb:((l.length+l2.length:Nat):Int)<=4294967296:=hp _ (jH.2 rfl);obtain⟨v',w',G',hr,hx,j,kW⟩:=zZ6 (ty:=o.type) (U:=U) (d:=d) (m:=m) (l:=l) J.frame hT (.inr hA) hBs (by omega);refine Md (ui hr) (hZ v' w' G' ?_);rw[hd];exact r7 (d:=d) (U:=U) (v':=v') J hc.n mz hx j (λtm=>by exact kW) hlt (λs=>hh s _ (jQ ..)))|_=>simp at h)|_=>simp[I] at h
theorem WZ:∀{cs:AVal}{vs:List Value},Iw cs->zA G w tm none cs (.tuple vs.toArray)->C2 (zA G w tm none) cs.toL vs:=by intro cs;induction cs with|nl=>intro vs _ h;simp[zA] at h;have:vs=[]:=(by grind);subst this;trivial|cons x y _ kV=>intro vs j h;obtain⟨u,us,e,C,I⟩:=h;(have e:vs=u::us:=by grind);subst e;exact⟨C,kV j I⟩|_=>grind [Iw]
theorem Xa{α β:Type}{R:α->β->Prop}:∀{xs:List α}{ys:List β}{xs':List α}{ys':List β},C2 R xs ys->C2 R xs' ys'->C2 R (xs++xs') (ys++ys'):=by intro xs;induction xs with|nil=>grind [C2]|cons x xs j=>intro ys xs' ys' h C;cases ys<;>simp only[C2] at h;exact⟨h.1,j h.2 C⟩
variable {fo:Operand}{f:Nat}{cs:AVal}{r:List AVal}
theorem xE0(hc:CtxOk P c)(I:Rel c.n χ0 w0 S a w G){gd:Gd}(hi:J0 a.tmps gd)(gf:Gm a.tmps gd)(ho:o.op=.call { callee:=.value fo,args,argTypes:=ats })(hf:zA G w a.tmps none (.fn f cs) (a.eval fo))(hr:C2 (zA G w a.tmps none) r (args.toList.map a.eval))(kr:Iw cs)(h:JW c gd o.dst f (r++cs.toL) ((r++cs.toL).map (C6 S)) S=some (p,u,hv))(C:∀e∈u,e.1<c.n)(hh:∀s,∀e∈u,(S.get s).hung e.1=false)(ql:∀e∈u,∀e'∈u,e.2.hung e'.1=false)(hp:∀q∈p,q){next:Act->World->Prop}(hZ:∀v w' G',Rel c.n χ0 w0 (u++S) (a.put o.dst v) w' G'->next (a.put o.dst v) w'):o.wpIn (fz rd) 0 P a w next Q:=by simp only[zA] at hf;obtain⟨vs,tu,nk⟩:=hf;have ko:=WZ (vs:=vs.toList) kr (by simpa using nk);have gC:=Xa hr ko;unfold JW at h;split at h;grind;rename_i co nv;obtain⟨sp,gI,hsp⟩:=zO7 nv;have kf:=hc.fns f sp gI;obtain⟨fn,h1,h2,h3⟩:=kf.1;(have ke:(execOp a.eval o).run P w=.ok (.enter f (args.toList.map a.eval++vs.toList).toArray) w:=by (have gE:(args.toList.map a.eval++vs.toList).toArray=args.map a.eval++vs:=by grind);unfold execOp;simp[ho,resolve,tu,Deferred.ofValue,invoke,callFunc,h1];grind);cases hb:(LV co.outs 0 (zipWith Ej (r++cs.toL) ((r++cs.toL).map (C6 S)))&&EI co.res&&LW (r++cs.toL)&&JV (r++cs.toL) (zipWith Ej (r++cs.toL) ((r++cs.toL).map (C6 S)))) with|false=>simp only[hb,Bool.not_false,jE,reduceCtorEq] at h|true=>simp only[hb,Bool.not_true,jD] at h;simp only[jB] at hb;obtain⟨⟨⟨b1,b2⟩,b3⟩,b4⟩:=hb;split at h;rename_i uu gW heat;(cases gd with|none=>have tv:=λhokp=>yQ6 I kf gC hsp hokp b1 b3 b4 gW;(cases hd:o.dst with|none=>simp[hd] at h;obtain⟨rfl,rfl,rfl⟩:=h;refine Tb ke ((tv hp).mono ?_);rintro e w' ⟨v,G',rfl,J,kY,hg,hu⟩;refine⟨v,rfl,hZ v w' (G.back G' w.heap.size none) ?_⟩;rw[hd];exact yM7 (dst:=none) (res:=co.res) I hc.n J kY b2 hg hu C (λs d e=>(by grind)) (λd e=>(by grind))|some d=>simp only[hd] at h;cases mz:(BY d S&&BY (100000+d) S&&BY (200000+d) S&&BY (300000+d) S) with|false=>grind|true=>simp[mz] at h;obtain⟨rfl,rfl,rfl⟩:=h;refine Tb ke ((tv hp).mono ?_);rintro e w' ⟨v,G',rfl,J,kY,hg,hu⟩;refine⟨v,rfl,hZ v w' (G.back G' w.heap.size (some d)) ?_⟩;rw[hd];refine yM7 (dst:=some d) (res:=co.res) I hc.n J kY b2 hg hu C (λs d' e=>by grind [jQ]) (λd' e s j hj=>?_);injection e with e;subst e;(obtain rfl|rfl|rfl|rfl:j=0\/j=1\/j=2\/j=3:=by omega);all_goals grind [Mc])|some q=>simp only at h;split at h;rename_i d τ x hd R;obtain⟨rfl,rfl,rfl⟩:=h;have hp0:=WX hi gf hp;refine Tb ke ((yQ6 I kf gC hsp hp0 b1 b3 b4 gW).mono ?_);rintro e w' ⟨v,G',rfl,J,kY,hg,hu⟩;refine⟨v,rfl,hZ v w' (G.back G' w.heap.size none) ?_⟩;(have hdst:o.dst=some d:=by grind);rw[hdst];have hx:=yZ7 none J hg;(have gP:d<a.tmps.size:=by rw[I.len];exact C _ (jH.2 rfl));refine Hd I hc.n C (λd' e=>by injection e with e;subst e;simp[St.has]) hx (λhX=>hX.elim (λ⟨s,e,_⟩=>Hw s e) (λ⟨d,j,_,_,e⟩=>DG _ e)) (yJ2 I.frame none J hg) (λs _=>yJ1 (λd' e=>by grind) (λs' _=>by simp[St.has])) (λs d' e _=>by injection e with e;subst e;exact hh s _ (jH.2 rfl)) (λs hs=>?_);(have hsd:s=d:=by simp[St.has] at hs;grind);subst hsd;(have hg1:St.get [(s,EB (some q) (.val τ x))] s=EB (some q) (.val τ x):=by simp[St.get]);rw[hg1,Gn gP,if_pos rfl];refine zO (tm:=a.tmps) (λk hk=>?_) (Pt (WW hi gf ?_));rw[Gn gP,if_neg];intro e;subst e;have:=ql _ (jH.2 rfl) _ (jH.2 rfl);grind;rw[R] at kY;exact Gz (J.prot none) kY;grind);grind
variable {rd:Option Nat}{gtab:GlobTab}{P:Program}{c:Ctx}{G:Gh}{w:World}{tm:Array Value}{n:Nat}{χ0:Nat->Nat->Nat}{w0:World}{S:St}{a:Act}
theorem yG2:∀(A:AVal) (s:Option Nat),¬A.names (λ_=>False) (λ_=>False) s:=by intro A;induction A with|opt _ _ _ A j=>grind [AVal.names]|box τ a j=>intro s;cases s<;>simp[AVal.names]<;>exact j none|cons a b gK gG=>grind [AVal.names]|agg f a j=>grind [AVal.names]|tup a j=>grind [AVal.names]|fn f a j=>grind [AVal.names]|raw=>intro s;cases s<;>simp[AVal.names]|_=>grind [AVal.names]
theorem yZ8(C:Rel n χ0 w0 S a w G)(R:n<=BP)(j:∀e∈CW U (AVal.lose U) S S,e.1<n):Rel n χ0 w0 (CW U (AVal.lose U) S S++S) a w G:=by refine zY3 (U:=U) (X:=λ_=>False) (Y:=λ_=>False) (Bad:=λ_=>False) C R (Ext.refl _ G w) id C.frame ?_ (λT h=>h.elim) (λs _=>yG2 _ _) j;refine⟨λb o _ h=>⟨h,rfl⟩,λs=>rfl,λs kg j=>⟨rfl,kg⟩,λt l T m v I J hf=>?_,λt l T m v I J tm=>?_,λs T t i p v I tm ha=>?_⟩;(cases hb:Nat.beq U T with|true=>simp at hf ⊢;(cases m with|true=>grind [AVal.fitsT]|false=>simp only[jD,AF];exact⟨trivial,rfl,G3 J⟩)|false=>grind [AF]);all_goals grind [Nat.beq,zA,Lo,G3]
variable {hb:List (Nat×Nat)}
theorem yV1{HT KT:List (Nat×Nat)}:∀{A:AVal}{os:Option Nat},(∀T,(T∈HT.map (·.1)\/T∈KT.map (·.2))->A.hasTag T=false)->(∀s,os=some s->s∉hb.map (·.1))->¬A.names (λx=>(∃y,(x,y)∈EJ hb HT)\/∃U,U∈KT.map (·.2)/\x=AM U) (λx=>∃U,U∈KT.map (·.2)/\x=AM U) os:=by intro A;induction A with|own t l T m=>intro os ht _;rintro (⟨y,J⟩ | ⟨U,I,e⟩);obtain⟨U,_,hm⟩:=cols_arr.1 J;have:=ht T (.inl (mem_map.2 ⟨_,hm,rfl⟩));simp_all [AVal.hasTag];have:=CL e;subst this;have:=ht T (.inr I);simp_all [AVal.hasTag]|eref s T t i p=>intro os ht _;rintro⟨U,I,e⟩;have:=CL e;subst this;have:=ht T (.inr I);simp_all [AVal.hasTag]|ref s τ p=>grind [AVal.names,CK]|opt _ _ _ A C=>intro os ht _;exact C ht (λs e=>by grind)|box τ b C=>intro os ht hs;(cases os with|none=>exact C ht (λs e=>by grind)|some s=>simp only[AVal.names,not_or];refine⟨⟨?_,?_⟩,C ht (λs e=>by grind)⟩;all_goals grind [cols_box,CK])|cons x y kZ kV=>grind [AVal.names,AVal.hasTag]|agg f b C=>intro os ht _;exact C ht (λs e=>by grind)|tup b C=>intro os ht _;exact C ht (λs e=>by grind)|fn f b C=>intro os ht _;exact C ht (λs e=>by grind)|raw=>intro os ht hs;cases os<;>grind [AVal.names,cols_box,CK]|ownh t l T i V m=>intro os ht _;(have key:∀K,(∀T',(T'∈HT.map (·.1)\/T'∈KT.map (·.2))->Nat.beq T' K=false)->¬((∃y,(AM K,y)∈EJ hb HT)\/∃U,U∈KT.map (·.2)/\AM K=AM U):=by intro K R;rintro (⟨y,J⟩ | ⟨U,I,e⟩);obtain⟨U,_,hm⟩:=cols_arr.1 J;have:=R K (.inl (mem_map.2 ⟨_,hm,rfl⟩));simp_all;have:=CL e;subst this;have:=R K (.inr I);simp_all);simp[AVal.names];have ny:=λT' j=>ht T' j;simp only[AVal.hasTag,jJ] at ny;have k1:=key T λT' j=>(ny T' j).1;have k2:=key V λT' j=>(ny T' j).2;grind|rref s=>grind [AVal.names,CK]|fptr f caps=>grind [AVal.names,CK]|_=>grind [AVal.names]
variable {wants:List Nat}
theorem xS0:∀{ys ks:List AVal}{i j:Nat}{Y k:AVal},ys[j]?=some Y->ks[j]?=some k->(Lk hb wants i ys ks)[j]?=some (EN hb wants (i+j) Y k):=by intro ys;induction ys with|nil=>grind|cons y r C=>intro ks i j Y k I J;cases ks with|nil=>grind|cons q s=>simp only[Lk];cases j<;>grind
theorem yR2:∀{ys ks:List AVal}{i:Nat},ys.length=ks.length->(Lk hb wants i ys ks).length=ys.length:=by intro ys;induction ys with|nil=>grind [Lk]|cons y r j=>intro ks i h;cases ks<;>grind [Lk,List.length_cons]
theorem xE1{p:Nat×Nat}:∀{ys ks:List AVal}{i j:Nat}{Y k:AVal},ys[j]?=some Y->ks[j]?=some k->p∈N5 wants (i+j) Y k->p∈N6 wants i ys ks:=by intro ys;induction ys with|nil=>grind|cons y r C=>intro ks i j Y k I J R;cases ks with|nil=>grind|cons q s=>simp[N6];cases j with|zero=>grind|succ j=>exact .inr (C (i:=i+1) I J (by grind))
theorem yJ5{p:Nat×Nat}:∀{ys:List AVal}{i j:Nat}{Y:AVal},ys[j]?=some Y->p∈Hu (i+j) Y->p∈Jo i ys:=by intro ys;induction ys with|nil=>grind|cons y r C=>intro i j Y I J;simp[Jo];cases j with|zero=>grind|succ j=>exact .inr (C (i:=i+1) I (by grind))
theorem yG3{k:Nat}:∀{ys:List AVal}{i:Nat},(s,k)∈Jo i ys->i<=k/\∃τ,ys[k-i]?=some (.ref s τ []):=by intro ys;induction ys with|nil=>grind [Jo]|cons y r j=>intro i h;simp[Jo] at h;rcases h with h|h;(cases y with|ref C τ p=>cases p<;>simp_all [Hu]|_=>grind [Hu]);grind
variable {ys:List AVal}
theorem xE2:Fh (zQ (Jo 0 ys)):=by intro a b I j C;obtain⟨_,τ,e1⟩:=yG3 (mem_swap.1 j);obtain⟨_,τ',J⟩:=yG3 (mem_swap.1 C);grind
theorem xL0:∀{outs:List (Nat×AVal)}{u:St}{bs:List Bor}{K:List (Nat×Nat)},W8 ys outs=some (u,bs,K)->(∀i k,(i,k)∈outs->∃Y j bs' K',ys[i]?=some Y/\xV Y i k=some (j,bs',K')/\∀e∈j,e∈u)/\(∀e∈u,∃i k Y j bs' K',(i,k)∈outs/\ys[i]?=some Y/\xV Y i k=some (j,bs',K')/\e∈j/\∀p∈K',p∈K)/\(∀b∈bs,∃i k Y j bs' K',(i,k)∈outs/\ys[i]?=some Y/\xV Y i k=some (j,bs',K')/\b∈bs'/\∀p∈K',p∈K):=by intro outs;induction outs with|nil=>grind [W8]|cons q r I=>intro u bs K h;obtain⟨i,k⟩:=q;simp only[W8] at h;split at h;rename_i Y u2 bs2 K2 J R;split at h;rename_i j bs' K' ho;obtain⟨rfl,rfl,rfl⟩:=h;obtain⟨g1,g2,g3⟩:=I R;refine⟨?_,?_,?_⟩;grind;intro e he;rcases mem_append.1 he with he|he;exact⟨i,k,Y,j,bs',K',by simp,J,ho,he,λp C=>mem_append_left _ C⟩;obtain⟨i',k',Y',u3,bs3,K3,q1,q2,q3,q4,q5⟩:=g2 e he;exact⟨i',k',Y',u3,bs3,K3,by simp[q1],q2,q3,q4,λp C=>mem_append_right _ (q5 p C)⟩;grind;grind;grind
theorem yZ9:∀{A:AVal}{τ:Ty}{vs:List Value},AF G w τ A vs->vs.length=τ.size:=by intro A;induction A with|val τ' x=>intro τ vs h;obtain⟨rfl,_,h⟩:=h;exact CO h|nil=>intro τ vs h;obtain⟨j,rfl⟩:=h;cases τ<;>simp[Ty.isSl] at j;simp[Ty.size]|own t l T m=>intro τ vs h;obtain⟨rfl,v,rfl,_⟩:=h;simp[Ty.size]|agg f b C=>grind [AF,Ty.size]|nl=>grind [AF,Ty.size]|junk=>grind [zB]|cons x y kZ kV=>grind [AF,Ty.size]|_=>grind [AF]
def Xb (G:Gh)(w:World)(G':Gh)(w':World)(b:Bor):Prop:=0<b.t.size/\∃u m,BQ G w b.t b.l b.U m u/\BQ G' w' b.t b.l' b.T b.m u
variable {k:AVal}{bs:List Bor}
theorem xA{t:Ty}{l:List t.den}{u:Value}{G':Gh}{w':World}(h:FC (.own t l U m) k=some bs)(J:BQ G w t l U m u)(R:∀t' l' T C,k=.own t' l' T C->BQ G' w' t' l' T C u):∀b∈bs,Xb G w G' w' b:=by simp only[FC] at h;split at h;split at h;rename_i l2 j;(cases I:blt 0 t.size with|false=>grind|true=>simp[I] at h;subst h;intro b hb;simp at hb;subst hb;obtain⟨e,j⟩:=EE j;injection e with e;subst e;subst j;exact⟨jR I,u,m,J,R _ _ _ _ rfl⟩);grind;grind
theorem xL2{G':Gh}{w':World}:∀{A k:AVal}{τ:Ty}{vs:List Value}{bs:List Bor},FC A k=some bs->AF G w τ A vs->AF G' w' τ k vs->∀b∈bs,Xb G w G' w' b:=by intro A;induction A with|own t l U m=>grind [xA,AF]|agg f d ih=>intro k τ vs bs h C I;simp only[FC] at h;grind [Ty.beq,AF]|cons x y kZ kV=>intro k τ vs bs h C I;simp only[FC] at h;split at h;split at h;obtain⟨h0,t0,us,ws,rfl,rfl,g1,g2⟩:=C;obtain⟨J,R,us',ws',e,e2,j,g2'⟩:=I;injection e with e3 e4;subst e3;subst e4;obtain⟨rfl,rfl⟩:=List.append_inj e2 (by rw[yZ9 g1,yZ9 j]);grind;grind;grind|val _ _=>grind [FC,jA]|nil=>grind [FC,jA]|nl=>grind [FC,jA]|_=>grind [FC]
theorem yG4 {G':Gh}{w':World}{tm':Array Value}{A k:AVal}{v:Value}{bs:List Bor}(h:FC A k=some bs)(J:zA G w tm none A v)(R:zA G' w' tm' none k v):∀b∈bs,Xb G w G' w' b:=by cases A with|own t l U m=>grind [zA,xA]|agg f d=>simp only[FC] at h;grind [Ty.beq,Ty.eq_of_beq,zA,Value.agg.injEq,xL2]|cons x y=>simp only[FC] at h;split at h;obtain⟨u,us,e1,g1,g2⟩:=J;obtain⟨u',us',I,j,C⟩:=R;rw[e1] at I;obtain⟨rfl,rfl⟩:=I;split at h;rename_i bx by' hx hy;simp at h;subst h;intro b hb;rcases mem_append.1 hb with hb|hb;exact yG4 hx g1 j b hb;exact yG4 hy g2 C b hb;grind;grind|val _ _=>grind [FC,jA]|nil=>grind [FC,jA]|nl=>grind [FC,jA]|_=>grind [FC] termination_by A
variable {b:Bor}
theorem xL3{G':Gh}{w':World}(hb:Xb G w G' w' b)(gz:0<b.l.length){l:List b.t.den}(h:BQ G w b.t l b.U m v)(hlen:l.length=b.l.length):BQ G' w' b.t b.l' b.T b.m v:=by obtain⟨C,u,m0,j,I⟩:=hb;by_cases ht:b.t.isL=true;rcases j with j|⟨_,k,e,_,_,_,_,_,e1,_⟩;exact absurd ht (by rw[j.1.2];simp);rcases h with h|⟨_,k,e,_,_,_,_,_,J,_⟩;exact absurd ht (by rw[h.1.2];simp);grind;(have ht:b.t.isL=false:=by grind);have j:=EO j ht;have h:=EO h ht;rcases j.2 with ⟨_,e⟩ | ⟨cap,cur,e,us,R,q2,q3,q4,q5,_⟩;grind;rcases h.2 with ⟨_,e⟩ | ⟨cap',cur',e',us',p1,p2,p3,p4,p5,_⟩;grind;grind [Nat.eq_of_mul_eq_mul_right]
theorem yV2:∀{bs:List Bor},SD bs T=some b->b∈bs/\b.U=T:=by intro bs;induction bs with|nil=>intro h;cases h|cons x r j=>intro h;simp only[SD] at h;cases hb:Nat.beq x.U T<;>simp_all
structure TurnOk (bs:List Bor) (L:List Nat) (G:Gh) (w:World) (G':Gh) (w':World):Prop where
 prot:∀b o,b<w.heap.size->G.χ b o=0->G'.χ b o=0/\w'.cell? ⟨b,o,none⟩=w.cell? ⟨b,o,none⟩
 ref:∀s,G'.β s=G.β s
 keep:∀t l T m v,T∉L->BQ G w t l T m v->BQ G' w' t l T m v
 tag:∀T,T∉L->G'.γ T=G.γ T
 bor:∀b∈bs,∀(l:List b.t.den) m v,l.length=b.l.length->BQ G w b.t l b.U m v->BQ G' w' b.t b.l' b.U b.m v
 inL:∀b∈bs,b.U∈L
 blk:∀T,T∉L->(∀o,G.χ (G.γ T) o=AM T)->G.γ T<w.heap.size->w'.heap[G.γ T]?=w.heap[G.γ T]?/\∀o,G'.χ (G.γ T) o=AM T
variable {L:List Nat}
theorem yV3(h:L.any (Nat.beq T)=false):T∉L:=λhm=>by grind [xW7]
variable {os:Option Nat}
theorem xA0{G':Gh}{w':World}(H:TurnOk bs L G w G' w'){t:Ty}{l:List t.den}(j:∀q∈(AVal.own t l T m).borAsks bs,q)(h:BQ G w t l T m v):zA G' w' tm os ((AVal.own t l T m).turn bs L) v/\(((AVal.own t l T m).turn bs L).fitsT (.sl t)->AF G' w' (.sl t) ((AVal.own t l T m).turn bs L) [v]):=by simp[AVal.turn,AVal.mapOwn];cases hb:SD bs T with|some b=>obtain⟨J,R⟩:=yV2 hb;subst R;simp only[AVal.borAsks,hb,jH,forall_eq] at j;simp only;split;rename_i l2 C;obtain⟨e,C⟩:=EE C;injection e with e;subst e;have:=H.bor b J l m v j h;grind [zA,AF];grind [zA,AVal.fitsT]|none=>cases hL:L.any (Nat.beq T) with|true=>simp;(cases m with|true=>grind [zA,AVal.fitsT]|false=>have I:=CX H.prot (G3 h);exact⟨by exact Lo I,λ_=>by simp only[jD,AF];exact⟨trivial,rfl,I⟩⟩)|false=>have:=H.keep t l T m v (yV3 hL) h;grind [zA,AF]
theorem yR3{G':Gh}{w':World}(H:TurnOk bs L G w G' w'):∀{A:AVal}{τ:Ty}{vs:List Value},(∀q∈A.borAsks bs,q)->AF G w τ A vs->(A.turn bs L).laxT τ->AF G' w' τ (A.turn bs L) vs:=by intro A;induction A with|val τ' x=>intro τ vs _ h _;exact⟨h.1,h.2.1,CX H.prot h.2.2⟩|nil=>simp_all [AVal.turn,AVal.mapOwn,AF]|own t l T m=>intro τ vs C h j;obtain⟨rfl,v,rfl,J⟩:=h;exact (xK1 j).elim (xA0 (tm:=#[]) (os:=none) H C J).2 (λe=>by rw[e];exact⟨rfl,v,rfl,WO J⟩)|agg f b ih=>intro τ vs C h j;obtain⟨rfl,h⟩:=h;have e:(AVal.agg f b).turn bs L=cond ((b.turn bs L).laxT f) (.agg f (b.turn bs L)) (.junk):=rfl;rw[e] at j ⊢;(cases hc:(b.turn bs L).laxT f with|false=>grind [AVal.laxT,Ty.isSl]|true=>simp[AF];simp_all [AVal.borAsks])|nl=>simp_all [AVal.turn,AVal.mapOwn,AF]|junk=>simp_all [AVal.turn,AVal.mapOwn,AF]|cons x y kZ kV=>intro τ vs C h j;obtain⟨h1,t1,us,ws,rfl,rfl,R,h3⟩:=h;have e:(AVal.cons x y).turn bs L=.cons (x.turn bs L) (y.turn bs L):=rfl;rw[e] at j ⊢;simp[AVal.laxT,GU] at j;simp[AVal.borAsks] at C;exact⟨_,_,us,ws,rfl,rfl,kZ (λq I=>C q (.inl I)) R j.1,kV (λq I=>C q (.inr I)) h3 j.2⟩|_=>grind [AF]
theorem xL4{G':Gh}{w':World}(H:TurnOk bs L G w G' w'):∀{A:AVal}{os:Option Nat}{v:Value},(∀q∈A.borAsks bs,q)->(∀s,os=some s->(∀o,G.χ (G.β s) o=BM s)->G.β s<w.heap.size->w'.heap[G.β s]?=w.heap[G.β s]?/\∀o,G'.χ (G.β s) o=BM s)->zA G w tm os A v->zA G' w' tm os (A.turn bs L) v:=by intro A;induction A with|junk=>simp_all [AVal.turn,AVal.mapOwn,zA]|val τ x=>intro os v _ _ h;exact Gz H.prot h|nil=>simp_all [AVal.turn,AVal.mapOwn,zA]|nn b=>simp_all [AVal.turn,AVal.mapOwn,zA]|own t l T m=>grind [zA,xA0]|eref s T t i p=>intro os v _ _ h;have e:(AVal.eref s T t i p).turn bs L=cond (L.any (Nat.beq T)) (.junk) (.eref s T t i p):=rfl;rw[e];(cases hL:L.any (Nat.beq T) with|true=>simp[zA]|false=>simp;simp only[zA] at h ⊢;rw[H.tag T (yV3 hL)];grind)|opt s' want gg A I=>intro os v J _ h;exact⟨h.1,λe=>I J (λs e=>by grind) (h.2.1 e),h.2.2⟩|box τ b I=>intro os v J iM h;have e:(AVal.box τ b).turn bs L=cond ((b.turn bs L).laxT τ) (.box τ (b.turn bs L)) (.junk):=rfl;rw[e];(cases os with|none=>grind [zA]|some s=>cases hc:(b.turn bs L).laxT τ with|false=>simp[zA]|true=>obtain⟨R,km,cur,e,j,h3,C⟩:=h;obtain⟨q1,q2⟩:=iM s rfl C (EZ j);exact⟨by rw[H.ref];grind,km,cur,e,by rw[H.ref,q1];grind,yR3 H (by grind [AVal.borAsks]) h3 hc,λo=>by rw[H.ref];grind⟩)|ref s' τ p=>intro os v _ _ h;simp[AVal.turn,AVal.mapOwn,zA] at h ⊢;rw[H.ref];grind|raw=>intro os v _ iM h;(cases os with|none=>grind [zA]|some s=>obtain⟨R,u,e,j,C⟩:=h;obtain⟨q1,q2⟩:=iM s rfl C (EZ j);exact⟨by rw[H.ref];grind,u,e,by rw[H.ref,q1];grind,λo=>by rw[H.ref];grind⟩)|ownh t l T i U m=>simp[AVal.turn,AVal.mapOwn,zA]|rref s'=>intro os v _ _ h;simp[AVal.turn,AVal.mapOwn,zA] at h ⊢;rw[H.ref];grind|fptr f caps=>intro os v _ _ h;obtain⟨b,R,j,h3⟩:=h;(have hb:b<w.heap.size:=by grind [cell?]);obtain⟨C,h5⟩:=H.prot b 0 hb j;refine⟨b,R,C,?_⟩;rw[h5,h3];congr 3;refine List.map_congr_left λq hq=>?_;(cases q with|none=>rfl|some q=>simp only[Ie];rw[H.ref])|agg f b _=>have e:(AVal.agg f b).turn bs L=cond ((b.turn bs L).laxT f) (.agg f (b.turn bs L)) (.junk):=rfl;grind [zA,yR3,AVal.borAsks]|nl=>intro os v _ _ h;exact h|cons x y kZ kV=>intro os v J _ h;have e:(AVal.cons x y).turn bs L=.cons (x.turn bs L) (y.turn bs L):=rfl;simp[AVal.borAsks] at J;grind [zA]|tup b I=>have e:(AVal.tup b).turn bs L=.tup (b.turn bs L):=rfl;grind [zA,AVal.borAsks]|fn f b I=>have e:(AVal.fn f b).turn bs L=.fn f (b.turn bs L):=rfl;grind [zA,AVal.borAsks]
theorem xE3{G':Gh}{w':World}(H:TurnOk bs L G w G' w')(ha:∀q∈A.borAsks bs,q)(hb:∀s,os=some s->(∀o,G.χ (G.β s) o=BM s)->G.β s<w.heap.size->w'.heap[G.β s]?=w.heap[G.β s]?/\∀o,G'.χ (G.β s) o=BM s)(h:zA G w tm os A v):zA G' w' tm os (A.turnH bs L) v:=by cases A with|ownh t l T i U m=>simp only[AVal.turnH];(cases J:(!(Nat.beq T U)&&!(L.any (Nat.beq T))) with|false=>simp[zA]|true=>simp only[jB,jK] at J;have C:=yV3 J.2;obtain⟨hv,⟨he,_⟩ | ⟨kh,h|⟨cap,cur,e,h1,h2,h3,h4,h5,h6,h7⟩⟩⟩:=h;simp_all;exact⟨hv,.inl ⟨rfl,.inr ⟨rfl,.inl h⟩⟩⟩;obtain⟨b1,b2⟩:=H.blk T C h6 (EZ h2);have hg:=H.tag T C;refine⟨hv,.inl ⟨rfl,.inr ⟨rfl,.inr ⟨cap,cur,e,by grind,by grind,h3,h4,h5,λo=>by grind,λj x hj I=>?_⟩⟩⟩⟩;obtain⟨u,hu,R⟩:=h7 j x hj;rw[if_neg I] at R;exact⟨u,hu,CX H.prot R⟩)|_=>exact xL4 H ha hb h
theorem xL5(h:A.hung d=false):(A.turn bs L).hung d=false:=by refine yF8 h (λt l T m=>?_) (λs T t i p=>?_);all_goals grind [AVal.hung]
theorem xE4(h:A.hung d=false):(A.turnH bs L).hung d=false:=by cases A with|ownh t l T i U m=>simp only[AVal.turnH];cases (!(Nat.beq T U)&&!(L.any (Nat.beq T)))<;>simp[AVal.hung]|_=>exact xL5 h
theorem xL6:∀{R:St},St.has s (GZ bs L S R)->(∀e∈GZ bs L S R,e.1≠BP)->(GZ bs L S R).get s=(S.get s).turnH bs L:=by intro R;induction R<;>grind [GZ,St.has,JX,St.get,Nat.beq,jC,absurd,jQ]
theorem xE5(ht:JX L (S.get s)):∀{R:St},St.has s R->St.has s (GZ bs L S R):=by intro R;induction R with|nil=>grind [St.has]|cons e r j=>intro h;obtain⟨C,A⟩:=e;simp only[GZ];simp only[St.has,any_cons,or_eq_true] at h;cases ny:JX L (S.get C) with|false=>rcases h with h|h;simp_all;exact j h|true=>simp only[jE,St.has,any_cons,or_eq_true];rcases h with h|h;grind;exact .inr (j h)
theorem yV4(ht:JX L (S.get s)):∀{k:Nat},s<k->(∀q∈W7 bs L S k,q)->∀q∈(S.get s).borAsks bs,q:=by intro k;induction k with|zero=>grind|succ k C=>intro h j;simp[W7] at j;by_cases e:s=k;grind;grind
theorem xL7(h:JX L A):A≠.junk:=by intro e;subst e;obtain⟨T,_,h⟩:=any_eq_true.1 h;grind [AVal.hasTag]
theorem yG5{Y:AVal}(h:EN hb wants i Y k=A)(C:Ft A):∃s τ j,Y=.ref s τ []/\k=.box τ j/\A=.box τ (j.pos τ (GY i)):=by subst h;cases Y with|ref s τ p=>(cases p with|nil=>(cases k with|box τ' j=>simp only[EN] at C ⊢;(cases hb:Ty.beq τ' τ with|false=>grind [Ft]|true=>have:=Ty.eq_of_beq hb;subst this;exact⟨s,τ',j,rfl,rfl,rfl⟩)|_=>grind [EN,Ft])|cons _ _=>grind [EN,Ft])|own t l T m=>grind [EN,Ft]|agg f d=>grind [EN,Nat.beq,Ft]|fn f cs=>grind [EN,Ft]|fptr f caps=>grind [EN,Ft]|_=>grind [EN,Ft]
theorem yV5(hc:CtxOk P c)(hR:Rel c.n χ0 w0 S a w G)(ho:o.op=.call { callee:=.value fo,args,argTypes:=ats })(hf:zA G w a.tmps none (.fn f cs) (a.eval fo))(hr:C2 (zA G w a.tmps none) r (args.toList.map a.eval))(kr:Iw cs)(h:W9 c o.dst f (r++cs.toL) S=some (p,u,hv))(hlt:∀e∈u,e.1<c.n)(hh:∀s,∀e∈u,(S.get s).hung e.1=false)(hp:∀q∈p,q){next:Act->World->Prop}(hZ:∀v w' G',Rel c.n χ0 w0 (u++S) (a.put o.dst v) w' G'->next (a.put o.dst v) w'):o.wpIn (fz rd) 0 P a w next Q:=by simp only[zA] at hf;obtain⟨vs,tu,nk⟩:=hf;have ko:=WZ (vs:=vs.toList) kr (by simpa using nk);have gC:=Xa hr ko;generalize hysd:r++cs.toL=ys at h gC;generalize hwd:look [] c.wants f=wants at h;unfold W9 at h;rw[hwd] at h;split at h;(·grind);(·rename_i co nv;split at h;(·grind);(·rename_i u1 bs K gW;obtain⟨sp,gI,hsp⟩:=zO7 nv;have kf:=hc.fns f sp gI;obtain⟨fn,h1,h2,h3⟩:=kf.1;(have ke:(execOp a.eval o).run P w=.ok (.enter f (args.toList.map a.eval++vs.toList).toArray) w:=by (have gE:(args.toList.map a.eval++vs.toList).toArray=args.map a.eval++vs:=by grind);rw[gE];unfold execOp;(have hbn:fn.body.isNone=false:=by simp_all);simp[ho,resolve,tu,Deferred.ofValue,invoke,callFunc,h1,h3];grind);generalize tw:args.toList.map a.eval++vs.toList=vals at gC ke;generalize hks:ys.map (C6 S)=ks at h hsp;(have hksl:ys.length=ks.length:=by grind);have hysl:=NJ gC;generalize qy:(_&&Jn (_++u1.map (·.1)))=bb at h;cases bb with|false=>grind|true=>simp only[jB] at qy;obtain⟨⟨⟨⟨⟨⟨⟨⟨b1,b2⟩,b3⟩,b4⟩,b5⟩,b6⟩,b7⟩,b8⟩,b9⟩:=qy;simp only[jE,jA,jG] at h;obtain⟨hpe,hu,_⟩:=h;generalize hHT:N6 wants 0 ys ks=HT at b5 b6 hu hpe;generalize hHB:Jo 0 ys=HB at b1 b3 b4 hsp;generalize hKT:xY o.dst++K=KT at b7 b8 hu hpe;generalize hL:HT.map (·.1)++KT.map (·.2)=L at hu hpe;subst hpe;have hpok:∀q∈co.ok,q:=λq hq=>hp q (mem_append_left _ hq);have hppos:∀b∈bs,0<b.l.length:=λb hb=>hp _ (mem_append_right _ (mem_append_left _ (mem_map.2 ⟨b,hb,rfl⟩)));have hpask:∀q∈W7 bs L S c.n,q:=λq hq=>hp q (mem_append_right _ (mem_append_right _ hq));have f1:=r9 b4;(have f1':Fh (zQ HB):=by grind [xE2]);have f2:=r9 b5;have f2':=yJ4 b6;have f3:=r9 b7;have f3':=yJ4 b8;(have ta:∀(i:Nat) Y,ys[i]?=some Y->(Lk HB wants 0 ys ks)[i]?=some (EN HB wants i Y (C6 S Y)):=λi Y C=>by have:=xS0 (hb:=HB) (wants:=wants) (ks:=ks) (i:=0) C (show ks[i]?=some (C6 S Y) by grind);rwa [zero_add] at this);refine Tb ke ((kf.2 _ co hsp hpok (G.calleeH HB HT) w vals (by grind [yR2]) (NA zP hR.glob) (λi A v hA hv=>?_)).mono ?_);(·(have qm:i<ys.length:=by grind);obtain⟨Y,C⟩:∃Y,ys[i]?=some Y:=⟨_,jL qm⟩;rw[ta i Y C] at hA;injection hA with hA;subst hA;refine xK7 (kv:=match zD Y with |some s=>a.tmps.getD s undef|none=>undef) f1 f1' f2 f2' (P2 gC C hv) (λs hs=>by grind [NL]) (λq hq=>?_) (λq hq=>?_);(·rw[<-hHT];exact xE1 (i:=0) C (show ks[i]?=some (C6 S Y) by grind) (by rwa [zero_add]));(·rw[<-hHB];exact yJ5 (i:=0) C (by rwa [zero_add])));(·rintro e w' ⟨v,G',rfl,hF,kY,qb⟩;refine⟨v,rfl,hZ v w' (G.backH G' w.heap.size HB HT KT) ?_⟩;(have gR:u=Ew o.dst co.res u1++GZ bs L S S:=by grind [Ew]);subst gR;have tb:∀e∈Ew o.dst co.res u1,e.1<c.n:=λe he=>hlt e (mem_append_left _ he);(have qv:∀e∈Ew o.dst co.res u1,e.1≠BP:=λe he=>by have:=tb e he;have:=hc.n;omega);(have tx:∀e∈GZ bs L S S,e.1≠BP:=λe he=>by have:=hlt e (mem_append_right _ he);have:=hc.n;omega);(have tz:∀e∈u1,e∈Ew o.dst co.res u1:=by grind [Ew,jP]);obtain⟨g1,g2,g3⟩:=xL0 gW;have kz:=zT (KT:=KT) hF;have kW:∀U T,(U,T)∈KT->∀(t:Ty) (l:List t.den) m v,BQ G' w' t l U m v->BQ (G.backH G' w.heap.size HB HT KT) w' t l T m v:=λU T hm t l m v h=>yR1 hF f1' f3 f3' hm h;have I:=xK9 (G:=G) (KT:=KT) hF;(have h0:¬((∃y,((0:Nat),y)∈EJ HB HT)\/∃U,U∈KT.map (·.2)/\0=AM U):=by rintro (⟨y,hy⟩ | ⟨U,_,e⟩);(·have:=yN hy;omega);grind [DG]);(have qz:∀s i,(s,i)∈HB->∃e∈u1,e.1=s:=by intro s i hm;rw[<-hHB] at hm;obtain⟨_,τ,C⟩:=yG3 hm;simp only[Nat.sub_zero] at C;have hA:=ta i _ C;have iM:=zO8 b3 C hA;obtain⟨J,τ',k',e1,e2,e3⟩:=yG5 rfl iM;rw[e3] at hA;obtain⟨k,hk⟩:=yF5 b1 hA;rw[zero_add] at hk;obtain⟨Y',u',bs',K',q1,q2,j⟩:=g1 i k hk;rw[C] at q1;injection q1 with q1;subst q1;simp only[xV] at q2;generalize (AVal.fits τ k&&fU (k.tags τ (GY i)))=bb at q2;cases bb with|false=>grind|true=>simp only[jE,jA,jG] at q2;exact⟨_,j _ (by rw[<-q2.1];exact jQ ..),rfl⟩);(have uj:∀e∈u1,∀tm',zA (G.backH G' w.heap.size HB HT KT) w' tm' (some e.1) e.2 (a.tmps.getD e.1 undef):=by intro e he tm';obtain⟨i,k,Y,u',bs',K',q1,C,j,q4,q5⟩:=g2 e he;have hA:=ta i Y C;(have qm:i<vals.length:=by grind);obtain⟨uv,huv⟩:∃uv,vals[i]?=some uv:=⟨_,jL qm⟩;obtain⟨c1,c2⟩:=qb i k _ uv q1 hA huv;have hYv:=P2 gC C huv;(have hKT':∀q∈K',q∈KT:=λq hq=>by grind);(have uk:(∃s τ,Y=.ref s τ [])\/u'=[]:=by unfold xV at j;split at j;(·exact .inl ⟨_,_,rfl⟩);(·right;split at j;(·simp only[jA,jG] at j;exact j.1.symm);(·cases j)));rcases uk with ⟨s,τ,rfl⟩ | e1;(·have iM:=zO8 b3 C hA;obtain⟨J,τ',k',e1,e2,e3⟩:=yG5 rfl iM;injection e1 with e1 e4 _;subst e1;subst e4;obtain⟨ir,gZ⟩:=c1 τ _ e3;simp only[xV] at j;generalize hfb:(AVal.fits τ k&&fU (k.tags τ (GY i)))=bb at j;cases bb with|false=>cases j|true=>simp only[jE,jA,jG] at j;obtain⟨rfl,rfl,rfl⟩:=j;simp only[jH] at q4;subst q4;(have hm:(s,i)∈HB:=by rw[<-hHB];exact yJ5 (i:=0) C (by simp[Hu]));(have hβ:G'.β i=G.β s:=by rw[gZ];simp only[Gh.calleeH];rw[I5 f1' (mem_swap.2 hm)]);have hr0:=hR.reps s;simp only[C6] at e2;rw[e2] at hr0;obtain⟨_,cur,ee,_,_,g3⟩:=NG hr0;have:=xK8 (KT:=KT) (tm:=tm') hF f1 f1' f3 f3' f2 hm g3 hβ hKT' ir;(have hval:uv=a.tmps.getD s undef:=by simp only[zA] at hYv hr0;rw[hYv.2,hr0.1];simp[Ty.poff]);rw[hval] at this;exact this);grind);(have hbor:∀b∈bs,Xb G w G' w' b/\(b.T,b.U)∈KT:=by intro b hb;obtain⟨i,k,Y,u',bs',K',q1,C,j,q4,q5⟩:=g3 b hb;have hA:=ta i Y C;(have qm:i<vals.length:=by rw[<-hysl];exact (List.getElem?_eq_some_iff.1 C).1);obtain⟨uv,huv⟩:∃uv,vals[i]?=some uv:=⟨_,jL qm⟩;obtain⟨c1,c2⟩:=qb i k _ uv q1 hA huv;have hYv:=P2 gC C huv;unfold xV at j;split at j;(·rename_i s τ;generalize (AVal.fits τ k&&fU (k.tags τ (GY i)))=bb at j;cases bb with|false=>cases j|true=>simp only[jE,jA,jG] at j;rw[<-j.2.1] at q4;cases q4);(·rename_i hnr;split at j;(·rename_i bs2 iO;simp only[jA,jG] at j;obtain⟨_,rfl,rfl⟩:=j;(have hnb:Ft (EN HB wants i Y (C6 S Y))=false:=by cases iM:Ft (EN HB wants i Y (C6 S Y)) with|false=>rfl|true=>obtain⟨s,τ,_,e1,_⟩:=yG5 rfl iM;exact absurd e1 (hnr s τ));refine⟨yG4 iO hYv (c2 hnb) b q4,?_⟩;rw[<-hKT];exact mem_append_right _ (q5 _ (mem_map.2 ⟨b,q4,rfl⟩)));(·cases j)));(have gy:∀T,T∉L->¬((∃y,(AM T,y)∈EJ HB HT)\/∃U,U∈KT.map (·.2)/\AM T=AM U):=by intro T hT;rw[<-hL] at hT;rintro (⟨y,hy⟩ | ⟨U,hU,e⟩);(·obtain⟨U,_,hm⟩:=cols_arr.1 hy;exact hT (mem_append_left _ (mem_map.2 ⟨_,hm,rfl⟩)));(·have:=CL e;subst this;exact hT (mem_append_right _ hU)));(have hturn:TurnOk bs L G w (G.backH G' w.heap.size HB HT KT) w':=by refine⟨I.prot,λs=>rfl,λt l T m v hT h=>Hb I h0 (gy T hT) h,λT hT=>I.tag T (λC=>gy T hT (.inr C)),λb hb l m v hlen h=>?_,λb hb=>?_,λT hT kg iN=>?_⟩;(·exact kW _ _ (hbor b hb).2 _ _ _ _ (xL3 (hbor b hb).1 (hppos b hb) h hlen));(·rw[<-hL];exact mem_append_right _ (mem_map.2 ⟨_,(hbor b hb).2,rfl⟩));(·have:=I.block _ iN (λo hX=>by rw[kg o] at hX;exact gy T hT hX);exact⟨this.1,λo=>by rw[this.2 o];exact kg o⟩));(have htag0:∀s,St.has s (Ew o.dst co.res u1++GZ bs L S S)=false->∀T,T∈L->(S.get s).hasTag T=false:=by intro s hs T hT;cases ht:(S.get s).hasTag T with|false=>rfl|true=>have tc:JX L (S.get s):=any_eq_true.2 ⟨T,hT,ht⟩;have:=xE5 (bs:=bs) tc (P3 (xL7 tc));simp only[St.has,List.any_append,jJ] at hs;rw[St.has] at this;rw[hs.2] at this;cases this);refine Hd hR hc.n hlt (λd e=>by rw[e];simp[Ew,St.has]) I h0 (yU9 hF hR.frame) (λs hs=>?_) (λs d e _=>?_) (λs hs=>?_);(·refine yV1 (λT hT=>htag0 s hs T (by rw[<-hL];exact mem_append.2 hT)) (λJ e hm=>?_);injection e with e;subst e;obtain⟨q,hq,e2⟩:=mem_map.1 hm;obtain⟨e,he,e3⟩:=qz q.1 q.2 hq;have:St.has s (Ew o.dst co.res u1++GZ bs L S S):=any_eq_true.2 ⟨e,mem_append_left _ (tz e he),by rw[e3,e2];exact Nat.beq_refl _⟩;rw[hs] at this;cases this);(·exact hh s (d,co.res.tagTo d) (mem_append_left _ (by rw[e];simp[Ew])));(·cases iU:St.has s (Ew o.dst co.res u1) with|true=>rw[NM qv iU];have hm:=p8 iU qv;(cases hd:o.dst with|none=>rw[hd] at hm iU;simp only[Ew] at hm iU ⊢;exact uj _ hm _|some d=>rw[hd] at hm iU b9;simp only[Ew] at hm iU ⊢;(have gP:d<a.tmps.size:=by rw[hR.len];exact tb (d,co.res.tagTo d) (by rw[hd];simp[Ew]));by_cases e:s=d;(·subst e;(have:St.get ((s,co.res.tagTo s)::u1) s=co.res.tagTo s:=by simp[St.get]);rw[this,Gn gP,if_pos rfl];refine Pt (xD7 (tm:=#[]) kz (λT hT t l m v h=>kW T (T*100000+s) ?_ t l m v h) b2 kY);rw[<-hKT,hd];refine mem_append_left _ ?_;(obtain rfl|rfl|rfl|rfl:T=0\/T=1\/T=2\/T=3:=by omega);all_goals simp[xY]);(·rcases mem_cons.1 hm with hm|hm;(·injection hm with hm _;exact absurd hm e);(·rw[Gn gP,if_neg e];exact uj _ hm _)))|false=>rw[Lr qv iU];(have hsT:St.has s (GZ bs L S S):=by simp only[St.has,List.any_append,or_eq_true] at hs;rcases hs with hs|hs;(·rw[St.has] at iU;rw[iU] at hs;cases hs);(·exact hs));rw[xL6 hsT tx];have gI:=p8 hsT tx;(have kh:∀d,o.dst=some d->s≠d:=by intro d e e2;subst e2;rw[e] at iU;simp[Ew,St.has] at iU);(have hval:(a.put o.dst v).tmps.getD s undef=a.tmps.getD s undef:=by cases hd:o.dst with|none=>rfl|some d=>(have gP:d<a.tmps.size:=by rw[hR.len];exact tb (d,co.res.tagTo d) (by rw[hd];simp[Ew]));rw[Gn gP,if_neg (kh d hd)]);rw[hval];(have tc:JX L (S.get s):=by cases ht:JX L (S.get s) with|true=>rfl|false=>exfalso;(have key:∀R:St,St.has s (GZ bs L S R)=false:=by intro R;induction R with|nil=>rfl|cons e r ih=>obtain⟨J,A⟩:=e;simp only[GZ];cases ny:JX L (S.get J) with|false=>exact ih|true=>simp only[jE,St.has,any_cons,jJ];refine⟨?_,ih⟩;cases hb:Nat.beq J s with|false=>rfl|true=>have:=jC hb;subst this;rw[ht] at ny;cases ny);rw[key S] at hsT;cases hsT);have hasks:=yV4 (bs:=bs) tc (hlt _ (mem_append_right _ gI)) hpask;(have iM:∀J,some s=some J->(∀o,G.χ (G.β J) o=BM J)->G.β J<w.heap.size->w'.heap[G.β J]?=w.heap[G.β J]?/\∀o,(G.backH G' w.heap.size HB HT KT).χ (G.β J) o=BM J:=by intro J e kg iN;injection e with e;subst e;have:=I.block (G.β s) iN (λo' hX=>by rw[kg o'] at hX;rcases hX with ⟨y,hy⟩ | ⟨U,_,e⟩;(·obtain⟨i,_,hm⟩:=cols_box.1 hy;obtain⟨e,he,e3⟩:=qz s i hm;have:St.has s (Ew o.dst co.res u1):=any_eq_true.2 ⟨e,tz e he,by rw[e3];exact Nat.beq_refl _⟩;rw[iU] at this;cases this);(·exact CK _ _ e));exact⟨this.1,λo=>by rw[this.2 o];exact kg o⟩);refine zO (tm:=a.tmps) (λk hk=>?_) (xE3 hturn hasks iM (hR.reps s));cases hd:o.dst with|none=>rfl|some d=>(have gP:d<a.tmps.size:=by rw[hR.len];exact tb (d,co.res.tagTo d) (by rw[hd];simp[Ew]));rw[Gn gP,if_neg];intro e;subst e;have:=xE4 (bs:=bs) (L:=L) (hh s (k,co.res.tagTo k) (mem_append_left _ (by rw[hd];simp[Ew])));rw[this] at hk;cases hk))))
end Go.Am
