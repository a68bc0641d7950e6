/- node.Check answers for every node: the outlines of strokes. Condition: the polygons of a path. -/
import Derived.Test.YtpanghcojpnkaaaGreatDoorDocS
namespace Go.Proofs.YtpanghcojpnkaaaGreatDoor.Am
open Go Go.Am
abbrev OT:Type:=Int×Int×Int×List (List D125)×Int×Unit
theorem wB0 {n m k:Int}{l:List (List D125)}(h:Few n k l)(hm:n≤m):Few m k l:=⟨Int.le_trans h.1 hm,h.2⟩
theorem vB2 {n:Int}{o:OT}{p:List D125}(h:Few n 16 o.2.2.2.1)(hn:n≤4000000000)(hp:len p≤16):xZ0 o p∧Few (n+1) 16 (xY4 o p).1.2.2.2.1:=by
 refine⟨⟨qZ9 p (by omega),fun h0=>⟨fun h1=>⟨trivial,?_,rfl,rfl,rfl⟩,?_⟩⟩,?_⟩
 ·have h1:f177 p<0:=jF h1
  cases p with
  |nil=>rw[pA0] at h1;omega
  |cons q r=>simp
 ·have h2:=h.1
  simp only[len] at h2
  simp only[List.length_cons,List.length_nil]
  omega
 ·have hm:len (bif (decide (f177 p<0)) then (rE0 p).1 else p)≤16:=by
   cases (decide (f177 p<0)) with
   |true=>simp only[jE,rE0,len,List.length_reverse];exact hp
   |false=>exact hp
  simp only[xY4,uD7]
  cases (f177 p==0) with
  |true=>simp only[jE];exact wB0 h (by omega)
  |false =>
   simp only[jD]
   refine⟨by rw[wI7,wJ7];have:=h.1;omega,fun q hq=>?_⟩
   rcases List.mem_append.1 hq with hq|hq
   ·exact h.2 q hq
   ·rw[jH.1 hq];exact hm
theorem oD6 {n:Int}{o:OT}{c:D125}(h:Few n 16 o.2.2.2.1)(hn:n≤4000000000):vG6 o c∧Few (n+1) 16 (uD9 o c).1.2.2.2.1:=by
 have hc:=uX9 c o.1
 have a1:=vB2 (p:=f176 c o.1) h hn (by rw[hc.2];omega)
 have a2:∀ x y z w:D125,xZ0 o [x,y,z,w]∧Few (n+1) 16 (xY4 o [x,y,z,w]).1.2.2.2.1:=fun x y z w=>vB2 h hn (show (4:Int)≤16 by omega)
 refine⟨⟨fun _=>⟨hc.1,a1.1⟩,fun _ _=>⟨wA2 _ _,wD6 _ _,wD6 _ _,wD6 _ _,wD6 _ _,(a2 _ _ _ _).1⟩⟩,?_⟩
 simp only[uD9,uD8]
 cases (o.2.2.1==1) with
 |true=>exact a1.2
 |false =>
  cases (o.2.2.1==2) with
  |true=>exact (a2 _ _ _ _).2
  |false=>exact wB0 h (by omega)
theorem tV5 {n:Int}{o:OT}{p q:D205}(h:Few n 16 o.2.2.2.1)(hn:n≤3900000000):wN0 o p q∧Few (n+3) 16 (wO4 o p q).1.2.2.2.1:=by
 have hc:=uX9 q.1 o.1
 have a0:=vB2 (p:=f176 q.1 o.1) h (by omega) (by rw[hc.2];omega)
 have a1:=vB2 (p:=[q.1,f161 q.1 p.2.2.2.1,f161 q.1 q.2.2.2.1]) h (by omega) (show (3:Int)≤16 by omega)
 generalize ho1:(xY4 o [q.1,f161 q.1 p.2.2.2.1,f161 q.1 q.2.2.2.1]).1=o1 at a1
 have a2:=vB2 (o:=o1) (p:=[q.1,f162 q.1 p.2.2.2.1,f162 q.1 q.2.2.2.1]) a1.2 (by omega) (show (3:Int)≤16 by omega)
 generalize ho2:(xY4 o1 [q.1,f162 q.1 p.2.2.2.1,f162 q.1 q.2.2.2.1]).1=o2 at a2
 have a3:∀ x y z w:D125,xZ0 o2 [x,y,z,w]∧Few (n+1+1+1) 16 (xY4 o2 [x,y,z,w]).1.2.2.2.1:=fun x y z w=>vB2 a2.2 (by omega) (show (4:Int)≤16 by omega)
 have e1:(xY4 (o.1,o.2.1,o.2.2.1,o.2.2.2.1,o.2.2.2.2.1,()) [q.1,f161 q.1 p.2.2.2.1,f161 q.1 q.2.2.2.1]).1=o1:=ho1
 simp only[wN0,wO4,uE,e1]
 have e2:(xY4 (o1.1,o1.2.1,o1.2.2.1,o1.2.2.2.1,o1.2.2.2.2.1,()) [q.1,f162 q.1 p.2.2.2.1,f162 q.1 q.2.2.2.1]).1=o2:=ho2
 simp only[e2]
 refine⟨⟨fun _=>⟨hc.1,a0.1⟩,fun _=>⟨wD6 _ _,wD6 _ _,a1.1,wJ6 _ _,wJ6 _ _,a2.1,fun _=>⟨wA2 _ _,wA2 _ _,rL2 _ _,fun _=>⟨fun _=>⟨wJ6 _ _,wJ6 _ _,wJ6 _ _,(a3 _ _ _ _).1⟩,fun _=>⟨wD6 _ _,wD6 _ _,wD6 _ _,(a3 _ _ _ _).1⟩⟩⟩⟩⟩,?_⟩
 have b0:=wB0 a0.2 (show n+1≤n+3 by omega)
 have b2:=wB0 a2.2 (show n+1+1≤n+3 by omega)
 have b3:∀ x y z w:D125,Few (n+3) 16 (xY4 o2 [x,y,z,w]).1.2.2.2.1:=fun x y z w=>wB0 (a3 x y z w).2 (by omega)
 generalize (_||_)=c5
 cases c5 with
 |true =>
  simp only[jE]
  cases (o.2.1==1) with
  |true=>exact b0
  |false=>exact b2
 |false =>
  simp only[jD]
  generalize (decide (_>(0:Int)))=c
  cases c with
  |true=>exact b3 _ _ _ _
  |false=>exact b3 _ _ _ _
theorem pA2 {n:Int}{o:OT}{p q:D205}(h:Few n 16 o.2.2.2.1)(hn:n≤3900000000):wY1 o p q∧Few (n+2) 16 (uE1 o p q).1.2.2.2.1:=by
 have hc:=uX9 p.1 o.1
 have a0:=vB2 (p:=f176 p.1 o.1) h (by omega) (by rw[hc.2];omega)
 generalize ho1:(xY4 o (f176 p.1 o.1)).1=o1 at a0
 have hc2:=uX9 q.2.1 o1.1
 have a1:=vB2 (o:=o1) (p:=f176 q.2.1 o1.1) a0.2 (by omega) (by rw[hc2.2];omega)
 have b0:=vB2 (o:=o) (p:=[f161 (f162 p.1 p.2.2.2.2.1) p.2.2.2.1,f161 p.1 p.2.2.2.1,f162 p.1 p.2.2.2.1,f162 (f162 p.1 p.2.2.2.2.1) p.2.2.2.1]) h (by omega) (show (4:Int)≤16 by omega)
 generalize ho2:(xY4 o [f161 (f162 p.1 p.2.2.2.2.1) p.2.2.2.1,f161 p.1 p.2.2.2.1,f162 p.1 p.2.2.2.1,f162 (f162 p.1 p.2.2.2.2.1) p.2.2.2.1]).1=o2 at b0
 have b1:∀ x y z w:D125,xZ0 o2 [x,y,z,w]∧Few (n+1+1) 16 (xY4 o2 [x,y,z,w]).1.2.2.2.1:=fun x y z w=>vB2 b0.2 (by omega) (show (4:Int)≤16 by omega)
 have e1:(xY4 (o.1,o.2.1,o.2.2.1,o.2.2.2.1,o.2.2.2.2.1,()) (f176 p.1 o.1)).1=o1:=ho1
 have e2:(xY4 (o.1,o.2.1,o.2.2.1,o.2.2.2.1,o.2.2.2.2.1,()) [f161 (f162 p.1 p.2.2.2.2.1) p.2.2.2.1,f161 p.1 p.2.2.2.1,f162 p.1 p.2.2.2.1,f162 (f162 p.1 p.2.2.2.2.1) p.2.2.2.1]).1=o2:=ho2
 simp only[wY1,uE1,uE0,e1,e2]
 refine⟨⟨fun _=>⟨hc.1,a0.1,hc2.1,a1.1⟩,fun _ _=>⟨wJ6 _ _,wD6 _ _,wD6 _ _,wJ6 _ _,wJ6 _ _,b0.1,wD6 _ _,wD6 _ _,wD6 _ _,wJ6 _ _,wJ6 _ _,(b1 _ _ _ _).1⟩⟩,?_⟩
 have c0:=wB0 a1.2 (show n+1+1≤n+2 by omega)
 cases (o.2.2.1==1) with
 |true=>exact c0
 |false =>
  cases (o.2.2.1==2) with
  |true=>exact wB0 (b1 _ _ _ _).2 (by omega)
  |false=>exact wB0 h (by omega)
theorem pol6 {n:Int}{o:OT}(b:Bool)(l:List D205)(h:Few n 16 o.2.2.2.1)(hn:n≤3000000000)(hl:len l≤4097) :
  Am.Ends (wH8 (b,l,l,len l,())) (wC6 (b,l,l,len l,())) (wJ0 (b,l,l,len l,())) (o,0,())∧Few (n+4097) 16 (zC3 (wH8 (b,l,l,len l,())) (wC6 (b,l,l,len l,())) (o,0,())).1.2.2.2.1:=by
 have st:∀ x:wD0,((0≤x.2.1∧x.2.1≤len l)∧Few (n+x.2.1) 16 x.1.2.2.2.1)→∀ p q r s:D125,xZ0 x.1 [p,q,r,s]∧Few (n+x.2.1+1) 16 (xY4 x.1 [p,q,r,s]).1.2.2.2.1:=fun x hx p q r s=>vB2 hx.2 (by omega) (show (4:Int)≤16 by omega)
 have w:=whole (g:=wH8 (b,l,l,len l,())) (next:=wC6 (b,l,l,len l,())) (ok:=wJ0 (b,l,l,len l,())) (fun x=>(0≤x.2.1∧x.2.1≤len l)∧Few (n+x.2.1) 16 x.1.2.2.2.1) (fun x=>(len l-x.2.1).toNat) (fun x hx=>fun h3=>?_) (fun x hx hg=>?_) (x:=(o,0,())) ⟨⟨Int.le_refl 0,xT7 l⟩,by rw[Int.add_zero];exact h⟩ (by unfold zI1;simp only;omega)
 ·exact⟨w.1,wB0 w.2.1.2 (by have:=w.2.1.1;omega)⟩
 ·have h4:x.2.1<len l:=jF h3
  exact⟨⟨hx.1.1,h4⟩,wD6 _ _,wD6 _ _,wJ6 _ _,wJ6 _ _,(st x hx _ _ _ _).1,xY3 (by omega) (by omega)⟩
 ·have h4:x.2.1<len l:=jF hg
  refine⟨⟨(show 0≤x.2.1+1∧x.2.1+1≤len l by omega),?_⟩,(show (len l-(x.2.1+1)).toNat<(len l-x.2.1).toNat by omega)⟩
  show Few (n+(x.2.1+1)) 16 (xY4 x.1 _).1.2.2.2.1
  rw[← Int.add_assoc]
  exact (st x hx _ _ _ _).2
theorem oO2 {n:Int}{o:OT}(b:Bool)(l:List D205)(h:Few n 16 o.2.2.2.1)(hn:n≤3000000000)(hl:len l≤4097) :
  Am.Ends (wD1 (b,l,())) (wA8 (b,l,())) (wG2 (b,l,())) (o,1,())∧Few (n+12300) 16 (zC3 (wD1 (b,l,())) (wA8 (b,l,())) (o,1,())).1.2.2.2.1:=by
 have st:∀ x:wC,((1≤x.2.1∧x.2.1≤4098)∧Few (n+3*x.2.1) 16 x.1.2.2.2.1)→∀ p q:D205,wN0 x.1 p q∧Few (n+3*x.2.1+3) 16 (wO4 x.1 p q).1.2.2.2.1:=fun x hx p q=>tV5 hx.2 (by omega)
 have w:=whole (g:=wD1 (b,l,())) (next:=wA8 (b,l,())) (ok:=wG2 (b,l,())) (fun x=>(1≤x.2.1∧x.2.1≤4098)∧Few (n+3*x.2.1) 16 x.1.2.2.2.1) (fun x=>(len l-x.2.1).toNat) (fun x hx=>fun h3=>?_) (fun x hx hg=>?_) (x:=(o,1,())) ⟨⟨Int.le_refl 1,(by omega:(1:Int)≤4098)⟩,wB0 h (show n≤n+3*1 by omega)⟩ (by unfold zI1;simp only;omega)
 ·exact⟨w.1,wB0 w.2.1.2 (by have:=w.2.1.1;omega)⟩
 ·have h4:x.2.1<len l:=jF h3
  have h5:=hx.1.1
  exact⟨xY3 (by omega) (by omega),⟨(show 0≤x.2.1-1 by omega),(show x.2.1-1<len l by omega)⟩,⟨(show 0≤x.2.1 by omega),h4⟩,(st x hx _ _).1,xY3 (by omega) (by omega)⟩
 ·have h4:x.2.1<len l:=jF hg
  have h5:=hx.1.1
  refine⟨⟨(show 1≤x.2.1+1∧x.2.1+1≤4098 by omega),?_⟩,(show (len l-(x.2.1+1)).toNat<(len l-x.2.1).toNat by omega)⟩
  show Few (n+3*(x.2.1+1)) 16 (wO4 x.1 _ _).1.2.2.2.1
  exact wB0 (st x hx _ _).2 (by omega)
set_option maxHeartbeats 1000000 in
theorem sZ2 {n:Int}{o:OT}{l:List D125}{b:Bool}(h:Few n 16 o.2.2.2.1)(hn:n≤2000000000)(hl:len l≤4096):wP8 o l b∧Few (n+20000) 16 (vG7 o l b).1.2.2.2.1:=by
 have r:=qZ7 l b hl
 have e:=qZ8 (f157 l b) b o.1 (by omega)
 have hE:len (f158 (f157 l b) b o.1)≤4097:=by omega
 have hd:=oD6 (c:=nth (f157 l b) (0:Int) Z125) h (by omega)
 have p6:=pol6 b (f158 (f157 l b) b o.1) h (by omega) hE
 have k6:=fun p q=>tV5 (p:=p) (q:=q) p6.2 (by omega)
 have hne:(!(len (f158 (f157 l b) b o.1)==0))=true→0<len (f158 (f157 l b) b o.1):=fun hf=>by
  have:=xT7 (f158 (f157 l b) b o.1)
  simp only[jK,beq_eq_false_iff_ne,ne_eq] at hf
  omega
 have hm:(len (f157 l b)==1)=true→InB (0:Int) (len (f157 l b)):=fun hf=>by
  have hf:len (f157 l b)=1:=by simpa using hf
  rw[hf];exact⟨by omega,by omega⟩
 have last:(!(len (f158 (f157 l b) b o.1)==0))=true→InR (len (f158 (f157 l b) b o.1)-1)∧InB (len (f158 (f157 l b) b o.1)-1) (len (f158 (f157 l b) b o.1)):=fun hf=>by
  have:=hne hf
  exact⟨xY3 (by omega) (by omega),⟨by omega,by omega⟩⟩
 generalize hmm:f157 l b=m at r e hd p6 k6 hm hne last hE ⊢
 generalize hEE:f158 m b o.1=E at e p6 k6 hne last hE ⊢
 obtain⟨o1,o2,o3,o4,o5,⟨⟩⟩:=o
 simp only[wP8,vG7,uE3,wZ8,wU9]
 simp only at hEE
 simp only[hmm,hEE]
 generalize zC3 (wH8 (b,E,E,len E,())) (wC6 (b,E,E,len E,())) ((o1,o2,o3,o4,o5,()),0,())=z at p6 k6 ⊢
 obtain⟨⟨a1,a2,a3,a4,a5,⟨⟩⟩,i,⟨⟩⟩:=z
 simp only at p6 k6 ⊢
 cases b with
 |true =>
  have p13:=oO2 (n:=n+4097) (o:=(a1,a2,a3,a4,a5,())) true E p6.2 (by omega) hE
  simp only[Bool.not_true,jD]
  generalize zC3 (wD1 (true,E,())) (wA8 (true,E,())) ((a1,a2,a3,a4,a5,()),1,())=z at p13 ⊢
  obtain⟨⟨b1,b2,b3,b4,b5,⟨⟩⟩,i2,⟨⟩⟩:=z
  simp only at p13 ⊢
  have c:=fun p q=>pA2 (o:=(b1,b2,b3,b4,b5,())) (p:=p) (q:=q) p13.2 (by omega)
  refine⟨⟨r.1,e.1,fun _ h1=>⟨hm h1,hd.1⟩,fun h0=>⟨p6.1,fun hf=>absurd hf (by decide),p13.1,fun _=>⟨⟨Int.le_refl 0,hne h0⟩,(last h0).1,(last h0).2,(c _ _).1⟩⟩⟩,?_⟩
  cases (len E==0) with
  |true =>
   cases (len m==1) with
   |true=>exact wB0 hd.2 (by omega)
   |false=>exact wB0 h (by omega)
  |false=>exact wB0 (c _ _).2 (by omega)
 |false =>
  simp only[Bool.not_false,jE,jD]
  have k6:=k6 (nth E (len E-1) Z205) (nth E (0:Int) Z205)
  have p13:=oO2 (n:=n+4097+3) (o:=(wO4 (a1,a2,a3,a4,a5,()) (nth E (len E-1) Z205) (nth E (0:Int) Z205)).1) false E k6.2 (by omega) hE
  generalize (wO4 (a1,a2,a3,a4,a5,()) (nth E (len E-1) Z205) (nth E (0:Int) Z205)).1=w at k6 p13 ⊢
  obtain⟨w1,w2,w3,w4,w5,⟨⟩⟩:=w
  simp only at k6 p13 ⊢
  generalize zC3 (wD1 (false,E,())) (wA8 (false,E,())) ((w1,w2,w3,w4,w5,()),1,())=z at p13 ⊢
  obtain⟨⟨b1,b2,b3,b4,b5,⟨⟩⟩,i2,⟨⟩⟩:=z
  simp only at p13 ⊢
  refine⟨⟨r.1,e.1,fun _ h1=>⟨hm h1,hd.1⟩,fun h0=>⟨p6.1,fun _=>⟨(last h0).1,(last h0).2,⟨Int.le_refl 0,hne h0⟩,k6.1⟩,p13.1,fun hf=>absurd hf (by decide)⟩⟩,?_⟩
  cases (len E==0) with
  |true =>
   cases (len m==1) with
   |true=>exact wB0 hd.2 (by omega)
   |false=>exact wB0 h (by omega)
  |false=>exact wB0 p13.2 (by omega)
theorem sC4 {l:List (List D125)}{bs:List Bool}{w j k:Int}(hl:Few 128 4096 l):tD2 l bs w j k∧Few 4294967296 16 (f128 l bs w j k).1:=by
 have h81:=sC2 l 0 (by have:=hl.1;omega) (fun q hq=>by have:=hl.2 q hq;omega)
 have key:len bs=len l →
   Am.Ends (wY2 (bs,(),l,len l,())) (wJ2 (bs,(),l,len l,())) (wP9 (bs,(),l,len l,())) ((w,j,k,([]:List (List D125)),(0:Int),()),(0:Int),()) ∧
   Few 4294967296 16 (zC3 (wY2 (bs,(),l,len l,())) (wJ2 (bs,(),l,len l,())) ((w,j,k,([]:List (List D125)),(0:Int),()),(0:Int),())).1.2.2.2.1:=fun hb=>by
  have hl1:=hl.1
  have st:∀ x:wC3,((0≤x.2.1∧x.2.1≤len l)∧Few (20000*x.2.1) 16 x.1.2.2.2.1)→x.2.1<len l→wP8 x.1 (nth l x.2.1 ([]:List D125)) (nth bs x.2.1 false)∧Few (20000*x.2.1+20000) 16 (vG7 x.1 (nth l x.2.1 ([]:List D125)) (nth bs x.2.1 false)).1.2.2.2.1:=fun x hx h4=>sZ2 hx.2 (by omega) (hl.2 _ (wA3 ⟨hx.1.1,h4⟩))
  have w:=whole (g:=wY2 (bs,(),l,len l,())) (next:=wJ2 (bs,(),l,len l,())) (ok:=wP9 (bs,(),l,len l,())) (fun x=>(0≤x.2.1∧x.2.1≤len l)∧Few (20000*x.2.1) 16 x.1.2.2.2.1) (fun x=>(len l-x.2.1).toNat) (fun x hx=>fun h3=>?_) (fun x hx hg=>?_) (x:=((w,j,k,([]:List (List D125)),(0:Int),()),(0:Int),())) ⟨⟨Int.le_refl 0,xT7 l⟩,⟨Int.le_refl 0,fun q hq=>by cases hq⟩⟩ (by unfold zI1;simp only;omega)
  ·exact⟨w.1,wB0 w.2.1.2 (by have:=w.2.1.1;omega)⟩
  ·have h4:x.2.1<len l:=jF h3
   exact⟨⟨hx.1.1,h4⟩,⟨hx.1.1,(show x.2.1<len bs by omega)⟩,(st x hx h4).1,fun _=>xY3 (by omega) (by omega)⟩
  ·have h4:x.2.1<len l:=xZ1 hg
   refine⟨⟨(show 0≤x.2.1+1∧x.2.1+1≤len l by omega),?_⟩,(show (len l-(x.2.1+1)).toNat<(len l-x.2.1).toNat by omega)⟩
   show Few (20000*(x.2.1+1)) 16 (vG7 x.1 _ _).1.2.2.2.1
   exact wB0 (st x hx h4).2 (by omega)
 refine⟨⟨qY1 _ _ _,fun _=>⟨h81,fun _ hf=>(key (by simpa using hf)).1⟩⟩,?_⟩
 have nil:Few 4294967296 16 ([]:List (List D125)):=⟨(show (0:Int)≤4294967296 by omega),fun q hq=>by cases hq⟩
 simp only[f128,qS5,vJ7,vJ8]
 cases (f145 w j k !=0) with
 |true=>exact nil
 |false =>
  cases (f129 l 0 !=0) with
  |true=>exact nil
  |false =>
   cases hf:(len bs !=len l) with
   |true=>exact nil
   |false =>
    simp only[jD]
    cases vZ9 _ _ with
    |true=>exact nil
    |false=>exact (key (by simpa using hf)).2
theorem pA3 (p:D49)(hl:len p.2.2.2.2.2.2.2.2.2.2.2.2.2.2.2.2.2.2.1<9223372036854775808):tD3 p:=by
 have h77:=qZ5 p.2.2.2.2.2.2.2.2.2.2.2.2.2.2.2.2.2.2.1 p.2.2.2.2.2.2.2.2.2.2.1 hl
 have h78:=rL1 (f125 p.2.2.2.2.2.2.2.2.2.2.2.2.2.2.2.2.2.2.1 p.2.2.2.2.2.2.2.2.2.2.1).1 (by omega)
 have h79:=qZ6 (f125 p.2.2.2.2.2.2.2.2.2.2.2.2.2.2.2.2.2.2.1 p.2.2.2.2.2.2.2.2.2.2.1).1 (by omega)
 refine⟨h77.1,fun _ _ _=>⟨h78.1,fun _=>⟨fun _=>⟨h79,fun _=>(sC4 h78.2).1⟩,fun _=>⟨?_,fun _=>sC0 _⟩⟩⟩⟩
 refine sC2 _ _ ?_ ?_
 ·cases (p.2.2.2.2.2.2.2.2.2.2.2.2.2.2.2.2.2.2.2.2.1 !=0) with
  |true=>have:=(sC4 (bs:=(f127 (f125 p.2.2.2.2.2.2.2.2.2.2.2.2.2.2.2.2.2.2.1 p.2.2.2.2.2.2.2.2.2.2.1).1).1) (w:=p.2.2.2.2.2.2.2.2.2.2.2.2.2.2.2.2.2.2.2.2.1) (j:=p.2.2.2.2.2.2.2.2.2.2.2.2.2.2.2.2.2.2.2.2.2.1) (k:=p.2.2.2.2.2.2.2.2.2.2.2.2.2.2.2.2.2.2.2.2.2.2.1) h78.2).2.1;simp only[jE];omega
  |false=>have:=h78.2.1;simp only[jD];omega
 ·cases (p.2.2.2.2.2.2.2.2.2.2.2.2.2.2.2.2.2.2.2.2.1 !=0) with
  |true=>intro q hq;have:=(sC4 h78.2).2.2 q hq;omega
  |false=>intro q hq;have:=h78.2.2 q hq;omega
end Go.Proofs.YtpanghcojpnkaaaGreatDoor.Am
