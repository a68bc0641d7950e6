/- node.Check answers for every node: the outlines of strokes. Condition: the polygons of a path. -/
import Derived.Test.YtpanghcojpnkaaaGreatDoorDocS
namespace Go.Proofs.YtpanghcojpnkaaaGreatDoor.Am
open Go Go.Am
abbrev OT:Type:=Int × Int × Int × List (List D125) × Int × Unit
theorem Few_mono {n m k:Int} {l:List (List D125)} (h:Few n k l) (hm:n ≤ m):Few m k l:=⟨Int.le_trans h.1 hm,h.2⟩
theorem add_all {n:Int} {o:OT} {p:List D125} (h:Few n 16 o.2.2.2.1) (hn:n ≤ 4000000000) (hp:len p ≤ 16):xZ3 o p ∧ Few (n + 1) 16 (xY8 o p).1.2.2.2.1:=by
 refine ⟨⟨qU3 p (by omega),fun h0=>⟨fun h1=>⟨trivial,?_,rfl,rfl,rfl⟩,?_⟩⟩,?_⟩
 ·have h1:f177 p < 0:=of_decide_eq_true h1
  cases p with
  | nil=>rw [qU4] at h1; omega
  | cons q r=>simp
 ·have h2:=h.1
  simp only [len] at h2
  simp only [List.length_cons,List.length_nil]
  omega
 ·have hm:len (bif (decide (f177 p < 0)) then (sW p).1 else p) ≤ 16:=by
   cases (decide (f177 p < 0)) with
   | true=>simp only [cond_true,sW,len,List.length_reverse]; exact hp
   | false=>exact hp
  simp only [xY8,vZ5]
  cases (f177 p == 0) with
  | true=>simp only [cond_true]; exact Few_mono h (by omega)
  | false =>
   simp only [cond_false]
   refine ⟨by rw [len_app,len_one]; have:=h.1; omega,fun q hq=>?_⟩
   rcases List.mem_append.1 hq with hq | hq
   ·exact h.2 q hq
   ·rw [List.mem_singleton.1 hq]; exact hm
theorem dot_all {n:Int} {o:OT} {c:D125} (h:Few n 16 o.2.2.2.1) (hn:n ≤ 4000000000):vC7 o c ∧ Few (n + 1) 16 (vZ7 o c).1.2.2.2.1:=by
 have hc:=uS7 c o.1
 have a1:=add_all (p:=f176 c o.1) h hn (by rw [hc.2]; omega)
 have a2:∀ x y z w:D125,xZ3 o [x,y,z,w] ∧ Few (n + 1) 16 (xY8 o [x,y,z,w]).1.2.2.2.1:=fun x y z w=>add_all h hn (show (4:Int) ≤ 16 by omega)
 refine ⟨⟨fun _=>⟨hc.1,a1.1⟩,fun _ _=>⟨wA0 _ _,wC8 _ _,wC8 _ _,wC8 _ _,wC8 _ _,(a2 _ _ _ _).1⟩⟩,?_⟩
 simp only [vZ7,vZ6]
 cases (o.2.2.1 == 1) with
 | true=>exact a1.2
 | false =>
  cases (o.2.2.1 == 2) with
  | true=>exact (a2 _ _ _ _).2
  | false=>exact Few_mono h (by omega)
theorem corner_all {n:Int} {o:OT} {p q:D205} (h:Few n 16 o.2.2.2.1) (hn:n ≤ 3900000000):wL8 o p q ∧ Few (n + 3) 16 (wM8 o p q).1.2.2.2.1:=by
 have hc:=uS7 q.1 o.1
 have a0:=add_all (p:=f176 q.1 o.1) h (by omega) (by rw [hc.2]; omega)
 have a1:=add_all (p:=[q.1,f161 q.1 p.2.2.2.1,f161 q.1 q.2.2.2.1]) h (by omega) (show (3:Int) ≤ 16 by omega)
 generalize ho1:(xY8 o [q.1,f161 q.1 p.2.2.2.1,f161 q.1 q.2.2.2.1]).1 = o1 at a1
 have a2:=add_all (o:=o1) (p:=[q.1,f162 q.1 p.2.2.2.1,f162 q.1 q.2.2.2.1]) a1.2 (by omega) (show (3:Int) ≤ 16 by omega)
 generalize ho2:(xY8 o1 [q.1,f162 q.1 p.2.2.2.1,f162 q.1 q.2.2.2.1]).1 = o2 at a2
 have a3:∀ x y z w:D125,xZ3 o2 [x,y,z,w] ∧ Few (n + 1 + 1 + 1) 16 (xY8 o2 [x,y,z,w]).1.2.2.2.1:=fun x y z w=>add_all a2.2 (by omega) (show (4:Int) ≤ 16 by omega)
 have e1:(xY8 (o.1,o.2.1,o.2.2.1,o.2.2.2.1,o.2.2.2.2.1,()) [q.1,f161 q.1 p.2.2.2.1,f161 q.1 q.2.2.2.1]).1 = o1:=ho1
 simp only [wL8,wM8,vZ8,e1]
 have e2:(xY8 (o1.1,o1.2.1,o1.2.2.1,o1.2.2.2.1,o1.2.2.2.2.1,()) [q.1,f162 q.1 p.2.2.2.1,f162 q.1 q.2.2.2.1]).1 = o2:=ho2
 simp only [e2]
 refine ⟨⟨fun _=>⟨hc.1,a0.1⟩,fun _=>⟨wC8 _ _,wC8 _ _,a1.1,wI8 _ _,wI8 _ _,a2.1,fun _=>⟨wA0 _ _,wA0 _ _,rD2 _ _,fun _=>⟨fun _=>⟨wI8 _ _,wI8 _ _,wI8 _ _,(a3 _ _ _ _).1⟩,fun _=>⟨wC8 _ _,wC8 _ _,wC8 _ _,(a3 _ _ _ _).1⟩⟩⟩⟩⟩,?_⟩
 have b0:=Few_mono a0.2 (show n + 1 ≤ n + 3 by omega)
 have b2:=Few_mono a2.2 (show n + 1 + 1 ≤ n + 3 by omega)
 have b3:∀ x y z w:D125,Few (n + 3) 16 (xY8 o2 [x,y,z,w]).1.2.2.2.1:=fun x y z w=>Few_mono (a3 x y z w).2 (by omega)
 generalize (_ || _) = c5
 cases c5 with
 | true =>
  simp only [cond_true]
  cases (o.2.1 == 1) with
  | true=>exact b0
  | false=>exact b2
 | false =>
  simp only [cond_false]
  generalize (decide (_ > (0:Int))) = c
  cases c with
  | true=>exact b3 _ _ _ _
  | false=>exact b3 _ _ _ _
theorem caps_all {n:Int} {o:OT} {p q:D205} (h:Few n 16 o.2.2.2.1) (hn:n ≤ 3900000000):wV2 o p q ∧ Few (n + 2) 16 (uA o p q).1.2.2.2.1:=by
 have hc:=uS7 p.1 o.1
 have a0:=add_all (p:=f176 p.1 o.1) h (by omega) (by rw [hc.2]; omega)
 generalize ho1:(xY8 o (f176 p.1 o.1)).1 = o1 at a0
 have hc2:=uS7 q.2.1 o1.1
 have a1:=add_all (o:=o1) (p:=f176 q.2.1 o1.1) a0.2 (by omega) (by rw [hc2.2]; omega)
 have b0:=add_all (o:=o) (p:=[f161 (f162 p.1 p.2.2.2.2.1) p.2.2.2.1,f161 p.1 p.2.2.2.1,f162 p.1 p.2.2.2.1,f162 (f162 p.1 p.2.2.2.2.1) p.2.2.2.1]) h (by omega) (show (4:Int) ≤ 16 by omega)
 generalize ho2:(xY8 o [f161 (f162 p.1 p.2.2.2.2.1) p.2.2.2.1,f161 p.1 p.2.2.2.1,f162 p.1 p.2.2.2.1,f162 (f162 p.1 p.2.2.2.2.1) p.2.2.2.1]).1 = o2 at b0
 have b1:∀ x y z w:D125,xZ3 o2 [x,y,z,w] ∧ Few (n + 1 + 1) 16 (xY8 o2 [x,y,z,w]).1.2.2.2.1:=fun x y z w=>add_all b0.2 (by omega) (show (4:Int) ≤ 16 by omega)
 have e1:(xY8 (o.1,o.2.1,o.2.2.1,o.2.2.2.1,o.2.2.2.2.1,()) (f176 p.1 o.1)).1 = o1:=ho1
 have e2:(xY8 (o.1,o.2.1,o.2.2.1,o.2.2.2.1,o.2.2.2.2.1,()) [f161 (f162 p.1 p.2.2.2.2.1) p.2.2.2.1,f161 p.1 p.2.2.2.1,f162 p.1 p.2.2.2.1,f162 (f162 p.1 p.2.2.2.2.1) p.2.2.2.1]).1 = o2:=ho2
 simp only [wV2,uA,vZ9,e1,e2]
 refine ⟨⟨fun _=>⟨hc.1,a0.1,hc2.1,a1.1⟩,fun _ _=>⟨wI8 _ _,wC8 _ _,wC8 _ _,wI8 _ _,wI8 _ _,b0.1,wC8 _ _,wC8 _ _,wC8 _ _,wI8 _ _,wI8 _ _,(b1 _ _ _ _).1⟩⟩,?_⟩
 have c0:=Few_mono a1.2 (show n + 1 + 1 ≤ n + 2 by omega)
 cases (o.2.2.1 == 1) with
 | true=>exact c0
 | false =>
  cases (o.2.2.1 == 2) with
  | true=>exact Few_mono (b1 _ _ _ _).2 (by omega)
  | false=>exact Few_mono h (by omega)
theorem pol6 {n:Int} {o:OT} (b:Bool) (l:List D205) (h:Few n 16 o.2.2.2.1) (hn:n ≤ 3000000000) (hl:len l ≤ 4097) :
  Am.Ends (wH0 (b,l,l,len l,())) (wC0 (b,l,l,len l,())) (wI2 (b,l,l,len l,())) (o,0,()) ∧ Few (n + 4097) 16 (zC1 (wH0 (b,l,l,len l,())) (wC0 (b,l,l,len l,())) (o,0,())).1.2.2.2.1:=by
 have st:∀ x:wC5,((0 ≤ x.2.1 ∧ x.2.1 ≤ len l) ∧ Few (n + x.2.1) 16 x.1.2.2.2.1) → ∀ p q r s:D125,xZ3 x.1 [p,q,r,s] ∧ Few (n + x.2.1 + 1) 16 (xY8 x.1 [p,q,r,s]).1.2.2.2.1:=fun x hx p q r s=>add_all hx.2 (by omega) (show (4:Int) ≤ 16 by omega)
 have w:=whole (g:=wH0 (b,l,l,len l,())) (next:=wC0 (b,l,l,len l,())) (ok:=wI2 (b,l,l,len l,())) (fun x=>(0 ≤ x.2.1 ∧ x.2.1 ≤ len l) ∧ Few (n + x.2.1) 16 x.1.2.2.2.1) (fun x=>(len l - x.2.1).toNat) (fun x hx=>fun h3=>?_) (fun x hx hg=>?_) (x:=(o,0,())) ⟨⟨Int.le_refl 0,xT7 l⟩,by rw [Int.add_zero]; exact h⟩ (by unfold zI1; simp only; omega)
 ·exact ⟨w.1,Few_mono w.2.1.2 (by have:=w.2.1.1; omega)⟩
 ·have h4:x.2.1 < len l:=of_decide_eq_true h3
  exact ⟨⟨hx.1.1,h4⟩,wC8 _ _,wC8 _ _,wI8 _ _,wI8 _ _,(st x hx _ _ _ _).1,inr_small (by omega) (by omega)⟩
 ·have h4:x.2.1 < len l:=of_decide_eq_true hg
  refine ⟨⟨(show 0 ≤ x.2.1 + 1 ∧ x.2.1 + 1 ≤ len l by omega),?_⟩,(show (len l - (x.2.1 + 1)).toNat < (len l - x.2.1).toNat by omega)⟩
  show Few (n + (x.2.1 + 1)) 16 (xY8 x.1 _).1.2.2.2.1
  rw [← Int.add_assoc]
  exact (st x hx _ _ _ _).2
theorem pol13 {n:Int} {o:OT} (b:Bool) (l:List D205) (h:Few n 16 o.2.2.2.1) (hn:n ≤ 3000000000) (hl:len l ≤ 4097) :
  Am.Ends (wC6 (b,l,())) (wA7 (b,l,())) (wF4 (b,l,())) (o,1,()) ∧ Few (n + 12300) 16 (zC1 (wC6 (b,l,())) (wA7 (b,l,())) (o,1,())).1.2.2.2.1:=by
 have st:∀ x:wB7,((1 ≤ x.2.1 ∧ x.2.1 ≤ 4098) ∧ Few (n + 3 * x.2.1) 16 x.1.2.2.2.1) → ∀ p q:D205,wL8 x.1 p q ∧ Few (n + 3 * x.2.1 + 3) 16 (wM8 x.1 p q).1.2.2.2.1:=fun x hx p q=>corner_all hx.2 (by omega)
 have w:=whole (g:=wC6 (b,l,())) (next:=wA7 (b,l,())) (ok:=wF4 (b,l,())) (fun x=>(1 ≤ x.2.1 ∧ x.2.1 ≤ 4098) ∧ Few (n + 3 * x.2.1) 16 x.1.2.2.2.1) (fun x=>(len l - x.2.1).toNat) (fun x hx=>fun h3=>?_) (fun x hx hg=>?_) (x:=(o,1,())) ⟨⟨Int.le_refl 1,(by omega:(1:Int) ≤ 4098)⟩,Few_mono h (show n ≤ n + 3 * 1 by omega)⟩ (by unfold zI1; simp only; omega)
 ·exact ⟨w.1,Few_mono w.2.1.2 (by have:=w.2.1.1; omega)⟩
 ·have h4:x.2.1 < len l:=of_decide_eq_true h3
  have h5:=hx.1.1
  exact ⟨inr_small (by omega) (by omega),⟨(show 0 ≤ x.2.1 - 1 by omega),(show x.2.1 - 1 < len l by omega)⟩,⟨(show 0 ≤ x.2.1 by omega),h4⟩,(st x hx _ _).1,inr_small (by omega) (by omega)⟩
 ·have h4:x.2.1 < len l:=of_decide_eq_true hg
  have h5:=hx.1.1
  refine ⟨⟨(show 1 ≤ x.2.1 + 1 ∧ x.2.1 + 1 ≤ 4098 by omega),?_⟩,(show (len l - (x.2.1 + 1)).toNat < (len l - x.2.1).toNat by omega)⟩
  show Few (n + 3 * (x.2.1 + 1)) 16 (wM8 x.1 _ _).1.2.2.2.1
  exact Few_mono (st x hx _ _).2 (by omega)
set_option maxHeartbeats 1000000 in
theorem polygon_all {n:Int} {o:OT} {l:List D125} {b:Bool} (h:Few n 16 o.2.2.2.1) (hn:n ≤ 2000000000) (hl:len l ≤ 4096):wN5 o l b ∧ Few (n + 20000) 16 (vC8 o l b).1.2.2.2.1:=by
 have r:=qU1 l b hl
 have e:=qU2 (f157 l b) b o.1 (by omega)
 have hE:len (f158 (f157 l b) b o.1) ≤ 4097:=by omega
 have hd:=dot_all (c:=nth (f157 l b) (0:Int) Z125) h (by omega)
 have p6:=pol6 b (f158 (f157 l b) b o.1) h (by omega) hE
 have k6:=fun p q=>corner_all (p:=p) (q:=q) p6.2 (by omega)
 have hne:(!(len (f158 (f157 l b) b o.1) == 0)) = true → 0 < len (f158 (f157 l b) b o.1):=fun hf=>by
  have:=xT7 (f158 (f157 l b) b o.1)
  simp only [Bool.not_eq_true',beq_eq_false_iff_ne,ne_eq] at hf
  omega
 have hm:(len (f157 l b) == 1) = true → InB (0:Int) (len (f157 l b)):=fun hf=>by
  have hf:len (f157 l b) = 1:=by simpa using hf
  rw [hf]; exact ⟨by omega,by omega⟩
 have last:(!(len (f158 (f157 l b) b o.1) == 0)) = true → InR (len (f158 (f157 l b) b o.1) - 1) ∧ InB (len (f158 (f157 l b) b o.1) - 1) (len (f158 (f157 l b) b o.1)):=fun hf=>by
  have:=hne hf
  exact ⟨inr_small (by omega) (by omega),⟨by omega,by omega⟩⟩
 generalize hmm:f157 l b = m at r e hd p6 k6 hm hne last hE ⊢
 generalize hEE:f158 m b o.1 = E at e p6 k6 hne last hE ⊢
 obtain ⟨o1,o2,o3,o4,o5,⟨⟩⟩:=o
 simp only [wN5,vC8,uA1,wW7,wS5]
 simp only at hEE
 simp only [hmm,hEE]
 generalize zC1 (wH0 (b,E,E,len E,())) (wC0 (b,E,E,len E,())) ((o1,o2,o3,o4,o5,()),0,()) = z at p6 k6 ⊢
 obtain ⟨⟨a1,a2,a3,a4,a5,⟨⟩⟩,i,⟨⟩⟩:=z
 simp only at p6 k6 ⊢
 cases b with
 | true =>
  have p13:=pol13 (n:=n + 4097) (o:=(a1,a2,a3,a4,a5,())) true E p6.2 (by omega) hE
  simp only [Bool.not_true,cond_false]
  generalize zC1 (wC6 (true,E,())) (wA7 (true,E,())) ((a1,a2,a3,a4,a5,()),1,()) = z at p13 ⊢
  obtain ⟨⟨b1,b2,b3,b4,b5,⟨⟩⟩,i2,⟨⟩⟩:=z
  simp only at p13 ⊢
  have c:=fun p q=>caps_all (o:=(b1,b2,b3,b4,b5,())) (p:=p) (q:=q) p13.2 (by omega)
  refine ⟨⟨r.1,e.1,fun _ h1=>⟨hm h1,hd.1⟩,fun h0=>⟨p6.1,fun hf=>absurd hf (by decide),p13.1,fun _=>⟨⟨Int.le_refl 0,hne h0⟩,(last h0).1,(last h0).2,(c _ _).1⟩⟩⟩,?_⟩
  cases (len E == 0) with
  | true =>
   cases (len m == 1) with
   | true=>exact Few_mono hd.2 (by omega)
   | false=>exact Few_mono h (by omega)
  | false=>exact Few_mono (c _ _).2 (by omega)
 | false =>
  simp only [Bool.not_false,cond_true,cond_false]
  have k6:=k6 (nth E (len E - 1) Z205) (nth E (0:Int) Z205)
  have p13:=pol13 (n:=n + 4097 + 3) (o:=(wM8 (a1,a2,a3,a4,a5,()) (nth E (len E - 1) Z205) (nth E (0:Int) Z205)).1) false E k6.2 (by omega) hE
  generalize (wM8 (a1,a2,a3,a4,a5,()) (nth E (len E - 1) Z205) (nth E (0:Int) Z205)).1 = w at k6 p13 ⊢
  obtain ⟨w1,w2,w3,w4,w5,⟨⟩⟩:=w
  simp only at k6 p13 ⊢
  generalize zC1 (wC6 (false,E,())) (wA7 (false,E,())) ((w1,w2,w3,w4,w5,()),1,()) = z at p13 ⊢
  obtain ⟨⟨b1,b2,b3,b4,b5,⟨⟩⟩,i2,⟨⟩⟩:=z
  simp only at p13 ⊢
  refine ⟨⟨r.1,e.1,fun _ h1=>⟨hm h1,hd.1⟩,fun h0=>⟨p6.1,fun _=>⟨(last h0).1,(last h0).2,⟨Int.le_refl 0,hne h0⟩,k6.1⟩,p13.1,fun hf=>absurd hf (by decide)⟩⟩,?_⟩
  cases (len E == 0) with
  | true =>
   cases (len m == 1) with
   | true=>exact Few_mono hd.2 (by omega)
   | false=>exact Few_mono h (by omega)
  | false=>exact Few_mono p13.2 (by omega)
theorem tW7 {l:List (List D125)} {bs:List Bool} {w j k:Int} (hl:Few 128 4096 l):uY0 l bs w j k ∧ Few 4294967296 16 (f128 l bs w j k).1:=by
 have h81:=tW5 l 0 (by have:=hl.1; omega) (fun q hq=>by have:=hl.2 q hq; omega)
 have key:len bs = len l →
   Am.Ends (wV3 (bs,(),l,len l,())) (wI4 (bs,(),l,len l,())) (wN6 (bs,(),l,len l,())) ((w,j,k,([]:List (List D125)),(0:Int),()),(0:Int),()) ∧
   Few 4294967296 16 (zC1 (wV3 (bs,(),l,len l,())) (wI4 (bs,(),l,len l,())) ((w,j,k,([]:List (List D125)),(0:Int),()),(0:Int),())).1.2.2.2.1:=fun hb=>by
  have hl1:=hl.1
  have st:∀ x:wB8,((0 ≤ x.2.1 ∧ x.2.1 ≤ len l) ∧ Few (20000 * x.2.1) 16 x.1.2.2.2.1) → x.2.1 < len l → wN5 x.1 (nth l x.2.1 ([]:List D125)) (nth bs x.2.1 false) ∧ Few (20000 * x.2.1 + 20000) 16 (vC8 x.1 (nth l x.2.1 ([]:List D125)) (nth bs x.2.1 false)).1.2.2.2.1:=fun x hx h4=>polygon_all hx.2 (by omega) (hl.2 _ (nth_mem ⟨hx.1.1,h4⟩))
  have w:=whole (g:=wV3 (bs,(),l,len l,())) (next:=wI4 (bs,(),l,len l,())) (ok:=wN6 (bs,(),l,len l,())) (fun x=>(0 ≤ x.2.1 ∧ x.2.1 ≤ len l) ∧ Few (20000 * x.2.1) 16 x.1.2.2.2.1) (fun x=>(len l - x.2.1).toNat) (fun x hx=>fun h3=>?_) (fun x hx hg=>?_) (x:=((w,j,k,([]:List (List D125)),(0:Int),()),(0:Int),())) ⟨⟨Int.le_refl 0,xT7 l⟩,⟨Int.le_refl 0,fun q hq=>by cases hq⟩⟩ (by unfold zI1; simp only; omega)
  ·exact ⟨w.1,Few_mono w.2.1.2 (by have:=w.2.1.1; omega)⟩
  ·have h4:x.2.1 < len l:=of_decide_eq_true h3
   exact ⟨⟨hx.1.1,h4⟩,⟨hx.1.1,(show x.2.1 < len bs by omega)⟩,(st x hx h4).1,fun _=>inr_small (by omega) (by omega)⟩
  ·have h4:x.2.1 < len l:=and_lt hg
   refine ⟨⟨(show 0 ≤ x.2.1 + 1 ∧ x.2.1 + 1 ≤ len l by omega),?_⟩,(show (len l - (x.2.1 + 1)).toNat < (len l - x.2.1).toNat by omega)⟩
   show Few (20000 * (x.2.1 + 1)) 16 (vC8 x.1 _ _).1.2.2.2.1
   exact Few_mono (st x hx h4).2 (by omega)
 refine ⟨⟨qS6 _ _ _,fun _=>⟨h81,fun _ hf=>(key (by simpa using hf)).1⟩⟩,?_⟩
 have nil:Few 4294967296 16 ([]:List (List D125)):=⟨(show (0:Int) ≤ 4294967296 by omega),fun q hq=>by cases hq⟩
 simp only [f128,qK0,vF8,vF9]
 cases (f145 w j k != 0) with
 | true=>exact nil
 | false =>
  cases (f129 l 0 != 0) with
  | true=>exact nil
  | false =>
   cases hf:(len bs != len l) with
   | true=>exact nil
   | false =>
    simp only [cond_false]
    cases vV1 _ _ with
    | true=>exact nil
    | false=>exact (key (by simpa using hf)).2
theorem qU7 (p:D49) (hl:len p.2.2.2.2.2.2.2.2.2.2.2.2.2.2.2.2.2.2.1 < 9223372036854775808):uY1 p:=by
 have h77:=qU p.2.2.2.2.2.2.2.2.2.2.2.2.2.2.2.2.2.2.1 p.2.2.2.2.2.2.2.2.2.2.1 hl
 have h78:=rD1 (f125 p.2.2.2.2.2.2.2.2.2.2.2.2.2.2.2.2.2.2.1 p.2.2.2.2.2.2.2.2.2.2.1).1 (by omega)
 have h79:=qU0 (f125 p.2.2.2.2.2.2.2.2.2.2.2.2.2.2.2.2.2.2.1 p.2.2.2.2.2.2.2.2.2.2.1).1 (by omega)
 refine ⟨h77.1,fun _ _ _=>⟨h78.1,fun _=>⟨fun _=>⟨h79,fun _=>(tW7 h78.2).1⟩,fun _=>⟨?_,fun _=>tW3 _⟩⟩⟩⟩
 refine tW5 _ _ ?_ ?_
 ·cases (p.2.2.2.2.2.2.2.2.2.2.2.2.2.2.2.2.2.2.2.2.1 != 0) with
  | true=>have:=(tW7 (bs:=(f127 (f125 p.2.2.2.2.2.2.2.2.2.2.2.2.2.2.2.2.2.2.1 p.2.2.2.2.2.2.2.2.2.2.1).1).1) (w:=p.2.2.2.2.2.2.2.2.2.2.2.2.2.2.2.2.2.2.2.2.1) (j:=p.2.2.2.2.2.2.2.2.2.2.2.2.2.2.2.2.2.2.2.2.2.1) (k:=p.2.2.2.2.2.2.2.2.2.2.2.2.2.2.2.2.2.2.2.2.2.2.1) h78.2).2.1; simp only [cond_true]; omega
  | false=>have:=h78.2.1; simp only [cond_false]; omega
 ·cases (p.2.2.2.2.2.2.2.2.2.2.2.2.2.2.2.2.2.2.2.2.1 != 0) with
  | true=>intro q hq; have:=(tW7 h78.2).2.2 q hq; omega
  | false=>intro q hq; have:=h78.2.2 q hq; omega
end Go.Proofs.YtpanghcojpnkaaaGreatDoor.Am
