/- Plain laws of documents and patches: equality of documents; what Apply zT8. Condition: the value a Go value can be. -/
import Derived.Test.YtigpekbhmpfcoaaGreatDoorRetY
namespace Go.Proofs.YtigpekbhmpfcoaaGreatDoor.Am
open Go Go.Am
theorem nodes_wf {d:D28} (h:Ty.wf T28 d):WfN d.2.2.2.1:=h.2.2.2.1
theorem links_wf {d:D28} (h:Ty.wf T28 d):Ty.wf (.sl T74) d.2.2.2.2.2.2.2.1:=h.2.2.2.2.2.2.2.1
theorem meta_wf {d:D28} (h:Ty.wf T28 d):Ty.wf (.sl T66) d.2.2.2.2.2.2.1:=h.2.2.2.2.2.2.1
theorem sel_fit {d:D28} (h:Ty.wf T28 d):len d.2.2.2.2.2.1.2.2.1 < 9223372036854775808:=len_lt h.2.2.2.2.2.1.2.2.1.1
theorem doc_fit {d:D28} (h:Ty.wf T28 d):DocFit d:=by
 refine ⟨⟨len_lt (nodes_wf h).1,fun n hn=>fit_of ((nodes_wf h).2 n hn)⟩,sel_fit h,fun m hm=>?_,fun m hm=>?_⟩
 ·have:=(meta_wf h).2 m hm
  exact ⟨len_lt this.1,len_lt this.2.1⟩
 ·have:=(links_wf h).2 m hm
  exact len_lt this.2.2.2.2.1.2.2.1.1
def difL (x y:D74):Bool:=bif (bif (bif (bif (x.1 != y.1) then true else (!(x.2.1 == y.2.1))) then true else (x.2.2.1 != y.2.2.1)) then true else (x.2.2.2.1 != y.2.2.2.1)) then true else (!(f28 x.2.2.2.2.1 y.2.2.2.2.1))
theorem nJ5 (a b:D28) (h1:len a.2.2.2.1 < 9223372036854775808) (h2:len a.2.2.2.2.2.2.1 < 9223372036854775808) (h3:len a.2.2.2.2.2.2.2.1 < 9223372036854775808) :
  f10 a b = ((a.1 == b.1) && (a.2.1 == b.2.1) && (a.2.2.1 == b.2.2.1) && (a.2.2.2.2.1 == b.2.2.2.2.1) && f26 a.2.2.2.2.2.1 b.2.2.2.2.2.1 && eqC (len a.2.2.2.1) (len b.2.2.2.1) (fun i=>!(f27 (nth a.2.2.2.1 i Z57) (nth b.2.2.2.1 i Z57))) && eqC (len a.2.2.2.2.2.2.1) (len b.2.2.2.2.2.2.1) (neT T66 Z66 a.2.2.2.2.2.2.1 b.2.2.2.2.2.2.1) && eqC (len a.2.2.2.2.2.2.2.1) (len b.2.2.2.2.2.2.2.1) (fun i=>difL (nth a.2.2.2.2.2.2.2.1 i Z74) (nth b.2.2.2.2.2.2.2.1 i Z74))):=by
 have s4:tT8 (a,b,len a.2.2.2.1,()) (zB9 (vY (a,b,len a.2.2.2.1,())) (wP7 (a,b,len a.2.2.2.1,())) ((0:Int),())) = xX (len a.2.2.2.1) (fun i=>!(f27 (nth a.2.2.2.1 i Z57) (nth b.2.2.2.1 i Z57))) :=
  xV8 (g:=vY (a,b,len a.2.2.2.1,())) (next:=wP7 (a,b,len a.2.2.2.1,())) (c:=fun i=>!(f27 (nth a.2.2.2.1 i Z57) (nth b.2.2.2.1 i Z57))) (xT _) h1 (fun _=>rfl) (fun _=>rfl)
 have s10:uS3 (a,b,len a.2.2.2.2.2.2.1,()) (zB9 (vK (a,b,len a.2.2.2.2.2.2.1,())) (wN0 (a,b,len a.2.2.2.2.2.2.1,())) ((0:Int),())) = xX (len a.2.2.2.2.2.2.1) (neT T66 Z66 a.2.2.2.2.2.2.1 b.2.2.2.2.2.2.1) :=
  xV8 (g:=vK (a,b,len a.2.2.2.2.2.2.1,())) (next:=wN0 (a,b,len a.2.2.2.2.2.2.1,())) (c:=neT T66 Z66 a.2.2.2.2.2.2.1 b.2.2.2.2.2.2.1) (xT _) h2 (fun _=>rfl) (fun _=>rfl)
 have s16:uS4 (a,b,len a.2.2.2.2.2.2.2.1,()) (zB9 (vK0 (a,b,len a.2.2.2.2.2.2.2.1,())) (wN1 (a,b,len a.2.2.2.2.2.2.2.1,())) ((0:Int),())) = xX (len a.2.2.2.2.2.2.2.1) (fun i=>difL (nth a.2.2.2.2.2.2.2.1 i Z74) (nth b.2.2.2.2.2.2.2.1 i Z74)) :=
  xV8 (g:=vK0 (a,b,len a.2.2.2.2.2.2.2.1,())) (next:=wN1 (a,b,len a.2.2.2.2.2.2.2.1,())) (c:=fun i=>difL (nth a.2.2.2.2.2.2.2.1 i Z74) (nth b.2.2.2.2.2.2.2.1 i Z74)) (xT _) h3 (fun _=>rfl) (fun _=>rfl)
 simp only [f10,f10t,s4,s10,s16,uC7,vT0,vT1,eqC,bne]
 generalize (a.1 == b.1) = c1
 generalize (a.2.1 == b.2.1) = c2
 generalize (a.2.2.1 == b.2.2.1) = c3
 generalize (a.2.2.2.2.1 == b.2.2.2.2.1) = c4
 generalize f26 a.2.2.2.2.2.1 b.2.2.2.2.2.1 = c5
 generalize (len a.2.2.2.1 == len b.2.2.2.1) = c6
 generalize (len a.2.2.2.2.2.2.1 == len b.2.2.2.2.2.2.1) = c7
 generalize (len a.2.2.2.2.2.2.2.1 == len b.2.2.2.2.2.2.2.1) = c8
 generalize xX (len a.2.2.2.1) _ = d1
 generalize xX (len a.2.2.2.2.2.2.1) _ = d2
 generalize xX (len a.2.2.2.2.2.2.2.1) _ = d3
 cases c1 <;> cases c2 <;> cases c3 <;> cases c4 <;> cases c5 <;> simp <;> cases c6 <;> cases c7 <;> cases c8 <;> cases d1 <;> cases d2 <;> cases d3 <;> rfl
theorem difL_same {x y:D74} (wx:Ty.wf T74 x) (wy:Ty.wf T74 y):(!(difL x y)) = true ↔ x = y:=by
 have w1:=wx.2.2.2.2.1
 have w2:=wy.2.2.2.2.1
 have e:=pQ9 w1 w2
 obtain ⟨a0,a1,a2,a3,a4,⟨⟩⟩:=x
 obtain ⟨b0,b1,b2,b3,b4,⟨⟩⟩:=y
 simp only at e
 simp only [difL,Bool.cond_true_left,Bool.not_or,Bool.not_not,Bool.and_eq_true,bne,beq_iff_eq,Prod.mk.injEq,and_true,e]
 constructor
 ·rintro ⟨⟨⟨⟨h0,h1⟩,h2⟩,h3⟩,h4⟩; exact ⟨h0,h1,h2,h3,h4⟩
 ·rintro ⟨h0,h1,h2,h3,h4⟩; exact ⟨⟨⟨⟨h0,h1⟩,h2⟩,h3⟩,h4⟩
theorem rU7 {a b:D57} (wa:Ty.wf T57 a) (wb:Ty.wf T57 b):f27 a b = true ↔ a = b:=by
 rw [← same_eq (lens_of wa)]; exact wW6 wa wb
theorem sK0 {a b:D28} (wa:Ty.wf T28 a) (wb:Ty.wf T28 b):f10 a b = true ↔ a = b:=by
 have n1:=nodes_wf wa
 have n2:=nodes_wf wb
 have m1:=meta_wf wa
 have m2:=meta_wf wb
 have k1:=links_wf wa
 have k2:=links_wf wb
 have hs:=sel_fit wa
 rw [nJ5 a b (len_lt n1.1) (len_lt m1.1) (len_lt k1.1)]
 obtain ⟨a0,a1,a2,a3,a4,a5,a6,a7,⟨⟩⟩:=a
 obtain ⟨b0,b1,b2,b3,b4,b5,b6,b7,⟨⟩⟩:=b
 simp only at n1 n2 m1 m2 k1 k2 hs
 simp only [Bool.and_eq_true,beq_iff_eq,Prod.mk.injEq,and_true,pQ8 hs]
 constructor
 ·rintro ⟨⟨⟨⟨⟨⟨⟨h0,h1⟩,h2⟩,h4⟩,h5⟩,h3⟩,h6⟩,h7⟩
  refine ⟨h0,h1,h2,?_,h4,h5,eqC_neT (τ:=T66) rfl m1.2 m2.2 h6,?_⟩
  ·exact list_eqC (t:=f27) (fun x hx y hy ht=>(rU7 (n1.2 x hx) (n2.2 y hy)).1 ht) h3
  ·refine list_eqC (z:=Z74) (t:=fun x y=>!(difL x y)) (fun x hx y hy ht=>(difL_same (k1.2 x hx) (k2.2 y hy)).1 ht) ?_
   simpa only [Bool.not_not] using h7
 ·rintro ⟨h0,h1,h2,h3,h4,h5,h6,h7⟩
  subst h3 h6 h7
  refine ⟨⟨⟨⟨⟨⟨⟨h0,h1⟩,h2⟩,h4⟩,h5⟩,?_⟩,eqC_self (neT_self (τ:=T66) (by rfl) a6)⟩,?_⟩
  ·exact list_eqC_self (t:=f27) fun x hx=>(rU7 (n1.2 x hx) (n1.2 x hx)).2 rfl
  ·have:=list_eqC_self (a:=a7) (z:=Z74) (t:=fun x y=>!(difL x y)) fun x hx=>(difL_same (k1.2 x hx) (k1.2 x hx)).2 rfl
   simpa only [Bool.not_not] using this
theorem rI2 {a:D28} (b:D28) (wa:Ty.wf T28 a):uO a b:=by
 have n1:=nodes_wf wa
 have m1:=meta_wf wa
 have k1:=links_wf wa
 have key:(!(bif (bif (bif (bif (bif (bif (bif (a.1 != b.1) then true else (a.2.1 != b.2.1)) then true else (a.2.2.1 != b.2.2.1)) then true else (a.2.2.2.2.1 != b.2.2.2.2.1)) then true else ((len a.2.2.2.1) != (len b.2.2.2.1))) then true else ((len a.2.2.2.2.2.2.1) != (len b.2.2.2.2.2.2.1))) then true else ((len a.2.2.2.2.2.2.2.1) != (len b.2.2.2.2.2.2.2.1))) then true else (!(f26 a.2.2.2.2.2.1 b.2.2.2.2.2.1)))) = true →
   (!((len a.2.2.2.1) != (len b.2.2.2.1))) = true ∧ (!((len a.2.2.2.2.2.2.1) != (len b.2.2.2.2.2.2.1))) = true ∧ (!((len a.2.2.2.2.2.2.2.1) != (len b.2.2.2.2.2.2.2.1))) = true:=fun h=>by
  simp only [Bool.cond_true_left,Bool.not_or,Bool.and_eq_true] at h
  exact ⟨h.1.1.1.2,h.1.1.2,h.1.2⟩
 refine ⟨fun _=>oY7 _ _ (sel_fit wa),fun h=>?_⟩
 obtain ⟨e1,e2,e3⟩:=key h
 refine ⟨?_,fun _=>⟨?_,fun _=>?_⟩⟩
 ·exact okScan (g:=vY (a,b,len a.2.2.2.1,())) (next:=wP7 (a,b,len a.2.2.2.1,())) (c:=fun i=>!(f27 (nth a.2.2.2.1 i Z57) (nth b.2.2.2.1 i Z57))) (xT _) (len_lt n1.1) (fun _=>rfl) (fun _=>rfl) (fun x _ _ hx h=>by
   have h:=hx (of_decide_eq_true h)
   exact ⟨h.1,h.2.1,oX3 (lens_of (n1.2 _ (nth_mem h.1))),fun _=>h.2.2⟩) e1
 ·exact okScan (g:=vK (a,b,len a.2.2.2.2.2.2.1,())) (next:=wN0 (a,b,len a.2.2.2.2.2.2.1,())) (c:=neT T66 Z66 a.2.2.2.2.2.2.1 b.2.2.2.2.2.2.1) (xT _) (len_lt m1.1) (fun _=>rfl) (fun _=>rfl) (fun x _ _ hx h=>by
   have h:=hx (of_decide_eq_true h)
   exact ⟨h.1,h.2.1,fun _=>h.2.2⟩) e2
 ·exact okScan (g:=vK0 (a,b,len a.2.2.2.2.2.2.2.1,())) (next:=wN1 (a,b,len a.2.2.2.2.2.2.2.1,())) (c:=fun i=>difL (nth a.2.2.2.2.2.2.2.1 i Z74) (nth b.2.2.2.2.2.2.2.1 i Z74)) (xT _) (len_lt k1.1) (fun _=>rfl) (fun _=>rfl) (fun x _ _ hx h=>by
   have h:=hx (of_decide_eq_true h)
   exact ⟨h.1,h.2.1,fun _=>oY8 _ _ (len_lt ((k1.2 _ (nth_mem h.1)).2.2.2.2.1.2.2.1.1)),fun _=>h.2.2⟩) e3
def headOf (d:D28):D50:=(d.1,d.2.1,d.2.2.1,d.2.2.2.2.1,())
def mk (d:D28) (p:D32):D28:=(p.2.1.1,p.2.1.2.1,p.2.1.2.2.1,List.take (Int.toNat p.2.2.1) d.2.2.2.1 ++ p.2.2.2.2.1 ++ List.drop (Int.toNat (p.2.2.1 + len p.2.2.2.1)) d.2.2.2.1,p.2.1.2.2.2.1,(bif (!(f16 p.2.2.2.2.2.1 p.2.2.2.2.2.2.1)) then p.2.2.2.2.2.2.1 else d.2.2.2.2.2.1),(bif (!(f18 p.2.2.2.2.2.2.2.1 p.2.2.2.2.2.2.2.2.1)) then p.2.2.2.2.2.2.2.2.1 else d.2.2.2.2.2.2.1),(bif (!(f20 p.2.2.2.2.2.2.2.2.2.1 p.2.2.2.2.2.2.2.2.2.2.1)) then p.2.2.2.2.2.2.2.2.2.2.1 else d.2.2.2.2.2.2.2.1),())
def zeroD:D28:=((0:Int),(0:Int),(0:Int),[],(0:Int),((0:Int),(0:Int),([]:List Int),()),[],[],())
theorem nK9 (d:D28) (p:D32) (h1:len (List.take (Int.toNat p.2.2.1) d.2.2.2.1 ++ p.2.2.2.2.1 ++ List.drop (Int.toNat (p.2.2.1 + len p.2.2.2.1)) d.2.2.2.1) < 9223372036854775808) (h2:len d.2.2.2.2.2.2.2.1 < 9223372036854775808) (h3:len p.2.2.2.2.2.2.2.2.2.2.1 < 9223372036854775808) :
  f8 d p = (bif (f13 d != 0) then (zeroD,f13 d,()) else (bif (!(f24 d p)) then (zeroD,14,()) else (bif (f13 (mk d p) != 0) then (zeroD,f13 (mk d p),()) else (mk d p,0,())))):=by
 simp only [f8,f8t,qX6,nodes_copy _ h1,links_copy _ h2,links_copy _ h3,mask_copy,f19,Bool.cond_self]
 have em:(p.2.1.1,p.2.1.2.1,p.2.1.2.2.1,List.take (Int.toNat p.2.2.1) d.2.2.2.1 ++ p.2.2.2.2.1 ++ List.drop (Int.toNat (p.2.2.1 + len p.2.2.2.1)) d.2.2.2.1,p.2.1.2.2.2.1,(bif (!(f16 p.2.2.2.2.2.1 p.2.2.2.2.2.2.1)) then p.2.2.2.2.2.2.1 else d.2.2.2.2.2.1),(bif (!(f18 p.2.2.2.2.2.2.2.1 p.2.2.2.2.2.2.2.2.1)) then p.2.2.2.2.2.2.2.2.1 else d.2.2.2.2.2.2.1),(bif (!(f20 p.2.2.2.2.2.2.2.2.2.1 p.2.2.2.2.2.2.2.2.2.2.1)) then p.2.2.2.2.2.2.2.2.2.2.1 else d.2.2.2.2.2.2.2.1),()) = mk d p:=rfl
 simp only [em]
 cases (f13 d != 0) with
 | true=>rfl
 | false =>
  cases (!(f24 d p)) with
  | true=>rfl
  | false =>
   cases (f13 (mk d p) != 0) with
   | true=>rfl
   | false=>rfl
end Go.Proofs.YtigpekbhmpfcoaaGreatDoor.Am
