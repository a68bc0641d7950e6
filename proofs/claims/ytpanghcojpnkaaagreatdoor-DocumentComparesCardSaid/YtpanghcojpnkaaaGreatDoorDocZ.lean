/- Plain laws of documents and patches: equality of documents; what Apply zU0. Condition: the value a Go value can be. -/
import Derived.Test.YtpanghcojpnkaaaGreatDoorDocY
namespace Go.Proofs.YtpanghcojpnkaaaGreatDoor.Am
open Go Go.Am
theorem nodes_wf {d:D28} (h:Ty.wf T28 d):WfN d.2.2.2.1:=h.2.2.2.1
theorem links_wf {d:D28} (h:Ty.wf T28 d):Ty.wf (.sl T90) d.2.2.2.2.2.2.2.1:=h.2.2.2.2.2.2.2.1
theorem meta_wf {d:D28} (h:Ty.wf T28 d):Ty.wf (.sl T87) d.2.2.2.2.2.2.1:=h.2.2.2.2.2.2.1
theorem sel_fit {d:D28} (h:Ty.wf T28 d):len d.2.2.2.2.2.1.2.2.1 < 9223372036854775808:=len_lt h.2.2.2.2.2.1.2.2.1.1
def difL (x y:D90):Bool:=bif (bif (bif (bif (x.1 != y.1) then true else (!(x.2.1 == y.2.1))) then true else (x.2.2.1 != y.2.2.1)) then true else (x.2.2.2.1 != y.2.2.2.1)) then true else (!(f50 x.2.2.2.2.1 y.2.2.2.2.1))
theorem oV8 (a b:D28) (h1:len a.2.2.2.1 < 9223372036854775808) (h2:len a.2.2.2.2.2.2.1 < 9223372036854775808) (h3:len a.2.2.2.2.2.2.2.1 < 9223372036854775808) :
  f19 a b = ((a.1 == b.1) && (a.2.1 == b.2.1) && (a.2.2.1 == b.2.2.1) && (a.2.2.2.2.1 == b.2.2.2.2.1) && f48 a.2.2.2.2.2.1 b.2.2.2.2.2.1 && eqC (len a.2.2.2.1) (len b.2.2.2.1) (fun i=>!(f49 (nth a.2.2.2.1 i Z49) (nth b.2.2.2.1 i Z49))) && eqC (len a.2.2.2.2.2.2.1) (len b.2.2.2.2.2.2.1) (neT T87 Z87 a.2.2.2.2.2.2.1 b.2.2.2.2.2.2.1) && eqC (len a.2.2.2.2.2.2.2.1) (len b.2.2.2.2.2.2.2.1) (fun i=>difL (nth a.2.2.2.2.2.2.2.1 i Z90) (nth b.2.2.2.2.2.2.2.1 i Z90))):=by
 have s4:tM6 (a,b,len a.2.2.2.1,()) (zC1 (vO4 (a,b,len a.2.2.2.1,())) (wI2 (a,b,len a.2.2.2.1,())) ((0:Int),())) = xX8 (len a.2.2.2.1) (fun i=>!(f49 (nth a.2.2.2.1 i Z49) (nth b.2.2.2.1 i Z49))) :=
  xW6 (g:=vO4 (a,b,len a.2.2.2.1,())) (next:=wI2 (a,b,len a.2.2.2.1,())) (c:=fun i=>!(f49 (nth a.2.2.2.1 i Z49) (nth b.2.2.2.1 i Z49))) (xT8 _) h1 (fun _=>rfl) (fun _=>rfl)
 have s10:uJ (a,b,len a.2.2.2.2.2.2.1,()) (zC1 (wY9 (a,b,len a.2.2.2.2.2.2.1,())) (wH0 (a,b,len a.2.2.2.2.2.2.1,())) ((0:Int),())) = xX8 (len a.2.2.2.2.2.2.1) (neT T87 Z87 a.2.2.2.2.2.2.1 b.2.2.2.2.2.2.1) :=
  xW6 (g:=wY9 (a,b,len a.2.2.2.2.2.2.1,())) (next:=wH0 (a,b,len a.2.2.2.2.2.2.1,())) (c:=neT T87 Z87 a.2.2.2.2.2.2.1 b.2.2.2.2.2.2.1) (xT8 _) h2 (fun _=>rfl) (fun _=>rfl)
 have s16:uJ0 (a,b,len a.2.2.2.2.2.2.2.1,()) (zC1 (wZ (a,b,len a.2.2.2.2.2.2.2.1,())) (wH1 (a,b,len a.2.2.2.2.2.2.2.1,())) ((0:Int),())) = xX8 (len a.2.2.2.2.2.2.2.1) (fun i=>difL (nth a.2.2.2.2.2.2.2.1 i Z90) (nth b.2.2.2.2.2.2.2.1 i Z90)) :=
  xW6 (g:=wZ (a,b,len a.2.2.2.2.2.2.2.1,())) (next:=wH1 (a,b,len a.2.2.2.2.2.2.2.1,())) (c:=fun i=>difL (nth a.2.2.2.2.2.2.2.1 i Z90) (nth b.2.2.2.2.2.2.2.1 i Z90)) (xT8 _) h3 (fun _=>rfl) (fun _=>rfl)
 simp only [f19,f19t,s4,s10,s16,vU2,vH3,vH4,eqC,bne]
 generalize (a.1 == b.1) = c1
 generalize (a.2.1 == b.2.1) = c2
 generalize (a.2.2.1 == b.2.2.1) = c3
 generalize (a.2.2.2.2.1 == b.2.2.2.2.1) = c4
 generalize f48 a.2.2.2.2.2.1 b.2.2.2.2.2.1 = c5
 generalize (len a.2.2.2.1 == len b.2.2.2.1) = c6
 generalize (len a.2.2.2.2.2.2.1 == len b.2.2.2.2.2.2.1) = c7
 generalize (len a.2.2.2.2.2.2.2.1 == len b.2.2.2.2.2.2.2.1) = c8
 generalize xX8 (len a.2.2.2.1) _ = d1
 generalize xX8 (len a.2.2.2.2.2.2.1) _ = d2
 generalize xX8 (len a.2.2.2.2.2.2.2.1) _ = d3
 cases c1 <;> cases c2 <;> cases c3 <;> cases c4 <;> cases c5 <;> simp <;> cases c6 <;> cases c7 <;> cases c8 <;> cases d1 <;> cases d2 <;> cases d3 <;> rfl
theorem difL_same {x y:D90} (wx:Ty.wf T90 x) (wy:Ty.wf T90 y):(!(difL x y)) = true ↔ x = y:=by
 have w1:=wx.2.2.2.2.1
 have w2:=wy.2.2.2.2.1
 have e:=pG8 w1 w2
 obtain ⟨a0,a1,a2,a3,a4,⟨⟩⟩:=x
 obtain ⟨b0,b1,b2,b3,b4,⟨⟩⟩:=y
 simp only at e
 simp only [difL,Bool.cond_true_left,Bool.not_or,Bool.not_not,Bool.and_eq_true,bne,beq_iff_eq,Prod.mk.injEq,and_true,e]
 constructor
 ·rintro ⟨⟨⟨⟨h0,h1⟩,h2⟩,h3⟩,h4⟩; exact ⟨h0,h1,h2,h3,h4⟩
 ·rintro ⟨h0,h1,h2,h3,h4⟩; exact ⟨⟨⟨⟨h0,h1⟩,h2⟩,h3⟩,h4⟩
theorem rP5 {a b:D49} (wa:Ty.wf T49 a) (wb:Ty.wf T49 b):f49 a b = true ↔ a = b:=by
 rw [← same_eq (lens_of wa)]; exact sF3 wa wb
theorem pG9 {a b:D28} (wa:Ty.wf T28 a) (wb:Ty.wf T28 b):f19 a b = true ↔ a = b:=by
 have n1:=nodes_wf wa
 have n2:=nodes_wf wb
 have m1:=meta_wf wa
 have m2:=meta_wf wb
 have k1:=links_wf wa
 have k2:=links_wf wb
 have hs:=sel_fit wa
 rw [oV8 a b (len_lt n1.1) (len_lt m1.1) (len_lt k1.1)]
 obtain ⟨a0,a1,a2,a3,a4,a5,a6,a7,⟨⟩⟩:=a
 obtain ⟨b0,b1,b2,b3,b4,b5,b6,b7,⟨⟩⟩:=b
 simp only at n1 n2 m1 m2 k1 k2 hs
 simp only [Bool.and_eq_true,beq_iff_eq,Prod.mk.injEq,and_true,pG7 hs]
 constructor
 ·rintro ⟨⟨⟨⟨⟨⟨⟨h0,h1⟩,h2⟩,h4⟩,h5⟩,h3⟩,h6⟩,h7⟩
  refine ⟨h0,h1,h2,?_,h4,h5,eqC_neT (τ:=T87) rfl m1.2 m2.2 h6,?_⟩
  ·exact list_eqC (t:=f49) (fun x hx y hy ht=>(rP5 (n1.2 x hx) (n2.2 y hy)).1 ht) h3
  ·refine list_eqC (z:=Z90) (t:=fun x y=>!(difL x y)) (fun x hx y hy ht=>(difL_same (k1.2 x hx) (k2.2 y hy)).1 ht) ?_
   simpa only [Bool.not_not] using h7
 ·rintro ⟨h0,h1,h2,h3,h4,h5,h6,h7⟩
  subst h3 h6 h7
  refine ⟨⟨⟨⟨⟨⟨⟨h0,h1⟩,h2⟩,h4⟩,h5⟩,?_⟩,eqC_self (neT_self (τ:=T87) (by rfl) a6)⟩,?_⟩
  ·exact list_eqC_self (t:=f49) fun x hx=>(rP5 (n1.2 x hx) (n1.2 x hx)).2 rfl
  ·have:=list_eqC_self (a:=a7) (z:=Z90) (t:=fun x y=>!(difL x y)) fun x hx=>(difL_same (k1.2 x hx) (k1.2 x hx)).2 rfl
   simpa only [Bool.not_not] using this
theorem oM8 {a:D28} (b:D28) (wa:Ty.wf T28 a):sS8 a b:=by
 have n1:=nodes_wf wa
 have m1:=meta_wf wa
 have k1:=links_wf wa
 have key:(!(bif (bif (bif (bif (bif (bif (bif (a.1 != b.1) then true else (a.2.1 != b.2.1)) then true else (a.2.2.1 != b.2.2.1)) then true else (a.2.2.2.2.1 != b.2.2.2.2.1)) then true else ((len a.2.2.2.1) != (len b.2.2.2.1))) then true else ((len a.2.2.2.2.2.2.1) != (len b.2.2.2.2.2.2.1))) then true else ((len a.2.2.2.2.2.2.2.1) != (len b.2.2.2.2.2.2.2.1))) then true else (!(f48 a.2.2.2.2.2.1 b.2.2.2.2.2.1)))) = true →
   (!((len a.2.2.2.1) != (len b.2.2.2.1))) = true ∧ (!((len a.2.2.2.2.2.2.1) != (len b.2.2.2.2.2.2.1))) = true ∧ (!((len a.2.2.2.2.2.2.2.1) != (len b.2.2.2.2.2.2.2.1))) = true:=fun h=>by
  simp only [Bool.cond_true_left,Bool.not_or,Bool.and_eq_true] at h
  exact ⟨h.1.1.1.2,h.1.1.2,h.1.2⟩
 refine ⟨fun _=>oM6 _ _ (sel_fit wa),fun h=>?_⟩
 obtain ⟨e1,e2,e3⟩:=key h
 refine ⟨?_,fun _=>⟨?_,fun _=>?_⟩⟩
 ·exact okScan (g:=vO4 (a,b,len a.2.2.2.1,())) (next:=wI2 (a,b,len a.2.2.2.1,())) (c:=fun i=>!(f49 (nth a.2.2.2.1 i Z49) (nth b.2.2.2.1 i Z49))) (xT8 _) (len_lt n1.1) (fun _=>rfl) (fun _=>rfl) (fun x _ _ hx h=>by
   have h:=hx (of_decide_eq_true h)
   exact ⟨h.1,h.2.1,oM0 (lens_of (n1.2 _ (nth_mem h.1))),fun _=>h.2.2⟩) e1
 ·exact okScan (g:=wY9 (a,b,len a.2.2.2.2.2.2.1,())) (next:=wH0 (a,b,len a.2.2.2.2.2.2.1,())) (c:=neT T87 Z87 a.2.2.2.2.2.2.1 b.2.2.2.2.2.2.1) (xT8 _) (len_lt m1.1) (fun _=>rfl) (fun _=>rfl) (fun x _ _ hx h=>by
   have h:=hx (of_decide_eq_true h)
   exact ⟨h.1,h.2.1,fun _=>h.2.2⟩) e2
 ·exact okScan (g:=wZ (a,b,len a.2.2.2.2.2.2.2.1,())) (next:=wH1 (a,b,len a.2.2.2.2.2.2.2.1,())) (c:=fun i=>difL (nth a.2.2.2.2.2.2.2.1 i Z90) (nth b.2.2.2.2.2.2.2.1 i Z90)) (xT8 _) (len_lt k1.1) (fun _=>rfl) (fun _=>rfl) (fun x _ _ hx h=>by
   have h:=hx (of_decide_eq_true h)
   exact ⟨h.1,h.2.1,fun _=>oM7 _ _ (len_lt ((k1.2 _ (nth_mem h.1)).2.2.2.2.1.2.2.1.1)),fun _=>h.2.2⟩) e3
theorem rP6 {a b:D28} (wa:Ty.wf T28 a) (wb:Ty.wf T28 b):f18 a b = true ↔ a = b:=by
 have n1:=nodes_wf wa
 have n2:=nodes_wf wb
 have m1:=meta_wf wa
 have m2:=meta_wf wb
 have k1:=links_wf wa
 have k2:=links_wf wb
 have hs:=sel_fit wa
 obtain ⟨a0,a1,a2,a3,a4,⟨a50,a51,a52,⟨⟩⟩,a6,a7,⟨⟩⟩:=a
 obtain ⟨b0,b1,b2,b3,b4,⟨b50,b51,b52,⟨⟩⟩,b6,b7,⟨⟩⟩:=b
 simp only at n1 n2 m1 m2 k1 k2 hs
 simp only [f18,f18t,Bool.cond_false_right,Bool.cond_false_left,Bool.cond_true_left,Bool.and_eq_true,Bool.not_eq_true',Bool.or_eq_false_iff,bne_eq_false_iff_eq,Bool.not_eq_false',Prod.mk.injEq,and_true]
 rw [pG3 n1 n2,oM2 hs,pG4 m1 m2,pG6 k1 k2]
 constructor
 ·rintro ⟨⟨⟨⟨h0,h1⟩,h2⟩,h4⟩,h3,⟨⟨h50,h51⟩,h52⟩,h6,h7⟩
  exact ⟨h0,h1,h2,h3,h4,⟨h50,h51,h52⟩,h6,h7⟩
 ·rintro ⟨h0,h1,h2,h3,h4,⟨h50,h51,h52⟩,h6,h7⟩
  exact ⟨⟨⟨⟨h0,h1⟩,h2⟩,h4⟩,h3,⟨⟨h50,h51⟩,h52⟩,h6,h7⟩
theorem qQ6 {a:D28} (b:D28) (wa:Ty.wf T28 a):tT8 a b:=by
 have n1:=nodes_wf wa
 have m1:=meta_wf wa
 have k1:=links_wf wa
 have hs:=sel_fit wa
 exact fun _=>⟨oM1 _ _ (len_lt n1.1) fun n hn=>lens_of (n1.2 n hn),fun _=>⟨fun _=>rB8 _ _ hs,fun _=>⟨oM3 _ _ (len_lt m1.1),fun _=>oM5 _ _ k1⟩⟩⟩
end Go.Proofs.YtpanghcojpnkaaaGreatDoor.Am
