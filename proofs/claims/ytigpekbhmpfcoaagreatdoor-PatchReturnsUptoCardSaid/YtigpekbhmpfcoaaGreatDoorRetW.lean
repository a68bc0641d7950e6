/- Plain laws of patches: when a patch fits, what Apply zT8 fits back. Condition: the second form's bound. -/
import Derived.Test.YtigpekbhmpfcoaaGreatDoorRetZ
import Derived.Test.YtigpekbhmpfcoaaGreatDoorRetF1
import Derived.Test.YtigpekbhmpfcoaaGreatDoorRetF2
namespace Go.Proofs.YtigpekbhmpfcoaaGreatDoor.Am
open Go Go.Am
theorem sum_len {τ:Ty} (hb:∀ x:τ.den,1 ≤ τ.bulk x):∀ l:List τ.den,l.length ≤ (l.map τ.bulk).sum:=by
 intro l
 induction l with
 | nil=>simp
 | cons x l ih=>have:=hb x; simp only [List.length_cons,List.map_cons,List.sum_cons]; omega
structure Short (n:D57):Prop where
 mask:n.2.2.2.2.2.2.2.2.2.1.2.2.1.length ≤ 1048576
 pix:n.2.2.2.2.2.2.2.2.2.2.2.2.1.2.2.1.length ≤ 1048576
 params:n.2.2.2.2.2.2.2.2.2.2.2.2.2.2.2.1.length ≤ 1048576
 stops:n.2.2.2.2.2.2.2.2.2.2.2.2.2.2.2.2.2.1.length ≤ 1048576
 segs:n.2.2.2.2.2.2.2.2.2.2.2.2.2.2.2.2.2.2.1.length ≤ 1048576
 warp:n.2.2.2.2.2.2.2.2.2.2.2.2.2.2.2.2.2.2.2.2.2.2.2.2.2.2.2.1.2.2.2.1.length ≤ 1048576
theorem fb (f:Ty):∀ (k:Nat) (x:f.den),(f.fty k).bulk (f.fget k x) ≤ f.bulk x:=by
 induction f with
 | cons h t _ iht =>
  intro k x
  cases k with
  | zero=>simp only [Ty.fty,Ty.fget,Ty.bulk]; omega
  | succ k=>simp only [Ty.fty,Ty.fget,Ty.bulk]; have:=iht k x.2; omega
 | _=>intro k x; simp [Ty.fty,Ty.fget,Ty.bulk]
theorem sb (f:Ty) (k:Nat) (x:f.den):(f.fty k).bulk (f.fget k x) ≤ (Ty.st f).bulk x:=by
 have:=fb f k x
 have e:(Ty.st f).bulk x = f.bulk x + 1:=rfl
 omega
def fieldsOf:Ty → Ty
 | .st f=>f
 | τ=>τ
theorem sl_len {τ:Ty} (hb:∀ x:τ.den,1 ≤ τ.bulk x) {l:List τ.den} {N:Nat} (h:(Ty.sl τ).bulk l ≤ N):l.length ≤ N:=by
 have:=sum_len hb l
 have e:(Ty.sl τ).bulk l = (l.map τ.bulk).sum + 1:=rfl
 omega
theorem st_pos (f:Ty) (x:(Ty.st f).den):1 ≤ (Ty.st f).bulk x:=by
 have e:(Ty.st f).bulk x = f.bulk x + 1:=rfl
 omega
theorem short_of {n:D57} (h:Ty.bulk T57 n ≤ 1048576):Short n:=by
 refine ⟨?_,?_,?_,?_,?_,?_⟩
 ·exact sl_len (τ:=.int .i64) (fun _=>Nat.le_refl _) (Nat.le_trans (sb (fieldsOf ((fieldsOf T57).fty 9)) 2 n.2.2.2.2.2.2.2.2.2.1) (Nat.le_trans (sb (fieldsOf T57) 9 n) h))
 ·exact sl_len (τ:=T50) (st_pos _) (Nat.le_trans (sb (fieldsOf ((fieldsOf T57).fty 12)) 2 n.2.2.2.2.2.2.2.2.2.2.2.2.1) (Nat.le_trans (sb (fieldsOf T57) 12 n) h))
 ·exact sl_len (τ:=.int .i64) (fun _=>Nat.le_refl _) (Nat.le_trans (sb (fieldsOf T57) 15 n) h)
 ·exact sl_len (τ:=T91) (st_pos _) (Nat.le_trans (sb (fieldsOf T57) 17 n) h)
 ·exact sl_len (τ:=T97) (st_pos _) (Nat.le_trans (sb (fieldsOf T57) 18 n) h)
 ·exact sl_len (τ:=T94) (st_pos _) (Nat.le_trans (sb (fieldsOf ((fieldsOf T57).fty 27)) 3 n.2.2.2.2.2.2.2.2.2.2.2.2.2.2.2.2.2.2.2.2.2.2.2.2.2.2.2.1) (Nat.le_trans (sb (fieldsOf T57) 27 n) h))
theorem clone_ok {α:Type} {l:List α} (h:l.length ≤ 1048576):(l.length:Int) ≤ 4294967296:=by omega
theorem oZ {a b:D57} (ha:Short a) (hb:Short b):sV7 a b:=by
 intro _
 exact ⟨clone_ok ha.mask,clone_ok hb.pix,clone_ok hb.params,clone_ok hb.stops,clone_ok hb.segs,clone_ok hb.warp⟩
theorem tU8 (l:List D57) (hl:len l ≤ 1000000000) (hs:∀ n ∈ l,Short n):uL4 l:=by
 have h0:=xT l
 refine ⟨⟨h0,Int.le_refl _,(show len l ≤ 4294967296 by omega)⟩,?_⟩
 have hr:len (List.replicate (Int.toNat (len l)) Z57) = len l:=by simp only [len,List.length_replicate]; omega
 have w:=whole (g:=vX6 (l,len l,())) (next:=wL5 (l,len l,())) (ok:=vS6 (l,len l,())) (fun x=>(0 ≤ x.2.1 ∧ x.2.1 ≤ len l) ∧ len x.1 = len l) (fun x=>(len l - x.2.1).toNat) (fun x hx=>fun h3=>?_) (fun x hx hg=>?_) (x:=(List.replicate (Int.toNat (len l)) Z57,0,())) ⟨⟨Int.le_refl 0,h0⟩,hr⟩ (by unfold zH8; simp only; omega)
 ·exact w.1
 ·have h4:x.2.1 < len l:=of_decide_eq_true h3
  obtain ⟨⟨i0,i1⟩,hx⟩:=hx
  have hn:=hs _ (nth_mem (d:=Z57) ⟨i0,h4⟩)
  exact ⟨⟨i0,h4⟩,oZ hn hn,(by rw [hx]; exact ⟨i0,h4⟩),(by rw [hx]; exact h4),inr_small (by omega) (by omega)⟩
 ·have h4:x.2.1 < len l:=of_decide_eq_true hg
  obtain ⟨⟨i0,i1⟩,hx⟩:=hx
  refine ⟨⟨⟨(show 0 ≤ x.2.1 + 1 by omega),(show x.2.1 + 1 ≤ len l by omega)⟩,?_⟩,(show (len l - (x.2.1 + 1)).toNat < (len l - x.2.1).toNat by omega)⟩
  show len (List.set x.1 _ _) = len l
  rw [len_set]; exact hx
theorem uT (l:List D74) (hl:len l ≤ 1000000000) (hs:∀ m ∈ l,m.2.2.2.2.1.2.2.1.length ≤ 1048576):vZ7 l:=by
 have h0:=xT l
 have hll:len l = (l.length:Int):=rfl
 refine ⟨(show (l.length:Int) ≤ 4294967296 by omega),?_⟩
 have w:=whole (g:=uM4 (l,len l,())) (next:=vA4 (l,len l,())) (ok:=vS8 (l,len l,())) (fun x=>(0 ≤ x.2.1 ∧ x.2.1 ≤ len l) ∧ len x.1 = len l) (fun x=>(len l - x.2.1).toNat) (fun x hx=>fun h3=>?_) (fun x hx hg=>?_) (x:=(l,0,())) ⟨⟨Int.le_refl 0,h0⟩,rfl⟩ (by unfold zH8; simp only; omega)
 ·exact w.1
 ·have h4:x.2.1 < len l:=of_decide_eq_true h3
  obtain ⟨⟨i0,i1⟩,hx⟩:=hx
  have hn:=hs _ (nth_mem (d:=Z74) ⟨i0,h4⟩)
  exact ⟨⟨i0,h4⟩,clone_ok hn,(by rw [hx]; exact ⟨i0,h4⟩),(by rw [hx]; exact h4),inr_small (by omega) (by omega)⟩
 ·have h4:x.2.1 < len l:=of_decide_eq_true hg
  obtain ⟨⟨i0,i1⟩,hx⟩:=hx
  refine ⟨⟨⟨(show 0 ≤ x.2.1 + 1 by omega),(show x.2.1 + 1 ≤ len l by omega)⟩,?_⟩,(show (len l - (x.2.1 + 1)).toNat < (len l - x.2.1).toNat by omega)⟩
  show len (List.set x.1 _ _) = len l
  rw [len_set]; exact hx
theorem cat_len (a b c:List D57):len (a ++ b ++ c) = len a + len b + len c:=by rw [len_app,len_app]
theorem oZ0 (a b c:List D57) (ha:len a ≤ 100000000) (hb:len b ≤ 100000000) (hc:len c ≤ 100000000):sX [a,b,c]:=by
 have a0:=xT a
 have b0:=xT b
 have c0:=xT c
 have el:len [a,b,c] = 3:=rfl
 have w3:=whole (g:=vX9 ([a,b,c],[a,b,c],3,())) (next:=wP6 ([a,b,c],[a,b,c],3,())) (ok:=vT ([a,b,c],[a,b,c],3,())) (fun x=>(x.2.1 = 0 ∧ x.1 = 0) ∨ (x.2.1 = 1 ∧ x.1 = len a) ∨ (x.2.1 = 2 ∧ x.1 = len a + len b) ∨ (x.2.1 = 3 ∧ x.1 = len a + len b + len c)) (fun x=>(3 - x.2.1).toNat) (fun x hx=>fun h3=>?_) (fun x hx hg=>?_) (x:=(0,0,())) (.inl ⟨rfl,rfl⟩) (by unfold zH8; decide)
 ·refine ⟨w3.1,?_,?_⟩
  ·show 0 ≤ (zB9 (vX9 ([a,b,c],[a,b,c],3,())) (wP6 ([a,b,c],[a,b,c],3,())) (0,0,())).1 ∧ (zB9 (vX9 ([a,b,c],[a,b,c],3,())) (wP6 ([a,b,c],[a,b,c],3,())) (0,0,())).1 ≤ 4294967296
   rcases w3.2.1 with h | h | h | h <;> omega
  ·have w:=whole (g:=wU7 ([a,b,c],len [a,b,c],())) (next:=wC0 ([a,b,c],len [a,b,c],())) (ok:=vJ9 ([a,b,c],len [a,b,c],())) (catI a b c) (fun x=>(3 - x.2.1).toNat) (fun x hx=>fun h3=>?_) (fun x hx hg=>cat_next hx hg) (x:=([],0,())) (.inl ⟨rfl,rfl⟩) (by unfold zH8; decide)
   ·exact w.1
   ·obtain ⟨m,i,⟨⟩⟩:=x
    have h4:i < 3:=of_decide_eq_true h3
    rcases hx with ⟨q1,q2⟩ | ⟨q1,q2⟩ | ⟨q1,q2⟩ | ⟨q1,q2⟩
    ·simp only at q1 q2; subst q1 q2
     have e:len a = (a.length:Int):=rfl
     exact ⟨(show InB (0:Int) 3 from inb0),(show ((([]:List D57).length + a.length:Nat):Int) ≤ 4294967296 by simp only [List.length_nil]; omega),(show InR ((0:Int) + 1) by unfold InR; decide)⟩
    ·simp only at q1 q2; subst q1 q2
     have e:len m = (m.length:Int):=rfl
     have e2:len b = (b.length:Int):=rfl
     exact ⟨(show InB (1:Int) 3 from inb1),(show ((m.length + b.length:Nat):Int) ≤ 4294967296 by omega),(show InR ((1:Int) + 1) by unfold InR; decide)⟩
    ·simp only at q1 q2; subst q1 q2
     have e:len a = (a.length:Int):=rfl
     have e2:len b = (b.length:Int):=rfl
     have e3:len c = (c.length:Int):=rfl
     exact ⟨(show InB (2:Int) 3 from inb2),(show (((a ++ b).length + c.length:Nat):Int) ≤ 4294967296 by rw [List.length_append]; omega),(show InR ((2:Int) + 1) by unfold InR; decide)⟩
    ·simp only at q1; omega
 ·obtain ⟨s,i,⟨⟩⟩:=x
  have h4:i < 3:=of_decide_eq_true h3
  rcases hx with ⟨q1,q2⟩ | ⟨q1,q2⟩ | ⟨q1,q2⟩ | ⟨q1,q2⟩
  ·simp only at q1 q2; subst q1 q2
   exact ⟨(show InB (0:Int) 3 from inb0),(show InR (0 + len a) from inr_small (by omega) (by omega)),fun h=>absurd (show 0 + len a < 0 from of_decide_eq_true h) (by omega),(show InR ((0:Int) + 1) by unfold InR; decide)⟩
  ·simp only at q1 q2; subst q1 q2
   exact ⟨(show InB (1:Int) 3 from inb1),(show InR (len a + len b) from inr_small (by omega) (by omega)),fun h=>absurd (show len a + len b < 0 from of_decide_eq_true h) (by omega),(show InR ((1:Int) + 1) by unfold InR; decide)⟩
  ·simp only at q1 q2; subst q1 q2
   exact ⟨(show InB (2:Int) 3 from inb2),(show InR (len a + len b + len c) from inr_small (by omega) (by omega)),fun h=>absurd (show len a + len b + len c < 0 from of_decide_eq_true h) (by omega),(show InR ((2:Int) + 1) by unfold InR; decide)⟩
  ·simp only at q1; omega
 ·obtain ⟨s,i,⟨⟩⟩:=x
  have h4:i < 3:=of_decide_eq_true hg
  rcases hx with ⟨q1,q2⟩ | ⟨q1,q2⟩ | ⟨q1,q2⟩ | ⟨q1,q2⟩
  ·simp only at q1 q2; subst q1 q2
   exact ⟨.inr (.inl ⟨rfl,(show 0 + len a = len a by omega)⟩),(show (3 - (1:Int)).toNat < (3 - (0:Int)).toNat by decide)⟩
  ·simp only at q1 q2; subst q1 q2
   exact ⟨.inr (.inr (.inl ⟨rfl,rfl⟩)),(show (3 - (2:Int)).toNat < (3 - (1:Int)).toNat by decide)⟩
  ·simp only at q1 q2; subst q1 q2
   exact ⟨.inr (.inr (.inr ⟨rfl,rfl⟩)),(show (3 - (3:Int)).toNat < (3 - (2:Int)).toNat by decide)⟩
  ·simp only at q1; omega
end Go.Proofs.YtigpekbhmpfcoaaGreatDoor.Am
