/- Plain laws of documents and patches: documents found equal are the same; copies; joining lists. Condition: the value a Go value can be. -/
import Derived.Test.YtigpekbhmpfcoaaGreatDoorRetX
import Derived.Test.YtigpekbhmpfcoaaGreatDoorMach4
namespace Go.Proofs.YtigpekbhmpfcoaaGreatDoor.Am
open Go Go.Am
theorem nJ3 (p q:D24) (ha:len p.2.2.1 < 9223372036854775808):f26 p q = ((p.1 == q.1) && (p.2.1 == q.2.1) && eqC (len p.2.2.1) (len q.2.2.1) (ne0 p.2.2.1 q.2.2.1)):=by
 rw [← eqScan (g:=wW0 (p,q,len p.2.2.1,())) (next:=wE4 (p,q,len p.2.2.1,())) (c:=ne0 p.2.2.1 q.2.2.1) (xT _) ha (fun _=>rfl) (fun _=>rfl)]
 show (bif (bif (bif (p.1 != q.1) then true else (p.2.1 != q.2.1)) then true else (len p.2.2.1 != len q.2.2.1)) then false else (bif uM7 (p,q,len p.2.2.1,()) (zB9 (wW0 (p,q,len p.2.2.1,())) (wE4 (p,q,len p.2.2.1,())) (0,())) then false else true)) = _
 generalize hB:(bif (decide ((zB9 (wW0 (p,q,len p.2.2.1,())) (wE4 (p,q,len p.2.2.1,())) (0,())).1 < len p.2.2.1) && ne0 p.2.2.1 q.2.2.1 (zB9 (wW0 (p,q,len p.2.2.1,())) (wE4 (p,q,len p.2.2.1,())) (0,())).1) then false else true) = B
 have hB':(bif uM7 (p,q,len p.2.2.1,()) (zB9 (wW0 (p,q,len p.2.2.1,())) (wE4 (p,q,len p.2.2.1,())) (0,())) then false else true) = B:=hB
 rw [hB']
 unfold bne
 cases (p.1 == q.1) <;> cases (p.2.1 == q.2.1) <;> cases (len p.2.2.1 == len q.2.2.1) <;> cases B <;> rfl
theorem pQ8 {a b:D24} (ha:len a.2.2.1 < 9223372036854775808):f26 a b = true ↔ a = b:=by
 rw [nJ3 a b ha]
 obtain ⟨a0,a1,a2,⟨⟩⟩:=a
 obtain ⟨b0,b1,b2,⟨⟩⟩:=b
 simp only [Bool.and_eq_true,beq_iff_eq,Prod.mk.injEq,and_true]
 constructor
 ·rintro ⟨⟨h0,h1⟩,h2⟩; exact ⟨h0,h1,eqC_ne0 h2⟩
 ·rintro ⟨h0,h1,h2⟩; subst h2; exact ⟨⟨h0,h1⟩,eqC_self (ne0_self a2)⟩
theorem oY7 (p q:D24) (ha:len p.2.2.1 < 9223372036854775808):sX0 p q:=by
 intro h
 have h':(!(len p.2.2.1 != len q.2.2.1)) = true:=by
  revert h
  show (!(bif (bif (p.1 != q.1) then true else (p.2.1 != q.2.1)) then true else (len p.2.2.1 != len q.2.2.1))) = true → _
  cases (len p.2.2.1 != len q.2.2.1) <;> cases (p.1 != q.1) <;> cases (p.2.1 != q.2.1) <;> simp
 exact okScan (g:=wW0 (p,q,len p.2.2.1,())) (next:=wE4 (p,q,len p.2.2.1,())) (c:=ne0 p.2.2.1 q.2.2.1) (xT _) ha (fun _=>rfl) (fun _=>rfl) (fun x _ _ hx h=>by
  have h:=hx (of_decide_eq_true h)
  exact ⟨h.1,h.2.1,fun _=>h.2.2⟩) h'
theorem nJ4 (p q:D48) (ha:len p.2.2.1 < 9223372036854775808):f28 p q = ((p.1 == q.1) && (p.2.1 == q.2.1) && eqC (len p.2.2.1) (len q.2.2.1) (neT T50 Z50 p.2.2.1 q.2.2.1)):=by
 rw [← eqScan (g:=wW3 (p,q,())) (next:=wE7 (p,q,())) (c:=neT T50 Z50 p.2.2.1 q.2.2.1) (xT _) ha (fun _=>rfl) (fun _=>rfl)]
 show (bif (bif (bif (p.1 != q.1) then true else (p.2.1 != q.2.1)) then true else (len p.2.2.1 != len q.2.2.1)) then false else (bif uN8 (p,q,()) (zB9 (wW3 (p,q,())) (wE7 (p,q,())) (0,())) then false else true)) = _
 generalize hB:(bif (decide ((zB9 (wW3 (p,q,())) (wE7 (p,q,())) (0,())).1 < len p.2.2.1) && neT T50 Z50 p.2.2.1 q.2.2.1 (zB9 (wW3 (p,q,())) (wE7 (p,q,())) (0,())).1) then false else true) = B
 have hB':(bif uN8 (p,q,()) (zB9 (wW3 (p,q,())) (wE7 (p,q,())) (0,())) then false else true) = B:=hB
 rw [hB']
 unfold bne
 cases (p.1 == q.1) <;> cases (p.2.1 == q.2.1) <;> cases (len p.2.2.1 == len q.2.2.1) <;> cases B <;> rfl
theorem pQ9 {a b:D48} (wa:Ty.wf T48 a) (wb:Ty.wf T48 b):f28 a b = true ↔ a = b:=by
 obtain ⟨_,_,wa2,_⟩:=wa
 obtain ⟨_,_,wb2,_⟩:=wb
 rw [nJ4 a b (len_lt wa2.1)]
 obtain ⟨a0,a1,a2,⟨⟩⟩:=a
 obtain ⟨b0,b1,b2,⟨⟩⟩:=b
 simp only [Bool.and_eq_true,beq_iff_eq,Prod.mk.injEq,and_true]
 constructor
 ·rintro ⟨⟨h0,h1⟩,h2⟩; exact ⟨h0,h1,eqC_neT (τ:=T50) rfl wa2.2 wb2.2 h2⟩
 ·rintro ⟨h0,h1,h2⟩; subst h2; exact ⟨⟨h0,h1⟩,eqC_self (neT_self (τ:=T50) (by rfl) a2)⟩
theorem oY8 (p q:D48) (ha:len p.2.2.1 < 9223372036854775808):sY p q:=by
 intro h
 have h':(!(len p.2.2.1 != len q.2.2.1)) = true:=by
  revert h
  show (!(bif (bif (p.1 != q.1) then true else (p.2.1 != q.2.1)) then true else (len p.2.2.1 != len q.2.2.1))) = true → _
  cases (len p.2.2.1 != len q.2.2.1) <;> cases (p.1 != q.1) <;> cases (p.2.1 != q.2.1) <;> simp
 exact okScan (g:=wW3 (p,q,())) (next:=wE7 (p,q,())) (c:=neT T50 Z50 p.2.2.1 q.2.2.1) (xT _) ha (fun _=>rfl) (fun _=>rfl) (fun x _ _ hx h=>by
  have h:=hx (of_decide_eq_true h)
  exact ⟨h.1,h.2.1,fun _=>h.2.2⟩) h'
theorem nodes_copy (l:List D57) (h:len l < 9223372036854775808):f15 l = l:=by
 have w:=xP5 (g:=vX6 (l,len l,())) (next:=wL5 (l,len l,())) (fun x=>(0 ≤ x.2.1 ∧ x.2.1 ≤ len l) ∧ madeI l x.1 x.2.1) (fun x=>(len l - x.2.1).toNat) (fun x hx hg=>?_) (x:=(List.replicate (Int.toNat (len l)) Z57,0,())) ⟨⟨Int.le_refl 0,xT l⟩,by simp [len],fun j z hj=>absurd (show (j:Int) < 0 from hj) (by omega)⟩ (by unfold zH8; simp only; omega)
 ·have h1:¬ (zB9 (vX6 (l,len l,())) (wL5 (l,len l,())) (List.replicate (Int.toNat (len l)) Z57,0,())).2.1 < len l:=of_decide_eq_false w.2
  exact made_all Z57 w.1.2 (by omega)
 ·have h4:x.2.1 < len l:=of_decide_eq_true hg
  have en:wL5 (l,len l,()) x = (List.set x.1 (Int.toNat x.2.1) (nth l x.2.1 Z57),x.2.1 + 1,()):=by
   show (List.set x.1 (Int.toNat x.2.1) (f40 (nth l x.2.1 Z57) (nth l x.2.1 Z57)).1,x.2.1 + 1,()) = _
   rw [with_self]
  rw [en]
  exact ⟨⟨⟨(show 0 ≤ x.2.1 + 1 by omega),(show x.2.1 + 1 ≤ len l by omega)⟩,made_next Z57 hx.2 hx.1.1 h4⟩,(show (len l - (x.2.1 + 1)).toNat < (len l - x.2.1).toNat by omega)⟩
theorem links_copy (l:List D74) (h:len l < 9223372036854775808):f21 l = l:=by
 have w:=xP5 (g:=uM4 (l,len l,())) (next:=vA4 (l,len l,())) (fun x=>(0 ≤ x.2.1 ∧ x.2.1 ≤ len l) ∧ x.1 = l) (fun x=>(len l - x.2.1).toNat) (fun x hx hg=>?_) (x:=(l,0,())) ⟨⟨Int.le_refl 0,xT l⟩,rfl⟩ (by unfold zH8; simp only; omega)
 ·exact w.1.2
 ·have h4:x.2.1 < len l:=of_decide_eq_true hg
  obtain ⟨m,i,⟨⟩⟩:=x
  obtain ⟨⟨h0,h1⟩,hm⟩:=hx
  simp only at h0 h1 hm h4
  subst hm
  exact ⟨⟨⟨(show 0 ≤ i + 1 by omega),(show i + 1 ≤ len m by omega)⟩,set_self m i Z74⟩,(show (len m - (i + 1)).toNat < (len m - i).toNat by omega)⟩
theorem mask_copy (m:D24):f17 m = m:=rfl
def catI (a b c:List D57) (x:wK9):Prop:=(x.2.1 = 0 ∧ x.1 = []) ∨ (x.2.1 = 1 ∧ x.1 = a) ∨ (x.2.1 = 2 ∧ x.1 = a ++ b) ∨ (x.2.1 = 3 ∧ x.1 = a ++ b ++ c)
theorem cat_next {a b c:List D57} {x:wK9} (hx:catI a b c x) (hg:wU7 ([a,b,c],len [a,b,c],()) x = true):catI a b c (wC0 ([a,b,c],len [a,b,c],()) x) ∧ (3 - (wC0 ([a,b,c],len [a,b,c],()) x).2.1).toNat < (3 - x.2.1).toNat:=by
 obtain ⟨m,i,⟨⟩⟩:=x
 have h4:i < 3:=of_decide_eq_true hg
 rcases hx with ⟨h1,h2⟩ | ⟨h1,h2⟩ | ⟨h1,h2⟩ | ⟨h1,h2⟩
 ·simp only at h1 h2; subst h1 h2
  exact ⟨.inr (.inl ⟨rfl,List.nil_append a⟩),(show (3 - (1:Int)).toNat < (3 - (0:Int)).toNat by decide)⟩
 ·simp only at h1 h2; subst h1 h2
  exact ⟨.inr (.inr (.inl ⟨rfl,rfl⟩)),(show (3 - (2:Int)).toNat < (3 - (1:Int)).toNat by decide)⟩
 ·simp only at h1 h2; subst h1 h2
  exact ⟨.inr (.inr (.inr ⟨rfl,rfl⟩)),(show (3 - (3:Int)).toNat < (3 - (2:Int)).toNat by decide)⟩
 ·simp only at h1; omega
theorem qX6 (a b c:List D57):f25 [a,b,c] = a ++ b ++ c:=by
 have w:=xP5 (g:=wU7 ([a,b,c],len [a,b,c],())) (next:=wC0 ([a,b,c],len [a,b,c],())) (catI a b c) (fun x=>(3 - x.2.1).toNat) (fun x hx hg=>cat_next hx hg) (x:=([],0,())) (.inl ⟨rfl,rfl⟩) (by unfold zH8; decide)
 show (zB9 (wU7 ([a,b,c],len [a,b,c],())) (wC0 ([a,b,c],len [a,b,c],())) ([],0,())).1 = _
 generalize zB9 (wU7 ([a,b,c],len [a,b,c],())) (wC0 ([a,b,c],len [a,b,c],())) ([],0,()) = z at w
 have h1:¬ z.2.1 < 3:=of_decide_eq_false w.2
 rcases w.1 with h | h | h | h
 ·omega
 ·omega
 ·omega
 ·exact h.2
end Go.Proofs.YtigpekbhmpfcoaaGreatDoor.Am
