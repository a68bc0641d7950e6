/- Plain laws of documents and patches: documents found equal are the same; copies; joining lists. Condition: the value a Go value can be. -/
import Derived.Test.YtpanghcojpnkaaaGreatDoorDocX
import Derived.Test.YtpanghcojpnkaaaGreatDoorMach4
namespace Go.Proofs.YtpanghcojpnkaaaGreatDoor.Am
open Go Go.Am
theorem oV6 (p q:D24) (ha:len p.2.2.1 < 9223372036854775808):f48 p q = ((p.1 == q.1) && (p.2.1 == q.2.1) && eqC (len p.2.2.1) (len q.2.2.1) (ne0 p.2.2.1 q.2.2.1)):=by
 rw [← eqScan (g:=wP (p,q,len p.2.2.1,())) (next:=wB0 (p,q,len p.2.2.1,())) (c:=ne0 p.2.2.1 q.2.2.1) (xT8 _) ha (fun _=>rfl) (fun _=>rfl)]
 show (bif (bif (bif (p.1 != q.1) then true else (p.2.1 != q.2.1)) then true else (len p.2.2.1 != len q.2.2.1)) then false else (bif uE3 (p,q,len p.2.2.1,()) (zC1 (wP (p,q,len p.2.2.1,())) (wB0 (p,q,len p.2.2.1,())) (0,())) then false else true)) = _
 generalize hB:(bif (decide ((zC1 (wP (p,q,len p.2.2.1,())) (wB0 (p,q,len p.2.2.1,())) (0,())).1 < len p.2.2.1) && ne0 p.2.2.1 q.2.2.1 (zC1 (wP (p,q,len p.2.2.1,())) (wB0 (p,q,len p.2.2.1,())) (0,())).1) then false else true) = B
 have hB':(bif uE3 (p,q,len p.2.2.1,()) (zC1 (wP (p,q,len p.2.2.1,())) (wB0 (p,q,len p.2.2.1,())) (0,())) then false else true) = B:=hB
 rw [hB']
 unfold bne
 cases (p.1 == q.1) <;> cases (p.2.1 == q.2.1) <;> cases (len p.2.2.1 == len q.2.2.1) <;> cases B <;> rfl
theorem pG7 {a b:D24} (ha:len a.2.2.1 < 9223372036854775808):f48 a b = true ↔ a = b:=by
 rw [oV6 a b ha]
 obtain ⟨a0,a1,a2,⟨⟩⟩:=a
 obtain ⟨b0,b1,b2,⟨⟩⟩:=b
 simp only [Bool.and_eq_true,beq_iff_eq,Prod.mk.injEq,and_true]
 constructor
 ·rintro ⟨⟨h0,h1⟩,h2⟩; exact ⟨h0,h1,eqC_ne0 h2⟩
 ·rintro ⟨h0,h1,h2⟩; subst h2; exact ⟨⟨h0,h1⟩,eqC_self (ne0_self a2)⟩
theorem oM6 (p q:D24) (ha:len p.2.2.1 < 9223372036854775808):sR7 p q:=by
 intro h
 have h':(!(len p.2.2.1 != len q.2.2.1)) = true:=by
  revert h
  show (!(bif (bif (p.1 != q.1) then true else (p.2.1 != q.2.1)) then true else (len p.2.2.1 != len q.2.2.1))) = true → _
  cases (len p.2.2.1 != len q.2.2.1) <;> cases (p.1 != q.1) <;> cases (p.2.1 != q.2.1) <;> simp
 exact okScan (g:=wP (p,q,len p.2.2.1,())) (next:=wB0 (p,q,len p.2.2.1,())) (c:=ne0 p.2.2.1 q.2.2.1) (xT8 _) ha (fun _=>rfl) (fun _=>rfl) (fun x _ _ hx h=>by
  have h:=hx (of_decide_eq_true h)
  exact ⟨h.1,h.2.1,fun _=>h.2.2⟩) h'
theorem oV7 (p q:D40) (ha:len p.2.2.1 < 9223372036854775808):f50 p q = ((p.1 == q.1) && (p.2.1 == q.2.1) && eqC (len p.2.2.1) (len q.2.2.1) (neT T42 Z42 p.2.2.1 q.2.2.1)):=by
 rw [← eqScan (g:=wP1 (p,q,())) (next:=wB2 (p,q,())) (c:=neT T42 Z42 p.2.2.1 q.2.2.1) (xT8 _) ha (fun _=>rfl) (fun _=>rfl)]
 show (bif (bif (bif (p.1 != q.1) then true else (p.2.1 != q.2.1)) then true else (len p.2.2.1 != len q.2.2.1)) then false else (bif uF0 (p,q,()) (zC1 (wP1 (p,q,())) (wB2 (p,q,())) (0,())) then false else true)) = _
 generalize hB:(bif (decide ((zC1 (wP1 (p,q,())) (wB2 (p,q,())) (0,())).1 < len p.2.2.1) && neT T42 Z42 p.2.2.1 q.2.2.1 (zC1 (wP1 (p,q,())) (wB2 (p,q,())) (0,())).1) then false else true) = B
 have hB':(bif uF0 (p,q,()) (zC1 (wP1 (p,q,())) (wB2 (p,q,())) (0,())) then false else true) = B:=hB
 rw [hB']
 unfold bne
 cases (p.1 == q.1) <;> cases (p.2.1 == q.2.1) <;> cases (len p.2.2.1 == len q.2.2.1) <;> cases B <;> rfl
theorem pG8 {a b:D40} (wa:Ty.wf T40 a) (wb:Ty.wf T40 b):f50 a b = true ↔ a = b:=by
 obtain ⟨_,_,wa2,_⟩:=wa
 obtain ⟨_,_,wb2,_⟩:=wb
 rw [oV7 a b (len_lt wa2.1)]
 obtain ⟨a0,a1,a2,⟨⟩⟩:=a
 obtain ⟨b0,b1,b2,⟨⟩⟩:=b
 simp only [Bool.and_eq_true,beq_iff_eq,Prod.mk.injEq,and_true]
 constructor
 ·rintro ⟨⟨h0,h1⟩,h2⟩; exact ⟨h0,h1,eqC_neT (τ:=T42) rfl wa2.2 wb2.2 h2⟩
 ·rintro ⟨h0,h1,h2⟩; subst h2; exact ⟨⟨h0,h1⟩,eqC_self (neT_self (τ:=T42) (by rfl) a2)⟩
theorem oM7 (p q:D40) (ha:len p.2.2.1 < 9223372036854775808):sS5 p q:=by
 intro h
 have h':(!(len p.2.2.1 != len q.2.2.1)) = true:=by
  revert h
  show (!(bif (bif (p.1 != q.1) then true else (p.2.1 != q.2.1)) then true else (len p.2.2.1 != len q.2.2.1))) = true → _
  cases (len p.2.2.1 != len q.2.2.1) <;> cases (p.1 != q.1) <;> cases (p.2.1 != q.2.1) <;> simp
 exact okScan (g:=wP1 (p,q,())) (next:=wB2 (p,q,())) (c:=neT T42 Z42 p.2.2.1 q.2.2.1) (xT8 _) ha (fun _=>rfl) (fun _=>rfl) (fun x _ _ hx h=>by
  have h:=hx (of_decide_eq_true h)
  exact ⟨h.1,h.2.1,fun _=>h.2.2⟩) h'
end Go.Proofs.YtpanghcojpnkaaaGreatDoor.Am
