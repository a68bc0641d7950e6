/- Equality of nodes: the program's and the document's, each just where two nodes are the same. Condition: the value a Go value can be. -/
import Derived.Test.YtigpekbhmpfcoaaGreatDoorRetV
import Derived.Test.YtigpekbhmpfcoaaGreatDoorMach4
namespace Go.Proofs.YtigpekbhmpfcoaaGreatDoor.Am
open Go Go.Am
def ne0 (a b:List Int) (i:Int):Bool:=nth a i 0 != nth b i 0
def neT (τ:Ty) (z:τ.den) (a b:List τ.den) (i:Int):Bool:=!(Ty.eqb τ (nth a i z) (nth b i z))
def eqC (n m:Int) (c:Int → Bool):Bool:=(n == m) && !(xX n c)
theorem eqScan {g:Int × Unit → Bool} {next:Int × Unit → Int × Unit} {n m:Int} {c:Int → Bool} (hn0:0 ≤ n) (hn:n < 9223372036854775808) (hg:∀ x,g x = (decide (x.1 < n) && !(c x.1))) (hx:∀ x,next x = (x.1 + 1,())) :
  (bif (n != m) then false else (bif (decide ((zB9 g next (0,())).1 < n) && c (zB9 g next (0,())).1) then false else true)) = eqC n m c:=by
 rw [xV8 hn0 hn hg hx]
 unfold eqC
 cases h:(n == m) <;> cases xX n c <;> simp_all
theorem okScan {g:Int × Unit → Bool} {next:Int × Unit → Int × Unit} {ok:Int × Unit → Prop} {n m:Int} {c:Int → Bool} (hn0:0 ≤ n) (hn:n < 9223372036854775808) (hg:∀ x,g x = (decide (x.1 < n) && !(c x.1))) (hx:∀ x,next x = (x.1 + 1,()))
  (hok:∀ x:Int × Unit,n = m → 0 ≤ x.1 → (x.1 < n → InB x.1 n ∧ InB x.1 m ∧ InR (x.1 + 1)) → ok x):(!(n != m)) = true → Am.Ends g next ok (0,()):=by
 intro h
 have e:n = m:=by simpa using h
 refine xU6 hn0 hn (fun x h=>?_) hx fun x h1 h2=>hok x e h1 fun h3=>⟨⟨h1,h3⟩,⟨h1,by omega⟩,?_⟩
 ·rw [hg] at h; simp only [Bool.and_eq_true,decide_eq_true_eq] at h; exact h.1
 ·unfold InR; omega
theorem sC0 (a b:List Int) (ha:len a < 9223372036854775808):f70 a b = eqC (len a) (len b) (ne0 a b) :=
 eqScan (g:=uM9 (a,b,())) (next:=vA6 (a,b,())) (c:=ne0 a b) (xT a) ha (fun _=>rfl) (fun _=>rfl)
theorem qV9 (a b:List Int) (ha:len a < 9223372036854775808):sB2 a b :=
 okScan (g:=uM9 (a,b,())) (next:=vA6 (a,b,())) (c:=ne0 a b) (xT a) ha (fun _=>rfl) (fun _=>rfl) fun x _ _ hx h=>by
  have h:=hx (of_decide_eq_true h)
  exact ⟨h.1,h.2.1,fun _=>h.2.2⟩
theorem qW (a b:List Int) (ha:len a < 9223372036854775808):f30 a b = eqC (len a) (len b) (ne0 a b) :=
 eqScan (g:=uD7 (a,b,len a,())) (next:=wY9 (a,b,len a,())) (c:=ne0 a b) (xT a) ha (fun _=>rfl) (fun _=>rfl)
theorem rI (a b:List Int) (ha:len a < 9223372036854775808):tF1 a b :=
 okScan (g:=uD7 (a,b,len a,())) (next:=wY9 (a,b,len a,())) (c:=ne0 a b) (xT a) ha (fun _=>rfl) (fun _=>rfl) fun x _ _ hx h=>by
  have h:=hx (of_decide_eq_true h)
  exact ⟨h.1,h.2.1,fun _=>h.2.2⟩
theorem qW0 (a b:List D91) (ha:len a < 9223372036854775808):f72 a b = eqC (len a) (len b) (neT T91 Z91 a b) :=
 eqScan (g:=uN2 (a,b,())) (next:=vA7 (a,b,())) (c:=neT T91 Z91 a b) (xT a) ha (fun _=>rfl) (fun _=>rfl)
theorem oW7 (a b:List D91) (ha:len a < 9223372036854775808):sX5 a b :=
 okScan (g:=uN2 (a,b,())) (next:=vA7 (a,b,())) (c:=neT T91 Z91 a b) (xT a) ha (fun _=>rfl) (fun _=>rfl) fun x _ _ hx h=>by
  have h:=hx (of_decide_eq_true h)
  exact ⟨h.1,h.2.1,fun _=>h.2.2⟩
theorem nI4 (a b:List D91) (ha:len a < 9223372036854775808):f50 a b = eqC (len a) (len b) (neT T91 Z91 a b) :=
 eqScan (g:=uE0 (a,b,len a,())) (next:=wZ0 (a,b,len a,())) (c:=neT T91 Z91 a b) (xT a) ha (fun _=>rfl) (fun _=>rfl)
theorem oW8 (a b:List D91) (ha:len a < 9223372036854775808):sM1 a b :=
 okScan (g:=uE0 (a,b,len a,())) (next:=wZ0 (a,b,len a,())) (c:=neT T91 Z91 a b) (xT a) ha (fun _=>rfl) (fun _=>rfl) fun x _ _ hx h=>by
  have h:=hx (of_decide_eq_true h)
  exact ⟨h.1,h.2.1,fun _=>h.2.2⟩
theorem qW1 (a b:List D97) (ha:len a < 9223372036854775808):f73 a b = eqC (len a) (len b) (neT T97 Z97 a b) :=
 eqScan (g:=uN4 (a,b,())) (next:=vA8 (a,b,())) (c:=neT T97 Z97 a b) (xT a) ha (fun _=>rfl) (fun _=>rfl)
theorem oW9 (a b:List D97) (ha:len a < 9223372036854775808):sX7 a b :=
 okScan (g:=uN4 (a,b,())) (next:=vA8 (a,b,())) (c:=neT T97 Z97 a b) (xT a) ha (fun _=>rfl) (fun _=>rfl) fun x _ _ hx h=>by
  have h:=hx (of_decide_eq_true h)
  exact ⟨h.1,h.2.1,fun _=>h.2.2⟩
theorem nI5 (a b:List D97) (ha:len a < 9223372036854775808):f51 a b = eqC (len a) (len b) (neT T97 Z97 a b) :=
 eqScan (g:=uE2 (a,b,len a,())) (next:=wZ1 (a,b,len a,())) (c:=neT T97 Z97 a b) (xT a) ha (fun _=>rfl) (fun _=>rfl)
theorem oX (a b:List D97) (ha:len a < 9223372036854775808):sM3 a b :=
 okScan (g:=uE2 (a,b,len a,())) (next:=wZ1 (a,b,len a,())) (c:=neT T97 Z97 a b) (xT a) ha (fun _=>rfl) (fun _=>rfl) fun x _ _ hx h=>by
  have h:=hx (of_decide_eq_true h)
  exact ⟨h.1,h.2.1,fun _=>h.2.2⟩
theorem pW7 (a b:List D50) (ha:len a < 9223372036854775808):f69 a b = eqC (len a) (len b) (neT T50 Z50 a b) :=
 eqScan (g:=uD9 (a,b,len a,())) (next:=wZ (a,b,len a,())) (c:=neT T50 Z50 a b) (xT a) ha (fun _=>rfl) (fun _=>rfl)
theorem qW2 (a b:List D50) (ha:len a < 9223372036854775808):sM a b :=
 okScan (g:=uD9 (a,b,len a,())) (next:=wZ (a,b,len a,())) (c:=neT T50 Z50 a b) (xT a) ha (fun _=>rfl) (fun _=>rfl) fun x _ _ hx h=>by
  have h:=hx (of_decide_eq_true h)
  exact ⟨h.1,h.2.1,fun _=>h.2.2⟩
theorem nI6 (a b:List D94) (ha:len a < 9223372036854775808):f52 a b = eqC (len a) (len b) (neT T94 Z94 a b) :=
 eqScan (g:=uE4 (a,b,len a,())) (next:=wZ2 (a,b,len a,())) (c:=neT T94 Z94 a b) (xT a) ha (fun _=>rfl) (fun _=>rfl)
theorem oX0 (a b:List D94) (ha:len a < 9223372036854775808):sM5 a b :=
 okScan (g:=uE4 (a,b,len a,())) (next:=wZ2 (a,b,len a,())) (c:=neT T94 Z94 a b) (xT a) ha (fun _=>rfl) (fun _=>rfl) fun x _ _ hx h=>by
  have h:=hx (of_decide_eq_true h)
  exact ⟨h.1,h.2.1,fun _=>h.2.2⟩
theorem qW3 (p q:D48) (ha:len p.2.2.1 < 9223372036854775808):f71 p q = ((p.1 == q.1) && (p.2.1 == q.2.1) && eqC (len p.2.2.1) (len q.2.2.1) (neT T50 Z50 p.2.2.1 q.2.2.1)):=by
 rw [← eqScan (g:=wW1 (p,q,())) (next:=wE5 (p,q,())) (c:=neT T50 Z50 p.2.2.1 q.2.2.1) (xT _) ha (fun _=>rfl) (fun _=>rfl)]
 show (bif (bif (bif (p.1 != q.1) then true else (p.2.1 != q.2.1)) then true else (len p.2.2.1 != len q.2.2.1)) then false else (bif uN0 (p,q,()) (zB9 (wW1 (p,q,())) (wE5 (p,q,())) (0,())) then false else true)) = _
 generalize hB:(bif (decide ((zB9 (wW1 (p,q,())) (wE5 (p,q,())) (0,())).1 < len p.2.2.1) && neT T50 Z50 p.2.2.1 q.2.2.1 (zB9 (wW1 (p,q,())) (wE5 (p,q,())) (0,())).1) then false else true) = B
 have hB':(bif uN0 (p,q,()) (zB9 (wW1 (p,q,())) (wE5 (p,q,())) (0,())) then false else true) = B:=hB
 rw [hB']
 unfold bne
 cases (p.1 == q.1) <;> cases (p.2.1 == q.2.1) <;> cases (len p.2.2.1 == len q.2.2.1) <;> cases B <;> rfl
theorem oX1 (p q:D48) (ha:len p.2.2.1 < 9223372036854775808):sX3 p q:=by
 intro h
 have h':(!(len p.2.2.1 != len q.2.2.1)) = true:=by
  revert h
  show (!(bif (bif (p.1 != q.1) then true else (p.2.1 != q.2.1)) then true else (len p.2.2.1 != len q.2.2.1))) = true → _
  cases (len p.2.2.1 != len q.2.2.1) <;> cases (p.1 != q.1) <;> cases (p.2.1 != q.2.1) <;> simp
 exact okScan (g:=wW1 (p,q,())) (next:=wE5 (p,q,())) (c:=neT T50 Z50 p.2.2.1 q.2.2.1) (xT _) ha (fun _=>rfl) (fun _=>rfl) (fun x _ _ hx h=>by
  have h:=hx (of_decide_eq_true h)
  exact ⟨h.1,h.2.1,fun _=>h.2.2⟩) h'
theorem qW4 (p q:D55) (ha:len p.2.2.2.1 < 9223372036854775808):f74 p q = ((p.1 == q.1) && (p.2.1 == q.2.1) && (p.2.2.1 == q.2.2.1) && eqC (len p.2.2.2.1) (len q.2.2.2.1) (neT T94 Z94 p.2.2.2.1 q.2.2.2.1)):=by
 rw [← eqScan (g:=wW2 (p,q,())) (next:=wE6 (p,q,())) (c:=neT T94 Z94 p.2.2.2.1 q.2.2.2.1) (xT _) ha (fun _=>rfl) (fun _=>rfl)]
 show (bif (bif (bif (bif (p.1 != q.1) then true else (p.2.1 != q.2.1)) then true else (p.2.2.1 != q.2.2.1)) then true else (len p.2.2.2.1 != len q.2.2.2.1)) then false else (bif uN6 (p,q,()) (zB9 (wW2 (p,q,())) (wE6 (p,q,())) (0,())) then false else true)) = _
 generalize hB:(bif (decide ((zB9 (wW2 (p,q,())) (wE6 (p,q,())) (0,())).1 < len p.2.2.2.1) && neT T94 Z94 p.2.2.2.1 q.2.2.2.1 (zB9 (wW2 (p,q,())) (wE6 (p,q,())) (0,())).1) then false else true) = B
 have hB':(bif uN6 (p,q,()) (zB9 (wW2 (p,q,())) (wE6 (p,q,())) (0,())) then false else true) = B:=hB
 rw [hB']
 unfold bne
 cases (p.1 == q.1) <;> cases (p.2.1 == q.2.1) <;> cases (p.2.2.1 == q.2.2.1) <;> cases (len p.2.2.2.1 == len q.2.2.2.1) <;> cases B <;> rfl
theorem oX2 (p q:D55) (ha:len p.2.2.2.1 < 9223372036854775808):sX8 p q:=by
 intro h
 have h':(!(len p.2.2.2.1 != len q.2.2.2.1)) = true:=by
  revert h
  show (!(bif (bif (bif (p.1 != q.1) then true else (p.2.1 != q.2.1)) then true else (p.2.2.1 != q.2.2.1)) then true else (len p.2.2.2.1 != len q.2.2.2.1))) = true → _
  cases (len p.2.2.2.1 != len q.2.2.2.1) <;> cases (p.1 != q.1) <;> cases (p.2.1 != q.2.1) <;> cases (p.2.2.1 != q.2.2.1) <;> simp
 exact okScan (g:=wW2 (p,q,())) (next:=wE6 (p,q,())) (c:=neT T94 Z94 p.2.2.2.1 q.2.2.2.1) (xT _) ha (fun _=>rfl) (fun _=>rfl) (fun x _ _ hx h=>by
  have h:=hx (of_decide_eq_true h)
  exact ⟨h.1,h.2.1,fun _=>h.2.2⟩) h'
structure Lens (n:D57):Prop where
 mask:len n.2.2.2.2.2.2.2.2.2.1.2.2.1 < 9223372036854775808
 pix:len n.2.2.2.2.2.2.2.2.2.2.2.2.1.2.2.1 < 9223372036854775808
 params:len n.2.2.2.2.2.2.2.2.2.2.2.2.2.2.2.1 < 9223372036854775808
 stops:len n.2.2.2.2.2.2.2.2.2.2.2.2.2.2.2.2.2.1 < 9223372036854775808
 segs:len n.2.2.2.2.2.2.2.2.2.2.2.2.2.2.2.2.2.2.1 < 9223372036854775808
 warp:len n.2.2.2.2.2.2.2.2.2.2.2.2.2.2.2.2.2.2.2.2.2.2.2.2.2.2.2.1.2.2.2.1 < 9223372036854775808
theorem len_lt {α:Type} {l:List α} (h:l.length ≤ maxLen):len l < 9223372036854775808:=by
 unfold len
 have:maxLen = 9223372036854775807:=rfl
 omega
theorem lens_of {n:D57} (h:Ty.wf T57 n):Lens n:=by
 obtain ⟨_,_,_,_,_,_,_,_,_,⟨_,_,⟨h1,_⟩,_⟩,_,_,⟨_,_,⟨h2,_⟩,_⟩,_,_,⟨h3,_⟩,_,⟨h4,_⟩,⟨h5,_⟩,_,_,_,_,_,_,_,_,⟨_,_,_,⟨h6,_⟩,_⟩,_⟩:=h
 exact ⟨len_lt h1,len_lt h2,len_lt h3,len_lt h4,len_lt h5,len_lt h6⟩
theorem same_eq {a b:D57} (ha:Lens a):f12 a b = f27 a b:=by
 simp only [f12,f12t,f27,f27t,f31,f31t,f49,f49t,f48,f48t,f44,f44t]
 simp only [qW _ _ ha.mask,sC0 _ _ ha.mask,qW3 _ _ ha.pix,pW7 _ _ ha.pix,qW _ _ ha.params,sC0 _ _ ha.params,qW0 _ _ ha.stops,nI4 _ _ ha.stops,qW1 _ _ ha.segs,nI5 _ _ ha.segs,qW4 _ _ ha.warp,nI6 _ _ ha.warp,bne,Bool.cond_false_right,Bool.cond_true_left,Bool.cond_false_left,Bool.not_or,Bool.not_and,Bool.not_not]
 ac_rfl
theorem tU4 {a b:D57} (ha:Lens a):vY5 a b:=by
 simp only [vY5,f12t,sM6,f31t,tV5,f44t]
 simp only [rI _ _ ha.mask,rI _ _ ha.params,qW2 _ _ ha.pix,oW8 _ _ ha.stops,oX _ _ ha.segs,oX0 _ _ ha.warp,implies_true,and_self]
theorem oX3 {a b:D57} (ha:Lens a):sB3 a b:=by
 simp only [sB3,f27t,sX9,f49t,sX2,f48t]
 simp only [qV9 _ _ ha.mask,qV9 _ _ ha.params,oX1 _ _ ha.pix,oW7 _ _ ha.stops,oW9 _ _ ha.segs,oX2 _ _ ha.warp,implies_true,and_self]
theorem eqb_self (b:Bool):Ty.eqb .bool b b = true:=by cases b <;> rfl
theorem anyI_none {n:Int} {c:Int → Bool} (h:∀ i,c i = false):xX n c = false:=by
 unfold xX
 rw [List.any_eq_false]
 intro x _
 simp [h]
theorem eqb_refl:∀ (τ:Ty),τ.cmp = true → ∀ x:τ.den,τ.eqb x x = true:=by
 intro τ
 induction τ with
 | int k=>intro _ x; simp [Ty.eqb]
 | bool=>intro _ x; simp [Ty.eqb]
 | str=>intro _ x; simp [Ty.eqb]
 | nl=>intro _ x; simp [Ty.eqb]
 | cons a b iha ihb=>intro h x; simp only [Ty.cmp,Bool.and_eq_true] at h; simp [Ty.eqb,iha h.1,ihb h.2]
 | st f ih=>intro h x; simp only [Ty.cmp] at h; simp only [Ty.eqb]; exact ih h x
 | arr n t ih=>intro h x; simp only [Ty.cmp] at h; simp only [Ty.eqb]; rw [List.all_eq_true]; intro i _; exact ih h _
 | sl t _=>intro h; simp [Ty.cmp] at h
 | ptr t _=>intro h; simp [Ty.cmp] at h
theorem eqC_self {n:Int} {c:Int → Bool} (h:∀ i,c i = false):eqC n n c = true:=by simp [eqC,anyI_none h]
theorem ne0_self (a:List Int) (i:Int):ne0 a a i = false:=by simp [ne0]
theorem neT_self {τ:Ty} {z:τ.den} (h:τ.cmp = true) (a:List τ.den) (i:Int):neT τ z a a i = false:=by simp [neT,eqb_refl τ h]
theorem pQ2 {a:D57} (ha:Lens a):f27 a a = true:=by
 simp only [f27,f27t,f49,f49t,f48,f48t]
 simp only [sC0 _ _ ha.mask,qW3 _ _ ha.pix,sC0 _ _ ha.params,qW0 _ _ ha.stops,qW1 _ _ ha.segs,qW4 _ _ ha.warp,eqC_self (ne0_self _),eqC_self (neT_self (τ:=T50) (by rfl) _),eqC_self (neT_self (τ:=T91) (by rfl) _),eqC_self (neT_self (τ:=T97) (by rfl) _),eqC_self (neT_self (τ:=T94) (by rfl) _),eqb_self,eqb_refl T45 rfl,eqb_refl T50 rfl,beq_self_eq_true,cond_true,Bool.and_true]
theorem list_get {α:Type} {a b:List α} {z:α} (hl:a.length = b.length) (h:∀ i:Nat,i < a.length → a.getD i z = b.getD i z):a = b:=by
 apply List.ext_getElem hl
 intro i h1 h2
 have:=h i h1
 rw [List.getD_eq_getElem?_getD,List.getD_eq_getElem?_getD,List.getElem?_eq_getElem h1,List.getElem?_eq_getElem h2] at this
 exact this
theorem eqb_eq:∀ (τ:Ty),τ.cmp = true → ∀ x y:τ.den,τ.wf x → τ.wf y → τ.eqb x y = true → x = y:=by
 intro τ
 induction τ with
 | int k=>intro _ x y _ _ h; exact eq_of_beq h
 | bool=>intro _ x y _ _ h; exact eq_of_beq h
 | str=>intro _ x y _ _ h; exact eq_of_beq (α:=List UInt8) h
 | nl=>intro _ x y _ _ _; rfl
 | cons a b iha ihb =>
  intro hc x y hx hy h
  simp only [Ty.cmp,Bool.and_eq_true] at hc
  simp only [Ty.eqb,Bool.and_eq_true] at h
  exact Prod.ext (iha hc.1 _ _ hx.1 hy.1 h.1) (ihb hc.2 _ _ hx.2 hy.2 h.2)
 | st f ih=>intro hc x y hx hy h; exact ih hc x y hx hy h
 | arr n t ih =>
  intro hc x y hx hy h
  have hx1:List.length (α:=t.den) x = n:=hx.1
  have hy1:List.length (α:=t.den) y = n:=hy.1
  refine list_get (α:=t.den) (z:=t.dflt) (hx1.trans hy1.symm) fun i hi=>?_
  have h1:=List.all_eq_true.1 h i (List.mem_range.2 (by omega))
  refine ih hc _ _ (hx.2 _ ?_) (hy.2 _ ?_) h1
  ·rw [List.getD_eq_getElem?_getD,List.getElem?_eq_getElem hi]; exact List.getElem_mem hi
  ·rw [List.getD_eq_getElem?_getD,List.getElem?_eq_getElem (by omega)]; exact List.getElem_mem _
 | sl t _=>intro h; simp [Ty.cmp] at h
 | ptr t _=>intro h; simp [Ty.cmp] at h
theorem any_at {n:Int} {c:Int → Bool} (h:xX n c = false) {i:Nat} (hi:(i:Int) < n):c i = false:=by
 unfold xX at h
 rw [List.any_eq_false] at h
 simpa using h i (List.mem_range.2 (by omega))
theorem eqC_ne0 {a b:List Int} (h:eqC (len a) (len b) (ne0 a b) = true):a = b:=by
 simp only [eqC,Bool.and_eq_true,beq_iff_eq,Bool.not_eq_true'] at h
 have hl:a.length = b.length:=by have:=h.1; unfold len at this; omega
 refine list_get (z:=0) hl fun i hi=>?_
 have h1:=any_at h.2 (i:=i) (by unfold len; omega)
 simpa [ne0,nth] using h1
theorem eqC_neT {τ:Ty} {z:τ.den} (hc:τ.cmp = true) {a b:List τ.den} (ha:∀ x ∈ a,τ.wf x) (hb:∀ x ∈ b,τ.wf x) (h:eqC (len a) (len b) (neT τ z a b) = true):a = b:=by
 simp only [eqC,Bool.and_eq_true,beq_iff_eq,Bool.not_eq_true'] at h
 have hl:a.length = b.length:=by have:=h.1; unfold len at this; omega
 refine list_get (z:=z) hl fun i hi=>?_
 have h1:=any_at h.2 (i:=i) (by unfold len; omega)
 have hia:InB (i:Int) (len a):=⟨by omega,by unfold len; omega⟩
 have hib:InB (i:Int) (len b):=⟨by omega,by unfold len; omega⟩
 have h2:τ.eqb (nth a i z) (nth b i z) = true:=by simpa [neT] using h1
 exact eqb_eq τ hc _ _ (ha _ (nth_mem hia)) (hb _ (nth_mem hib)) h2
set_option maxHeartbeats 1000000 in
theorem nI7 {a b:D57} (wa:Ty.wf T57 a) (wb:Ty.wf T57 b) (h:f27 a b = true):a = b:=by
 have ha:=lens_of wa
 obtain ⟨_,_,_,_,_,_,_,_,_,⟨_,_,_,_⟩,wa10,_,⟨_,_,⟨_,wa12⟩,_⟩,wa13,_,_,_,⟨_,wa17⟩,⟨_,wa18⟩,_,_,_,_,_,_,_,_,⟨_,_,_,⟨_,wa27⟩,_⟩,_⟩:=wa
 obtain ⟨_,_,_,_,_,_,_,_,_,⟨_,_,_,_⟩,wb10,_,⟨_,_,⟨_,wb12⟩,_⟩,wb13,_,_,_,⟨_,wb17⟩,⟨_,wb18⟩,_,_,_,_,_,_,_,_,⟨_,_,_,⟨_,wb27⟩,_⟩,_⟩:=wb
 simp only [f27,f27t,f49,f49t,f48,f48t] at h
 simp only [sC0 _ _ ha.mask,qW3 _ _ ha.pix,sC0 _ _ ha.params,qW0 _ _ ha.stops,qW1 _ _ ha.segs,qW4 _ _ ha.warp,Bool.cond_false_right,Bool.and_eq_true,and_assoc] at h
 obtain ⟨a0,a1,a2,a3,a4,a5,a6,a7,a8,⟨a90,a91,a92,⟨⟩⟩,a10,a11,⟨a120,a121,a122,⟨⟩⟩,a13,a14,a15,a16,a17,a18,a19,a20,a21,a22,a23,a24,a25,a26,⟨a270,a271,a272,a273,⟨⟩⟩,⟨⟩⟩:=a
 obtain ⟨b0,b1,b2,b3,b4,b5,b6,b7,b8,⟨b90,b91,b92,⟨⟩⟩,b10,b11,⟨b120,b121,b122,⟨⟩⟩,b13,b14,b15,b16,b17,b18,b19,b20,b21,b22,b23,b24,b25,b26,⟨b270,b271,b272,b273,⟨⟩⟩,⟨⟩⟩:=b
 obtain ⟨h0,h1,h2,h3,h4,h5,h6,h7,h8,h90,h91,h92,h10,h11,h120,h121,h122,h13,h14,h15,h16,h17,h18,h19,h20,h21,h22,h23,h24,h25,h26,h270,h271,h272,h273⟩:=h
 have e0:a0 = b0:=eq_of_beq h0
 have e1:a1 = b1:=eq_of_beq h1
 have e2:a2 = b2:=eq_of_beq h2
 have e3:a3 = b3:=eq_of_beq h3
 have e4:a4 = b4:=eq_of_beq h4
 have e5:a5 = b5:=eq_of_beq h5
 have e6:a6 = b6:=eq_of_beq h6
 have e7:a7 = b7:=eq_of_beq h7
 have e8:a8 = b8:=eq_of_beq h8
 have e90:a90 = b90:=eq_of_beq h90
 have e91:a91 = b91:=eq_of_beq h91
 have e92:a92 = b92:=eqC_ne0 h92
 have e10:a10 = b10:=eqb_eq T45 rfl _ _ wa10 wb10 h10
 have e11:a11 = b11:=eq_of_beq h11
 have e120:a120 = b120:=eq_of_beq h120
 have e121:a121 = b121:=eq_of_beq h121
 have e122:a122 = b122:=eqC_neT (τ:=T50) rfl wa12 wb12 h122
 have e13:a13 = b13:=eqb_eq T50 rfl _ _ wa13 wb13 h13
 have e14:a14 = b14:=eq_of_beq h14
 have e15:a15 = b15:=eqC_ne0 h15
 have e16:a16 = b16:=eq_of_beq h16
 have e17:a17 = b17:=eqC_neT (τ:=T91) rfl wa17 wb17 h17
 have e18:a18 = b18:=eqC_neT (τ:=T97) rfl wa18 wb18 h18
 have e19:a19 = b19:=eq_of_beq h19
 have e20:a20 = b20:=eq_of_beq h20
 have e21:a21 = b21:=eq_of_beq h21
 have e22:a22 = b22:=eq_of_beq h22
 have e23:a23 = b23:=eq_of_beq h23
 have e24:a24 = b24:=eq_of_beq h24
 have e25:a25 = b25:=eq_of_beq h25
 have e26:a26 = b26:=eq_of_beq h26
 have e270:a270 = b270:=eq_of_beq h270
 have e271:a271 = b271:=eq_of_beq h271
 have e272:a272 = b272:=eq_of_beq h272
 have e273:a273 = b273:=eqC_neT (τ:=T94) rfl wa27 wb27 h273
 rw [e0,e1,e2,e3,e4,e5,e6,e7,e8,e90,e91,e92,e10,e11,e120,e121,e122,e13,e14,e15,e16,e17,e18,e19,e20,e21,e22,e23,e24,e25,e26,e270,e271,e272,e273]
theorem fit_of {n:D57} (h:Ty.wf T57 n):NodeFit n:=by
 obtain ⟨_,_,_,h0,_,_,_,_,_,⟨_,_,⟨h1,_⟩,_⟩,_,_,⟨_,_,⟨h2,_⟩,_⟩,_,_,⟨h3,_⟩,_,⟨h4,_⟩,⟨h5,_⟩,_,_,_,_,h7,_,_,_,⟨_,_,_,⟨h6,_⟩,_⟩,_⟩:=h
 exact ⟨len_lt h0,len_lt h1,len_lt h2,len_lt h3,len_lt h4,len_lt h5,len_lt h7,len_lt h6⟩
end Go.Proofs.YtigpekbhmpfcoaaGreatDoor.Am
