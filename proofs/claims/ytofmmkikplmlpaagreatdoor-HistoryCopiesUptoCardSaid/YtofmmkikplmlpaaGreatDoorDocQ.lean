/- Equality of nodes: the program's and the document's, each just where two nodes are the same. Condition: the value a Go value can be. -/
import Derived.Test.YtofmmkikplmlpaaGreatDoorDocA
import Derived.Test.YtofmmkikplmlpaaGreatDoorMach4
namespace Go.Proofs.YtofmmkikplmlpaaGreatDoor.Am
open Go Go.Am
def ne0 (a b:List Int)(i:Int):Bool:=nth a i 0 !=nth b i 0
def neT (τ:Ty)(z:τ.den)(a b:List τ.den)(i:Int):Bool:=!(Ty.eqb τ (nth a i z) (nth b i z))
def eqC (n m:Int)(c:Int→Bool):Bool:=(n==m)&&!(wJ9 n c)
theorem tL3 {g:Int×Unit→Bool}{next:Int×Unit→Int×Unit}{n m:Int}{c:Int→Bool}(hn0:0≤n)(hn:n<9223372036854775808)(hg:∀ x,g x=(decide (x.1<n)&&!(c x.1)))(hx:∀ x,next x=(x.1+1,())) :
  (bif (n !=m) then false else (bif (decide ((zB9 g next (0,())).1<n)&&c (zB9 g next (0,())).1) then false else true))=eqC n m c:=by
 rw[wI1 hn0 hn hg hx];unfold eqC;cases h:(n==m)<;>cases wJ9 n c<;>simp_all
theorem tL4 {g:Int×Unit→Bool}{next:Int×Unit→Int×Unit}{ok:Int×Unit→Prop}{n m:Int}{c:Int→Bool}(hn0:0≤n)(hn:n<9223372036854775808)(hg:∀ x,g x=(decide (x.1<n)&&!(c x.1)))(hx:∀ x,next x=(x.1+1,()))
  (hok:∀ x:Int×Unit,n=m→0≤x.1→(x.1<n→InB x.1 n∧InB x.1 m∧InR (x.1+1))→ok x):(!(n !=m))=true→xB7 g next ok (0,()):=by
 intro h;have e:n=m:=by simpa using h
 refine wG8 hn0 hn (fun x h=>?_) hx fun x h1 h2=>hok x e h1 fun h3=>⟨⟨h1,h3⟩,⟨h1,by omega⟩,?_⟩
 ·rw[hg] at h;simp only[Bool.and_eq_true,decide_eq_true_eq] at h;exact h.1
 ·unfold InR;omega
theorem qB9 (a b:List Int)(ha:len a<9223372036854775808):f43 a b=eqC (len a) (len b) (ne0 a b):=
 tL3 (g:=uZ6 (a,b,len a,())) (next:=vP6 (a,b,len a,())) (c:=ne0 a b) (wF a) ha (fun _=>rfl) (fun _=>rfl)
theorem rF7 (a b:List Int)(ha:len a<9223372036854775808):tY3 a b:=
 tL4 (g:=uZ6 (a,b,len a,())) (next:=vP6 (a,b,len a,())) (c:=ne0 a b) (wF a) ha (fun _=>rfl) (fun _=>rfl) fun x _ _ hx h=>by
  have h:=hx (of_decide_eq_true h);exact⟨h.1,h.2.1,fun _=>h.2.2⟩
theorem pU7 (a b:List D137)(ha:len a<9223372036854775808):f93 a b=eqC (len a) (len b) (neT T137 Z137 a b):=
 tL3 (g:=tA (a,b,len a,())) (next:=vP8 (a,b,len a,())) (c:=neT T137 Z137 a b) (wF a) ha (fun _=>rfl) (fun _=>rfl)
theorem pK1 (a b:List D137)(ha:len a<9223372036854775808):sV a b:=
 tL4 (g:=tA (a,b,len a,())) (next:=vP8 (a,b,len a,())) (c:=neT T137 Z137 a b) (wF a) ha (fun _=>rfl) (fun _=>rfl) fun x _ _ hx h=>by
  have h:=hx (of_decide_eq_true h);exact⟨h.1,h.2.1,fun _=>h.2.2⟩
theorem pU8 (a b:List D143)(ha:len a<9223372036854775808):f94 a b=eqC (len a) (len b) (neT T143 Z143 a b):=
 tL3 (g:=tA1 (a,b,len a,())) (next:=vP9 (a,b,len a,())) (c:=neT T143 Z143 a b) (wF a) ha (fun _=>rfl) (fun _=>rfl)
theorem pK2 (a b:List D143)(ha:len a<9223372036854775808):sV1 a b:=
 tL4 (g:=tA1 (a,b,len a,())) (next:=vP9 (a,b,len a,())) (c:=neT T143 Z143 a b) (wF a) ha (fun _=>rfl) (fun _=>rfl) fun x _ _ hx h=>by
  have h:=hx (of_decide_eq_true h);exact⟨h.1,h.2.1,fun _=>h.2.2⟩
theorem qR1 (a b:List D84)(ha:len a<9223372036854775808):f96 a b=eqC (len a) (len b) (neT T84 Z84 a b):=
 tL3 (g:=uZ8 (a,b,len a,())) (next:=vP7 (a,b,len a,())) (c:=neT T84 Z84 a b) (wF a) ha (fun _=>rfl) (fun _=>rfl)
theorem qC (a b:List D84)(ha:len a<9223372036854775808):sU8 a b:=
 tL4 (g:=uZ8 (a,b,len a,())) (next:=vP7 (a,b,len a,())) (c:=neT T84 Z84 a b) (wF a) ha (fun _=>rfl) (fun _=>rfl) fun x _ _ hx h=>by
  have h:=hx (of_decide_eq_true h);exact⟨h.1,h.2.1,fun _=>h.2.2⟩
theorem pU9 (a b:List D140)(ha:len a<9223372036854775808):f95 a b=eqC (len a) (len b) (neT T140 Z140 a b):=
 tL3 (g:=tA3 (a,b,len a,())) (next:=vQ (a,b,len a,())) (c:=neT T140 Z140 a b) (wF a) ha (fun _=>rfl) (fun _=>rfl)
theorem pK3 (a b:List D140)(ha:len a<9223372036854775808):sV3 a b:=
 tL4 (g:=tA3 (a,b,len a,())) (next:=vQ (a,b,len a,())) (c:=neT T140 Z140 a b) (wF a) ha (fun _=>rfl) (fun _=>rfl) fun x _ _ hx h=>by
  have h:=hx (of_decide_eq_true h);exact⟨h.1,h.2.1,fun _=>h.2.2⟩
structure Lens (n:D91):Prop where
 mask:len n.2.2.2.2.2.2.2.2.2.1.2.2.1<9223372036854775808
 pix:len n.2.2.2.2.2.2.2.2.2.2.2.2.1.2.2.1<9223372036854775808
 params:len n.2.2.2.2.2.2.2.2.2.2.2.2.2.2.2.1<9223372036854775808
 stops:len n.2.2.2.2.2.2.2.2.2.2.2.2.2.2.2.2.2.1<9223372036854775808
 segs:len n.2.2.2.2.2.2.2.2.2.2.2.2.2.2.2.2.2.2.1<9223372036854775808
 warp:len n.2.2.2.2.2.2.2.2.2.2.2.2.2.2.2.2.2.2.2.2.2.2.2.2.2.2.2.1.2.2.2.1<9223372036854775808
theorem wP2 {α:Type}{l:List α}(h:l.length≤maxLen):len l<9223372036854775808:=by
 unfold len;have:maxLen=9223372036854775807:=rfl;omega
theorem qC0 {n:D91}(h:Ty.wf T91 n):Lens n:=by
 obtain⟨_,_,_,_,_,_,_,_,_,⟨_,_,⟨h1,_⟩,_⟩,_,_,⟨_,_,⟨h2,_⟩,_⟩,_,_,⟨h3,_⟩,_,⟨h4,_⟩,⟨h5,_⟩,_,_,_,_,_,_,_,_,⟨_,_,_,⟨h6,_⟩,_⟩,_⟩:=h;exact⟨wP2 h1,wP2 h2,wP2 h3,wP2 h4,wP2 h5,wP2 h6⟩
theorem pK4 {a b:D91}(ha:Lens a):sI4 a b:=by
 simp only[sI4,f42t,sV4,f72t,sI3,f73t];simp only[rF7 _ _ ha.mask,rF7 _ _ ha.params,qC _ _ ha.pix,pK1 _ _ ha.stops,pK2 _ _ ha.segs,pK3 _ _ ha.warp,implies_true,and_self]
theorem qM3 (b:Bool):Ty.eqb .bool b b=true:=by cases b<;>rfl
theorem qC1 {n:Int}{c:Int→Bool}(h:∀ i,c i=false):wJ9 n c=false:=by
 unfold wJ9;rw[List.any_eq_false];intro x _;simp[h]
theorem sO2:∀ (τ:Ty),τ.cmp=true→∀ x:τ.den,τ.eqb x x=true:=by
 intro τ
 induction τ with
 |int k=>intro _ x;simp[Ty.eqb]
 |bool=>intro _ x;simp[Ty.eqb]
 |str=>intro _ x;simp[Ty.eqb]
 |nl=>intro _ x;simp[Ty.eqb]
 |cons a b iha ihb=>intro h x;simp only[Ty.cmp,Bool.and_eq_true] at h;simp[Ty.eqb,iha h.1,ihb h.2]
 |st f ih=>intro h x;simp only[Ty.cmp] at h;simp only[Ty.eqb];exact ih h x
 |arr n t ih=>intro h x;simp only[Ty.cmp] at h;simp only[Ty.eqb];rw[List.all_eq_true];intro i _;exact ih h _
 |sl t _=>intro h;simp[Ty.cmp] at h
 |ptr t _=>intro h;simp[Ty.cmp] at h
theorem vT2 {n:Int}{c:Int→Bool}(h:∀ i,c i=false):eqC n n c=true:=by simp[eqC,qC1 h]
theorem rJ4 (a:List Int)(i:Int):ne0 a a i=false:=by simp[ne0]
theorem uO6 {τ:Ty}{z:τ.den}(h:τ.cmp=true)(a:List τ.den)(i:Int):neT τ z a a i=false:=by simp[neT,sO2 τ h]
theorem pV {n:Int}{c:Int→Bool}(h:wJ9 n c=false){i:Nat}(hi:(i:Int)<n):c i=false:=by
 unfold wJ9 at h;rw[List.any_eq_false] at h;simpa using h i (List.mem_range.2 (by omega))
theorem pV0 {n:D91}(h:Ty.wf T91 n):tG8 n:=by
 obtain⟨_,_,_,h0,_,_,_,_,_,⟨_,_,⟨h1,_⟩,_⟩,_,_,⟨_,_,⟨h2,_⟩,_⟩,_,_,⟨h3,_⟩,_,⟨h4,_⟩,⟨h5,_⟩,_,_,_,_,h7,_,_,_,⟨_,_,_,⟨h6,_⟩,_⟩,_⟩:=h;exact⟨wP2 h0,wP2 h1,wP2 h2,wP2 h3,wP2 h4,wP2 h5,wP2 h7,wP2 h6⟩
end Go.Proofs.YtofmmkikplmlpaaGreatDoor.Am
namespace Go.Proofs.YtofmmkikplmlpaaGreatDoor.Am
open Go Go.Am
theorem qC2:sD:=trivial
theorem pK5 (p:D28):sD0 p:=by first|exact fun _ _=>qC2|trivial | (simp only[sD0,f28t];simp[qC2])
theorem pK6 (s:List UInt8):sR7 s:=fun h0=>by
 have hs:len s≤32:=by
  simp only[Bool.not_eq_true',Bool.cond_true_left,Bool.or_eq_false_iff,decide_eq_false_iff_not] at h0;omega
 exact wG8 (wF s) (by omega) (fun _ h=>wL6 h) (fun _=>rfl) fun x h1 _=>fun h3=>by
  have h4:x.1<len s:=of_decide_eq_true h3;exact⟨⟨h1,h4⟩,fun _=>⟨h1,h4⟩,fun _=>wL (by omega) (by omega)⟩
theorem rJ5 (s:List UInt8)(a b:Int)(hs:len s<9223372036854775808):tF s a b:=fun _ =>
 wG8 (wF s) hs (fun _ h=>wL6 h) (fun _=>rfl) fun x h1 _=>fun h3=>by
  have h4:x.1<len s:=of_decide_eq_true h3;exact⟨⟨h1,h4⟩,fun _=>⟨h1,h4⟩,fun _=>wL (by omega) (by omega)⟩
theorem pK7 (l:List D95)(m:D95)(hl:len l≤4611686018427387904)(h1:len m.1<9223372036854775808)(h2:len m.2.1<9223372036854775808):sT1 l m:=by
 have h0:=wF l;refine⟨rJ5 _ _ _ h1,fun _=>⟨rJ5 _ _ _ h2,fun _=>⟨fun hv=>?_,fun hv=>?_⟩⟩⟩
 ·exact wL (by omega) (by omega)
 ·have hv:len l>0:=of_decide_eq_true hv;exact⟨by omega,by omega⟩
theorem rJ6 {α:Type}(l:List α)(i:Int)(n:Int)(h:len l≤n):len (List.take (Int.toNat i) l)≤n:=by
 simp only[len,List.length_take] at h ⊢;omega
theorem pK8 (l:List D95)(hm:∀ m∈l,len m.1<9223372036854775808∧len m.2.1<9223372036854775808):sT3 l:=fun h0=>by
 have hl:len l≤16:=by
  simp only[Bool.not_eq_true',decide_eq_false_iff_not] at h0;omega
 exact wG8 (wF l) (by omega) (fun _ h=>wL6 h) (fun _=>rfl) fun x h1 h2=>fun h3=>by
  have h4:x.1<len l:=of_decide_eq_true h3;have hx:=hm _ (wM (d:=Z95) ⟨h1,h4⟩);exact⟨⟨h1,h4⟩,⟨h1,h2⟩,pK7 _ _ (rJ6 l x.1 _ (by omega)) hx.1 hx.2,fun _=>wL (by omega) (by omega)⟩
theorem pV1 (l:List D91)(k:Int)(hl:len l<9223372036854775808) :
  xB7 (wO5 (l,(k,()),len l,())) (wL8 (l,(k,()),len l,())) (wZ0 (l,(k,()),len l,())) (0,()) ∧
  (0≤(zB9 (wO5 (l,(k,()),len l,())) (wL8 (l,(k,()),len l,())) (0,())).1):=by
 have w:=whole (g:=wO5 (l,(k,()),len l,())) (next:=wL8 (l,(k,()),len l,())) (ok:=wZ0 (l,(k,()),len l,())) (fun x=>0≤x.1) (fun x=>(len l-x.1).toNat) (fun x hx=>fun h3=>?_) (fun x hx hg=>?_) (x:=(0,())) (Int.le_refl 0) (by unfold zH7;simp only;omega)
 ·exact⟨w.1,w.2.1⟩
 ·have h4:x.1<len l:=of_decide_eq_true h3;exact⟨⟨hx,h4⟩,trivial,fun _=>wL (by omega) (by omega)⟩
 ·have h4:x.1<len l:=wL6 hg;exact⟨(show 0≤x.1+1 by omega),(show (len l-(x.1+1)).toNat<(len l-x.1).toNat by omega)⟩
theorem rF8 (p:D28)(k:Int)(hl:len p.2.2.2.1<9223372036854775808):sG4 p k∧(f60 p k<0∨InB (f60 p k) (len p.2.2.2.1)):=by
 have h:=pV1 p.2.2.2.1 k hl;refine⟨h.1,?_⟩;show (bif vG1 (p.2.2.2.1,(k,()),len p.2.2.2.1,()) (zB9 (wO5 (p.2.2.2.1,(k,()),len p.2.2.2.1,())) (wL8 (p.2.2.2.1,(k,()),len p.2.2.2.1,())) (0,())) then vE7 (p.2.2.2.1,(k,()),len p.2.2.2.1,()) (zB9 (wO5 (p.2.2.2.1,(k,()),len p.2.2.2.1,())) (wL8 (p.2.2.2.1,(k,()),len p.2.2.2.1,())) (0,())) else -1)<0∨InB (bif vG1 (p.2.2.2.1,(k,()),len p.2.2.2.1,()) (zB9 (wO5 (p.2.2.2.1,(k,()),len p.2.2.2.1,())) (wL8 (p.2.2.2.1,(k,()),len p.2.2.2.1,())) (0,())) then vE7 (p.2.2.2.1,(k,()),len p.2.2.2.1,()) (zB9 (wO5 (p.2.2.2.1,(k,()),len p.2.2.2.1,())) (wL8 (p.2.2.2.1,(k,()),len p.2.2.2.1,())) (0,())) else -1) (len p.2.2.2.1);generalize zB9 (wO5 (p.2.2.2.1,(k,()),len p.2.2.2.1,())) (wL8 (p.2.2.2.1,(k,()),len p.2.2.2.1,())) (0,())=z at h ⊢;cases he:vG1 (p.2.2.2.1,(k,()),len p.2.2.2.1,()) z with
 |false=>exact .inl (show (-1:Int)<0 by decide)
 |true =>
  have h4:z.1<len p.2.2.2.1:=wL6 he;exact .inr ⟨h.2,h4⟩
theorem pK9 (l:List D98)(n:D91)(hl:len l<9223372036854775808):uH7 l (n,()):=
 wG8 (wF l) hl (fun _ h=>wL6 h) (fun _=>rfl) fun x h1 _=>fun h3=>by
  have h4:x.1<len l:=of_decide_eq_true h3;exact⟨⟨h1,h4⟩,trivial,fun _=>wL (by omega) (by omega)⟩
theorem pL (l:List D98)(n:D91)(hl:len l<9223372036854775808):uH8 l (n,()):=pK9 l n hl
theorem pL0 (p:D28)(hl:len p.2.2.2.1<9223372036854775808)(hk:len p.2.2.2.2.2.2.2.1<9223372036854775808):sS6 p:=
 wG8 (wF p.2.2.2.1) hl (fun _ h=>wL6 h) (fun _=>rfl) fun x h1 _=>fun h3=>by
  have h4:x.1<len p.2.2.2.1:=of_decide_eq_true h3;refine⟨⟨h1,h4⟩,fun _=>pL _ _ hk,fun _ _=>⟨(rF8 _ _ hl).1,fun hv=>⟨?_,rF2 _⟩⟩,fun _=>wL (by omega) (by omega)⟩;rcases (rF8 p (nth p.2.2.2.1 x.1 Z91).2.2.2.2.2.2.2.2.2.2.2.2.2.2.2.2.2.2.2.2.2.2.2.2.2.2.1 hl).2 with h|h
  ·exact absurd (decide_eq_true h) (by simpa using hv)
  ·exact h
theorem pL1 (p:D28)(hl:len p.2.2.2.2.2.2.2.1≤8)(hm:∀ m∈p.2.2.2.2.2.2.2.1,len m.2.2.2.2.1.2.2.1<9223372036854775808):sS0 p:=
 wG8 (wF p.2.2.2.2.2.2.2.1) (by omega) (fun _ h=>wL6 h) (fun _=>rfl) fun x h1 h2=>fun h3=>by
  have h4:x.1<len p.2.2.2.2.2.2.2.1:=of_decide_eq_true h3;have hx:=hm _ (wM (d:=Z98) ⟨h1,h4⟩);have ht:=rJ6 p.2.2.2.2.2.2.2.1 x.1 _ hl;refine⟨⟨h1,h4⟩,pK6 _,fun _ _=>⟨⟨h1,h2⟩,?_,fun _=>qB1 _ hx⟩,fun _=>wL (by omega) (by omega)⟩;exact wG8 (wF _) (Int.lt_of_le_of_lt ht (by decide)) (fun _ h=>wL6 h) (fun _=>rfl) fun z h1 _=>fun h3=>by
   have h4:z.1<len (List.take (Int.toNat x.1) p.2.2.2.2.2.2.2.1):=of_decide_eq_true h3;exact⟨⟨h1,h4⟩,fun _=>wL (by omega) (by omega)⟩
theorem pW9 (y:uN4)(i:Int)(hi:i<len y.1.2.2.2.1)(h0:-1≤i)(hn:len y.1.2.2.2.1≤64) :
  xB7 (vI3 y) (wT9 y) (vX1 y) (i,())∧(-1≤(zB9 (vI3 y) (wT9 y) (i,())).1∧(zB9 (vI3 y) (wT9 y) (i,())).1<len y.1.2.2.2.1):=by
 have w:=whole (g:=vI3 y) (next:=wT9 y) (ok:=vX1 y) (fun x=>-1≤x.1∧x.1<len y.1.2.2.2.1) (fun x=>(x.1+1).toNat) (fun x hx=>?_) (fun x hx hg=>?_) (x:=(i,())) ⟨h0,hi⟩ (by unfold zH7;simp only;omega)
 ·exact⟨w.1,w.2.1⟩
 ·have hb:decide (x.1≥0)=true→InB x.1 (len y.1.2.2.2.1):=fun h=>⟨of_decide_eq_true h,hx.2⟩;exact⟨hb,fun h=>hb (by simp only[Bool.and_eq_true] at h;exact h.1),fun _=>wL (by omega) (by omega)⟩
 ·have h4:x.1≥0:=by
   simp only[vI3,tW5,Bool.cond_false_right,Bool.and_eq_true,decide_eq_true_eq] at hg;exact hg.1
  exact⟨⟨(show -1≤x.1-1 by omega),(show x.1-1<len y.1.2.2.2.1 by omega)⟩,(show (x.1-1+1).toNat<(x.1+1).toNat by omega)⟩
theorem pL2 (p:D28)(hn:len p.2.2.2.1≤64):sR5 p:=by
 have w:=whole (g:=tM6 ()) (next:=vD9 ()) (ok:=uH6 ()) (fun x=>x.1=p∧x.2.1=p.2.2.2.1∧x.2.2.1=len p.2.2.2.1∧0≤x.2.2.2.1∧x.2.2.2.1≤len p.2.2.2.1) (fun x=>(len p.2.2.2.1-x.2.2.2.1).toNat) (fun x hx=>fun h3=>?_) (fun x hx hg=>?_) (x:=(p,p.2.2.2.1,(len p.2.2.2.1),(0:Int),())) ⟨rfl,rfl,rfl,Int.le_refl 0,wF _⟩ (by unfold zH7;simp only;omega)
 ·exact w.1
 ·obtain⟨a1,a7,a8,a9,⟨⟩⟩:=x;obtain⟨e1,e2,e3,h0,h1⟩:=hx;simp only at e1 e2 e3 h0 h1;subst e1 e2 e3;have h4:a9<len a1.2.2.2.1:=of_decide_eq_true h3;have hc:=pW9 (a1,nth a1.2.2.2.1 a9 Z91,a1.2.2.2.1,len a1.2.2.2.1,a9,()) (a9-1) (show a9-1<len a1.2.2.2.1 by omega) (by omega) hn;refine⟨⟨h0,h4⟩,fun _=>⟨(show InR (a9-1) from wL (by omega) (by omega)),hc.1,fun hv=>⟨⟨?_,hc.2.2⟩,rF2 _⟩⟩,fun _=>wL ?_ ?_⟩
  ·have hv:=hv;simp only[Bool.not_eq_true',decide_eq_false_iff_not] at hv;exact Int.not_lt.1 hv
  ·show _≤(bif _ then a9 else a9)+1;cases (!(nth a1.2.2.2.1 a9 Z91).2.2.2.2.2.2.1)<;>simp only[cond_true,cond_false]<;>omega
  ·show (bif _ then a9 else a9)+1≤_;cases (!(nth a1.2.2.2.1 a9 Z91).2.2.2.2.2.2.1)<;>simp only[cond_true,cond_false]<;>omega
 ·obtain⟨a1,a7,a8,a9,⟨⟩⟩:=x;obtain⟨e1,e2,e3,h0,h1⟩:=hx;simp only at e1 e2 e3 h0 h1;subst e1 e2 e3;have h4:a9<len a1.2.2.2.1:=wL6 hg;have en:vD9 () (a1,a1.2.2.2.1,len a1.2.2.2.1,a9,())=(a1,a1.2.2.2.1,len a1.2.2.2.1,a9+1,()):=by
   simp only[vD9,uR];cases (!(nth a1.2.2.2.1 a9 Z91).2.2.2.2.2.2.1)<;>rfl
  rw[en];exact⟨⟨rfl,rfl,rfl,(show 0≤a9+1 by omega),(show a9+1≤len a1.2.2.2.1 by omega)⟩,(show (len a1.2.2.2.1-(a9+1)).toNat<(len a1.2.2.2.1-a9).toNat by omega)⟩
abbrev IMap:Type:=List (Int×Int×Unit)
abbrev mf (k:Int)(l:IMap):Option Int:=yN2 (.int .i64) (.int .i64) k l
abbrev ms (k v:Int)(l:IMap):IMap:=xV7 (.int .i64) (.int .i64) k v l
theorem qC3 (k v j:Int):∀ l:IMap,mf j (ms k v l)=if j=k then some v else mf j l
 |[]=>by
  show (bif (j==k) then some v else none)=_;by_cases h:j=k
  ·simp[h]
  ·have:(j==k)=false:=by simpa using h
   rw[this,if_neg h];rfl
 |e::r=>by
  have ih:=qC3 k v j r;show yN2 (.int .i64) (.int .i64) j (bif (k==e.1) then (k,v,())::r else e::ms k v r)=if j=k then some v else (bif (j==e.1) then some e.2.1 else mf j r);by_cases hk:k=e.1
  ·have h1:(k==e.1)=true:=by simpa using hk
   rw[h1,cond_true];show (bif (j==k) then some v else mf j r)=_;by_cases h:j=k
   ·simp[h]
   ·have h2:(j==k)=false:=by simpa using h
    have h3:(j==e.1)=false:=by rw[← hk];exact h2
    rw[h2,if_neg h,h3];rfl
  ·have h1:(k==e.1)=false:=by simpa using hk
   rw[h1,cond_false];show (bif (j==e.1) then some e.2.1 else mf j (ms k v r))=_;rw[ih];by_cases h:j=e.1
   ·have h2:(j==e.1)=true:=by simpa using h
    have h3:j≠k:=fun q=>hk (by rw[← q,h]);simp only[h2,if_neg h3]
   ·have h2:(j==e.1)=false:=by simpa using h
    rw[h2];simp only[cond_false]
def qC4 (l:List D91)(i:Int)(m:IMap):Prop:=
 (∀ k v,mf k m=some v→0≤v∧v<i∧(nth l v Z91).1=k∧((nth l v Z91).2.2.1=0∨∃ u,mf (nth l v Z91).2.2.1 m=some u∧u<v)) ∧
 (∀ j,0≤j→j<i→∃ v,mf (nth l j Z91).1 m=some v)
theorem fol2 (p:D28)(m:IMap)(i:Int)(hi:1≤i∧i<len p.2.2.2.1)(hn:len p.2.2.2.1≤64)(hP:qC4 p.2.2.2.1 i m):uH5 p m i:=by
 obtain⟨hP1,hP2⟩:=hP;obtain⟨v0,hv0⟩:=hP2 (i-1) (by omega) (by omega);refine⟨wL (by omega) (by omega),⟨(show 0≤i-1 by omega),(show i-1<len p.2.2.2.1 by omega)⟩,?_⟩;have w:=whole (g:=vO8 (m,i,p,())) (next:=wX1 (m,i,p,())) (ok:=vG0 (m,i,p,())) (fun x=>x.1=0∨∃ v,mf x.1 m=some v) (fun x=>if x.1=0 then 0 else ((mf x.1 m).getD 0).toNat+1) (fun x hx=>fun h3=>?_) (fun x hx hg=>?_) (x:=((nth p.2.2.2.1 (i-1) Z91).1,())) (.inr ⟨v0,hv0⟩) ?_
 ·exact w.1
 ·refine⟨⟨(show 0≤i by omega),hi.2⟩,fun _=>?_⟩;have h0:x.1≠0:=by simpa using h3
  rcases hx with hx|⟨v,hv⟩
  ·exact absurd hx h0
  ·have:=hP1 _ _ hv;show InB ((mf x.1 m).getD 0) (len p.2.2.2.1);rw[hv];exact⟨this.1,by show v<_;omega⟩
 ·simp only[vO8,vD7,Bool.and_eq_true] at hg;have h0:x.1≠0:=by simpa using hg.1
  rcases hx with hx|⟨v,hv⟩
  ·exact absurd hx h0
  ·obtain⟨q0,q1,q2,q3⟩:=hP1 _ _ hv;have en:wX1 (m,i,p,()) x=((nth p.2.2.2.1 v Z91).2.2.1,()):=by
    show ((nth p.2.2.2.1 ((mf x.1 m).getD 0) Z91).2.2.1,())=_;rw[hv];rfl
   rw[en];rcases q3 with q3|⟨u,q3,q4⟩
   ·refine⟨.inl q3,?_⟩;simp only[q3,if_true,if_neg h0];omega
   ·refine⟨.inr ⟨u,q3⟩,?_⟩;obtain⟨r0,_⟩:=hP1 _ _ q3;simp only[if_neg h0,hv,Option.getD_some];split
    ·omega
    ·rw[q3];simp only[Option.getD_some];omega
 ·have:=hP1 _ _ hv0;unfold zH7;simp only;split
  ·omega
  ·rw[hv0];simp only[Option.getD_some];omega
theorem pX (p:D28)(m:IMap)(i:Int):(uA1 p m i).1=m:=by
 simp only[uA1,tW3];cases uH4 _ _<;>rfl
def ordI (p:D28)(x:vE6):Prop:=(0≤x.2.2.1∧x.2.2.1≤len p.2.2.2.1)∧len x.2.1=len p.2.2.2.1∧(∀ q∈x.2.1,0≤q∧q≤8)∧qC4 p.2.2.2.1 x.2.2.1 x.1
theorem sX7 {l:List Int}{i v:Int}(h:InB i (len l)):nth (List.set l (Int.toNat i) v) i 0=v:=by
 obtain⟨h1,h2⟩:=h;have h3:i.toNat<l.length:=by simp only[len] at h2;omega
 show (List.set l i.toNat v).getD i.toNat 0=v;rw[List.getD_eq_getElem?_getD,List.getElem?_set_self h3];rfl
theorem rF9 (p:D28)(m:IMap)(d:List Int)(i:Int):vD8 (p,p.2.2.2.1,len p.2.2.2.1,()) (m,d,i,())=(ms (nth p.2.2.2.1 i Z91).1 i (bif ((nth p.2.2.2.1 i Z91).2.2.1 !=0) then (uA1 p m i).1 else m),(bif ((nth p.2.2.2.1 i Z91).2.2.1 !=0) then (List.set (List.set d (Int.toNat i) (1:Int)) (Int.toNat i) (nth (List.set d (Int.toNat i) (1:Int)) (Option.getD (yN2 (.int .i64) (.int .i64) (nth p.2.2.2.1 i Z91).2.2.1 m) (0:Int)) (0:Int)+1)) else (List.set d (Int.toNat i) (1:Int))),i+1,()):=rfl
theorem qC5 {o:Option Int}(h:Option.isSome o=true):∃ v,o=some v:=by
 cases o with
 |none=>cases h
 |some v=>exact⟨v,rfl⟩
theorem ord4 (p:D28)(hn:len p.2.2.2.1≤64)(hf:∀ n∈p.2.2.2.1,tG8 n) :
  xB7 (uN3 (p,p.2.2.2.1,len p.2.2.2.1,())) (vD8 (p,p.2.2.2.1,len p.2.2.2.1,())) (vX0 (p,p.2.2.2.1,len p.2.2.2.1,())) (([]:IMap),(List.replicate (Int.toNat (len p.2.2.2.1)) (0:Int)),(0:Int),()):=by
 have h0n:=wF p.2.2.2.1;have w:=whole (g:=uN3 (p,p.2.2.2.1,len p.2.2.2.1,())) (next:=vD8 (p,p.2.2.2.1,len p.2.2.2.1,())) (ok:=vX0 (p,p.2.2.2.1,len p.2.2.2.1,())) (ordI p) (fun x=>(len p.2.2.2.1-x.2.2.1).toNat) (fun x hx=>fun h3=>?_) (fun x hx hg=>?_) (x:=(([]:IMap),(List.replicate (Int.toNat (len p.2.2.2.1)) (0:Int)),(0:Int),()))
  ⟨⟨Int.le_refl 0,h0n⟩,by simp only[len,List.length_replicate];omega,fun q hq=>by rw[List.eq_of_mem_replicate hq];decide,fun k v hv=>by exact absurd (show (none:Option Int)=some v from hv) (by simp),fun j h1 h2=>by exact absurd (show j<0 from h2) (by omega)⟩ (by unfold zH7;simp only;omega)
 ·exact w.1
 ·obtain⟨m,d,i,⟨⟩⟩:=x;obtain⟨⟨h0,h1⟩,hd,hq,hP⟩:=hx;simp only at h0 h1 hd hq hP;have h4:i<len p.2.2.2.1:=of_decide_eq_true h3;have hl:len (List.set d (Int.toNat i) (1:Int))=len p.2.2.2.1:=by rw[wU9];exact hd
  have hib:InB i (len d):=by rw[hd];exact⟨h0,h4⟩
  have hil:InB i (len (List.set d (Int.toNat i) (1:Int))):=by rw[hl];exact⟨h0,h4⟩
  have ksome:(!(!(Option.isSome (mf (nth p.2.2.2.1 i Z91).2.2.1 m))))=true→∃ v,mf (nth p.2.2.2.1 i Z91).2.2.1 m=some v∧0≤v∧v<i:=fun hs=>by
   rw[Bool.not_not] at hs;obtain⟨v,hv⟩:=qC5 hs;have:=hP.1 _ _ hv;exact⟨v,hv,this.1,this.2.1⟩
  have k66:(!(bif (!(Option.isSome (mf (nth p.2.2.2.1 i Z91).2.2.1 m))) then true else ((nth p.2.2.2.1 (Option.getD (mf (nth p.2.2.2.1 i Z91).2.2.1 m) (0:Int)) Z91).2.1 !=1)))=true→(!(!(Option.isSome (mf (nth p.2.2.2.1 i Z91).2.2.1 m))))=true:=fun hs=>by
   cases hc:(!(Option.isSome (mf (nth p.2.2.2.1 i Z91).2.2.1 m))) with
   |true=>rw[hc] at hs;simp at hs
   |false=>rfl
  refine⟨⟨h0,h4⟩,pK0 _ _ _ (hf _ (wM ⟨h0,h4⟩)),fun _ _ _=>⟨hib,hib.2,fun _=>⟨fun h66=>?_,fun h75=>?_⟩,fun _=>?_⟩,fun _=>(show InR (i+1) from wL (by omega) (by omega))⟩
  ·obtain⟨v,hv,hv0,hv1⟩:=ksome h66;show InB (Option.getD (mf (nth p.2.2.2.1 i Z91).2.2.1 m) (0:Int)) (len p.2.2.2.1);rw[hv];exact⟨hv0,by show v<_;omega⟩
  ·obtain⟨v,hv,hv0,hv1⟩:=ksome (k66 h75);have eg:Option.getD (mf (nth p.2.2.2.1 i Z91).2.2.1 m) (0:Int)=v:=by rw[hv];rfl
   have hvl:InB v (len (List.set d (Int.toNat i) (1:Int))):=by rw[hl];exact⟨hv0,by omega⟩
   have hmem:=sC1 (k:=Int.toNat i) hq (show (0:Int)≤1∧(1:Int)≤8 by omega) _ (wM (d:=(0:Int)) hvl);refine⟨fol2 p m i ⟨by omega,h4⟩ hn hP,?_,rfl,rfl,rfl,rfl,fun _=>?_⟩
   ·cases m with
    |nil=>cases hv
    |cons e r=>simp
   ·show InB (Option.getD (mf (nth p.2.2.2.1 i Z91).2.2.1 m) (0:Int)) _∧Option.getD (mf (nth p.2.2.2.1 i Z91).2.2.1 m) (0:Int)<_∧InR (nth (List.set d (Int.toNat i) (1:Int)) (Option.getD (mf (nth p.2.2.2.1 i Z91).2.2.1 m) (0:Int)) 0+1)∧_;rw[eg];exact⟨hvl,hvl.2,wL (by omega) (by omega),hil,hil.2⟩
  ·show InB i (len (bif ((nth p.2.2.2.1 i Z91).2.2.1 !=0) then _ else _))∧i<len (bif ((nth p.2.2.2.1 i Z91).2.2.1 !=0) then _ else _);cases ((nth p.2.2.2.1 i Z91).2.2.1 !=0) with
   |true=>simp only[cond_true,wU9];rw[hd];exact⟨⟨h0,h4⟩,h4⟩
   |false=>simp only[cond_false,wU9];rw[hd];exact⟨⟨h0,h4⟩,h4⟩
 ·obtain⟨m,d,i,⟨⟩⟩:=x;obtain⟨⟨h0,h1⟩,hd,hq,hP⟩:=hx;simp only at h0 h1 hd hq hP;simp only[uN3,uQ8] at hg;rw[rF9];have h4:i<len p.2.2.2.1:=wL6 hg;simp only[Bool.and_eq_true] at hg;obtain⟨_,_,_,hg50,hg3,hg93⟩:=hg;have hnone:mf (nth p.2.2.2.1 i Z91).1 m=none:=by
   have:(Option.isSome (mf (nth p.2.2.2.1 i Z91).1 m))=false:=by simpa using hg50
   cases hc:mf (nth p.2.2.2.1 i Z91).1 m with
   |none=>rfl
   |some v=>rw[hc] at this;cases this
  have hl:len (List.set d (Int.toNat i) (1:Int))=len p.2.2.2.1:=by rw[wU9];exact hd
  have hil:InB i (len (List.set d (Int.toNat i) (1:Int))):=by rw[hl];exact⟨h0,h4⟩
  have hq1:=sC1 (k:=Int.toNat i) hq (show (0:Int)≤1∧(1:Int)≤8 by omega);have hpar:((nth p.2.2.2.1 i Z91).2.2.1 !=0)=true→∃ v,mf (nth p.2.2.2.1 i Z91).2.2.1 m=some v∧0≤v∧v<i:=fun h57=>by
   rw[h57] at hg3;simp only[cond_true,Bool.and_eq_true] at hg3;cases hc:(Option.isSome (mf (nth p.2.2.2.1 i Z91).2.2.1 m)) with
   |false =>
    have h75:=hg3.1;rw[show yN2 (.int .i64) (.int .i64) (nth p.2.2.2.1 i Z91).2.2.1 m=mf (nth p.2.2.2.1 i Z91).2.2.1 m from rfl,hc] at h75;exact absurd h75 (by simp)
   |true =>
    obtain⟨v,hv⟩:=qC5 hc;have:=hP.1 _ _ hv;exact⟨v,hv,this.1,this.2.1⟩
  have hpn:∀ v,mf (nth p.2.2.2.1 i Z91).2.2.1 m=some v→(nth p.2.2.2.1 i Z91).2.2.1≠(nth p.2.2.2.1 i Z91).1:=fun v hv q=>by
   rw[q,hnone] at hv;cases hv
  refine⟨⟨⟨(show 0≤i+1 by omega),(show i+1≤len p.2.2.2.1 by omega)⟩,?_,?_,?_⟩,(show (len p.2.2.2.1-(i+1)).toNat<(len p.2.2.2.1-i).toNat by omega)⟩
  ·show len (bif ((nth p.2.2.2.1 i Z91).2.2.1 !=0) then _ else _)=_;cases ((nth p.2.2.2.1 i Z91).2.2.1 !=0) with
   |true=>simp only[cond_true,wU9];exact hd
   |false=>simp only[cond_false,wU9];exact hd
  ·show ∀ q∈(bif ((nth p.2.2.2.1 i Z91).2.2.1 !=0) then _ else _),0≤q∧q≤8;cases h57:((nth p.2.2.2.1 i Z91).2.2.1 !=0) with
   |false=>exact hq1
   |true =>
    obtain⟨v,hv,hv0,hv1⟩:=hpar h57;have eg:Option.getD (yN2 (.int .i64) (.int .i64) (nth p.2.2.2.1 i Z91).2.2.1 m) (0:Int)=v:=by
     show Option.getD (mf (nth p.2.2.2.1 i Z91).2.2.1 m) (0:Int)=v;rw[hv];rfl
    have hvl:InB v (len (List.set d (Int.toNat i) (1:Int))):=by rw[hl];exact⟨hv0,by omega⟩
    have hmem:=hq1 _ (wM (d:=(0:Int)) hvl);simp only[h57,cond_true,eg] at hg93;rw[sX7 hil] at hg93;have hg93:¬ nth (List.set d (Int.toNat i) (1:Int)) v 0+1>8:=by simpa using hg93
    simp only[cond_true,eg];exact sC1 hq1 ⟨by omega,by omega⟩
  ·show qC4 p.2.2.2.1 (i+1) (ms (nth p.2.2.2.1 i Z91).1 i (bif ((nth p.2.2.2.1 i Z91).2.2.1 !=0) then (uA1 p m i).1 else m));have em:(bif ((nth p.2.2.2.1 i Z91).2.2.1 !=0) then (uA1 p m i).1 else m)=m:=by
    rw[pX];cases ((nth p.2.2.2.1 i Z91).2.2.1 !=0)<;>rfl
   rw[em];refine⟨fun k v hv=>?_,fun j hj0 hj1=>?_⟩
   ·rw[qC3] at hv;by_cases hk:k=(nth p.2.2.2.1 i Z91).1
    ·rw[if_pos hk] at hv;have hv:i=v:=by injection hv
     subst hv;refine⟨h0,by omega,hk.symm,?_⟩;cases h57:((nth p.2.2.2.1 i Z91).2.2.1 !=0) with
     |false=>exact .inl (by simpa using h57)
     |true =>
      obtain⟨u,hu,hu0,hu1⟩:=hpar h57;exact .inr ⟨u,by rw[qC3,if_neg (hpn u hu)];exact hu,hu1⟩
    ·rw[if_neg hk] at hv;obtain⟨q0,q1,q2,q3⟩:=hP.1 _ _ hv;refine⟨q0,by omega,q2,?_⟩;rcases q3 with q3|⟨u,q3,q4⟩
     ·exact .inl q3
     ·have hne:(nth p.2.2.2.1 v Z91).2.2.1≠(nth p.2.2.2.1 i Z91).1:=fun q=>by rw[q,hnone] at q3;cases q3
      exact .inr ⟨u,by rw[qC3,if_neg hne];exact q3,q4⟩
   ·rw[qC3];by_cases hji:(nth p.2.2.2.1 j Z91).1=(nth p.2.2.2.1 i Z91).1
    ·exact⟨i,if_pos hji⟩
    ·rw[if_neg hji];by_cases hje:j=i
     ·rw[hje] at hji;exact absurd rfl hji
     ·exact hP.2 j hj0 (by omega)
theorem pL3 (p:D28)(hn:len p.2.2.2.1≤64)(hf:∀ n∈p.2.2.2.1,tG8 n):sR2 p:=⟨⟨wF _,Int.le_refl _,(show len p.2.2.2.1≤4294967296 by omega)⟩,ord4 p hn hf⟩
end Go.Proofs.YtofmmkikplmlpaaGreatDoor.Am
namespace Go.Proofs.YtofmmkikplmlpaaGreatDoor.Am
open Go Go.Am
def unb:List Bool→Nat
 |[]=>0
 |false::r=>unb r+1
 |true::r=>unb r
theorem sO3:∀ l:List Bool,unb l≤l.length
 |[]=>Nat.le_refl _
 |false::r=>by have:=sO3 r;simp only[unb,List.length_cons];omega
 |true::r=>by have:=sO3 r;simp only[unb,List.length_cons];omega
theorem qC6:∀ {l:List Bool}{i:Nat},i<l.length→l.getD i false=false→unb (List.set l i true)+1=unb l
 |[],i,h,_=>by simp at h
 |b::r,0,_,h=>by
  have:b=false:=h;subst this;rfl
 |b::r,i+1,h,h2=>by
  have ih:=qC6 (l:=r) (i:=i) (by simpa using h) h2;cases b with
  |false=>show unb (List.set r i true)+1+1=unb r+1;omega
  |true=>exact ih
def srcI (p:D28)(x:vR4):Prop:=(0≤x.2.1∧x.2.1≤len p.2.2.2.1)∧len x.1≤x.2.1∧∀ q∈x.1,InB q (len p.2.2.2.1)
theorem src5 (p:D28)(i:Int)(hi:InB i (len p.2.2.2.1))(hn:len p.2.2.2.1≤64) :
  xB7 (uN5 (i,p,p.2.2.2.1,len p.2.2.2.1,())) (vE (i,p,p.2.2.2.1,len p.2.2.2.1,())) (vX2 (i,p,p.2.2.2.1,len p.2.2.2.1,())) (([]:List Int),(0:Int),()) ∧
  srcI p (zB9 (uN5 (i,p,p.2.2.2.1,len p.2.2.2.1,())) (vE (i,p,p.2.2.2.1,len p.2.2.2.1,())) (([]:List Int),(0:Int),())):=by
 have w:=whole (g:=uN5 (i,p,p.2.2.2.1,len p.2.2.2.1,())) (next:=vE (i,p,p.2.2.2.1,len p.2.2.2.1,())) (ok:=vX2 (i,p,p.2.2.2.1,len p.2.2.2.1,())) (srcI p) (fun x=>(len p.2.2.2.1-x.2.1).toNat) (fun x hx=>fun h3=>?_) (fun x hx hg=>?_) (x:=(([]:List Int),(0:Int),())) ⟨⟨Int.le_refl 0,wF _⟩,Int.le_refl 0,fun q hq=>by cases hq⟩ (by unfold zH7;simp only;omega)
 ·exact⟨w.1,w.2.1⟩
 ·have h4:x.2.1<len p.2.2.2.1:=of_decide_eq_true h3;obtain⟨⟨h0,h1⟩,h2,h5⟩:=hx;have e:len x.1=(x.1.length:Int):=rfl;exact⟨⟨h0,h4⟩,hi,fun _=>(show ((x.1.length+1:Nat):Int)≤4294967296 by omega),wL (by omega) (by omega)⟩
 ·have h4:x.2.1<len p.2.2.2.1:=of_decide_eq_true hg;obtain⟨⟨h0,h1⟩,h2,h5⟩:=hx;refine⟨⟨⟨(show 0≤x.2.1+1 by omega),(show x.2.1+1≤len p.2.2.2.1 by omega)⟩,?_,?_⟩,(show (len p.2.2.2.1-(x.2.1+1)).toNat<(len p.2.2.2.1-x.2.1).toNat by omega)⟩
  ·show len (bif _ then (x.1++[x.2.1]) else x.1)≤x.2.1+1;cases ((nth p.2.2.2.1 x.2.1 Z91).2.2.1==(nth p.2.2.2.1 i Z91).1) with
   |true=>rw[cond_true,wV,wY7];omega
   |false=>rw[cond_false];omega
  ·show ∀ q∈(bif _ then (x.1++[x.2.1]) else x.1),InB q (len p.2.2.2.1);cases ((nth p.2.2.2.1 x.2.1 Z91).2.2.1==(nth p.2.2.2.1 i Z91).1) with
   |true=>exact vQ7 h5 ⟨h0,h4⟩
   |false=>exact h5
theorem pL4 (p:D28)(i:Int)(hi:InB i (len p.2.2.2.1))(hn:len p.2.2.2.1≤64):sG5 p i∧len (f62 p i)≤64∧∀ q∈f62 p i,InB q (len p.2.2.2.1):=by
 have h5:=src5 p i hi hn;have hf:=rF8 p (nth p.2.2.2.1 i Z91).2.2.2.2.2.2.2.2.2.2.2.2.2.2.2.2.2.2.2.2.2.2.2.2.2.2.1 (by omega);refine⟨⟨hi,fun _=>h5.1,fun _ _=>⟨hi,hf.1,fun _=>(show (1:Int)≤4294967296 by decide)⟩⟩,?_⟩;simp only[f62,f62t,uR4];cases ((nth p.2.2.2.1 i Z91).2.1==1) with
 |true=>exact⟨by have:=h5.2.1;have:=h5.2.2.1;exact Int.le_trans h5.2.2.1 (Int.le_trans h5.2.1.2 hn),h5.2.2.2⟩
 |false =>
  simp only[cond_false];cases ((nth p.2.2.2.1 i Z91).2.1==10) with
  |false=>exact⟨(show (0:Int)≤64 by decide),fun q hq=>by cases hq⟩
  |true =>
   simp only[cond_true];cases hd:decide (f60 p (nth p.2.2.2.1 i Z91).2.2.2.2.2.2.2.2.2.2.2.2.2.2.2.2.2.2.2.2.2.2.2.2.2.2.1≥0) with
   |false=>exact⟨(show (0:Int)≤64 by decide),fun q hq=>by cases hq⟩
   |true =>
    refine⟨(show (1:Int)≤64 by decide),fun q hq=>?_⟩;rw[List.mem_singleton.1 hq];rcases hf.2 with h|h
    ·have:=of_decide_eq_true hd;omega
    ·exact h
def visI (p:D28)(u:Nat)(o:List Bool×List Bool×D28×Unit):Prop:=len o.1=len p.2.2.2.1∧len o.2.1=len p.2.2.2.1∧o.2.2.1=p∧unb o.2.1≤u
def visL (p:D28)(u:Nat)(l:List Int)(x:wL3):Prop:=(0≤x.2.2.2.1∧x.2.2.2.1≤len l)∧visI p u (x.1,x.2.1,x.2.2.1,())
def pV2 (p:D28)(k:Nat)(r:wL9):Prop:=∀ (i:Int) (d b:List Bool),len d=len p.2.2.2.1→len b=len p.2.2.2.1→InB i (len p.2.2.2.1)→unb b<k→(r i d b p ()).1∧visI p (unb b) (r i d b p ()).2.2
theorem vis5 {p:D28}{k u:Nat}{r:wL9}(hr:pV2 p k r)(hu:u<k)(i:Int)(l:List Int)(hl:len l≤64)(hq:∀ q∈l,InB q (len p.2.2.2.1))(d b:List Bool)(h0:visI p u (d,b,p,())) :
  xB7 (wP4 r (i,(),l,len l,())) (wM2 r (i,(),l,len l,())) (wU r (i,(),l,len l,())) (d,b,p,(0:Int),()) ∧
  visL p u l (zB9 (wP4 r (i,(),l,len l,())) (wM2 r (i,(),l,len l,())) (d,b,p,(0:Int),())):=by
 have st:∀ x:wL3,visL p u l x→x.2.2.2.1<len l→(r (nth l x.2.2.2.1 (0:Int)) x.1 x.2.1 x.2.2.1 ()).1∧visI p u (r (nth l x.2.2.2.1 (0:Int)) x.1 x.2.1 x.2.2.1 ()).2.2:=fun x hx h4=>by
  obtain⟨⟨j0,j1⟩,v1,v2,v3,v4⟩:=hx;simp only at v1 v2 v3 v4;rw[v3];have:=hr (nth l x.2.2.2.1 (0:Int)) x.1 x.2.1 v1 v2 (hq _ (wM ⟨j0,h4⟩)) (by omega);exact⟨this.1,this.2.1,this.2.2.1,this.2.2.2.1,Nat.le_trans this.2.2.2.2 v4⟩
 have w:=whole (g:=wP4 r (i,(),l,len l,())) (next:=wM2 r (i,(),l,len l,())) (ok:=wU r (i,(),l,len l,())) (visL p u l) (fun x=>(len l-x.2.2.2.1).toNat) (fun x hx=>fun h3=>?_) (fun x hx hg=>?_) (x:=(d,b,p,(0:Int),())) ⟨⟨Int.le_refl 0,wF l⟩,h0⟩ (by unfold zH7;simp only;omega)
 ·exact⟨w.1,w.2.1⟩
 ·have h4:x.2.2.2.1<len l:=of_decide_eq_true h3;have j0:=hx.1.1;exact⟨⟨j0,h4⟩,(st x hx h4).1,fun _=>wL (by omega) (by omega)⟩
 ·have h4:x.2.2.2.1<len l:=wL6 hg;have j0:=hx.1.1;exact⟨⟨⟨(show 0≤x.2.2.2.1+1 by omega),(show x.2.2.2.1+1≤len l by omega)⟩,(st x hx h4).2⟩,(show (len l-(x.2.2.2.1+1)).toNat<(len l-x.2.2.2.1).toNat by omega)⟩
theorem qC7 (p:D28)(hn:len p.2.2.2.1≤64):∀ k,pV2 p k (wW6 k)
 |0=>fun i d b _ _ _ h=>absurd h (Nat.not_lt_zero _)
 |k+1=>fun i d b hd hb hi hu=>by
  have hr:=qC7 p hn k;have hid:InB i (len d):=by rw[hd];exact hi
  have hib:InB i (len b):=by rw[hb];exact hi
  show (uI (wW6 k) i d b p ()).1∧visI p (unb b) (uI (wW6 k) i d b p ()).2.2;generalize wW6 k=r at hr;have hs:=pL4 p i hi hn;have key:(bif (nth d i false) then true else (nth b i false))=false →
    xB7 (wP4 r (i,(),f62 p i,len (f62 p i),())) (wM2 r (i,(),f62 p i,len (f62 p i),())) (wU r (i,(),f62 p i,len (f62 p i),())) (d,(List.set b (Int.toNat i) true),p,(0:Int),()) ∧
    visL p (unb b) (f62 p i) (zB9 (wP4 r (i,(),f62 p i,len (f62 p i),())) (wM2 r (i,(),f62 p i,len (f62 p i),())) (d,(List.set b (Int.toNat i) true),p,(0:Int),())) ∧
    ∀ x:wL3,x=zB9 (wP4 r (i,(),f62 p i,len (f62 p i),())) (wM2 r (i,(),f62 p i,len (f62 p i),())) (d,(List.set b (Int.toNat i) true),p,(0:Int),())→x.2.2.2.1<len (f62 p i)→visI p (unb b) (r (nth (f62 p i) x.2.2.2.1 (0:Int)) x.1 x.2.1 x.2.2.1 ()).2.2:=fun hv=>by
   have hbi:nth b i false=false:=by
    cases hc:nth d i false with
    |true=>rw[hc] at hv;cases hv
    |false=>rw[hc] at hv;exact hv
   have hil:i.toNat<b.length:=by have:=hib.2;have:=hib.1;simp only[len] at *;omega
   have hset:=qC6 hil hbi;have h5:=vis5 (u:=unb (List.set b (Int.toNat i) true)) hr (by omega) i (f62 p i) hs.2.1 hs.2.2 d (List.set b (Int.toNat i) true) ⟨hd,by show len (List.set b _ true)=_;rw[wU9];exact hb,rfl,Nat.le_refl _⟩;have up:∀ o,visI p (unb (List.set b (Int.toNat i) true)) o→visI p (unb b) o:=fun o ho=>⟨ho.1,ho.2.1,ho.2.2.1,by have:=ho.2.2.2;omega⟩;refine⟨h5.1,⟨h5.2.1,up _ h5.2.2⟩,fun x hx h4=>?_⟩;have hx5:=h5.2;rw[← hx] at hx5;obtain⟨⟨j0,j1⟩,v1,v2,v3,v4⟩:=hx5;simp only at v1 v2 v3 v4;rw[v3];have:=hr (nth (f62 p i) x.2.2.2.1 (0:Int)) x.1 x.2.1 v1 v2 (hs.2.2 _ (wM ⟨j0,h4⟩)) (by omega);exact up _ ⟨this.2.1,this.2.2.1,this.2.2.2.1,Nat.le_trans this.2.2.2.2 v4⟩
  simp only[uI];cases hv:(bif (nth d i false) then true else (nth b i false)) with
  |true =>
   simp only[cond_true,Bool.not_true];exact⟨⟨hid,hid.2,fun _=>hib,fun _=>hib.2,fun _=>⟨hid,hid.2⟩,fun hf=>Bool.noConfusion hf⟩,hd,hb,rfl,Nat.le_refl _⟩
  |false =>
   obtain⟨k1,k2,k3⟩:=key hv;simp only[cond_false,vT5,vT6,vT7,vT8,vT9,vU];generalize zB9 (wP4 r (i,(),f62 p i,len (f62 p i),())) (wM2 r (i,(),f62 p i,len (f62 p i),())) (d,(List.set b (Int.toNat i) true),p,(0:Int),())=z at k2 k3;obtain⟨_,v1,v2,v3,v4⟩:=k2;simp only at v1 v2 v3 v4;have hz:InB i (len z.1):=by rw[v1];exact hi
   refine⟨⟨hid,hid.2,fun _=>hib,fun _=>hib.2,fun hf=>Bool.noConfusion hf,fun _=>⟨hib,hib.2,hs.1,k1,fun _=>⟨hz,hz.2⟩⟩⟩,?_⟩;cases he:uH9 r (i,(),f62 p i,len (f62 p i),()) z with
   |true=>exact k3 z rfl (wL6 he)
   |false=>exact⟨by show len (List.set z.1 _ true)=_;rw[wU9];exact v1,v2,v3,v4⟩
def cycI (p:D28)(x:vA9):Prop:=(0≤x.2.2.2.1∧x.2.2.2.1≤len p.2.2.2.1)∧visI p (len p.2.2.2.1).toNat (x.2.2.1,x.2.1,x.1,())
theorem pL5 (p:D28)(hn:len p.2.2.2.1≤64):sT0 p:=by
 have h0n:=wF p.2.2.2.1;have hlr:len (List.replicate (Int.toNat (len p.2.2.2.1)) false)=len p.2.2.2.1:=by simp only[len,List.length_replicate];omega
 have hu:∀ b:List Bool,len b=len p.2.2.2.1→unb b≤(len p.2.2.2.1).toNat:=fun b hb=>by
  have:=sO3 b;simp only[len] at hb ⊢;omega
 have st:∀ x:vA9,cycI p x→x.2.2.2.1<len p.2.2.2.1→uY5 x.2.2.2.1 x.2.2.1 x.2.1 x.1 ()∧visI p (len p.2.2.2.1).toNat (sL4 x.2.2.2.1 x.2.2.1 x.2.1 x.1 ()):=fun x hx h4=>by
  obtain⟨⟨j0,j1⟩,v1,v2,v3,v4⟩:=hx;simp only at v1 v2 v3 v4;rw[v3];have hlt:unb x.2.1<x.2.2.1.length+1:=by have:=sO3 x.2.1;simp only[len] at v1 v2;omega
  have:=qC7 p hn (x.2.2.1.length+1) x.2.2.2.1 x.2.2.1 x.2.1 v1 v2 ⟨j0,h4⟩ hlt;exact⟨this.1,this.2.1,this.2.2.1,this.2.2.2.1,hu _ this.2.2.1⟩
 refine⟨⟨h0n,Int.le_refl _,(show len p.2.2.2.1≤4294967296 by omega)⟩,⟨h0n,Int.le_refl _,(show len p.2.2.2.1≤4294967296 by omega)⟩,?_⟩;have w:=whole (g:=tM9 ((),len p.2.2.2.1,())) (next:=uB0 ((),len p.2.2.2.1,())) (ok:=uI0 ((),len p.2.2.2.1,())) (cycI p) (fun x=>(len p.2.2.2.1-x.2.2.2.1).toNat) (fun x hx=>fun h3=>?_) (fun x hx hg=>?_) (x:=(p,(List.replicate (Int.toNat (len p.2.2.2.1)) false),(List.replicate (Int.toNat (len p.2.2.2.1)) false),(0:Int),())) ⟨⟨Int.le_refl 0,h0n⟩,hlr,hlr,rfl,hu _ hlr⟩ (by unfold zH7;simp only;omega)
 ·exact w.1
 ·have h4:x.2.2.2.1<len p.2.2.2.1:=of_decide_eq_true h3;have j0:=hx.1.1;exact⟨(st x hx h4).1,fun _=>wL (by omega) (by omega)⟩
 ·have h4:x.2.2.2.1<len p.2.2.2.1:=wL6 hg;have j0:=hx.1.1;exact⟨⟨⟨(show 0≤x.2.2.2.1+1 by omega),(show x.2.2.2.1+1≤len p.2.2.2.1 by omega)⟩,(st x hx h4).2⟩,(show (len p.2.2.2.1-(x.2.2.2.1+1)).toNat<(len p.2.2.2.1-x.2.2.2.1).toNat by omega)⟩
def pV3 (p:D28):Prop:=
 (len p.2.2.2.1<9223372036854775808∧∀ n∈p.2.2.2.1,tG8 n)∧len p.2.2.2.2.2.1.2.2.1<9223372036854775808∧(∀ m∈p.2.2.2.2.2.2.1,len m.1<9223372036854775808∧len m.2.1<9223372036854775808)∧∀ m∈p.2.2.2.2.2.2.2.1,len m.2.2.2.2.1.2.2.1<9223372036854775808
theorem pV4 (p:D28)(h:pV3 p):sC6 p:=by
 obtain⟨⟨h1,h2⟩,h3,h4,h5⟩:=h;have hb:(!(bif (decide ((len p.2.2.2.1)>64)) then true else (decide ((len p.2.2.2.2.2.2.2.1)>8))))=true→len p.2.2.2.1≤64∧len p.2.2.2.2.2.2.2.1≤8:=fun h0=>by
  simp only[Bool.not_eq_true',Bool.cond_true_left,Bool.or_eq_false_iff,decide_eq_false_iff_not] at h0;omega
 refine⟨pK5 p,fun _ ha=>?_⟩;obtain⟨hn,hl⟩:=hb ha;exact fun _=>⟨pL3 p hn h2,fun _=>⟨pL2 p hn,fun _=>⟨pL1 p hl h5,fun _=>⟨pL0 p h1 (by omega),fun _=>⟨pL5 p hn,fun _=>⟨qB0 _ h3,fun _ _=>pK8 _ h4⟩⟩⟩⟩⟩⟩
end Go.Proofs.YtofmmkikplmlpaaGreatDoor.Am
namespace Go.Proofs.YtofmmkikplmlpaaGreatDoor.Am
open Go Go.Am
theorem eqC_true {n m:Int}{c:Int→Bool}:eqC n m c=true↔n=m∧∀ i:Nat,(i:Int)<n→c i=false:=by
 simp only[eqC,Bool.and_eq_true,beq_iff_eq,Bool.not_eq_true'];constructor
 ·intro h;exact⟨h.1,fun i hi=>pV h.2 hi⟩
 ·intro h;refine⟨h.1,?_⟩;unfold wJ9;rw[List.any_eq_false];intro i hi;rw[h.2 i (by have:=List.mem_range.1 hi;omega)];decide
theorem tC2 {α:Type}{a:List α}{z:α}{t:α→α→Bool}(ht:∀ x∈a,t x x=true):eqC (len a) (len a) (fun i=>!(t (nth a i z) (nth a i z)))=true:=
 eqC_true.2 ⟨rfl,fun i hi=>by rw[ht _ (wM ⟨by omega,hi⟩)];rfl⟩
theorem pV5 (a b:List D91)(ha:len a<9223372036854775808):rY3 a b ()=eqC (len a) (len b) (fun i=>!(f42 (nth a i Z91) (nth b i Z91))):=
 tL3 (g:=vQ1 (b,(),a,len a,())) (next:=wX4 (b,(),a,len a,())) (c:=fun i=>!(f42 (nth a i Z91) (nth b i Z91))) (wF a) ha (fun _=>rfl) (fun _=>rfl)
theorem pL6 (a b:List D91)(ha:len a<9223372036854775808)(hl:∀ n∈a,Lens n):uJ6 a b ():=
 tL4 (g:=vQ1 (b,(),a,len a,())) (next:=wX4 (b,(),a,len a,())) (c:=fun i=>!(f42 (nth a i Z91) (nth b i Z91))) (wF a) ha (fun _=>rfl) (fun _=>rfl) fun x _ _ hx h=>by
  have h:=hx (of_decide_eq_true h);exact⟨h.1,h.2.1,pK4 (hl _ (wM h.1)),fun _=>h.2.2⟩
theorem pV6 (a b:List D95)(ha:len a<9223372036854775808):f44 a b=eqC (len a) (len b) (neT T95 Z95 a b):=
 tL3 (g:=tA5 (a,b,len a,())) (next:=vQ0 (a,b,len a,())) (c:=neT T95 Z95 a b) (wF a) ha (fun _=>rfl) (fun _=>rfl)
theorem pL7 (a b:List D95)(ha:len a<9223372036854775808):sV6 a b:=
 tL4 (g:=tA5 (a,b,len a,())) (next:=vQ0 (a,b,len a,())) (c:=neT T95 Z95 a b) (wF a) ha (fun _=>rfl) (fun _=>rfl) fun x _ _ hx h=>by
  have h:=hx (of_decide_eq_true h);exact⟨h.1,h.2.1,fun _=>h.2.2⟩
theorem pL8 {a b:D98}(wa:Ty.wf T98 a):sV7 a b:=by
 obtain⟨_,_,_,_,⟨_,_,wa4,_⟩,_⟩:=wa;exact fun _=>fun _=>qC _ _ (wP2 wa4.1)
theorem pV7 (a b:List D98)(ha:len a<9223372036854775808):rY5 a b ()=eqC (len a) (len b) (fun i=>!(f46 (nth a i Z98) (nth b i Z98))):=
 tL3 (g:=vQ2 (b,(),a,len a,())) (next:=wX5 (b,(),a,len a,())) (c:=fun i=>!(f46 (nth a i Z98) (nth b i Z98))) (wF a) ha (fun _=>rfl) (fun _=>rfl)
theorem pL9 (a b:List D98)(wa:Ty.wf (.sl T98) a):uJ7 a b ():=
 tL4 (g:=vQ2 (b,(),a,len a,())) (next:=wX5 (b,(),a,len a,())) (c:=fun i=>!(f46 (nth a i Z98) (nth b i Z98))) (wF a) (wP2 wa.1) (fun _=>rfl) (fun _=>rfl) fun x _ _ hx h=>by
  have h:=hx (of_decide_eq_true h);exact⟨h.1,h.2.1,pL8 (wa.2 _ (wM h.1)),fun _=>h.2.2⟩
end Go.Proofs.YtofmmkikplmlpaaGreatDoor.Am
