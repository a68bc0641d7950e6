/- Trees in a list: what stands below a node stands directly behind it. Plain law. No condition. -/
namespace Go.Am
inductive Anc (I P:Nat→Int):Nat→Int→Prop
 |self (j:Nat):Anc I P j (I j)
 |up {j v u:Nat}:Anc I P j (I v)→v≤j→u<v→P v=I u→Anc I P j (I u)
inductive Und (I P:Nat→Int) (p:Int):Nat→Prop
 |top {j:Nat}:P j=p→Und I P p j
 |sub {u j:Nat}:Und I P p u→u<j→P j=I u→Und I P p j
inductive Dep (I P:Nat→Int):Nat→Int→Prop
 |top {j:Nat}:P j=0→Dep I P j 1
 |sub {u j:Nat}{d:Int}:Dep I P u d→u<j→P j=I u→Dep I P j (d+1)
structure Tree (I P:Nat→Int) (n:Nat):Prop where
 pos:∀ j,j<n→1≤I j
 inj:∀ i j,i<n→j<n→I i=I j→i=j
 par:∀ j,j<n→P j=0∨(0<j∧Anc I P (j-1) (P j))
variable {I P:Nat→Int}{n:Nat}
theorem sC9 {j:Nat}{q:Int}(h:Anc I P j q):∃ u,u≤j∧q=I u:=by
 cases h with
 |self=>exact⟨j,Nat.le_refl _,rfl⟩
 |up h1 h2 h3 h4=>exact⟨_,by omega,rfl⟩
theorem qL5 (t:Tree I P n){j:Nat}(hj:j<n)(h:P j≠0):∃ u,u<j∧P j=I u:=by
 rcases t.par j hj with h0|⟨h0,h1⟩
 ·exact absurd h0 h
 ·obtain⟨u,h2,h3⟩:=sC9 h1
  exact⟨u,by omega,h3⟩
theorem tV8 (t:Tree I P n){i:Nat}(hi:i<n):∀ {j:Nat},Und I P (I i) j→j<n→i<j:=by
 intro j h
 induction h with
 |@top j h =>
  intro hj
  have hp:P j≠0:=by have:=t.pos i hi;omega
  obtain⟨u,h1,h2⟩:=qL5 t hj hp
  have:=t.inj i u hi (by omega) (by omega)
  omega
 |sub _ h1 _ ih=>intro hj;have:=ih (by omega);omega
theorem pC4 (t:Tree I P n){i:Nat}(hi:i<n){j:Nat}(h:Und I P (I i) j)(hj:j<n)(hij:i+1<j):Und I P (I i) (j-1):=by
 let S:Int→Prop:=fun q=>q=I i∨∃ u,u<n∧Und I P (I i) u∧I u=q
 have hS:S (P j):=by
  cases h with
  |top h=>exact .inl h
  |@sub u j h1 h2 h3=>exact .inr ⟨u,by omega,h1,h3.symm⟩
 have hp:P j≠0:=by
  rcases hS with h0|⟨u,h0,_,h1⟩
  ·have:=t.pos i hi;omega
  ·have:=t.pos u h0;omega
 have hA:Anc I P (j-1) (P j):=by
  rcases t.par j hj with h0|h0
  ·exact absurd h0 hp
  ·exact h0.2
 have key:∀ q,Anc I P (j-1) q→S q→S (I (j-1)):=by
  intro q hq
  generalize hm:j-1=m at hq ⊢
  have hmn:m<n:=by omega
  induction hq with
  |self=>exact id
  |@up v u h1 h2 h3 h4 ih =>
   intro hs
   refine ih ?_
   rcases hs with h0|⟨w,h0,h5,h6⟩
   ·exact .inr ⟨v,by omega,.top (by rw[h4,h0]),rfl⟩
   ·have:=t.inj w u h0 (by omega) h6
    subst this
    exact .inr ⟨v,by omega,.sub h5 h3 h4,rfl⟩
 rcases key _ hA hS with h0|⟨u,h0,h5,h6⟩
 ·have:=t.inj (j-1) i (by omega) hi h0
  omega
 ·have:=t.inj u (j-1) h0 (by omega) h6
  subst this
  exact h5
theorem qL6 (t:Tree I P n){i:Nat}(hi:i<n):∃ c,i+1+c≤n∧∀ j,j<n→(Und I P (I i) j↔i<j∧j<i+1+c):=by
 have key:∀ k,i+1+k≤n→∃ c,c≤k∧∀ j,j<i+1+k→(Und I P (I i) j↔i<j∧j<i+1+c):=by
  intro k
  induction k with
  |zero =>
   intro _
   exact⟨0,Nat.le_refl _,fun j hj=>⟨fun h=>by have:=tV8 t hi h (by omega);omega,fun h=>by omega⟩⟩
  |succ k ih =>
   intro hk
   obtain⟨c,hc,h⟩:=ih (by omega)
   by_cases hu:Und I P (I i) (i+1+k)
   ·have hck:c=k:=by
     by_cases h0:k=0
     ·omega
     ·have:=(h (i+1+k-1) (by omega)).1 (pC4 t hi hu (by omega) (by omega))
      omega
    subst hck
    refine⟨c+1,Nat.le_refl _,fun j hj=>?_⟩
    by_cases he:j=i+1+c
    ·subst he;exact⟨fun _=>by omega,fun _=>hu⟩
    ·rw[h j (by omega)];omega
   ·refine⟨c,by omega,fun j hj=>?_⟩
    by_cases he:j=i+1+k
    ·subst he;exact⟨fun q=>absurd q hu,fun q=>by omega⟩
    ·rw[h j (by omega)]
 obtain⟨c,hc,h⟩:=key (n-(i+1)) (by omega)
 exact⟨c,by omega,fun j hj=>h j (by omega)⟩
open Classical in
noncomputable def undL (I P:Nat→Int)(n:Nat)(p:Int):List Nat:=(List.range n).filter fun j=>decide (Und I P p j)
open Classical in
theorem sP7 (k:Nat)(p:Int):undL I P (k+1) p=undL I P k p++(if Und I P p k then [k] else []):=by
 unfold undL
 rw[List.range_succ,List.filter_append]
 congr 1
 by_cases h:Und I P p k<;>simp[h]
open Classical in
theorem rT (t:Tree I P n){i:Nat}(hi:i<n):∃ c,i+1+c≤n∧undL I P n (I i)=List.range' (i+1) c∧∀ j,j<n→(Und I P (I i) j↔i<j∧j<i+1+c):=by
 obtain⟨c,hc,h⟩:=qL6 t hi
 refine⟨c,hc,?_,h⟩
 have e:List.range n=List.range' 0 (i+1)++(List.range' (i+1) c++List.range' (i+1+c) (n-(i+1+c))):=by
  rw[List.range_eq_range',List.range'_append_1,show i+1+c=(i+1)+c from rfl]
  have:=List.range'_append_1 (s:=0) (m:=i+1) (n:=c+(n-(i+1+c)))
  rw[Nat.zero_add] at this
  rw[this]
  congr 1;omega
 unfold undL
 rw[e,List.filter_append,List.filter_append]
 have e1:(List.range' 0 (i+1)).filter (fun j=>decide (Und I P (I i) j))=[]:=by
  rw[List.filter_eq_nil_iff]
  intro j hj hd
  have hj':=List.mem_range'_1.1 hj
  have:=(h j (by omega)).1 (of_decide_eq_true hd)
  omega
 have e2:(List.range' (i+1) c).filter (fun j=>decide (Und I P (I i) j))=List.range' (i+1) c:=by
  rw[List.filter_eq_self]
  intro j hj
  have hj':=List.mem_range'_1.1 hj
  exact decide_eq_true ((h j (by omega)).2 (by omega))
 have e3:(List.range' (i+1+c) (n-(i+1+c))).filter (fun j=>decide (Und I P (I i) j))=[]:=by
  rw[List.filter_eq_nil_iff]
  intro j hj hd
  have hj':=List.mem_range'_1.1 hj
  have:=(h j (by omega)).1 (of_decide_eq_true hd)
  omega
 rw[e1,e2,e3,List.nil_append,List.append_nil]
end Go.Am
namespace Go.Am
theorem sZ9 {n f:Nat}(p:Nat→Bool)(h:∀ j,j<n→p j=true→f<j)(hf:f<n):((List.range n).filter p).length+f+1≤n:=by
 have e:List.range n=List.range' 0 (f+1)++List.range' (f+1) (n-(f+1)):=by
  rw[List.range_eq_range']
  have:=List.range'_append_1 (s:=0) (m:=f+1) (n:=n-(f+1))
  rw[Nat.zero_add] at this
  rw[this]
  congr 1;omega
 rw[e,List.filter_append]
 have e1:(List.range' 0 (f+1)).filter p=[]:=by
  rw[List.filter_eq_nil_iff]
  intro j hj hd
  have hj':=List.mem_range'_1.1 hj
  have:=h j (by omega) hd
  omega
 rw[e1,List.nil_append]
 have:=List.length_filter_le p (List.range' (f+1) (n-(f+1)))
 rw[List.length_range'] at this
 omega
structure Fo (I P:Nat→Int) (n:Nat):Prop where
 pos:∀ j,j<n→1≤I j
 inj:∀ u v,u<n→v<n→I u=I v→u=v
 par:∀ j,j<n→P j=0∨∃ v,v<j∧P j=I v
variable {I P:Nat→Int}{n i c:Nat}
theorem sD (t:Tree I P n):Fo I P n:=⟨t.pos,t.inj,fun j hj=>by
 by_cases h:P j=0
 ·exact .inl h
 ·exact .inr (qL5 t hj h)⟩
theorem oR1 (t:Fo I P n){f:Nat}(hf:f<n):∀ {j:Nat},Und I P (I f) j→j<n→f<j:=by
 intro j h
 induction h with
 |@top j h =>
  intro hj
  rcases t.par j hj with h0|⟨u,h1,h2⟩
  ·have:=t.pos f hf;omega
  ·have:=t.inj f u hf (by omega) (by omega)
   omega
 |sub _ h1 _ ih=>intro hj;have:=ih (by omega);omega
def past (i m j:Nat):Nat:=if j<i then j else j+m
theorem rA {i m u j:Nat}(h:u<j):past i m u<past i m j:=by unfold past;split<;>split<;>omega
theorem pC5 {i m j:Nat}:past i m j<i∨i+m≤past i m j:=by unfold past;split<;>omega
theorem qL7 {i m k:Nat}(h:k<i∨i+m≤k):∃ j,past i m j=k∧j≤k:=by
 rcases h with h|h
 ·exact⟨k,by unfold past;rw[if_pos h],Nat.le_refl _⟩
 ·exact⟨k-m,by unfold past;rw[if_neg (by omega)];omega,by omega⟩
theorem pC6 {i m u v:Nat}(h:past i m u=past i m v):u=v:=by
 rcases Nat.lt_trichotomy u v with q|q|q
 ·have:=rA (i:=i) (m:=m) q;omega
 ·exact q
 ·have:=rA (i:=i) (m:=m) q;omega
structure Blk (I P:Nat→Int) (n i c:Nat):Prop where
 tree:Tree I P n
 le:i+1+c≤n
 und:∀ j,j<n→(Und I P (I i) j↔i<j∧j<i+1+c)
theorem rA0 (b:Blk I P n i c){k u:Nat}(hk:k<n)(ho:k<i∨i+(1+c)≤k)(hu:u<k)(h:P k=I u):u<i∨i+(1+c)≤u:=by
 by_cases h1:u<i
 ·exact .inl h1
 ·right
  refine Nat.le_of_not_lt fun h2=>?_
  have hu':Und I P (I i) k:=by
   by_cases e:u=i
   ·subst e;exact .top h
   ·exact .sub ((b.und u (by omega)).2 (by omega)) hu h
  have:=(b.und k hk).1 hu'
  omega
theorem oP5 (b:Blk I P n i c){I' P':Nat→Int}(h:∀ j,j<n-(1+c)→I' j=I (past i (1+c) j)∧P' j=P (past i (1+c) j)):Fo I' P' (n-(1+c)):=by
 have hle:=b.le
 have lt:∀ j,j<n-(1+c)→past i (1+c) j<n:=fun j hj=>by unfold past;split<;>omega
 refine⟨fun j hj=>?_,fun u v hu hv e=>?_,fun j hj=>?_⟩
 ·rw[(h j hj).1];exact b.tree.pos _ (lt j hj)
 ·rw[(h u hu).1,(h v hv).1] at e
  exact pC6 (b.tree.inj _ _ (lt u hu) (lt v hv) e)
 ·rw[(h j hj).2]
  rcases (sD b.tree).par _ (lt j hj) with h0|⟨u,hu,e⟩
  ·exact .inl h0
  ·right
   obtain⟨v,hv,_⟩:=qL7 (rA0 b (lt j hj) pC5 hu e)
   have hvj:v<j:=by
    refine Nat.lt_of_not_le fun q=>?_
    rcases Nat.lt_or_eq_of_le q with q|q
    ·have:=rA (i:=i) (m:=1+c) q;omega
    ·subst q;omega
   exact⟨v,hvj,by rw[(h v (by omega)).1,hv];exact e⟩
theorem oG2 (b:Blk I P n i c){w:Nat}(hw:i≤w∧w<i+1+c){t:Int}(h:Anc I P w t):(∃ u,i≤u∧u<i+1+c∧t=I u)∨∃ f,f<i∧P i=I f∧Anc I P f t:=by
 have hle:=b.le
 induction h with
 |self=>exact .inl ⟨w,hw.1,hw.2,rfl⟩
 |@up v u h1 h2 h3 h4 ih =>
  rcases ih with ⟨x,x1,x2,x3⟩ | ⟨f,f1,f2,f3⟩
  ·have hv:v=x:=b.tree.inj v x (by omega) (by omega) x3
   subst hv
   by_cases e:v=i
   ·subst e
    exact .inr ⟨u,h3,h4,.self u⟩
   ·left
    have hV:=(b.und v (by omega)).2 (by omega)
    cases hV with
    |top q =>
     have:=b.tree.inj u i (by omega) (by omega) (by omega)
     exact⟨u,by omega,by omega,rfl⟩
    |@sub y _ q1 q2 q3 =>
     have hy:=(b.und y (by omega)).1 q1
     have:=b.tree.inj u y (by omega) (by omega) (by omega)
     exact⟨u,by omega,by omega,rfl⟩
  ·obtain⟨y,y1,y2⟩:=sC9 f3
   have:=b.tree.inj v y (by omega) (by omega) y2
   subst this
   exact .inr ⟨f,f1,f2,.up f3 y1 h3 h4⟩
theorem oP6 (b:Blk I P n i c){j:Nat}(hj:i<j∧j<i+1+c):P j≠P i:=by
 have hle:=b.le
 intro e
 have hV:=(b.und j (by omega)).2 hj
 have hi:P i=0∨∃ f,f<i∧P i=I f:=(sD b.tree).par i (by omega)
 have key:∀ u,i≤u→u<n→P j=I u→False:=fun u h1 h2 h3=>by
  rcases hi with h|⟨f,f1,f2⟩
  ·have:=b.tree.pos u h2;omega
  ·have:=b.tree.inj f u (by omega) h2 (by omega)
   omega
 cases hV with
 |top q=>exact key i (Nat.le_refl _) (by omega) q
 |@sub y _ q1 q2 q3 =>
  have:=tV8 b.tree (by omega) q1 (by omega)
  exact key y (by omega) (by omega) q3
end Go.Am
