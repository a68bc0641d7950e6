/- What document.checkNodes finds: it is zA4 if and only if the nodes are a tree in a list, each node in order. Condition: at most 64 nodes. -/
import Derived.Test.YtpanghcojpnkaaaGreatDoorDocE
import Derived.Test.YtpanghcojpnkaaaGreatDoorDocTr
namespace Go.Proofs.YtpanghcojpnkaaaGreatDoor.Am
open Go Go.Am
def idL (l:List D49)(j:Nat):Int:=(nth l (j:Int) Z49).1
def paL (l:List D49)(j:Nat):Int:=(nth l (j:Int) Z49).2.2.1
def kdL (l:List D49)(j:Nat):Int:=(nth l (j:Int) Z49).2.1
def MapI (l:List D49)(i:Nat)(m:IMap):Prop:=∀ (k v:Int),mf k m=some v↔∃ u:Nat,u<i∧v=(u:Int)∧idL l u=k
structure Fore (l:List D49) (i:Nat):Prop where
 pos:∀ j,j<i→1≤idL l j
 inj:∀ u v,u<i→v<i→idL l u=idL l v→u=v
 par:∀ j,j<i→paL l j=0∨∃ v,v<j∧paL l j=idL l v
inductive Rch (I P:Nat→Int) (i:Nat) (t:Int):Int→Prop
 |here:Rch I P i t t
 |step {v:Nat}:v<i→Rch I P i t (P v)→Rch I P i t (I v)
theorem oF8 {I P:Nat→Int}{i j:Nat}{t q:Int}(h:Anc I P j q)(hj:j<i)(hr:Rch I P i t q):Rch I P i t (I j):=by
 induction h with
 |self=>exact hr
 |up h1 h2 h3 h4 ih=>exact ih (.step (by omega) (by rw[h4];exact hr))
theorem pC0 {l:List D49}{i:Nat}(h:Fore l i):∀ {j:Nat}{d:Int},Dep (idL l) (paL l) j d→j<i→∀ {d':Int},Dep (idL l) (paL l) j d'→d=d':=by
 intro j d hd
 induction hd with
 |@top j h1 =>
  intro hj d' hd'
  cases hd' with
  |top=>rfl
  |@sub u _ _ h2 h3 h4=>have:=h.pos u (by omega);omega
 |@sub u j d h1 h2 h3 ih =>
  intro hj d' hd'
  cases hd' with
  |top h4=>have:=h.pos u (by omega);omega
  |@sub u' _ e h4 h5 h6 =>
   have:=h.inj u u' (by omega) (by omega) (by rw[← h3,h6])
   subst this
   rw[ih (by omega) h4]
theorem qL4 (p:D28)(m:IMap)(i:Nat)(h0:0<i)(hn:i≤64)(hM:MapI p.2.2.2.1 i m)(hF:Fore p.2.2.2.1 i)(hp:paL p.2.2.2.1 i≠0) :
  tI1 p m (i:Int)=true↔Anc (idL p.2.2.2.1) (paL p.2.2.2.1) (i-1) (paL p.2.2.2.1 i):=by
 have e0:((i:Int)-1)=((i-1:Nat):Int):=by omega
 have ls:=xQ0 (g:=wI2 (m,(i:Int),p,())) (next:=wB2 (m,(i:Int),p,()))
  (fun x=>(x.1=0∨Anc (idL p.2.2.2.1) (paL p.2.2.2.1) (i-1) x.1)∧(Anc (idL p.2.2.2.1) (paL p.2.2.2.1) (i-1) (paL p.2.2.2.1 i)→Rch (idL p.2.2.2.1) (paL p.2.2.2.1) i (paL p.2.2.2.1 i) x.1))
  (fun x=>if x.1=0 then 0 else ((mf x.1 m).getD 0).toNat+1) (fun x hx hg=>?_) (x:=((nth p.2.2.2.1 ((i:Int)-1) Z49).1,()))
  ⟨.inr (by rw[e0];exact .self (i-1)),fun h=>by rw[e0];exact oF8 h (by omega) .here⟩ ?_
 ·obtain⟨⟨h1,h2⟩,h3⟩:=ls
  show (bif wU2 (m,(i:Int),p,()) (zC3 (wI2 (m,(i:Int),p,())) (wB2 (m,(i:Int),p,())) ((nth p.2.2.2.1 ((i:Int)-1) Z49).1,())) then true else false)=true↔_
  generalize zC3 (wI2 (m,(i:Int),p,())) (wB2 (m,(i:Int),p,())) ((nth p.2.2.2.1 ((i:Int)-1) Z49).1,())=z at h1 h2 h3
  have h3':((z.1 !=0)&&(!(z.1==paL p.2.2.2.1 i)))=false:=h3
  have he:wU2 (m,(i:Int),p,()) z=((z.1 !=0)&&(z.1==paL p.2.2.2.1 i)):=rfl
  rw[he]
  constructor
  ·intro h
   have h4:((z.1 !=0)&&(z.1==paL p.2.2.2.1 i))=true:=by
    cases hc:((z.1 !=0)&&(z.1==paL p.2.2.2.1 i)) with
    |true=>rfl
    |false=>rw[hc] at h;cases h
   simp only[jB,beq_iff_eq,bne_iff_ne] at h4
   rcases h1 with h1|h1
   ·exact absurd h1 h4.1
   ·rw[← h4.2];exact h1
  ·intro h
   have hz:z.1≠0:=by
    intro hz
    have:=h2 h
    rw[hz] at this
    generalize hq:(0:Int)=q at this
    cases this with
    |here=>exact hp hq.symm
    |@step v hv _=>have:=hF.pos v hv;omega
   have h4:(z.1 !=0)=true:=by simpa using hz
   rw[h4] at h3' ⊢
   have h5:(z.1==paL p.2.2.2.1 i)=true:=by simpa using h3'
   rw[h5];rfl
 ·have hg':((x.1 !=0)&&(!(x.1==paL p.2.2.2.1 i)))=true:=hg
  simp only[jB,bne_iff_ne,jK,beq_eq_false_iff_ne] at hg'
  obtain⟨g1,g2⟩:=hg'
  obtain⟨x1,⟨⟩⟩:=x
  simp only at g1 g2 hx
  obtain⟨hx1,hx2⟩:=hx
  have hA:Anc (idL p.2.2.2.1) (paL p.2.2.2.1) (i-1) x1:=by
   rcases hx1 with h|h
   ·exact absurd h g1
   ·exact h
  obtain⟨u,hu,hxu⟩:=sC9 hA
  subst hxu
  have hmf:mf (idL p.2.2.2.1 u) m=some (u:Int):=(hM _ _).2 ⟨u,by omega,rfl,rfl⟩
  have en:wB2 (m,(i:Int),p,()) (idL p.2.2.2.1 u,())=(paL p.2.2.2.1 u,()):=by
   show ((nth p.2.2.2.1 ((mf (idL p.2.2.2.1 u) m).getD 0) Z49).2.2.1,())=_
   rw[hmf];rfl
  rw[en]
  refine⟨⟨?_,fun h=>?_⟩,?_⟩
  ·rcases hF.par u (by omega) with h|⟨v,hv,h⟩
   ·exact .inl h
   ·exact .inr (by show Anc _ _ _ (paL p.2.2.2.1 u);rw[h];exact .up hA hu hv h)
  ·have:=hx2 h
   show Rch _ _ _ _ (paL p.2.2.2.1 u)
   generalize hq:idL p.2.2.2.1 u=q at this
   cases this with
   |here=>exact absurd hq g2
   |@step v hv hr =>
    have:=hF.inj u v (by omega) hv hq
    subst this
    exact hr
  ·rcases hF.par u (by omega) with h|⟨v,hv,h⟩
   ·show (if paL p.2.2.2.1 u=0 then 0 else _)<(if idL p.2.2.2.1 u=0 then 0 else _)
    rw[if_pos h,if_neg g1];omega
   ·have hmv:mf (paL p.2.2.2.1 u) m=some (v:Int):=(hM _ _).2 ⟨v,by omega,rfl,h.symm⟩
    have h0:paL p.2.2.2.1 u≠0:=by rw[h];have:=hF.pos v (by omega);omega
    show (if paL p.2.2.2.1 u=0 then 0 else ((mf (paL p.2.2.2.1 u) m).getD 0).toNat+1)<(if idL p.2.2.2.1 u=0 then 0 else ((mf (idL p.2.2.2.1 u) m).getD 0).toNat+1)
    rw[if_neg h0,if_neg g1,hmf,hmv]
    simp only[Option.getD_some];omega
 ·have hmf:mf (idL p.2.2.2.1 (i-1)) m=some ((i-1:Nat):Int):=(hM _ _).2 ⟨i-1,by omega,rfl,rfl⟩
  rw[e0]
  unfold zI1
  show (if idL p.2.2.2.1 (i-1)=0 then 0 else ((mf (idL p.2.2.2.1 (i-1)) m).getD 0).toNat+1)<_
  split
  ·omega
  ·rw[hmf];simp only[Option.getD_some];omega
structure NAt (p:D28) (j:Nat):Prop where
 chk:f52 (nth p.2.2.2.1 (j:Int) Z49) p.1 p.2.1=0
 pos:1≤idL p.2.2.2.1 j
 lt:idL p.2.2.2.1 j<p.2.2.2.2.1
 new:∀ k,k<j→idL p.2.2.2.1 k≠idL p.2.2.2.1 j
 par:paL p.2.2.2.1 j=0∨(∃ v,v<j∧paL p.2.2.2.1 j=idL p.2.2.2.1 v∧kdL p.2.2.2.1 v=1)∧Anc (idL p.2.2.2.1) (paL p.2.2.2.1) (j-1) (paL p.2.2.2.1 j)
 dep:∃ d,d≤8∧Dep (idL p.2.2.2.1) (paL p.2.2.2.1) j d
theorem sC8 {p:D28}{i:Nat}(h:∀ j,j<i→NAt p j):Fore p.2.2.2.1 i where
 pos j hj:=(h j hj).pos
 inj u v hu hv e:=by
  rcases Nat.lt_trichotomy u v with q|q|q
  ·exact absurd e ((h v hv).new u q)
  ·exact q
  ·exact absurd e.symm ((h u hu).new v q)
 par j hj:=by
  rcases (h j hj).par with q|⟨⟨v,hv,q,_⟩,_⟩
  ·exact .inl q
  ·exact .inr ⟨v,hv,q⟩
theorem pC1 {l:List D49}{m:IMap}{i:Nat}(hM:MapI l i m)(k:Int):Option.isSome (mf k m)=false↔∀ u,u<i→idL l u≠k:=by
 constructor
 ·intro h u hu e
  rw[(hM k u).2 ⟨u,hu,rfl,e⟩] at h
  cases h
 ·intro h
  cases hc:mf k m with
  |none=>rfl
  |some v =>
   obtain⟨u,hu,_,e⟩:=(hM k v).1 hc
   exact absurd e (h u hu)
theorem vX3 {l:List Int}{i j:Nat}{v:Int}(h:i≠j):nth (List.set l i v) (j:Int) 0=nth l (j:Int) 0:=by
 show (List.set l i v).getD (j:Int).toNat 0=l.getD (j:Int).toNat 0
 rw[Int.toNat_natCast,jM,jM,List.getElem?_set_ne h]
theorem pC2 (p:D28)(m:IMap)(d:List Int)(i:Int):wJ4 (p,p.2.2.2.1,len p.2.2.2.1,()) (m,d,i,()) =
  (decide (i<len p.2.2.2.1)&&((!(f52 (nth p.2.2.2.1 i Z49) p.1 p.2.1 !=0))&&((!(bif (decide ((nth p.2.2.2.1 i Z49).1<1)) then true else (decide ((nth p.2.2.2.1 i Z49).1≥p.2.2.2.2.1))))&&((!(Option.isSome (mf (nth p.2.2.2.1 i Z49).1 m))) &&
   ((bif ((nth p.2.2.2.1 i Z49).2.2.1 !=0) then ((!(bif (!(Option.isSome (mf (nth p.2.2.2.1 i Z49).2.2.1 m))) then true else ((nth p.2.2.2.1 (Option.getD (mf (nth p.2.2.2.1 i Z49).2.2.1 m) 0) Z49).2.1 !=1)))&&(!(!(tI1 p m i)))) else true)&&(!(decide (nth (xZ4 (p,p.2.2.2.1,len p.2.2.2.1,()) (m,d,i,())).2.1 i 0>8)))))))):=rfl
theorem oP1 {l:List D49}{m:IMap}{i:Nat}(hM:MapI l i m)(q:Int):(bif (!(Option.isSome (mf q m))) then true else ((nth l (Option.getD (mf q m) 0) Z49).2.1 !=1))=false↔∃ v,v<i∧q=idL l v∧kdL l v=1:=by
 cases hc:mf q m with
 |none =>
  refine⟨fun h=>Bool.noConfusion h,fun ⟨v,hv,e,_⟩=>?_⟩
  rw[(hM q v).2 ⟨v,hv,rfl,e.symm⟩] at hc
  cases hc
 |some w =>
  obtain⟨u,hu,hw,e⟩:=(hM q w).1 hc
  subst hw
  simp only[Option.isSome_some,Bool.not_true,jD,Option.getD_some]
  constructor
  ·intro h
   exact⟨u,hu,e.symm,by simpa[kdL] using h⟩
  ·rintro⟨v,hv,e2,hk⟩
   have:=(hM q v).2 ⟨v,hv,rfl,e2.symm⟩
   rw[hc] at this
   injection this with this
   rw[this]
   simpa[kdL] using hk
theorem sP5 (p:D28)(m:IMap)(d:List Int)(i:Nat)(hi:(i:Int)<len p.2.2.2.1)(hn:len p.2.2.2.1≤64)(hd:len d=len p.2.2.2.1)(hN:∀ j,j<i→NAt p j)(hM:MapI p.2.2.2.1 i m)
  (hD:∀ j,j<i→Dep (idL p.2.2.2.1) (paL p.2.2.2.1) j (nth d (j:Int) 0)) :
  (wJ4 (p,p.2.2.2.1,len p.2.2.2.1,()) (m,d,(i:Int),())=true↔NAt p i)∧(NAt p i→Dep (idL p.2.2.2.1) (paL p.2.2.2.1) i (nth (xZ4 (p,p.2.2.2.1,len p.2.2.2.1,()) (m,d,(i:Int),())).2.1 (i:Int) 0)):=by
 have hF:=sC8 hN
 have hib:InB (i:Int) (len d):=by rw[hd];exact⟨by omega,hi⟩
 have hib1:InB (i:Int) (len (List.set d (Int.toNat (i:Int)) (1:Int))):=by rw[wC0];exact hib
 have hdec:decide ((i:Int)<len p.2.2.2.1)=true:=decide_eq_true hi
 have hsome:=pC1 hM (idL p.2.2.2.1 i)
 have hpar:=oP1 hM (paL p.2.2.2.1 i)
 have hdep:Dep (idL p.2.2.2.1) (paL p.2.2.2.1) i (nth (xZ4 (p,p.2.2.2.1,len p.2.2.2.1,()) (m,d,(i:Int),())).2.1 (i:Int) 0)∨¬ (paL p.2.2.2.1 i=0∨∃ v,v<i∧paL p.2.2.2.1 i=idL p.2.2.2.1 v∧kdL p.2.2.2.1 v=1):=by
  rw[wM6]
  simp only
  by_cases h0:paL p.2.2.2.1 i=0
  ·left
   have h57:((nth p.2.2.2.1 (i:Int) Z49).2.2.1 !=0)=false:=by simpa[paL] using h0
   rw[h57,jD,vS5 hib]
   exact .top h0
  ·have h57:((nth p.2.2.2.1 (i:Int) Z49).2.2.1 !=0)=true:=by simpa[paL] using h0
   by_cases hv:∃ v,v<i∧paL p.2.2.2.1 i=idL p.2.2.2.1 v∧kdL p.2.2.2.1 v=1
   ·left
    obtain⟨v,hv,e,_⟩:=hv
    have hm:mf (nth p.2.2.2.1 (i:Int) Z49).2.2.1 m=some (v:Int):=(hM _ _).2 ⟨v,hv,rfl,e.symm⟩
    have eg:Option.getD (yI5 (.int .i64) (.int .i64) (nth p.2.2.2.1 (i:Int) Z49).2.2.1 m) (0:Int)=(v:Int):=by
     show Option.getD (mf (nth p.2.2.2.1 (i:Int) Z49).2.2.1 m) 0=_
     rw[hm];rfl
    rw[h57,jE,vS5 hib1,eg,Int.toNat_natCast,vX3 (by omega)]
    exact .sub (hD v hv) hv e
   ·right
    rintro (h|h)
    ·exact h0 h
    ·exact hv h
 have hdep':NAt p i→Dep (idL p.2.2.2.1) (paL p.2.2.2.1) i (nth (xZ4 (p,p.2.2.2.1,len p.2.2.2.1,()) (m,d,(i:Int),())).2.1 (i:Int) 0):=fun hA=>by
  rcases hdep with h|h
  ·exact h
  ·rcases hA.par with q|⟨q,_⟩
   ·exact absurd (.inl q) h
   ·exact absurd (.inr q) h
 refine⟨?_,hdep'⟩
 rw[pC2]
 generalize hD2:nth (xZ4 (p,p.2.2.2.1,len p.2.2.2.1,()) (m,d,(i:Int),())).2.1 (i:Int) 0=dv at hdep hdep'
 rw[hdec]
 have hbase:(f52 (nth p.2.2.2.1 (i:Int) Z49) p.1 p.2.1 !=0)=false↔f52 (nth p.2.2.2.1 (i:Int) Z49) p.1 p.2.1=0:=by simp
 have hrng:(bif (decide ((nth p.2.2.2.1 (i:Int) Z49).1<1)) then true else (decide ((nth p.2.2.2.1 (i:Int) Z49).1≥p.2.2.2.2.1)))=false↔(1≤idL p.2.2.2.1 i∧idL p.2.2.2.1 i<p.2.2.2.2.1):=by
  simp only[Bool.cond_true_left,jJ,decide_eq_false_iff_not,idL]
  omega
 simp only[Bool.true_and,jB,jK,hbase,hrng]
 have hsome':Option.isSome (mf (nth p.2.2.2.1 (i:Int) Z49).1 m)=false↔∀ u,u<i→idL p.2.2.2.1 u≠idL p.2.2.2.1 i:=hsome
 rw[hsome']
 by_cases h0:paL p.2.2.2.1 i=0
 ·have h57:((nth p.2.2.2.1 (i:Int) Z49).2.2.1 !=0)=false:=by simpa[paL] using h0
  have hdv:Dep (idL p.2.2.2.1) (paL p.2.2.2.1) i dv:=by
   rcases hdep with h|h
   ·exact h
   ·exact absurd (.inl h0) h
  have hdv1:dv=1:=by
   cases hdv with
   |top=>rfl
   |@sub u _ _ _ h2 h3=>have:=hF.pos u h2;omega
  rw[h57]
  simp only[jD,true_and,decide_eq_false_iff_not]
  constructor
  ·rintro⟨q1,⟨q2,q3⟩,q4,q5⟩
   exact⟨q1,q2,q3,q4,.inl h0,⟨dv,by omega,hdv⟩⟩
  ·intro h
   exact⟨h.chk,⟨h.pos,h.lt⟩,h.new,by omega⟩
 ·have h57:((nth p.2.2.2.1 (i:Int) Z49).2.2.1 !=0)=true:=by simpa[paL] using h0
  rw[h57]
  simp only[jE,Bool.not_not,jB,jK,decide_eq_false_iff_not]
  have hpar':(bif (!(Option.isSome (mf (nth p.2.2.2.1 (i:Int) Z49).2.2.1 m))) then true else ((nth p.2.2.2.1 (Option.getD (mf (nth p.2.2.2.1 (i:Int) Z49).2.2.1 m) 0) Z49).2.1 !=1))=false↔_:=hpar
  rw[hpar']
  constructor
  ·rintro⟨q1,⟨q2,q3⟩,q4,⟨q5,q6⟩,q7⟩
   obtain⟨v,hv,e,hk⟩:=q5
   have hfol:=(qL4 p m i (by omega) (by omega) hM hF h0).1 q6
   have hdv:Dep (idL p.2.2.2.1) (paL p.2.2.2.1) i dv:=by
    rcases hdep with h|h
    ·exact h
    ·exact absurd (.inr ⟨v,hv,e,hk⟩) h
   exact⟨q1,q2,q3,q4,.inr ⟨⟨v,hv,e,hk⟩,hfol⟩,⟨dv,by omega,hdv⟩⟩
  ·intro h
   rcases h.par with q|⟨q5,q6⟩
   ·exact absurd q h0
   ·have q5c:=q5
    obtain⟨v,hv,_⟩:=q5c
    refine⟨h.chk,⟨h.pos,h.lt⟩,h.new,⟨q5,(qL4 p m i (by omega) (by omega) hM hF h0).2 q6⟩,?_⟩
    obtain⟨d',hd',hdd⟩:=h.dep
    have hF1:Fore p.2.2.2.1 (i+1):=sC8 fun j hj=>by
     by_cases e:j=i
     ·subst e;exact h
     ·exact hN j (by omega)
    have:=pC0 hF1 (hdep' h) (by omega) hdd
    omega
def nodI (p:D28)(x:wL9):Prop:=∃ i:Nat,x.2.2.1=(i:Int)∧(i:Int)≤len p.2.2.2.1∧len x.2.1=len p.2.2.2.1∧(∀ j,j<i→NAt p j)∧MapI p.2.2.2.1 i x.1∧∀ j,j<i→Dep (idL p.2.2.2.1) (paL p.2.2.2.1) j (nth x.2.1 (j:Int) 0)
theorem uN0 (p:D28)(hn:len p.2.2.2.1≤64):f24 p=0↔∀ j:Nat,(j:Int)<len p.2.2.2.1→NAt p j:=by
 have h0n:=xT7 p.2.2.2.1
 have w:=xQ0 (g:=wJ4 (p,p.2.2.2.1,len p.2.2.2.1,())) (next:=xZ4 (p,p.2.2.2.1,len p.2.2.2.1,())) (nodI p) (fun x=>(len p.2.2.2.1-x.2.2.1).toNat) (fun x hx hg=>?_) (x:=(([]:IMap),(List.replicate (Int.toNat (len p.2.2.2.1)) (0:Int)),(0:Int),()))
  ⟨0,rfl,by omega,by simp only[len,List.length_replicate];omega,fun j hj=>by omega,fun k v=>⟨fun h=>by exact absurd (show (none:Option Int)=some v from h) (by simp),fun ⟨u,hu,_⟩=>by omega⟩,fun j hj=>by omega⟩ (by unfold zI1;simp only;omega)
 ·show (bif vA2 (p,p.2.2.2.1,len p.2.2.2.1,()) (zC3 (wJ4 (p,p.2.2.2.1,len p.2.2.2.1,())) (xZ4 (p,p.2.2.2.1,len p.2.2.2.1,())) (([]:IMap),(List.replicate (Int.toNat (len p.2.2.2.1)) (0:Int)),(0:Int),())) then vL2 (p,p.2.2.2.1,len p.2.2.2.1,()) (zC3 (wJ4 (p,p.2.2.2.1,len p.2.2.2.1,())) (xZ4 (p,p.2.2.2.1,len p.2.2.2.1,())) (([]:IMap),(List.replicate (Int.toNat (len p.2.2.2.1)) (0:Int)),(0:Int),())) else (0:Int))=0↔_
  generalize zC3 (wJ4 (p,p.2.2.2.1,len p.2.2.2.1,())) (xZ4 (p,p.2.2.2.1,len p.2.2.2.1,())) (([]:IMap),(List.replicate (Int.toNat (len p.2.2.2.1)) (0:Int)),(0:Int),())=z at w
  obtain⟨⟨i,hi0,hi1,hd,hN,hM,hD⟩,hgz⟩:=w
  obtain⟨m,d,i',⟨⟩⟩:=z
  simp only at hi0 hd hM hD
  subst hi0
  by_cases hlt:(i:Int)<len p.2.2.2.1
  ·have hno:¬ NAt p i:=fun h=>by
    rw[(sP5 p m d i hlt hn hd hN hM hD).1.2 h] at hgz;cases hgz
   have he:vA2 (p,p.2.2.2.1,len p.2.2.2.1,()) (m,d,(i:Int),())=true:=by
    have hdec:decide ((i:Int)<len p.2.2.2.1)=true:=decide_eq_true hlt
    revert hgz
    simp only[wJ4,vA2,vL1,hdec,Bool.true_and]
    generalize (f52 (nth p.2.2.2.1 (i:Int) Z49) p.1 p.2.1 !=0)=b1
    generalize (bif decide ((nth p.2.2.2.1 (i:Int) Z49).1<1) then true else _)=b2
    generalize Option.isSome (yI5 (.int .i64) (.int .i64) (nth p.2.2.2.1 (i:Int) Z49).1 m)=b3
    generalize (bif (!(Option.isSome (yI5 (.int .i64) (.int .i64) (nth p.2.2.2.1 (i:Int) Z49).2.2.1 m))) then true else _)=b4
    generalize (!(tI1 p m (i:Int)))=b5
    generalize ((nth p.2.2.2.1 (i:Int) Z49).2.2.1 !=0)=b6
    generalize decide (_>(8:Int))=b7
    cases b1<;>cases b2<;>cases b3<;>cases b4<;>cases b5<;>cases b6<;>cases b7<;>simp
   rw[he,jE]
   refine⟨fun h=>?_,fun h=>absurd (h i hlt) hno⟩
   exfalso
   revert h
   simp only[vL2]
   generalize hb1:f52 (nth p.2.2.2.1 (i:Int) Z49) p.1 p.2.1=b1
   generalize (bif decide ((nth p.2.2.2.1 (i:Int) Z49).1<1) then true else _)=b2
   generalize Option.isSome (yI5 (.int .i64) (.int .i64) (nth p.2.2.2.1 (i:Int) Z49).1 m)=b3
   generalize (bif (!(Option.isSome (yI5 (.int .i64) (.int .i64) (nth p.2.2.2.1 (i:Int) Z49).2.2.1 m))) then true else _)=b4
   generalize (!(tI1 p m (i:Int)))=b5
   generalize ((nth p.2.2.2.1 (i:Int) Z49).2.2.1 !=0)=b6
   by_cases hz:b1=0
   ·subst hz
    cases b2<;>cases b3<;>cases b4<;>cases b5<;>cases b6<;>decide
   ·have:(b1 !=0)=true:=by simpa using hz
    rw[this,jE];exact hz
  ·have hei:(i:Int)=len p.2.2.2.1:=by omega
   have he:vA2 (p,p.2.2.2.1,len p.2.2.2.1,()) (m,d,(i:Int),())=false:=by
    have hdec:decide ((i:Int)<len p.2.2.2.1)=false:=decide_eq_false hlt
    simp only[vA2,vL1,hdec,Bool.false_and]
   rw[he,jD]
   exact⟨fun _ j hj=>hN j (by omega),fun _=>rfl⟩
 ·obtain⟨i,hi0,hi1,hd,hN,hM,hD⟩:=hx
  obtain⟨m,d,i',⟨⟩⟩:=x
  simp only at hi0 hd hM hD
  subst hi0
  have hlt:(i:Int)<len p.2.2.2.1:=xZ1 hg
  obtain⟨q1,q2⟩:=sP5 p m d i hlt hn hd hN hM hD
  have hA:=q1.1 hg
  have hdep:=q2 hA
  have hN':∀ j,j<i+1→NAt p j:=fun j hj=>by
   by_cases e:j=i
   ·subst e;exact hA
   ·exact hN j (by omega)
  have em:(bif ((nth p.2.2.2.1 (i:Int) Z49).2.2.1 !=0) then (vC3 p m (i:Int)).1 else m)=m:=by
   rw[oP];cases ((nth p.2.2.2.1 (i:Int) Z49).2.2.1 !=0)<;>rfl
  have hset:∀ j,j<i→nth (xZ4 (p,p.2.2.2.1,len p.2.2.2.1,()) (m,d,(i:Int),())).2.1 (j:Int) 0=nth d (j:Int) 0:=fun j hj=>by
   rw[wM6]
   simp only[Int.toNat_natCast]
   cases ((nth p.2.2.2.1 (i:Int) Z49).2.2.1 !=0) with
   |false=>rw[jD,vX3 (by omega)]
   |true=>rw[jE,vX3 (by omega),vX3 (by omega)]
  refine⟨⟨i+1,by rw[wM6];simp only;omega,by omega,?_,hN',?_,fun j hj=>?_⟩,?_⟩
  ·rw[wM6]
   simp only
   cases ((nth p.2.2.2.1 (i:Int) Z49).2.2.1 !=0) with
   |false=>rw[jD,wC0];exact hd
   |true=>rw[jE,wC0,wC0];exact hd
  ·rw[wM6]
   simp only[em]
   intro k v
   rw[sZ5]
   by_cases hk:k=(nth p.2.2.2.1 (i:Int) Z49).1
   ·rw[if_pos hk]
    constructor
    ·intro h
     injection h with h
     exact⟨i,by omega,h.symm,hk.symm⟩
    ·rintro⟨u,hu,hv,e⟩
     have:u=i:=(sC8 hN').inj u i hu (by omega) (by rw[e,hk];rfl)
     rw[hv,this]
   ·rw[if_neg hk,hM k v]
    constructor
    ·rintro⟨u,hu,hv,e⟩;exact⟨u,by omega,hv,e⟩
    ·rintro⟨u,hu,hv,e⟩
     have:u≠i:=fun q=>hk (by rw[← e,q];rfl)
     exact⟨u,by omega,hv,e⟩
  ·by_cases e:j=i
   ·subst e;exact hdep
   ·rw[hset j (by omega)];exact hD j (by omega)
  ·rw[wM6]
   simp only
   omega
theorem oF9 {p:D28}(h:∀ j:Nat,(j:Int)<len p.2.2.2.1→NAt p j):Tree (idL p.2.2.2.1) (paL p.2.2.2.1) p.2.2.2.1.length:=by
 have h':∀ j,j<p.2.2.2.1.length→NAt p j:=fun j hj=>h j (by simp only[len];omega)
 have hF:=sC8 h'
 exact⟨hF.pos,hF.inj,fun j hj=>by
  rcases (h' j hj).par with q|⟨⟨v,hv,_,_⟩,q⟩
  ·exact .inl q
  ·exact .inr ⟨by omega,q⟩⟩
end Go.Proofs.YtpanghcojpnkaaaGreatDoor.Am
