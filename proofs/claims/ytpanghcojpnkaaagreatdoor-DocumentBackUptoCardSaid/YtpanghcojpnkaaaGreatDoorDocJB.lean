/- DocumentBack, in plain words. Condition: the second form's bound. -/
import Derived.Test.YtpanghcojpnkaaaGreatDoorDocIn
import Derived.Test.YtpanghcojpnkaaaGreatDoorDocF1
namespace Go.Proofs.YtpanghcojpnkaaaGreatDoor.Am
open Go Go.Am
theorem hF4 {p:D28}(v:Valid p){nx:Int}(h1:p.2.2.2.2.1≤nx)(h2:nx≤1073741824):Valid (vE5 p p.2.2.2.1 nx):=by
 have hN:=(uN0 p v.len1).1 v.nodes
 have hs:Src (vE5 p p.2.2.2.1 nx)=Src p:=by
  funext a i
  refine propext ?_
  rw[qN1 _ v.len1,qN1 (vE5 p p.2.2.2.1 nx) v.len1]
  exact Iff.rfl
 refine⟨v.head,v.len1,v.len2,Int.le_trans v.next1 h1,h2,?_,?_,rT1 _ v.len2 h1 v.links,?_,?_,v.sel,v.size,v.mta⟩
 ·exact (uN0 (vE5 p p.2.2.2.1 nx) v.len1).2 fun j hj=>⟨(hN j hj).chk,(hN j hj).pos,Int.lt_of_lt_of_le (hN j hj).lt h1,(hN j hj).new,(hN j hj).par,(hN j hj).dep⟩
 ·exact (qN (vE5 p p.2.2.2.1 nx) v.len1).2 ((qN p v.len1).1 v.clips)
 ·exact (rA6 (vE5 p p.2.2.2.1 nx) v.len1).2 ((rA6 p v.len1).1 v.refs)
 ·refine (qN0 (vE5 p p.2.2.2.1 nx) v.len1).2 fun j hj=>?_
  rw[hs]
  exact (qN0 p v.len1).1 v.cyc j hj
theorem hG9 {p:D28}(v:Valid p){k:Nat}(hk:k<p.2.2.2.1.length):paL p.2.2.2.1 k<p.2.2.2.2.1:=by
 have hN:=(uN0 p v.len1).1 v.nodes
 have hN1:=v.next1
 have ln:(p.2.2.2.1.length:Int)=len p.2.2.2.1:=rfl
 rcases (hN k (by omega)).par with q|⟨⟨u,hu,e,_⟩,_⟩
 ·rw[q];omega
 ·rw[e];exact (hN u (by omega)).lt
def hJ6 (d:D28)(nx:Int):D28:=(d.1,d.2.1,d.2.2.1,d.2.2.2.1,nx,d.2.2.2.2.2)
theorem hP3 {p:D28}(g:Good p){n:D49}(hf:wJ8 n)(hs:Short n)(q at':Int)(h:(f14 p n q at').2.2.1=0) :
  sO8 (f14 p n q at').1 (f14 p n q at').2.1∧(f15 (f14 p n q at').1 (f14 p n q at').2.1).2.1=0∧hJ6 (f15 (f14 p n q at').1 (f14 p n q at').2.1).1 p.2.2.2.2.1=p:=by
 obtain⟨v,_,_,hl,hN,k,hk,e,vm⟩:=pD7 g n q at' h
 rw[e]
 have ln:(p.2.2.2.1.length:Int)=len p.2.2.2.1:=rfl
 have gi:=rN g v.len1 (n:=xZ6 n p.2.2.2.2.1 q) (pJ0 hf) (rM9 hs) (k:Int)
 refine⟨oQ4 gi _,?_⟩
 have hnodes:(insD p (k:Int) (xZ6 n p.2.2.2.2.1 q)).2.2.2.1=List.take k p.2.2.2.1++([xZ6 n p.2.2.2.2.1 q]++List.drop k p.2.2.2.1):=by
  show f36 p.2.2.2.1 (k:Int) [xZ6 n p.2.2.2.2.1 q]=_
  unfold f36
  rw[Int.toNat_natCast]
 have hlen:(insD p (k:Int) (xZ6 n p.2.2.2.2.1 q)).2.2.2.1.length=p.2.2.2.1.length+1:=by
  rw[hnodes,jO,jO,jT,List.length_drop]
  simp only[List.length_cons,List.length_nil];omega
 have hget:∀ j,(insD p (k:Int) (xZ6 n p.2.2.2.2.1 q)).2.2.2.1.getD j Z49=if j<k then p.2.2.2.1.getD j Z49 else if j=k then xZ6 n p.2.2.2.2.1 q else p.2.2.2.1.getD (j-1) Z49:=fun j=>by
  rw[hnodes,jM]
  by_cases h1:j<k
  ·rw[if_pos h1,List.getElem?_append_left (by rw[jT];omega),List.getElem?_take_of_lt h1,jM]
  ·rw[if_neg h1,List.getElem?_append_right (by rw[jT];omega),jT,Nat.min_eq_left (by omega)]
   by_cases h2:j=k
   ·rw[if_pos h2,h2,Nat.sub_self];rfl
   ·rw[if_neg h2,List.getElem?_append_right (by simp only[List.length_cons,List.length_nil];omega),List.getElem?_drop,jM]
    simp only[List.length_cons,List.length_nil]
    congr 2;omega
 have hid:idL (insD p (k:Int) (xZ6 n p.2.2.2.2.1 q)).2.2.2.1 k=p.2.2.2.2.1:=by
  unfold idL
  rw[wC1,hget,if_neg (Nat.lt_irrefl _),if_pos rfl];rfl
 obtain⟨c',b',hb'⟩:=vS6 vm (i:=k) (by omega)
 have hle':=b'.le
 have hc:c'=0:=by
  refine Nat.eq_zero_of_not_pos fun h0=>?_
  have hu:=(b'.und (k+1) (by omega)).2 (by omega)
  have hp:paL (insD p (k:Int) (xZ6 n p.2.2.2.2.1 q)).2.2.2.1 (k+1)=p.2.2.2.2.1:=by
   cases hu with
   |top q1=>rw[q1,hid]
   |@sub u _ q1 q2 q3 =>
    have:=tV8 b'.tree (by omega) q1 (by omega)
    omega
  have hp2:paL (insD p (k:Int) (xZ6 n p.2.2.2.2.1 q)).2.2.2.1 (k+1)=paL p.2.2.2.1 k:=by
   unfold paL
   rw[wC1,wC1,hget,if_neg (by omega),if_neg (by omega)];rfl
  have:=hG9 v (k:=k) (by omega)
  omega
 subst hc
 have hr:=oI gi vm (i:=k) (by omega) b' hb'
 rw[hid] at hr
 have hcut:cutD (insD p (k:Int) (xZ6 n p.2.2.2.2.1 q)) k 0=vE5 p p.2.2.2.1 (p.2.2.2.2.1+1):=by
  have:=(hJ5 (s:=p.2.2.2.1) (b:=[xZ6 n p.2.2.2.2.1 q]) (k:=k) (by omega)).1
  show vE5 p (yL8 (insD p (k:Int) (xZ6 n p.2.2.2.2.1 q)).2.2.2.1 k (1+0)) (p.2.2.2.2.1+1)=_
  rw[hnodes]
  simp only[List.length_cons,List.length_nil] at this
  rw[Nat.add_zero]
  rw[Nat.zero_add] at this
  rw[this]
 rw[hr,hcut,qM4 (hF4 v (by omega) (by omega))]
 exact⟨rfl,rfl⟩
theorem hP4 {p:D28}(g:Good p)(id:Int)(h:(f17 p id).2.2.1=0) :
  sO8 (f17 p id).1 (f17 p id).2.1∧(f15 (f17 p id).1 (f17 p id).2.1).2.1=0∧hJ6 (f15 (f17 p id).1 (f17 p id).2.1).1 p.2.2.2.2.1=p:=by
 obtain⟨i,c,C,hi,hid0,v,d,l1,l2,e,vm⟩:=(oI0 g id).2 h
 rw[e]
 have ln:(p.2.2.2.1.length:Int)=len p.2.2.2.1:=rfl
 have hle:=d.blk.le
 have D:=rM8 v d
 have hdl:=uN3 d
 have gd:=pE1 g d l1
 refine⟨oQ4 gd _,?_⟩
 have hid:idL (dupD p i (1+c) C).2.2.2.1 (i+(1+c))=p.2.2.2.2.1:=by
  have:=D.cpI 0 (by omega)
  rw[Nat.add_zero] at this
  rw[this];show p.2.2.2.2.1+((0:Nat):Int)=_;omega
 obtain⟨c',b',hb'⟩:=vS6 vm (i:=i+(1+c)) (by omega)
 have hle':=b'.le
 have hc:c'=c:=by
  have hge:c≤c':=by
   refine Nat.le_of_not_lt fun hlt=>?_
   obtain⟨t,ht,e1⟩:=rM6 d.blk (r:=1+c') (by omega) (by omega)
   have hp:=D.cpP (1+c') t (by omega) (by omega) e1
   have hp':paL (dupD p i (1+c) C).2.2.2.1 (i+(1+c)+(1+c'))=idL (dupD p i (1+c) C).2.2.2.1 (i+(1+c)+t):=by rw[hp,D.cpI t (by omega)]
   have hu:Und (idL (dupD p i (1+c) C).2.2.2.1) (paL (dupD p i (1+c) C).2.2.2.1) (idL (dupD p i (1+c) C).2.2.2.1 (i+(1+c))) (i+(1+c)+(1+c')):=by
    by_cases h0:t=0
    ·subst h0;exact .top hp'
    ·exact .sub ((b'.und (i+(1+c)+t) (by omega)).2 (by omega)) (by omega) hp'
   have:=(b'.und _ (by omega)).1 hu
   omega
  have hle2:c'≤c:=by
   refine Nat.le_of_not_lt fun hlt=>?_
   have hu:=(b'.und (i+(1+c)+(1+c)) (by omega)).2 (by omega)
   have hpar:∃ t,t<1+c∧paL (dupD p i (1+c) C).2.2.2.1 (i+(1+c)+(1+c))=idL (dupD p i (1+c) C).2.2.2.1 (i+(1+c)+t):=by
    cases hu with
    |top q1=>exact⟨0,by omega,q1⟩
    |@sub u _ q1 q2 q3 =>
     have:=(b'.und u (by omega)).1 q1
     exact⟨u-(i+(1+c)),by omega,by rw[q3];congr 1;omega⟩
   obtain⟨t,t1,t2⟩:=hpar
   rw[(D.hi (i+(1+c)) (jI _) (by omega)).2,D.cpI t t1] at t2
   have:=hG9 v (k:=i+(1+c)) (by omega)
   omega
  omega
 subst hc
 have hr:=oI gd vm (i:=i+(1+c')) (by omega) b' hb'
 rw[hid] at hr
 have hcut:cutD (dupD p i (1+c') C) (i+(1+c')) c'=vE5 p p.2.2.2.1 (p.2.2.2.2.1+((1+c':Nat):Int)):=by
  have:=(hJ5 (s:=p.2.2.2.1) (b:=C) (k:=i+(1+c')) (by omega)).1
  rw[d.len] at this
  show vE5 p (yL8 (List.take (i+(1+c')) p.2.2.2.1++(C++List.drop (i+(1+c')) p.2.2.2.1)) (i+(1+c')) (1+c')) (p.2.2.2.2.1+((1+c':Nat):Int))=_
  rw[this]
 show (f15 (dupD p i (1+c') C) p.2.2.2.2.1).2.1=0∧hJ6 (f15 (dupD p i (1+c') C) p.2.2.2.2.1).1 p.2.2.2.2.1=p
 rw[hr,hcut,qM4 (hF4 v (by omega) (by omega))]
 exact⟨rfl,rfl⟩
theorem hS3 (p:D28)(a:D52)(id:Int)(w:Ty.wf T28 p)(g:Good p)(hf:wJ8 a.1)(hs:Short a.1):f7_ok p a id∧f7 p a id=true:=by
 have o1:=pD8 g hf hs a.2.1 a.2.2.1
 have o2:=(oI0 g id).1
 have z1:=hP3 g hf hs a.2.1 a.2.2.1
 have z2:=hP4 g id
 have h18:f18 p p=true:=(hP0 w w).2 rfl
 have o18:=hS2 p w
 dsimp only[f7_ok,f7,f7t]
 rw[pB9]
 have hO:=oF7
 generalize tV3=O at hO ⊢
 have s1:∀ r:D28×Int×Unit,(r.1.1,r.1.2.1,r.1.2.2.1,r.1.2.2.2.1,p.2.2.2.2.1,r.1.2.2.2.2.2)=hJ6 r.1 p.2.2.2.2.1:=fun _=>rfl
 rw[s1,s1]
 generalize f14 p a.1 a.2.1 a.2.2.1=r1 at z1 ⊢
 generalize f17 p id=r2 at z2 ⊢
 have e2:∀ d:D28,(d.1,d.2.1,d.2.2.1,d.2.2.2.1,d.2.2.2.2.1,d.2.2.2.2.2.1,d.2.2.2.2.2.2.1,d.2.2.2.2.2.2.2.1,())=d:=fun _=>rfl
 rw[e2 r2.1]
 have b1:r1.2.2.1=0→(bif ((f15 r1.1 r1.2.1).2.1 !=0) then true else (!(f18 (hJ6 (f15 r1.1 r1.2.1).1 p.2.2.2.2.1) p)))=false:=fun h=>by
  obtain⟨_,q2,q3⟩:=z1 h
  rw[q2,q3,h18];rfl
 have b2:r2.2.2.1=0→(bif ((f15 r2.1 r2.2.1).2.1 !=0) then true else (!(f18 (hJ6 (f15 r2.1 r2.2.1).1 p.2.2.2.2.1) p)))=false:=fun h=>by
  obtain⟨_,q2,q3⟩:=z2 h
  rw[q2,q3,h18];rfl
 refine⟨⟨o1,fun h=>⟨(z1 (by simpa using h)).1,fun _=>?_⟩,fun _=>⟨o2,fun h=>⟨(z2 (by simpa using h)).1,fun _=>?_⟩,fun _=>hO⟩⟩,?_⟩
 ·rw[(z1 (by simpa using h)).2.2];exact o18
 ·rw[(z2 (by simpa using h)).2.2];exact o18
 ·cases h1:(r1.2.2.1==0) with
  |true =>
   rw[b1 (by simpa using h1)]
   cases h2:(r2.2.2.1==0) with
   |true=>rw[b2 (by simpa using h2)];rfl
   |false=>rw[Bool.and_false];rfl
  |false =>
   rw[Bool.and_false]
   cases h2:(r2.2.2.1==0) with
   |true=>rw[b2 (by simpa using h2)];rfl
   |false=>rw[Bool.and_false];rfl
theorem documentBack_law:∀ x,wfL 0 [T28,T52,.int .i64] x→xL0 0 [T28,T52,.int .i64] x≤1048576→f7_ok x.1 x.2.1 x.2.2.1∧f7 x.1 x.2.1 x.2.2.1=true:=by
 intro x hx hN
 have hN1:Ty.bulk T28 x.1≤1048576:=Nat.le_trans (Nat.le_add_right _ _) hN
 have hN2:Ty.bulk T52 x.2.1≤1048576:=Nat.le_trans (Nat.le_trans (Nat.le_add_right _ _) (Nat.le_add_left _ _)) hN
 have hw:Ty.wf T49 x.2.1.1:=hx.2.1.1
 exact hS3 x.1 x.2.1 x.2.2.1 hx.1 (oG7 hx.1 hN1) (pI5 hw) (rM2 (Nat.le_trans (sb (fieldsOf T52) 0 x.2.1) hN2))
end Go.Proofs.YtpanghcojpnkaaaGreatDoor.Am
