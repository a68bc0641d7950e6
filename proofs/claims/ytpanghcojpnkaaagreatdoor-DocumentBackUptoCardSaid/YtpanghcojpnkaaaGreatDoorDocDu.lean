/- A block of a tree in a list, copied: the copy stands behind it. Plain law. No condition. -/
import Derived.Test.YtpanghcojpnkaaaGreatDoorDocTr
namespace Go.Am
variable {I P I' P':Nat→Int}{n i c:Nat}{N:Int}
theorem qM6 {q:Int}{j:Nat}(h:∀ k,k≤j→I k=I' k∧P k=P' k)(ha:Anc I P j q):Anc I' P' j q:=by
 induction ha with
 |self=>rw[(h j (Nat.le_refl _)).1];exact .self j
 |@up v u h1 h2 h3 h4 ih =>
  have hv:=ih
  rw[(h v h2).1] at hv
  rw[(h u (by omega)).1]
  exact .up hv h2 h3 (by rw[← (h v h2).2,h4,(h u (by omega)).1])
theorem sQ {j u:Nat}{q:Int}(h1:Anc I P j (I u))(hu:u≤j)(h2:Anc I P u q):Anc I P j q:=by
 induction h2 with
 |self=>exact h1
 |up _ h3 h4 h5 ih=>exact .up ih (by omega) h4 h5
theorem qM7 (t:Tree I P n){x:Nat}(hx:x<n):∀ {j:Nat},Und I P (I x) j→j<n→Anc I P j (I x):=by
 intro j h
 induction h with
 |@top j h =>
  intro hj
  have:=tV8 t hx (.top h) hj
  exact .up (.self j) (Nat.le_refl _) this h
 |@sub u j h1 h2 h3 ih =>
  intro hj
  exact sQ (.up (.self j) (Nat.le_refl _) h2 h3) (Nat.le_of_lt h2) (ih (by omega))
theorem qM8 {u v:Nat}(h0:P v=I u):∀ {w:Nat},Und I P (I v) w→v<w→(∀ x,Und I P (I v) x→x≤w→v<x)→Und I P (I u) w:=by
 intro w h
 induction h with
 |@top w h=>intro hw _;exact .sub (.top h0) hw h
 |@sub x w h1 h2 h3 ih =>
  intro _ hall
  exact .sub (ih (hall x h1 (by omega)) fun y hy hyx=>hall y hy (by omega)) h2 h3
theorem oG9 (t:Tree I P n){w:Nat}(hw:w<n){q:Int}(h:Anc I P w q):∀ y,y<n→q=I y→y=w∨Und I P (I y) w:=by
 induction h with
 |self=>intro y hy e;exact .inl (t.inj y w hy hw e.symm)
 |@up v u h1 h2 h3 h4 ih =>
  intro y hy e
  have hyu:=t.inj y u hy (by omega) e.symm
  subst hyu
  right
  rcases ih v (by omega) rfl with h5|h5
  ·subst h5;exact .top h4
  ·exact qM8 h4 h5 (tV8 t (by omega) h5 hw) fun x hx hxw=>tV8 t (by omega) hx (by omega)
def orig (i m j:Nat):Nat:=if j<i+m then j else j-m
structure Dup (I P I' P':Nat→Int) (n i c:Nat) (N:Int):Prop where
 blk:Blk I P n i c
 ltN:∀ j,j<n→I j<N
 lo:∀ j,j<i+(1+c)→I' j=I j∧P' j=P j
 cpI:∀ r,r<1+c→I' (i+(1+c)+r)=N+r
 cp0:P' (i+(1+c))=P i
 cpP:∀ r t,r<1+c→t<1+c→P (i+r)=I (i+t)→P' (i+(1+c)+r)=N+t
 hi:∀ j,i+(1+c)≤j→j<n→I' (j+(1+c))=I j∧P' (j+(1+c))=P j
theorem rM6 (b:Blk I P n i c){r:Nat}(h0:0<r)(hr:r<1+c):∃ t,t<r∧P (i+r)=I (i+t):=by
 have hle:=b.le
 have hu:=(b.und (i+r) (by omega)).2 (by omega)
 cases hu with
 |top h=>exact⟨0,h0,by rw[h];rfl⟩
 |@sub u _ h1 h2 h3 =>
  have:=(b.und u (by omega)).1 h1
  exact⟨u-i,by omega,by rw[h3];congr 1;omega⟩
theorem pC9 (b:Blk I P n i c){u:Nat}(h:P i=I u)(hu:u<n):u<i:=by
 have hle:=b.le
 rcases (sD b.tree).par i (by omega) with h0|⟨v,hv,e⟩
 ·have:=b.tree.pos u hu;omega
 ·have:=b.tree.inj u v hu (by omega) (by omega)
  omega
theorem rA5 (d:Dup I P I' P' n i c N){j:Nat}(hj:j<n+(1+c)):(P (orig i (1+c) j)=0→P' j=0)∧∀ u,u<orig i (1+c) j→P (orig i (1+c) j)=I u→∃ u',u'<j∧orig i (1+c) u'=u∧P' j=I' u':=by
 have hle:=d.blk.le
 by_cases h1:j<i+(1+c)
 ·have eo:orig i (1+c) j=j:=by unfold orig;rw[if_pos h1]
  rw[eo,(d.lo j h1).2]
  refine⟨id,fun u hu e=>⟨u,hu,by unfold orig;rw[if_pos (by omega)],by rw[e,(d.lo u (by omega)).1]⟩⟩
 ·have eo:orig i (1+c) j=j-(1+c):=by unfold orig;rw[if_neg h1]
  rw[eo]
  by_cases h2:j<i+(1+c)+(1+c)
  ·obtain⟨r,rfl⟩:∃ r,j=i+(1+c)+r:=⟨j-(i+(1+c)),by omega⟩
   have er:i+(1+c)+r-(1+c)=i+r:=by omega
   rw[er]
   by_cases hr:r=0
   ·subst hr
    rw[Nat.add_zero,Nat.add_zero,d.cp0]
    refine⟨id,fun u hu e=>⟨u,by omega,by unfold orig;rw[if_pos (by omega)],by rw[e,(d.lo u (by omega)).1]⟩⟩
   ·obtain⟨t,ht,e⟩:=rM6 d.blk (r:=r) (by omega) (by omega)
    refine⟨fun h0=>?_,fun u hu eu=>?_⟩
    ·have:=d.blk.tree.pos (i+t) (by omega);omega
    ·have:=d.blk.tree.inj u (i+t) (by omega) (by omega) (by omega)
     subst this
     exact⟨i+(1+c)+t,by omega,by unfold orig;rw[if_neg (by omega)];omega,by rw[d.cpP r t (by omega) (by omega) e,d.cpI t (by omega)]⟩
  ·obtain⟨k,rfl⟩:∃ k,j=k+(1+c):=⟨j-(1+c),by omega⟩
   have ek:k+(1+c)-(1+c)=k:=by omega
   rw[ek,(d.hi k (by omega) (by omega)).2]
   refine⟨id,fun u hu e=>?_⟩
   rcases rA0 d.blk (by omega) (.inr (by omega)) hu e with ho|ho
   ·exact⟨u,by omega,by unfold orig;rw[if_pos (by omega)],by rw[e,(d.lo u (by omega)).1]⟩
   ·exact⟨u+(1+c),by omega,by unfold orig;rw[if_neg (by omega)];omega,by rw[e,(d.hi u (by omega) (by omega)).1]⟩
theorem wQ7 {j:Nat}(hle:i+1+c≤n)(hj:j<n+(1+c)):orig i (1+c) j<n:=by unfold orig;split<;>omega
theorem oH (d:Dup I P I' P' n i c N):∀ j,j<n+(1+c)→∀ {k:Int},Dep I P (orig i (1+c) j) k→Dep I' P' j k:=by
 intro j
 induction j using Nat.strongRecOn with
 |_ j ih =>
  intro hj k hd
  obtain⟨p0,p1⟩:=rA5 d hj
  generalize ho:orig i (1+c) j=o at hd p0 p1
  cases hd with
  |top h=>exact .top (p0 h)
  |@sub u _ k' h1 h2 h3 =>
   obtain⟨u',a1,a2,a3⟩:=p1 u h2 h3
   exact .sub (ih u' a1 (by omega) (by rw[a2];exact h1)) a1 a3
theorem tP (d:Dup I P I' P' n i c N){j:Nat}(hj:j<n+(1+c)):(I' j=I (orig i (1+c) j)∧¬ (i+(1+c)≤j∧j<i+(1+c)+(1+c)))∨∃ r,r<1+c∧j=i+(1+c)+r∧I' j=N+r∧orig i (1+c) j=i+r:=by
 have hle:=d.blk.le
 unfold orig
 by_cases h1:j<i+(1+c)
 ·rw[if_pos h1];exact .inl ⟨(d.lo j h1).1,by omega⟩
 ·rw[if_neg h1]
  by_cases h2:j<i+(1+c)+(1+c)
  ·exact .inr ⟨j-(i+(1+c)),by omega,by omega,by have:=d.cpI (j-(i+(1+c))) (by omega);rw[← this];congr 1;omega,by omega⟩
  ·have:=(d.hi (j-(1+c)) (by omega) (by omega)).1
   rw[show j-(1+c)+(1+c)=j by omega] at this
   exact .inl ⟨this,by omega⟩
theorem pD {u v:Nat}(hu:¬ (i+(1+c)≤u∧u<i+(1+c)+(1+c)))(hv:¬ (i+(1+c)≤v∧v<i+(1+c)+(1+c)))(h:orig i (1+c) u=orig i (1+c) v):u=v:=by
 unfold orig at h
 split at h<;>split at h<;>omega
theorem oH0 (d:Dup I P I' P' n i c N){u v:Nat}(hu:u<n+(1+c))(hv:v<n+(1+c))(h:I' u=I' v):u=v:=by
 have hle:=d.blk.le
 rcases tP d hu with ⟨a1,a2⟩ | ⟨r,r1,r2,r3,_⟩<;>rcases tP d hv with ⟨b1,b2⟩ | ⟨s,s1,s2,s3,_⟩
 ·exact pD a2 b2 (d.blk.tree.inj _ _ (wQ7 hle hu) (wQ7 hle hv) (by rw[← a1,← b1,h]))
 ·have:=d.ltN _ (wQ7 hle hu);omega
 ·have:=d.ltN _ (wQ7 hle hv);omega
 ·omega
theorem pI8 (d:Dup I P I' P' n i c N){s:Nat}(hs:s<1+c){q:Int}(h:Anc I P (i+s) q):∀ t,t<1+c→q=I (i+t)→Anc I' P' (i+(1+c)+s) (I' (i+(1+c)+t)):=by
 have hle:=d.blk.le
 generalize hw:i+s=w at h
 induction h with
 |self =>
  intro t ht e
  have:=d.blk.tree.inj w (i+t) (by omega) (by omega) e
  have:t=s:=by omega
  subst this
  exact .self _
 |@up v u h1 h2 h3 h4 ih =>
  intro t ht e
  have hu:=d.blk.tree.inj u (i+t) (by omega) (by omega) e
  subst hu
  have hv:i<v∧v<i+1+c:=by
   refine (d.blk.und v (by omega)).1 ?_
   by_cases h0:t=0
   ·subst h0;exact .top h4
   ·exact .sub ((d.blk.und (i+t) (by omega)).2 (by omega)) h3 h4
  obtain⟨x,rfl⟩:∃ x,v=i+x:=⟨v-i,by omega⟩
  have h5:=ih x (by omega) rfl
  refine .up h5 (by omega) (by omega) ?_
  rw[d.cpP x t (by omega) ht h4,d.cpI t ht]
theorem sD3 (d:Dup I P I' P' n i c N)(h1N:1≤N):Tree I' P' (n+(1+c)):=by
 have hle:=d.blk.le
 have tr:=d.blk.tree
 refine⟨fun j hj=>?_,fun u v hu hv e=>oH0 d hu hv e,fun j hj=>?_⟩
 ·rcases tP d hj with ⟨a1,_⟩ | ⟨r,_,_,r3,_⟩
  ·rw[a1];exact tr.pos _ (wQ7 hle hj)
  ·omega
 ·have lo:∀ w,w<i+(1+c)→∀ {q:Int},Anc I P w q→Anc I' P' w q:=fun w hw q ha=>qM6 (fun k hk=>⟨(d.lo k (by omega)).1.symm,(d.lo k (by omega)).2.symm⟩) ha
  have htop:∀ q,(∃ f,f<i∧P i=I f∧Anc I P f q)→Anc I' P' (i+(1+c)+c) q:=fun q ⟨f,f1,f2,f3⟩=>by
   have h1:Anc I' P' (i+(1+c)+c) (I' (i+(1+c))):=by
    by_cases h0:c=0
    ·subst h0;exact .self _
    ·have:=qM7 tr (by omega) ((d.blk.und (i+c) (by omega)).2 (by omega)) (by omega)
     exact pI8 d (s:=c) (by omega) this 0 (by omega) rfl
   have h2:Anc I' P' (i+(1+c)+c) (I' f):=.up h1 (by omega) (by omega) (by rw[d.cp0,f2,(d.lo f (by omega)).1])
   exact sQ h2 (by omega) (lo f (by omega) f3)
  by_cases hlo:j<i+(1+c)
  ·rw[(d.lo j hlo).2]
   rcases tr.par j (by omega) with h|⟨h0,h⟩
   ·exact .inl h
   ·exact .inr ⟨h0,lo _ (by omega) h⟩
  ·by_cases hcp:j<i+(1+c)+(1+c)
   ·obtain⟨r,rfl⟩:∃ r,j=i+(1+c)+r:=⟨j-(i+(1+c)),by omega⟩
    by_cases hr:r=0
    ·subst hr
     rw[Nat.add_zero,d.cp0]
     by_cases h0:P i=0
     ·exact .inl h0
     ·right
      refine⟨by omega,?_⟩
      rw[show i+(1+c)-1=i+c by omega]
      refine lo _ (by omega) ?_
      obtain⟨f,f1,f2⟩:=qL5 tr (by omega) h0
      have h1:Anc I P (i+c) (I i):=by
       by_cases hc:c=0
       ·subst hc;exact .self _
       ·exact qM7 tr (by omega) ((d.blk.und (i+c) (by omega)).2 (by omega)) (by omega)
      rw[f2]
      exact .up h1 (by omega) f1 f2
    ·right
     refine⟨by omega,?_⟩
     obtain⟨t,ht,e⟩:=rM6 d.blk (r:=r) (by omega) (by omega)
     have hp:P' (i+(1+c)+r)=I' (i+(1+c)+t):=by rw[d.cpP r t (by omega) (by omega) e,d.cpI t (by omega)]
     rw[hp,show i+(1+c)+r-1=i+(1+c)+(r-1) by omega]
     rcases tr.par (i+r) (by omega) with h|⟨_,h⟩
     ·have:=tr.pos (i+t) (by omega);omega
     ·rw[show i+r-1=i+(r-1) by omega] at h
      exact pI8 d (by omega) h t (by omega) e
   ·obtain⟨k,rfl⟩:∃ k,j=k+(1+c):=⟨j-(1+c),by omega⟩
    rw[(d.hi k (by omega) (by omega)).2]
    rcases tr.par k (by omega) with h|⟨h0,h⟩
    ·exact .inl h
    ·right
     refine⟨by omega,?_⟩
     have hout:∀ u,u<k→P k=I u→u<i∨i+(1+c)≤u:=fun u hu e=>rA0 d.blk (by omega) (.inr (by omega)) hu e
     obtain⟨pu,pu1,pu2⟩:=sC9 h
     have hpo:=hout pu (by omega) pu2
     by_cases hk:k=i+(1+c)
     ·subst hk
      rw[show i+(1+c)+(1+c)-1=i+(1+c)+c by omega]
      rw[show i+(1+c)-1=i+c by omega] at h
      rcases oG2 d.blk ⟨by omega,by omega⟩ h with ⟨u,u1,u2,u3⟩ | h2
      ·have:=tr.inj pu u (by omega) (by omega) (by omega)
       omega
      ·exact htop _ h2
     ·-- behind the block
      have key:∀ w,i+(1+c)≤w→w<n→∀ {q:Int},Anc I P w q→(∃ u,(u<i∨i+(1+c)≤u)∧u<n∧q=I u)→Anc I' P' (w+(1+c)) q:=by
       intro w hw hwn q ha
       induction ha with
       |self=>intro _;rw[← (d.hi w hw hwn).1];exact .self _
       |@up v u h1 h2 h3 h4 ih =>
        rintro⟨x,x1,x2,x3⟩
        have hux:=tr.inj u x (by omega) x2 x3
        subst hux
        have hvo:v<i∨i+(1+c)≤v:=by
         by_cases hh:v<i∨i+(1+c)≤v
         ·exact hh
         ·exfalso
          rcases oG9 tr hwn h1 v (by omega) rfl with q|q
          ·omega
          ·have hvI:v=i∨Und I P (I i) v:=by
            by_cases e:v=i
            ·exact .inl e
            ·exact .inr ((d.blk.und v (by omega)).2 (by omega))
           have hwu:Und I P (I i) w:=by
            rcases hvI with e|e
            ·subst e;exact q
            ·-- v below i,w below v
             have:∀ {w},Und I P (I v) w→w<n→Und I P (I i) w:=by
              intro w hq
              induction hq with
              |@top w q1=>intro hwn;exact .sub e (tV8 tr (by omega) (.top q1) hwn) q1
              |@sub y w q1 q2 q3 ih2=>intro hwn;exact .sub (ih2 (by omega)) q2 q3
             exact this q hwn
           have:=(d.blk.und w hwn).1 hwu
           omega
        have h5:=ih ⟨v,hvo,by omega,rfl⟩
        rcases hvo with hv|hv
        ·have e1:=(d.lo v (by omega))
         have e2:=(d.lo u (by omega))
         rw[← e1.1] at h5
         rw[← e2.1]
         exact .up h5 (by omega) h3 (by rw[e1.2,e2.1,h4])
        ·have e1:=(d.hi v hv (by omega))
         rw[← e1.1] at h5
         rcases x1 with hu|hu
         ·have e2:=(d.lo u (by omega))
          rw[← e2.1]
          exact .up h5 (by omega) (by omega) (by rw[e1.2,e2.1,h4])
         ·have e2:=(d.hi u hu (by omega))
          rw[← e2.1]
          exact .up h5 (by omega) (by omega) (by rw[e1.2,e2.1,h4])
      have:=key (k-1) (by omega) (by omega) h ⟨pu,hpo,by omega,pu2⟩
      rw[show k+(1+c)-1=k-1+(1+c) by omega]
      exact this
end Go.Am
