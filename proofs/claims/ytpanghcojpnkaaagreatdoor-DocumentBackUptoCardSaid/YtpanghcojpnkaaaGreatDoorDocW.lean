/- Plain laws of documents: sizes from the bound; copies are what was copied. Condition: the second form's bound. -/
import Derived.Test.YtpanghcojpnkaaaGreatDoorDocBe
import Derived.Test.YtpanghcojpnkaaaGreatDoorMach4
namespace Go.Proofs.YtpanghcojpnkaaaGreatDoor.Am
open Go Go.Am
theorem oG {τ:Ty}(hb:∀ x:τ.den,1≤τ.bulk x):∀ l:List τ.den,l.length≤(l.map τ.bulk).sum:=by
 intro l
 induction l with
 |nil=>simp
 |cons x l ih=>have:=hb x;simp only[List.length_cons,List.map_cons,List.sum_cons];omega
structure Short (n:D49):Prop where
 mask:n.2.2.2.2.2.2.2.2.2.1.2.2.1.length≤1048576
 pix:n.2.2.2.2.2.2.2.2.2.2.2.2.1.2.2.1.length≤1048576
 params:n.2.2.2.2.2.2.2.2.2.2.2.2.2.2.2.1.length≤1048576
 stops:n.2.2.2.2.2.2.2.2.2.2.2.2.2.2.2.2.2.1.length≤1048576
 segs:n.2.2.2.2.2.2.2.2.2.2.2.2.2.2.2.2.2.2.1.length≤1048576
 warp:n.2.2.2.2.2.2.2.2.2.2.2.2.2.2.2.2.2.2.2.2.2.2.2.2.2.2.2.1.2.2.2.1.length≤1048576
theorem fb (f:Ty):∀ (k:Nat) (x:f.den),(f.fty k).bulk (f.fget k x)≤f.bulk x:=by
 induction f with
 |cons h t _ iht =>
  intro k x
  cases k with
  |zero=>simp only[Ty.fty,Ty.fget,Ty.bulk];omega
  |succ k=>simp only[Ty.fty,Ty.fget,Ty.bulk];have:=iht k x.2;omega
 |_=>intro k x;simp[Ty.fty,Ty.fget,Ty.bulk]
theorem sb (f:Ty)(k:Nat)(x:f.den):(f.fty k).bulk (f.fget k x)≤(Ty.st f).bulk x:=by
 have:=fb f k x
 have e:(Ty.st f).bulk x=f.bulk x+1:=rfl
 omega
def fieldsOf:Ty→Ty
 |.st f=>f
 |τ=>τ
theorem vY5 {τ:Ty}(hb:∀ x:τ.den,1≤τ.bulk x){l:List τ.den}{N:Nat}(h:(Ty.sl τ).bulk l≤N):l.length≤N:=by
 have:=oG hb l
 have e:(Ty.sl τ).bulk l=(l.map τ.bulk).sum+1:=rfl
 omega
theorem tO7 (f:Ty)(x:(Ty.st f).den):1≤(Ty.st f).bulk x:=by
 have e:(Ty.st f).bulk x=f.bulk x+1:=rfl
 omega
theorem rM2 {n:D49}(h:Ty.bulk T49 n≤1048576):Short n:=by
 refine⟨?_,?_,?_,?_,?_,?_⟩
 ·exact vY5 (τ:=.int .i64) (fun _=>jI _) (Nat.le_trans (sb (fieldsOf ((fieldsOf T49).fty 9)) 2 n.2.2.2.2.2.2.2.2.2.1) (Nat.le_trans (sb (fieldsOf T49) 9 n) h))
 ·exact vY5 (τ:=T42) (tO7 _) (Nat.le_trans (sb (fieldsOf ((fieldsOf T49).fty 12)) 2 n.2.2.2.2.2.2.2.2.2.2.2.2.1) (Nat.le_trans (sb (fieldsOf T49) 12 n) h))
 ·exact vY5 (τ:=.int .i64) (fun _=>jI _) (Nat.le_trans (sb (fieldsOf T49) 15 n) h)
 ·exact vY5 (τ:=T122) (tO7 _) (Nat.le_trans (sb (fieldsOf T49) 17 n) h)
 ·exact vY5 (τ:=T128) (tO7 _) (Nat.le_trans (sb (fieldsOf T49) 18 n) h)
 ·exact vY5 (τ:=T125) (tO7 _) (Nat.le_trans (sb (fieldsOf ((fieldsOf T49).fty 27)) 3 n.2.2.2.2.2.2.2.2.2.2.2.2.2.2.2.2.2.2.2.2.2.2.2.2.2.2.2.1) (Nat.le_trans (sb (fieldsOf T49) 27 n) h))
theorem tP4 {α:Type}{l:List α}(h:l.length≤1048576):(l.length:Int)≤4294967296:=by omega
theorem oG0 {a b:D49}(ha:Short a)(hb:Short b):sO3 a b:=by
 intro _
 exact⟨tP4 ha.mask,tP4 hb.pix,tP4 hb.params,tP4 hb.stops,tP4 hb.segs,tP4 hb.warp⟩
theorem sP6 (n:D49):f35 n=n:=by
 show (f67 n n).1=n
 rw[qL3]
theorem sZ8 {n:D49}(h:Short n):tL2 n:=oG0 h h
structure DocSz (d:D28):Prop where
 nodes:∀ n∈d.2.2.2.1,Short n
 sel:d.2.2.2.2.2.1.2.2.1.length≤1048576
 met:d.2.2.2.2.2.2.1.length≤1048576
 lnk:d.2.2.2.2.2.2.2.1.length≤1048576
 pix:∀ m∈d.2.2.2.2.2.2.2.1,m.2.2.2.2.1.2.2.1.length≤1048576
theorem rM3 {τ:Ty}:∀ {l:List τ.den}{x:τ.den},x∈l→τ.bulk x≤(l.map τ.bulk).sum
 |y::r,x,h=>by
  simp only[List.map_cons,List.sum_cons]
  rcases List.mem_cons.1 h with h|h
  ·rw[h];omega
  ·have:=rM3 h;omega
theorem pI6 {τ:Ty}{l:List τ.den}{x:τ.den}{N:Nat}(h:x∈l)(hN:(Ty.sl τ).bulk l≤N):τ.bulk x≤N:=by
 have:=rM3 h
 have e:(Ty.sl τ).bulk l=(l.map τ.bulk).sum+1:=rfl
 omega
theorem oP3 {d:D28}(h:Ty.bulk T28 d≤1048576):DocSz d:=by
 have hl:=Nat.le_trans (sb (fieldsOf T28) 7 d) h
 exact⟨fun n hn=>rM2 (pI6 (τ:=T49) hn (Nat.le_trans (sb (fieldsOf T28) 3 d) h)),
  vY5 (τ:=.int .i64) (fun _=>jI _) (Nat.le_trans (sb (fieldsOf T24) 2 d.2.2.2.2.2.1) (Nat.le_trans (sb (fieldsOf T28) 5 d) h)),
  vY5 (τ:=T87) (tO7 _) (Nat.le_trans (sb (fieldsOf T28) 6 d) h),
  vY5 (τ:=T90) (tO7 _) hl,
  fun m hm=>vY5 (τ:=T42) (tO7 _) (Nat.le_trans (sb (fieldsOf ((fieldsOf T90).fty 4)) 2 m.2.2.2.2.1) (Nat.le_trans (sb (fieldsOf T90) 4 m) (pI6 (τ:=T90) hm hl)))⟩
def vE5 (d:D28)(l:List D49)(nx:Int):D28:=(d.1,d.2.1,d.2.2.1,l,nx,d.2.2.2.2.2.1,d.2.2.2.2.2.2.1,d.2.2.2.2.2.2.2.1,())
theorem rS9 (d:D28):vE5 d d.2.2.2.1 d.2.2.2.2.1=d:=rfl
def zP2:Int×Int×Int×(List D49)×Int×(Int×Int×(List Int)×Unit)×(List D87)×(List D90)×Unit:=((0:Int),(0:Int),(0:Int),([]:List D49),(0:Int),((0:Int),(0:Int),([]:List Int),()),([]:List D87),([]:List D90),())
def cp4I (p:D28)(x:wW1):Prop:=(0≤x.2.1∧x.2.1≤len p.2.2.2.1)∧∃ m,x.1=vE5 p m p.2.2.2.2.1∧pB6 p.2.2.2.1 m x.2.1
theorem rM4 (p:D28)(m:List D49)(i:Int):wE0 (p,zP2,p.2.2.2.1,len p.2.2.2.1,()) (vE5 p m p.2.2.2.2.1,i,())=(vE5 p (List.set m (Int.toNat i) (nth p.2.2.2.1 i Z49)) p.2.2.2.2.1,i+1,()):=by
 show (vE5 p (List.set m (Int.toNat i) (f35 (nth p.2.2.2.1 i Z49))) p.2.2.2.2.1,i+1,())=_
 rw[sP6]
theorem cp4 (p:D28)(h1:len p.2.2.2.1<9223372036854775808) :
  (zC3 (wW2 (p,zP2,p.2.2.2.1,len p.2.2.2.1,())) (wE0 (p,zP2,p.2.2.2.1,len p.2.2.2.1,())) (vE5 p (List.replicate (Int.toNat (len p.2.2.2.1)) Z49) p.2.2.2.2.1,(0:Int),())).1=p:=by
 have h0:=xT7 p.2.2.2.1
 have w:=xQ0 (g:=wW2 (p,zP2,p.2.2.2.1,len p.2.2.2.1,())) (next:=wE0 (p,zP2,p.2.2.2.1,len p.2.2.2.1,())) (cp4I p) (fun x=>(len p.2.2.2.1-x.2.1).toNat) (fun x hx hg=>?_) (x:=(vE5 p (List.replicate (Int.toNat (len p.2.2.2.1)) Z49) p.2.2.2.2.1,(0:Int),()))
  ⟨⟨Int.le_refl 0,h0⟩,_,rfl,by rw[List.length_replicate];unfold len;omega,fun j z hj=>by exact absurd (show (j:Int)<0 from hj) (by omega)⟩ (by unfold zI1;simp only;omega)
 ·obtain⟨⟨⟨i0,i1⟩,m,e,hm⟩,hg⟩:=w
  have hg':¬ (zC3 (wW2 (p,zP2,p.2.2.2.1,len p.2.2.2.1,())) (wE0 (p,zP2,p.2.2.2.1,len p.2.2.2.1,())) (vE5 p (List.replicate (Int.toNat (len p.2.2.2.1)) Z49) p.2.2.2.2.1,(0:Int),())).2.1<len p.2.2.2.1:=of_decide_eq_false hg
  rw[e,pB7 Z49 hm (by omega)]
  exact rS9 p
 ·obtain⟨⟨i0,i1⟩,m,e,hm⟩:=hx
  obtain⟨x1,i,⟨⟩⟩:=x
  simp only at i0 i1 e hm
  subst e
  have h4:i<len p.2.2.2.1:=jF hg
  rw[rM4]
  exact⟨⟨⟨(show 0≤i+1 by omega),(show i+1≤len p.2.2.2.1 by omega)⟩,_,rfl,sP4 Z49 hm i0 h4⟩,(show (len p.2.2.2.1-(i+1)).toNat<(len p.2.2.2.1-i).toNat by omega)⟩
theorem cp12 (p:D28)(h2:len p.2.2.2.2.2.2.2.1<9223372036854775808) :
  (zC3 (vA6 (zP2,p.2.2.2.2.2.2.2.1,len p.2.2.2.2.2.2.2.1,())) (wI6 (zP2,p.2.2.2.2.2.2.2.1,len p.2.2.2.2.2.2.2.1,())) (p,(0:Int),())).1=p:=by
 have h0:=xT7 p.2.2.2.2.2.2.2.1
 have w:=xQ0 (g:=vA6 (zP2,p.2.2.2.2.2.2.2.1,len p.2.2.2.2.2.2.2.1,())) (next:=wI6 (zP2,p.2.2.2.2.2.2.2.1,len p.2.2.2.2.2.2.2.1,())) (fun x=>(0≤x.2.1∧x.2.1≤len p.2.2.2.2.2.2.2.1)∧x.1=p) (fun x=>(len p.2.2.2.2.2.2.2.1-x.2.1).toNat) (fun x hx hg=>?_) (x:=(p,(0:Int),())) ⟨⟨Int.le_refl 0,h0⟩,rfl⟩ (by unfold zI1;simp only;omega)
 ·exact w.1.2
 ·obtain⟨⟨i0,i1⟩,e⟩:=hx
  obtain⟨x1,i,⟨⟩⟩:=x
  simp only at i0 i1 e
  subst e
  have h4:i<len x1.2.2.2.2.2.2.2.1:=jF hg
  refine⟨⟨⟨(show 0≤i+1 by omega),(show i+1≤len x1.2.2.2.2.2.2.2.1 by omega)⟩,?_⟩,(show (len x1.2.2.2.2.2.2.2.1-(i+1)).toNat<(len x1.2.2.2.2.2.2.2.1-i).toNat by omega)⟩
  show (x1.1,x1.2.1,x1.2.2.1,x1.2.2.2.1,x1.2.2.2.2.1,x1.2.2.2.2.2.1,x1.2.2.2.2.2.2.1,List.set x1.2.2.2.2.2.2.2.1 (Int.toNat i) (nth x1.2.2.2.2.2.2.2.1 i Z90),())=x1
  rw[pB5]
theorem oP4 (p:D28)(h1:len p.2.2.2.1<9223372036854775808)(h2:len p.2.2.2.2.2.2.2.1<9223372036854775808):f34 p=p:=by
 have e4:=cp4 p h1
 have e12:=cp12 p h2
 have a4:tL3 (p,((0:Int),(0:Int),(0:Int),([]:List D49),(0:Int),((0:Int),(0:Int),([]:List Int),()),([]:List D87),([]:List D90),()),p.2.2.2.1,len p.2.2.2.1,()) (zC3 (wW2 (p,((0:Int),(0:Int),(0:Int),([]:List D49),(0:Int),((0:Int),(0:Int),([]:List Int),()),([]:List D87),([]:List D90),()),p.2.2.2.1,len p.2.2.2.1,())) (wE0 (p,((0:Int),(0:Int),(0:Int),([]:List D49),(0:Int),((0:Int),(0:Int),([]:List Int),()),([]:List D87),([]:List D90),()),p.2.2.2.1,len p.2.2.2.1,())) ((p.1,p.2.1,p.2.2.1,(List.replicate (Int.toNat (len p.2.2.2.1)) Z49),p.2.2.2.2.1,p.2.2.2.2.2.1,p.2.2.2.2.2.2.1,p.2.2.2.2.2.2.2.1,()),(0:Int),()))=p:=e4
 unfold f34 f34t
 dsimp only
 rw[a4]
 exact e12
theorem oG1 (p:D28)(h1:len p.2.2.2.1≤1048576)(hs:DocSz p):uI9 p:=by
 have h0:=xT7 p.2.2.2.1
 have l0:=xT7 p.2.2.2.2.2.2.2.1
 have l1:len p.2.2.2.2.2.2.2.1≤1048576:=by have:=hs.lnk;unfold len;omega
 refine⟨⟨h0,Int.le_refl _,(show len p.2.2.2.1≤4294967296 by omega)⟩,?_,tP4 hs.sel,tP4 hs.met,tP4 hs.lnk,?_⟩
 ·have w:=whole (g:=wW2 (p,zP2,p.2.2.2.1,len p.2.2.2.1,())) (next:=wE0 (p,zP2,p.2.2.2.1,len p.2.2.2.1,())) (ok:=vS1 (p,zP2,p.2.2.2.1,len p.2.2.2.1,())) (cp4I p) (fun x=>(len p.2.2.2.1-x.2.1).toNat) (fun x hx=>fun h3=>?_) (fun x hx hg=>?_) (x:=(vE5 p (List.replicate (Int.toNat (len p.2.2.2.1)) Z49) p.2.2.2.2.1,(0:Int),()))
   ⟨⟨Int.le_refl 0,h0⟩,_,rfl,by rw[List.length_replicate];unfold len;omega,fun j z hj=>by exact absurd (show (j:Int)<0 from hj) (by omega)⟩ (by unfold zI1;simp only;omega)
  ·exact w.1
  ·have h4:x.2.1<len p.2.2.2.1:=jF h3
   obtain⟨⟨i0,i1⟩,m,e,hm,_⟩:=hx
   have hl:len x.1.2.2.2.1=len p.2.2.2.1:=by rw[e];show len m=_;unfold len;rw[hm]
   refine⟨⟨i0,h4⟩,sZ8 (hs.nodes _ (wA3 ⟨i0,h4⟩)),?_,?_,xY3 (by omega) (by omega)⟩
   ·show InB x.2.1 (len x.1.2.2.2.1)
    rw[hl];exact⟨i0,h4⟩
   ·show x.2.1<len x.1.2.2.2.1
    rw[hl];exact h4
  ·obtain⟨⟨i0,i1⟩,m,e,hm⟩:=hx
   obtain⟨x1,i,⟨⟩⟩:=x
   simp only at i0 i1 e hm
   subst e
   have h4:i<len p.2.2.2.1:=jF hg
   rw[rM4]
   exact⟨⟨⟨(show 0≤i+1 by omega),(show i+1≤len p.2.2.2.1 by omega)⟩,_,rfl,sP4 Z49 hm i0 h4⟩,(show (len p.2.2.2.1-(i+1)).toNat<(len p.2.2.2.1-i).toNat by omega)⟩
 ·have e4:=cp4 p (by omega)
  show Am.Ends (vA6 (zP2,p.2.2.2.2.2.2.2.1,len p.2.2.2.2.2.2.2.1,())) (wI6 (zP2,p.2.2.2.2.2.2.2.1,len p.2.2.2.2.2.2.2.1,())) (vI4 (zP2,p.2.2.2.2.2.2.2.1,len p.2.2.2.2.2.2.2.1,()))
   ((fun r4:D28=>(r4.1,r4.2.1,r4.2.2.1,r4.2.2.2.1,r4.2.2.2.2.1,(r4.2.2.2.2.2.1.1,r4.2.2.2.2.2.1.2.1,p.2.2.2.2.2.1.2.2.1,()),p.2.2.2.2.2.2.1,p.2.2.2.2.2.2.2.1,())) (zC3 (wW2 (p,zP2,p.2.2.2.1,len p.2.2.2.1,())) (wE0 (p,zP2,p.2.2.2.1,len p.2.2.2.1,())) (vE5 p (List.replicate (Int.toNat (len p.2.2.2.1)) Z49) p.2.2.2.2.1,(0:Int),())).1,(0:Int),())
  rw[e4]
  refine xQ1 (fun x=>(0≤x.2.1∧x.2.1≤len p.2.2.2.2.2.2.2.1)∧len x.1.2.2.2.2.2.2.2.1=len p.2.2.2.2.2.2.2.1) (fun x=>(len p.2.2.2.2.2.2.2.1-x.2.1).toNat) (fun x hx=>fun h3=>?_) (fun x hx hg=>?_) ⟨⟨Int.le_refl 0,l0⟩,rfl⟩ (by unfold zI1;simp only;omega)
  ·have h4:x.2.1<len p.2.2.2.2.2.2.2.1:=jF h3
   obtain⟨⟨i0,i1⟩,hl⟩:=hx
   refine⟨⟨i0,h4⟩,tP4 (hs.pix _ (wA3 (d:=Z90) ⟨i0,h4⟩)),?_,?_,xY3 (by omega) (by omega)⟩
   ·show InB x.2.1 (len x.1.2.2.2.2.2.2.2.1)
    rw[hl];exact⟨i0,h4⟩
   ·show x.2.1<len x.1.2.2.2.2.2.2.2.1
    rw[hl];exact h4
  ·have h4:x.2.1<len p.2.2.2.2.2.2.2.1:=jF hg
   obtain⟨⟨i0,i1⟩,hl⟩:=hx
   refine⟨⟨⟨(show 0≤x.2.1+1 by omega),(show x.2.1+1≤len p.2.2.2.2.2.2.2.1 by omega)⟩,?_⟩,(show (len p.2.2.2.2.2.2.2.1-(x.2.1+1)).toNat<(len p.2.2.2.2.2.2.2.1-x.2.1).toNat by omega)⟩
   show len (List.set x.1.2.2.2.2.2.2.2.1 _ _)=_
   rw[wC0];exact hl
end Go.Proofs.YtpanghcojpnkaaaGreatDoor.Am
