/- Duplicate in plain words. Condition: the second form's bound. -/
import Derived.Test.YtpanghcojpnkaaaGreatDoorDocSl
import Derived.Test.YtpanghcojpnkaaaGreatDoorDocDu
import Derived.Test.YtpanghcojpnkaaaGreatDoorDocCk
import Derived.Test.YtpanghcojpnkaaaGreatDoorDocCl
namespace Go.Proofs.YtpanghcojpnkaaaGreatDoor.Am
open Go Go.Am
def IdM (p:D28)(i m:Nat)(M:IMap):Prop:=∀ (k v:Int),mf k M=some v↔∃ t:Nat,t<m∧v=p.2.2.2.2.1+t∧idL p.2.2.2.1 (i+t)=k
def yA (p:D28)(i m:Nat):vA7:=(p,zP2,(i:Int),(m:Int),(m:Int),())
theorem pD2 (p:D28){i m:Nat}(h:Fo (idL p.2.2.2.1) (paL p.2.2.2.1) p.2.2.2.1.length)(hn:len p.2.2.2.1≤64)(hi:i+m≤p.2.2.2.1.length)(hN:0≤p.2.2.2.2.1∧p.2.2.2.2.1≤1073741824) :
  Am.Ends (wP0 (yA p i m)) (wD5 (yA p i m)) (wZ (yA p i m)) (([]:IMap),(0:Int),()) ∧
  IdM p i m (zC3 (wP0 (yA p i m)) (wD5 (yA p i m)) (([]:IMap),(0:Int),())).1:=by
 have ln:(p.2.2.2.1.length:Int)=len p.2.2.2.1:=rfl
 have w:=whole (g:=wP0 (yA p i m)) (next:=wD5 (yA p i m)) (ok:=wZ (yA p i m)) (fun x=>∃ j:Nat,x.2.1=(j:Int)∧j≤m∧IdM p i j x.1) (fun x=>((m:Int)-x.2.1).toNat) (fun x hx=>fun h3=>?_) (fun x hx hg=>?_) (x:=(([]:IMap),(0:Int),()))
  ⟨0,rfl,Nat.zero_le _,fun k v=>⟨fun h=>by exact absurd (show (none:Option Int)=some v from h) (by simp),fun ⟨t,ht,_⟩=>by omega⟩⟩ (by unfold zI1;simp only;omega)
 ·refine⟨w.1,?_⟩
  obtain⟨⟨j,hj0,hj1,hM⟩,hg⟩:=w.2
  have hg':¬ (zC3 (wP0 (yA p i m)) (wD5 (yA p i m)) (([]:IMap),(0:Int),())).2.1<(m:Int):=of_decide_eq_false hg
  have:j=m:=by omega
  rw[this] at hM
  exact hM
 ·have h4:x.2.1<(m:Int):=jF h3
  obtain⟨j,hj0,hj1,hM⟩:=hx
  refine⟨?_,?_,?_,xY3 (by omega) (by omega)⟩
  ·show InR ((i:Int)+x.2.1);exact xY3 (by omega) (by omega)
  ·show InB ((i:Int)+x.2.1) (len p.2.2.2.1);exact⟨by omega,by omega⟩
  ·show InR (p.2.2.2.2.1+x.2.1);exact xY3 (by omega) (by omega)
 ·have h4:x.2.1<(m:Int):=jF hg
  obtain⟨j,hj0,hj1,hM⟩:=hx
  obtain⟨M,j',⟨⟩⟩:=x
  simp only at hj0 hM h4
  subst hj0
  refine⟨⟨j+1,by show (j:Int)+1=_;omega,by omega,?_⟩,(show ((m:Int)-((j:Int)+1)).toNat<((m:Int)-(j:Int)).toNat by omega)⟩
  show IdM p i (j+1) (ms (nth p.2.2.2.1 ((i:Int)+(j:Int)) Z49).1 (p.2.2.2.2.1+(j:Int)) M)
  have e:(nth p.2.2.2.1 ((i:Int)+(j:Int)) Z49).1=idL p.2.2.2.1 (i+j):=by unfold idL;congr 2
  rw[e]
  intro k v
  rw[sZ5]
  by_cases hk:k=idL p.2.2.2.1 (i+j)
  ·rw[if_pos hk]
   constructor
   ·intro q;injection q with q;exact⟨j,by omega,q.symm,hk.symm⟩
   ·rintro⟨t,ht,hv,e2⟩
    have:=h.inj (i+t) (i+j) (by omega) (by omega) (by rw[e2,hk])
    have:t=j:=by omega
    rw[hv,this]
  ·rw[if_neg hk,hM k v]
   constructor
   ·rintro⟨t,ht,hv,e2⟩;exact⟨t,by omega,hv,e2⟩
   ·rintro⟨t,ht,hv,e2⟩
    have:t≠j:=fun q=>hk (by rw[← e2,q])
    exact⟨t,by omega,hv,e2⟩
def cpy (M:IMap)(n:D49):D49:=cpN n (Option.getD (mf n.1 M) 0) (bif Option.isSome (mf n.2.2.1 M) then Option.getD (mf n.2.2.1 M) 0 else n.2.2.1) (bif (bif Option.isSome (mf (vB5 n) M) then n.2.1==10 else false) then Option.getD (mf (vB5 n) M) 0 else vB5 n)
def yB (p:D28)(i m:Nat)(M:IMap):vA8:=(p,zP2,(i:Int),(m:Int),M,(m:Int),())
theorem pD3 (p:D28)(i m:Nat)(M:IMap)(C:List D49)(j:Int):wA9 (yB p i m M) (C,j,())=(List.set C (Int.toNat j) (cpy M (nth p.2.2.2.1 ((i:Int)+j) Z49)),j+1,()):=by
 have e:=sP6 (nth p.2.2.2.1 ((i:Int)+j) Z49)
 simp only[wA9,uJ3,yB,e,cpy]
 generalize nth p.2.2.2.1 ((i:Int)+j) Z49=n
 have hm:∀ b:Bool,∀ x y:D49,List.set C (Int.toNat j) (bif b then x else y)=bif b then List.set C (Int.toNat j) x else List.set C (Int.toNat j) y:=fun b x y=>by cases b<;>rfl
 cases h1:Option.isSome (mf n.2.2.1 M) with
 |true =>
  have h1':Option.isSome (yI5 (.int .i64) (.int .i64) n.2.2.1 M)=true:=h1
  simp only[jE]
  cases h2:Option.isSome (mf (vB5 n) M) with
  |true =>
   have h2':Option.isSome (yI5 (.int .i64) (.int .i64) n.2.2.2.2.2.2.2.2.2.2.2.2.2.2.2.2.2.2.2.2.2.2.2.2.2.2.1 M)=true:=h2
   simp only[h2',jE]
   cases h3:(n.2.1==10) with
   |true=>rfl
   |false=>rfl
  |false =>
   have h2':Option.isSome (yI5 (.int .i64) (.int .i64) n.2.2.2.2.2.2.2.2.2.2.2.2.2.2.2.2.2.2.2.2.2.2.2.2.2.2.1 M)=false:=h2
   simp only[h2',jD]
   rfl
 |false =>
  have h1':Option.isSome (yI5 (.int .i64) (.int .i64) n.2.2.1 M)=false:=h1
  simp only[jD]
  cases h2:Option.isSome (mf (vB5 n) M) with
  |true =>
   have h2':Option.isSome (yI5 (.int .i64) (.int .i64) n.2.2.2.2.2.2.2.2.2.2.2.2.2.2.2.2.2.2.2.2.2.2.2.2.2.2.1 M)=true:=h2
   simp only[h2',jE]
   cases h3:(n.2.1==10) with
   |true=>rfl
   |false=>rfl
  |false =>
   have h2':Option.isSome (yI5 (.int .i64) (.int .i64) n.2.2.2.2.2.2.2.2.2.2.2.2.2.2.2.2.2.2.2.2.2.2.2.2.2.2.1 M)=false:=h2
   simp only[h2',jD]
   rfl
theorem pD4 (p:D28){i m:Nat}(M:IMap)(hn:len p.2.2.2.1≤64)(hi:i+m≤p.2.2.2.1.length)(hs:∀ n∈p.2.2.2.1,Short n) :
  Am.Ends (wL7 (yB p i m M)) (wA9 (yB p i m M)) (wQ6 (yB p i m M)) (List.replicate m Z49,(0:Int),()) ∧
  ∃ C,(zC3 (wL7 (yB p i m M)) (wA9 (yB p i m M)) (List.replicate m Z49,(0:Int),())).1=C∧C.length=m∧∀ r,r<m→C.getD r Z49=cpy M (p.2.2.2.1.getD (i+r) Z49):=by
 have ln:(p.2.2.2.1.length:Int)=len p.2.2.2.1:=rfl
 have w:=whole (g:=wL7 (yB p i m M)) (next:=wA9 (yB p i m M)) (ok:=wQ6 (yB p i m M)) (fun x=>∃ j:Nat,x.2.1=(j:Int)∧j≤m∧x.1.length=m∧∀ r,r<j→x.1.getD r Z49=cpy M (p.2.2.2.1.getD (i+r) Z49)) (fun x=>((m:Int)-x.2.1).toNat) (fun x hx=>fun h3=>?_) (fun x hx hg=>?_) (x:=(List.replicate m Z49,(0:Int),()))
  ⟨0,rfl,Nat.zero_le _,List.length_replicate,fun r hr=>by omega⟩ (by unfold zI1;simp only;omega)
 ·refine⟨w.1,_,rfl,?_⟩
  obtain⟨⟨j,hj0,hj1,hl,hM⟩,hg⟩:=w.2
  have hg':¬ (zC3 (wL7 (yB p i m M)) (wA9 (yB p i m M)) (List.replicate m Z49,(0:Int),())).2.1<(m:Int):=of_decide_eq_false hg
  have:j=m:=by omega
  rw[this] at hM
  exact⟨hl,hM⟩
 ·have h4:x.2.1<(m:Int):=jF h3
  obtain⟨j,hj0,hj1,hl,hM⟩:=hx
  have hb:InB ((i:Int)+x.2.1) (len p.2.2.2.1):=⟨by omega,by omega⟩
  have hx1:len x.1=(m:Int):=by unfold len;omega
  refine⟨?_,hb,sZ8 (hs _ (wA3 hb)),?_,?_,xY3 (by omega) (by omega)⟩
  ·show InR ((i:Int)+x.2.1);exact xY3 (by omega) (by omega)
  ·rw[hx1];exact⟨by omega,h4⟩
  ·rw[hx1];exact h4
 ·have h4:x.2.1<(m:Int):=jF hg
  obtain⟨j,hj0,hj1,hl,hM⟩:=hx
  obtain⟨C,j',⟨⟩⟩:=x
  simp only at hj0 hl hM h4
  subst hj0
  rw[pD3]
  refine⟨⟨j+1,by show (j:Int)+1=_;omega,by omega,by rw[List.length_set];exact hl,fun r hr=>?_⟩,(show ((m:Int)-((j:Int)+1)).toNat<((m:Int)-(j:Int)).toNat by omega)⟩
  show (List.set C (Int.toNat (j:Int)) _).getD r Z49=_
  rw[Int.toNat_natCast]
  by_cases hrj:r=j
  ·subst hrj
   rw[jM,List.getElem?_set_self (by omega),Option.getD_some]
   rw[show ((i:Int)+(r:Int))=((i+r:Nat):Int) by omega,wC1]
  ·rw[jM,List.getElem?_set_ne (by omega),← jM]
   exact hM r (by omega)
def dupD (p:D28)(i m:Nat)(C:List D49):D28:=vE5 p (List.take (i+m) p.2.2.2.1++(C++List.drop (i+m) p.2.2.2.1)) (p.2.2.2.2.1+m)
structure IsDup (p:D28) (i c:Nat) (C:List D49):Prop where
 blk:blkP p i c
 len:C.length=1+c
 at':∃ M,IdM p i (1+c) M∧∀ r,r<1+c→C.getD r Z49=cpy M (p.2.2.2.1.getD (i+r) Z49)
theorem uY0 {l C:List D49}{i m:Nat}(hi:i+m≤l.length)(hC:C.length=m)(j:Nat) :
  (List.take (i+m) l++(C++List.drop (i+m) l)).getD j Z49=if j<i+m then l.getD j Z49 else if j<i+m+m then C.getD (j-(i+m)) Z49 else l.getD (j-m) Z49:=by
 rw[jM]
 by_cases h1:j<i+m
 ·rw[if_pos h1,List.getElem?_append_left (by rw[jT];omega),List.getElem?_take_of_lt h1,jM]
 ·rw[if_neg h1,List.getElem?_append_right (by rw[jT];omega),jT,Nat.min_eq_left hi]
  by_cases h2:j<i+m+m
  ·rw[if_pos h2,List.getElem?_append_left (by omega),jM]
  ·rw[if_neg h2,List.getElem?_append_right (by omega),List.getElem?_drop,hC,jM]
   congr 2;omega
theorem oH5 {p:D28}(g:Good p)(v:Valid p){i:Nat}(hi:i<p.2.2.2.1.length){c:Nat}(b:blkP p i c)(hb:f11 p (idL p.2.2.2.1 i)=(List.range' (i+1) c).map (idL p.2.2.2.1)) :
  uJ4 p (idL p.2.2.2.1 i)∧((f17 p (idL p.2.2.2.1 i)).2.2.1=0→∃ C,IsDup p i c C∧len p.2.2.2.1+(1+c)≤64∧p.2.2.2.2.1+(1+c)≤1073741824∧f17 p (idL p.2.2.2.1 i)=(dupD p i (1+c) C,p.2.2.2.2.1,0,())):=by
 have hle:=b.le
 have hn:=v.len1
 have h9:=(wA1 p).2 v
 have h8:=vX4 v hi
 have ln:(p.2.2.2.1.length:Int)=len p.2.2.2.1:=rfl
 have hN1:=v.next1
 have hN2:=v.next2
 have hlb:len (f11 p (idL p.2.2.2.1 i))=(c:Int):=by rw[hb];simp only[len,List.length_map,List.length_range']
 have hcp:=wU7 g v.len1
 have em:(1:Int)+(c:Int)=((1+c:Nat):Int):=by omega
 obtain⟨w1,w2⟩:=pD2 p (i:=i) (m:=1+c) (sD b.tree) hn (by omega) ⟨by omega,hN2⟩
 generalize hM:(zC3 (wP0 (yA p i (1+c))) (wD5 (yA p i (1+c))) (([]:IMap),(0:Int),())).1=M at w2
 obtain⟨u1,C,u2,u3,u4⟩:=pD4 p (i:=i) (m:=1+c) M hn (by omega) g.sz.nodes
 have hrl:(List.replicate (Int.toNat ((1+c:Nat):Int)) Z49)=List.replicate (1+c) Z49:=by rw[Int.toNat_natCast]
 have hlr:len (List.replicate (1+c) Z49)=((1+c:Nat):Int):=by simp only[len,List.length_replicate]
 have e0:decide ((i:Int)<0)=false:=decide_eq_false (by omega)
 have eM:vS4 (p,zP2,(i:Int),((1+c:Nat):Int),((1+c:Nat):Int),()) (zC3 (wP0 (p,zP2,(i:Int),((1+c:Nat):Int),((1+c:Nat):Int),())) (wD5 (p,zP2,(i:Int),((1+c:Nat):Int),((1+c:Nat):Int),())) (([]:IMap),(0:Int),()))=M:=hM
 have eC:vD6 (p,zP2,(i:Int),((1+c:Nat):Int),M,((1+c:Nat):Int),()) (zC3 (wL7 (p,zP2,(i:Int),((1+c:Nat):Int),M,((1+c:Nat):Int),())) (wA9 (p,zP2,(i:Int),((1+c:Nat):Int),M,((1+c:Nat):Int),())) (List.replicate (1+c) Z49,(0:Int),()))=C:=u2
 cases h49:(bif decide ((len p.2.2.2.1+((1+c:Nat):Int))>64) then true else decide ((p.2.2.2.2.1+((1+c:Nat):Int))>1073741824)) with
 |true =>
  constructor
  ·dsimp only[uJ4,f17t]
   rw[h9,h8,hlb,em]
   refine⟨wV p g.fit,fun _=>⟨(vI6 p _ (by omega)).1,fun _=>⟨(wO0 p _ (by omega)).1,xY3 (by omega) (by omega),xY3 (by omega) (by omega),fun _=>xY3 (by omega) (by omega),fun h=>?_⟩⟩⟩
   rw[h49] at h;cases h
  ·intro h
   exfalso
   revert h
   dsimp only[f17,f17t]
   rw[h9,h8,hlb,em,e0,h49]
   intro h
   exact absurd (show (3:Int)=0 from h) (by decide)
 |false =>
  have h49':=h49
  simp only[Bool.cond_true_left,jJ,decide_eq_false_iff_not] at h49'
  constructor
  ·dsimp only[uJ4,f17t]
   rw[h9,h8,hlb,em,hcp.1]
   refine⟨wV p g.fit,fun _=>⟨(vI6 p _ (by omega)).1,fun _=>⟨(wO0 p _ (by omega)).1,xY3 (by omega) (by omega),xY3 (by omega) (by omega),fun _=>xY3 (by omega) (by omega),fun _=>⟨w1,⟨by omega,Int.le_refl _,by omega⟩,?_,hcp.2,xY3 (by omega) (by omega),?_,xY3 (by omega) (by omega)⟩⟩⟩⟩
   ·have key:∀ (M':IMap) (k:Int) (R:List D49),M'=M→k=((1+c:Nat):Int)→R=List.replicate (1+c) Z49→Am.Ends (wL7 (p,zP2,(i:Int),((1+c:Nat):Int),M',k,())) (wA9 (p,zP2,(i:Int),((1+c:Nat):Int),M',k,())) (wQ6 (p,zP2,(i:Int),((1+c:Nat):Int),M',k,())) (R,(0:Int),()):=fun M' k R q1 q2 q3=>by subst q1 q2 q3;exact u1
    exact key _ _ _ eM (by rw[hrl,hlr]) hrl
   ·have key:∀ (M':IMap) (k:Int) (R:List D49),M'=M→k=((1+c:Nat):Int)→R=List.replicate (1+c) Z49→uU7 p.2.2.2.1 ((i:Int)+((1+c:Nat):Int)) (vD6 (p,zP2,(i:Int),((1+c:Nat):Int),M',k,()) (zC3 (wL7 (p,zP2,(i:Int),((1+c:Nat):Int),M',k,())) (wA9 (p,zP2,(i:Int),((1+c:Nat):Int),M',k,())) (R,(0:Int),()))):=fun M' k R q1 q2 q3=>by
     subst q2 q3
     rw[q1,eC]
     exact⟨by omega,by omega,by omega,by omega⟩
    exact key _ _ _ eM (by rw[hrl,hlr]) hrl
  ·intro _
   refine⟨C,⟨b,u3,M,w2,u4⟩,by omega,by omega,?_⟩
   have hz:(p,((0:Int),(0:Int),(0:Int),([]:List D49),(0:Int),((0:Int),(0:Int),([]:List Int),()),([]:List D87),([]:List D90),()),(i:Int),((1+c:Nat):Int),((1+c:Nat):Int),())=yA p i (1+c):=rfl
   simp only[f17,f17t,h9,h8,hlb,em,hcp.1,e0,h49,hrl,hlr,bne_self_eq_false,jD]
   have eM':=eM
   have eC':=eC
   unfold zP2 at eM' eC'
   rw[eM',eC']
   show (vE5 p (f36 p.2.2.2.1 ((i:Int)+((1+c:Nat):Int)) C) (p.2.2.2.2.1+((1+c:Nat):Int)),p.2.2.2.2.1,0,())=_
   unfold dupD f36
   rw[show ((i:Int)+((1+c:Nat):Int)).toNat=i+(1+c) by omega]
end Go.Proofs.YtpanghcojpnkaaaGreatDoor.Am
namespace Go.Proofs.YtpanghcojpnkaaaGreatDoor.Am
open Go Go.Am
def gsI (l:List D49)(i:Nat)(x:wR3):Prop:=∃ k:Nat,x.2.1=(k:Int)∧(k:Int)≤len l∧∀ a:Nat,(a:Int)∈x.1↔a<k∧paL l a=idL l i
theorem oH6 (p:D28)(i:Nat):∀ a:Nat,(a:Int)∈(zC3 (wP ((i:Int),p,p.2.2.2.1,len p.2.2.2.1,())) (wC7 ((i:Int),p,p.2.2.2.1,len p.2.2.2.1,())) (([]:List Int),(0:Int),())).1↔(a:Int)<len p.2.2.2.1∧len p.2.2.2.1≤64∧paL p.2.2.2.1 a=idL p.2.2.2.1 i∨((a:Int)∈(zC3 (wP ((i:Int),p,p.2.2.2.1,len p.2.2.2.1,())) (wC7 ((i:Int),p,p.2.2.2.1,len p.2.2.2.1,())) (([]:List Int),(0:Int),())).1∧¬ len p.2.2.2.1≤64):=by
 by_cases hn:len p.2.2.2.1≤64
 ·have h0n:=xT7 p.2.2.2.1
  have w:=xQ0 (g:=wP ((i:Int),p,p.2.2.2.1,len p.2.2.2.1,())) (next:=wC7 ((i:Int),p,p.2.2.2.1,len p.2.2.2.1,())) (gsI p.2.2.2.1 i) (fun x=>(len p.2.2.2.1-x.2.1).toNat) (fun x hx hg=>?_) (x:=(([]:List Int),(0:Int),())) ⟨0,rfl,by omega,fun a=>⟨fun h=>(by cases h),fun h=>(by omega)⟩⟩ (by unfold zI1;simp only;omega)
  ·obtain⟨⟨k,k1,k2,k3⟩,hg⟩:=w
   have hg':¬ (zC3 (wP ((i:Int),p,p.2.2.2.1,len p.2.2.2.1,())) (wC7 ((i:Int),p,p.2.2.2.1,len p.2.2.2.1,())) (([]:List Int),(0:Int),())).2.1<len p.2.2.2.1:=of_decide_eq_false hg
   intro a
   rw[k3 a]
   constructor
   ·rintro⟨h1,h2⟩;exact .inl ⟨by omega,hn,h2⟩
   ·rintro (⟨h1,_,h2⟩ | ⟨_,h⟩)
    ·exact⟨by omega,h2⟩
    ·exact absurd hn h
  ·obtain⟨k,k1,k2,k3⟩:=hx
   obtain⟨s,k',⟨⟩⟩:=x
   simp only at k1 k3
   subst k1
   have h4:(k:Int)<len p.2.2.2.1:=jF hg
   refine⟨⟨k+1,by show (k:Int)+1=_;omega,by omega,fun a=>?_⟩,(show (len p.2.2.2.1-((k:Int)+1)).toNat<(len p.2.2.2.1-(k:Int)).toNat by omega)⟩
   show (a:Int)∈(bif ((nth p.2.2.2.1 (k:Int) Z49).2.2.1==(nth p.2.2.2.1 (i:Int) Z49).1) then s++[(k:Int)] else s)↔_
   cases hb:((nth p.2.2.2.1 (k:Int) Z49).2.2.1==(nth p.2.2.2.1 (i:Int) Z49).1) with
   |true =>
    have hb':paL p.2.2.2.1 k=idL p.2.2.2.1 i:=by simpa[paL,idL] using hb
    rw[jE,List.mem_append,jH,k3 a]
    constructor
    ·rintro (⟨h1,h2⟩ | h)
     ·exact⟨by omega,h2⟩
     ·have:a=k:=by omega
      subst this;exact⟨by omega,hb'⟩
    ·rintro⟨h1,h2⟩
     by_cases e:a=k
     ·exact .inr (by omega)
     ·exact .inl ⟨by omega,h2⟩
   |false =>
    have hb':paL p.2.2.2.1 k≠idL p.2.2.2.1 i:=by simpa[paL,idL] using hb
    rw[jD,k3 a]
    constructor
    ·rintro⟨h1,h2⟩;exact⟨by omega,h2⟩
    ·rintro⟨h1,h2⟩
     by_cases e:a=k
     ·subst e;exact absurd h2 hb'
     ·exact⟨by omega,h2⟩
 ·intro a
  exact⟨fun h=>.inr ⟨h,hn⟩,fun h=>h.elim (fun q=>absurd q.2.1 hn) fun q=>q.1⟩
def rfL (l:List D49)(j:Nat):Int:=vB5 (nth l (j:Int) Z49)
theorem qN1 (p:D28)(hn:len p.2.2.2.1≤64)(a i:Nat):Src p a i↔(kdL p.2.2.2.1 i=1∧(a:Int)<len p.2.2.2.1∧paL p.2.2.2.1 a=idL p.2.2.2.1 i)∨(kdL p.2.2.2.1 i=10∧f8 p (rfL p.2.2.2.1 i)=(a:Int)):=by
 have hs:f60 p (i:Int)=(bif ((nth p.2.2.2.1 (i:Int) Z49).2.1==1) then (zC3 (wP ((i:Int),p,p.2.2.2.1,len p.2.2.2.1,())) (wC7 ((i:Int),p,p.2.2.2.1,len p.2.2.2.1,())) (([]:List Int),(0:Int),())).1 else (bif ((nth p.2.2.2.1 (i:Int) Z49).2.1==10) then (bif decide (f8 p (rfL p.2.2.2.1 i)≥0) then [f8 p (rfL p.2.2.2.1 i)] else []) else [])):=rfl
 unfold Src
 rw[hs]
 by_cases h1:kdL p.2.2.2.1 i=1
 ·have hb:((nth p.2.2.2.1 (i:Int) Z49).2.1==1)=true:=by simpa[kdL] using h1
  rw[hb,jE,oH6]
  constructor
  ·rintro (⟨q1,_,q2⟩ | ⟨_,q⟩)
   ·exact .inl ⟨h1,q1,q2⟩
   ·exact absurd hn q
  ·rintro (⟨_,q1,q2⟩ | ⟨q,_⟩)
   ·exact .inl ⟨q1,hn,q2⟩
   ·omega
 ·have hb:((nth p.2.2.2.1 (i:Int) Z49).2.1==1)=false:=by simpa[kdL] using h1
  rw[hb,jD]
  by_cases h2:kdL p.2.2.2.1 i=10
  ·have hb2:((nth p.2.2.2.1 (i:Int) Z49).2.1==10)=true:=by simpa[kdL] using h2
   rw[hb2,jE]
   by_cases h3:f8 p (rfL p.2.2.2.1 i)≥0
   ·rw[decide_eq_true h3,jE,jH]
    constructor
    ·intro q;exact .inr ⟨h2,q.symm⟩
    ·rintro (⟨q,_⟩ | ⟨_,q⟩)
     ·omega
     ·exact q.symm
   ·rw[decide_eq_false h3,jD]
    constructor
    ·intro q;cases q
    ·rintro (⟨q,_⟩ | ⟨_,q⟩)
     ·omega
     ·omega
  ·have hb2:((nth p.2.2.2.1 (i:Int) Z49).2.1==10)=false:=by simpa[kdL] using h2
   rw[hb2,jD]
   constructor
   ·intro q;cases q
   ·rintro (⟨q,_⟩ | ⟨q,_⟩)
    ·exact absurd q h1
    ·exact absurd q h2
theorem uN3 {p:D28}{i c:Nat}{C:List D49}(d:IsDup p i c C):(dupD p i (1+c) C).2.2.2.1.length=p.2.2.2.1.length+(1+c):=by
 have hle:=d.blk.le
 show (List.take (i+(1+c)) p.2.2.2.1++(C++List.drop (i+(1+c)) p.2.2.2.1)).length=_
 rw[jO,jO,d.len,jT,List.length_drop];omega
theorem qN2 (n:D49):cpN n n.1 n.2.2.1 (vB5 n)=n:=rfl
theorem sD7 {p:D28}{i c:Nat}{C:List D49}(d:IsDup p i c C)(j:Nat) :
  (dupD p i (1+c) C).2.2.2.1.getD j Z49=cpN (p.2.2.2.1.getD (orig i (1+c) j) Z49) (idL (dupD p i (1+c) C).2.2.2.1 j) (paL (dupD p i (1+c) C).2.2.2.1 j) (rfL (dupD p i (1+c) C).2.2.2.1 j) ∧
  (kdL p.2.2.2.1 (orig i (1+c) j)≠10→rfL (dupD p i (1+c) C).2.2.2.1 j=rfL p.2.2.2.1 (orig i (1+c) j)):=by
 have hle:=d.blk.le
 have e:(dupD p i (1+c) C).2.2.2.1.getD j Z49=if j<i+(1+c) then p.2.2.2.1.getD j Z49 else if j<i+(1+c)+(1+c) then C.getD (j-(i+(1+c))) Z49 else p.2.2.2.1.getD (j-(1+c)) Z49:=uY0 (by omega) d.len j
 unfold idL paL rfL kdL
 rw[wC1,wC1,e]
 unfold orig
 by_cases h1:j<i+(1+c)
 ·rw[if_pos h1,if_pos h1]
  exact⟨(qN2 _).symm,fun _=>rfl⟩
 ·rw[if_neg h1,if_neg h1]
  by_cases h2:j<i+(1+c)+(1+c)
  ·rw[if_pos h2]
   obtain⟨M,_,hM⟩:=d.at'
   rw[hM (j-(i+(1+c))) (by omega),show i+(j-(i+(1+c)))=j-(1+c) by omega]
   refine⟨rfl,fun hk=>?_⟩
   have hk':((p.2.2.2.1.getD (j-(1+c)) Z49).2.1==10)=false:=by simpa using hk
   show (bif (bif Option.isSome (mf (vB5 (p.2.2.2.1.getD (j-(1+c)) Z49)) M) then (p.2.2.2.1.getD (j-(1+c)) Z49).2.1==10 else false) then _ else vB5 (p.2.2.2.1.getD (j-(1+c)) Z49))=_
   rw[hk']
   cases Option.isSome (mf (vB5 (p.2.2.2.1.getD (j-(1+c)) Z49)) M)<;>rfl
  ·rw[if_neg h2]
   exact⟨(qN2 _).symm,fun _=>rfl⟩
theorem uV2 {p:D28}{i c:Nat}{C:List D49}(d:IsDup p i c C)(j:Nat):kdL (dupD p i (1+c) C).2.2.2.1 j=kdL p.2.2.2.1 (orig i (1+c) j)∧clL (dupD p i (1+c) C).2.2.2.1 j=clL p.2.2.2.1 (orig i (1+c) j)∧f54 (nth (dupD p i (1+c) C).2.2.2.1 (j:Int) Z49)=f54 (nth p.2.2.2.1 (orig i (1+c) j:Int) Z49):=by
 have e:=(sD7 d j).1
 unfold kdL clL
 rw[wC1,wC1,e]
 exact⟨rfl,rfl,rfl⟩
theorem rM7 {p:D28}{i m:Nat}{M:IMap}(h:IdM p i m M){k:Int}(hk:∀ t,t<m→idL p.2.2.2.1 (i+t)≠k):mf k M=none:=by
 cases hc:mf k M with
 |none=>rfl
 |some v =>
  obtain⟨t,t1,_,t3⟩:=(h k v).1 hc
  exact absurd t3 (hk t t1)
theorem rM8 {p:D28}(v:Valid p){i c:Nat}{C:List D49}(d:IsDup p i c C):Dup (idL p.2.2.2.1) (paL p.2.2.2.1) (idL (dupD p i (1+c) C).2.2.2.1) (paL (dupD p i (1+c) C).2.2.2.1) p.2.2.2.1.length i c p.2.2.2.2.1:=by
 have hle:=d.blk.le
 have hN:=(uN0 p v.len1).1 v.nodes
 have e:∀ j,(dupD p i (1+c) C).2.2.2.1.getD j Z49=if j<i+(1+c) then p.2.2.2.1.getD j Z49 else if j<i+(1+c)+(1+c) then C.getD (j-(i+(1+c))) Z49 else p.2.2.2.1.getD (j-(1+c)) Z49:=fun j=>uY0 (by omega) d.len j
 obtain⟨M,hM,hC⟩:=d.at'
 have cp:∀ r,r<1+c→(dupD p i (1+c) C).2.2.2.1.getD (i+(1+c)+r) Z49=cpy M (p.2.2.2.1.getD (i+r) Z49):=fun r hr=>by
  rw[e,if_neg (by omega),if_pos (by omega),show i+(1+c)+r-(i+(1+c))=r by omega,hC r hr]
 have cpI:∀ r,r<1+c→idL (dupD p i (1+c) C).2.2.2.1 (i+(1+c)+r)=Option.getD (mf (idL p.2.2.2.1 (i+r)) M) 0:=fun r hr=>by
  unfold idL;rw[wC1,wC1,cp r hr];rfl
 have cpP:∀ r,r<1+c→paL (dupD p i (1+c) C).2.2.2.1 (i+(1+c)+r)=bif Option.isSome (mf (paL p.2.2.2.1 (i+r)) M) then Option.getD (mf (paL p.2.2.2.1 (i+r)) M) 0 else paL p.2.2.2.1 (i+r):=fun r hr=>by
  unfold paL;rw[wC1,wC1,cp r hr];rfl
 refine⟨d.blk,fun j hj=>(hN j (by unfold len;omega)).lt,fun j hj=>?_,fun r hr=>?_,?_,fun r t hr ht h=>?_,fun j h1 h2=>?_⟩
 ·unfold idL paL
  rw[wC1,wC1,e,if_pos hj]
  exact⟨rfl,rfl⟩
 ·rw[cpI r hr,(hM _ _).2 ⟨r,hr,rfl,rfl⟩];rfl
 ·have:=cpP 0 (by omega)
  rw[Nat.add_zero,Nat.add_zero] at this
  rw[this,rM7 hM fun t ht h=>by
   have:=pC9 d.blk h.symm (by omega);omega]
  rfl
 ·rw[cpP r hr,h,(hM _ _).2 ⟨t,ht,rfl,rfl⟩];rfl
 ·unfold idL paL
  rw[wC1,wC1,e,if_neg (by omega),if_neg (by omega),show j+(1+c)-(1+c)=j by omega]
  exact⟨rfl,rfl⟩
theorem qN3 {p:D28}(v:Valid p){i c:Nat}{C:List D49}(d:IsDup p i c C)(hn':len p.2.2.2.1+(1+c)≤64){j:Nat}(hj:j<p.2.2.2.1.length+(1+c))(hk:kdL p.2.2.2.1 (orig i (1+c) j)=10) :
  ∃ a,a<p.2.2.2.1.length+(1+c)∧f8 (dupD p i (1+c) C) (rfL (dupD p i (1+c) C).2.2.2.1 j)=(a:Int)∧f8 p (rfL p.2.2.2.1 (orig i (1+c) j))=(orig i (1+c) a:Int)∧f54 (nth p.2.2.2.1 (orig i (1+c) a:Int) Z49)=false:=by
 have hle:=d.blk.le
 have ln:(p.2.2.2.1.length:Int)=len p.2.2.2.1:=rfl
 have D:=rM8 v d
 have tr:=sD3 D v.next1
 have hdl:=uN3 d
 have ol:=wQ7 hle hj
 obtain⟨_,hr⟩:=(rA6 p v.len1).1 v.refs (orig i (1+c) j) (by omega)
 obtain⟨r1,r2⟩:=hr hk
 have r1':¬ f8 p (rfL p.2.2.2.1 (orig i (1+c) j))<0:=r1
 have r2':f54 (nth p.2.2.2.1 (f8 p (rfL p.2.2.2.1 (orig i (1+c) j))) Z49)=false:=r2
 rcases wL8 p (rfL p.2.2.2.1 (orig i (1+c) j)) (by omega) with ⟨q,_⟩ | ⟨a0,a1,a2,a3,_⟩
 ·omega
 ·rw[a2] at r2'
  have hfo:Fo (idL (dupD p i (1+c) C).2.2.2.1) (paL (dupD p i (1+c) C).2.2.2.1) (dupD p i (1+c) C).2.2.2.1.length:=by rw[hdl];exact sD tr
  have fin:∀ a,a<p.2.2.2.1.length+(1+c)→idL (dupD p i (1+c) C).2.2.2.1 a=rfL (dupD p i (1+c) C).2.2.2.1 j→orig i (1+c) a=a0→∃ a,a<p.2.2.2.1.length+(1+c)∧f8 (dupD p i (1+c) C) (rfL (dupD p i (1+c) C).2.2.2.1 j)=(a:Int)∧f8 p (rfL p.2.2.2.1 (orig i (1+c) j))=(orig i (1+c) a:Int)∧f54 (nth p.2.2.2.1 (orig i (1+c) a:Int) Z49)=false:=fun a h1 h2 h3 =>
   ⟨a,h1,by rw[← h2];exact rA2 hfo (by unfold len;omega) (by omega),by rw[h3];exact a2,by rw[h3];exact r2'⟩
  have same:rfL (dupD p i (1+c) C).2.2.2.1 j=rfL p.2.2.2.1 (orig i (1+c) j)→∃ a,a<p.2.2.2.1.length+(1+c)∧f8 (dupD p i (1+c) C) (rfL (dupD p i (1+c) C).2.2.2.1 j)=(a:Int)∧f8 p (rfL p.2.2.2.1 (orig i (1+c) j))=(orig i (1+c) a:Int)∧f54 (nth p.2.2.2.1 (orig i (1+c) a:Int) Z49)=false:=fun hs=>by
   by_cases h1:a0<i+(1+c)
   ·exact fin a0 (by omega) (by rw[hs,← a3];exact (D.lo a0 h1).1) (by unfold orig;rw[if_pos h1])
   ·exact fin (a0+(1+c)) (by omega) (by rw[hs,← a3];exact (D.hi a0 (by omega) a1).1) (by unfold orig;rw[if_neg (by omega)];omega)
  by_cases hcp:i+(1+c)≤j∧j<i+(1+c)+(1+c)
  ·obtain⟨M,hM,hC⟩:=d.at'
   have eo:orig i (1+c) j=j-(1+c):=by unfold orig;rw[if_neg (by omega)]
   have er:rfL (dupD p i (1+c) C).2.2.2.1 j=bif Option.isSome (mf (rfL p.2.2.2.1 (orig i (1+c) j)) M) then Option.getD (mf (rfL p.2.2.2.1 (orig i (1+c) j)) M) 0 else rfL p.2.2.2.1 (orig i (1+c) j):=by
    have e:(dupD p i (1+c) C).2.2.2.1.getD j Z49=cpy M (p.2.2.2.1.getD (orig i (1+c) j) Z49):=by
     have:=uY0 (l:=p.2.2.2.1) (C:=C) (i:=i) (m:=1+c) (by omega) d.len j
     rw[if_neg (by omega),if_pos (by omega),hC (j-(i+(1+c))) (by omega),show i+(j-(i+(1+c)))=orig i (1+c) j by omega] at this
     exact this
    unfold rfL
    rw[wC1,wC1,e]
    have hk':((p.2.2.2.1.getD (orig i (1+c) j) Z49).2.1==10)=true:=by
     unfold kdL at hk
     rw[wC1] at hk
     simpa using hk
    show (bif (bif Option.isSome (mf (vB5 (p.2.2.2.1.getD (orig i (1+c) j) Z49)) M) then (p.2.2.2.1.getD (orig i (1+c) j) Z49).2.1==10 else false) then Option.getD (mf (vB5 (p.2.2.2.1.getD (orig i (1+c) j) Z49)) M) 0 else vB5 (p.2.2.2.1.getD (orig i (1+c) j) Z49))=_
    rw[hk']
    cases Option.isSome (mf (vB5 (p.2.2.2.1.getD (orig i (1+c) j) Z49)) M)<;>rfl
   by_cases hin:i≤a0∧a0<i+(1+c)
   ·have hs:mf (rfL p.2.2.2.1 (orig i (1+c) j)) M=some (p.2.2.2.2.1+((a0-i:Nat):Int)):=(hM _ _).2 ⟨a0-i,by omega,rfl,by rw[show i+(a0-i)=a0 by omega];exact a3⟩
    rw[hs] at er
    exact fin (i+(1+c)+(a0-i)) (by omega) (by rw[er,D.cpI (a0-i) (by omega)];rfl) (by unfold orig;rw[if_neg (by omega)];omega)
   ·refine same ?_
    rw[er,rM7 hM fun t ht h=>by
     have:=d.blk.tree.inj (i+t) a0 (by omega) a1 (by rw[h,a3])
     omega]
    rfl
  ·-- not a copy: the node is as it was
   refine same ?_
   have e:(dupD p i (1+c) C).2.2.2.1.getD j Z49=p.2.2.2.1.getD (orig i (1+c) j) Z49:=by
    have:=uY0 (l:=p.2.2.2.1) (C:=C) (i:=i) (m:=1+c) (by omega) d.len j
    unfold orig
    by_cases h1:j<i+(1+c)
    ·rw[if_pos h1] at this ⊢;exact this
    ·rw[if_neg h1,if_neg (by omega)] at this
     rw[if_neg h1];exact this
   unfold rfL
   rw[wC1,wC1,e]
end Go.Proofs.YtpanghcojpnkaaaGreatDoor.Am
namespace Go.Proofs.YtpanghcojpnkaaaGreatDoor.Am
open Go Go.Am
theorem sD8 {x:Int}(h0:0≤x)(h1:x≤1073741824):f104 x=true:=by
 show (bif decide (x≥0) then decide (x≤1073741824) else false)=true
 rw[decide_eq_true h0,decide_eq_true h1];rfl
theorem oH7 {p:D28}(v:Valid p){i c:Nat}{C:List D49}(d:IsDup p i c C)(hn':len p.2.2.2.1+(1+c)≤64)(hN':p.2.2.2.2.1+(1+c)≤1073741824){j:Nat}(hj:j<p.2.2.2.1.length+(1+c)):NAt (dupD p i (1+c) C) j:=by
 have hle:=d.blk.le
 have ln:(p.2.2.2.1.length:Int)=len p.2.2.2.1:=rfl
 have D:=rM8 v d
 have tr:=sD3 D v.next1
 have ol:=wQ7 hle hj
 have hN1:=v.next1
 have ho:=(uN0 p v.len1).1 v.nodes (orig i (1+c) j) (by omega)
 obtain⟨dn,dr⟩:=sD7 d j
 obtain⟨p0,p1⟩:=rA5 D hj
 have hid:1≤idL (dupD p i (1+c) C).2.2.2.1 j∧idL (dupD p i (1+c) C).2.2.2.1 j<p.2.2.2.2.1+((1+c:Nat):Int):=by
  refine⟨tr.pos j hj,?_⟩
  rcases tP D hj with ⟨a1,_⟩ | ⟨r,r1,_,r3,_⟩
  ·rw[a1];have:=ho.lt;omega
  ·omega
 have hpar0:paL (dupD p i (1+c) C).2.2.2.1 j=0∨∃ u',u'<j∧paL (dupD p i (1+c) C).2.2.2.1 j=idL (dupD p i (1+c) C).2.2.2.1 u'∧kdL (dupD p i (1+c) C).2.2.2.1 u'=1:=by
  rcases ho.par with q|⟨⟨u,hu,e,k⟩,_⟩
  ·exact .inl (p0 q)
  ·obtain⟨u',a1,a2,a3⟩:=p1 u hu e
   exact .inr ⟨u',a1,a3,by rw[(uV2 d u').1,a2];exact k⟩
 have hidu:∀ u,u<p.2.2.2.1.length+(1+c)→1≤idL (dupD p i (1+c) C).2.2.2.1 u∧idL (dupD p i (1+c) C).2.2.2.1 u<p.2.2.2.2.1+((1+c:Nat):Int):=fun u hu=>by
  refine⟨tr.pos u hu,?_⟩
  rcases tP D hu with ⟨a1,_⟩ | ⟨r,r1,_,r3,_⟩
  ·rw[a1]
   have:=((uN0 p v.len1).1 v.nodes (orig i (1+c) u) (by have:=wQ7 hle hu;omega)).lt
   omega
  ·omega
 refine⟨?_,hid.1,hid.2,fun k hk e=>?_,?_,?_⟩
 ·-- node.Check
  have e:nth (dupD p i (1+c) C).2.2.2.1 (j:Int) Z49=cpN (nth p.2.2.2.1 (orig i (1+c) j:Int) Z49) (idL (dupD p i (1+c) C).2.2.2.1 j) (paL (dupD p i (1+c) C).2.2.2.1 j) (rfL (dupD p i (1+c) C).2.2.2.1 j):=by rw[wC1,wC1];exact dn
  rw[e]
  refine pD0 ho.chk (sD8 (by omega) (by omega)) ?_ ?_
  ·rcases hpar0 with q|⟨u',a1,a2,_⟩
   ·rw[q];exact sD8 (by omega) (by omega)
   ·rw[a2];have:=hidu u' (by omega);exact sD8 (by omega) (by omega)
  ·by_cases hk:kdL p.2.2.2.1 (orig i (1+c) j)=10
   ·obtain⟨a,a1,a2,_⟩:=qN3 v d hn' hj hk
    have hfi:=wL8 (dupD p i (1+c) C) (rfL (dupD p i (1+c) C).2.2.2.1 j) (by have:=uN3 d;unfold len;omega)
    rcases hfi with ⟨q,_⟩ | ⟨b,b1,b2,b3,_⟩
    ·rw[q] at a2;omega
    ·have:=hidu b (by have:=uN3 d;omega)
     rw[b3] at this
     exact .inr ⟨hk,this.1,by omega⟩
   ·exact .inl (dr hk)
 ·have:=tr.inj k j (by omega) hj e
  omega
 ·rcases hpar0 with q|⟨u',a1,a2,a3⟩
  ·exact .inl q
  ·rcases tr.par j hj with q|⟨_,q⟩
   ·exact .inl q
   ·exact .inr ⟨⟨u',a1,a2,a3⟩,q⟩
 ·obtain⟨k,k1,k2⟩:=ho.dep
  exact⟨k,k1,oH D j hj k2⟩
theorem pJ {I P:Nat→Int}{n i c:Nat}(b:Blk I P n i c){k t:Nat}(hk:k<n)(ht:t<1+c)(h:P k=I (i+t)):i<k∧k<i+1+c:=by
 have hle:=b.le
 refine (b.und k hk).1 ?_
 by_cases h0:t=0
 ·subst h0;exact .top h
 ·refine .sub ((b.und (i+t) (by omega)).2 (by omega)) ?_ h
  rcases (sD b.tree).par k hk with q|⟨u,hu,q⟩
  ·have:=b.tree.pos (i+t) (by omega);omega
  ·have:=b.tree.inj u (i+t) (by omega) (by omega) (by omega)
   omega
theorem pD5 {p:D28}(v:Valid p){i c:Nat}{C:List D49}(d:IsDup p i c C){j:Nat}(hj:j<p.2.2.2.1.length+(1+c)):CAt (dupD p i (1+c) C).2.2.2.1 j:=by
 have hle:=d.blk.le
 have ln:(p.2.2.2.1.length:Int)=len p.2.2.2.1:=rfl
 have D:=rM8 v d
 have tr:=d.blk.tree
 have ol:=wQ7 hle hj
 have hNs:=(uN0 p v.len1).1 v.nodes
 have hC:=(qN p v.len1).1 v.clips (orig i (1+c) j) (by omega)
 intro hcl
 rw[(uV2 d j).2.1] at hcl
 obtain⟨b,b1,b2,b3,b4,b5⟩:=hC hcl
 have K:=fun x=>uV2 d x
 have olo:∀ x,x<i+(1+c)→orig i (1+c) x=x:=fun x hx=>by unfold orig;rw[if_pos hx]
 have ohi:∀ x,i+(1+c)≤x→orig i (1+c) x=x-(1+c):=fun x hx=>by unfold orig;rw[if_neg (by omega)]
 have small:∀ k,k<p.2.2.2.1.length→paL p.2.2.2.1 k<p.2.2.2.2.1:=fun k hk=>by
  have hN1:=v.next1
  rcases (hNs k (by omega)).par with q|⟨⟨u,hu,e,_⟩,_⟩
  ·rw[q];omega
  ·rw[e];exact (hNs u (by omega)).lt
 have cpr:∀ r,0<r→r<1+c→∃ t,t<r∧paL p.2.2.2.1 (i+r)=idL p.2.2.2.1 (i+t)∧paL (dupD p i (1+c) C).2.2.2.1 (i+(1+c)+r)=p.2.2.2.2.1+t:=fun r h0 hr=>by
  obtain⟨t,ht,e⟩:=rM6 d.blk h0 hr
  exact⟨t,ht,e,D.cpP r t hr (by omega) e⟩
 by_cases h1:j<i+(1+c)
 ·rw[olo j h1] at b1 b2 b5
  refine⟨b,b1,by rw[(D.lo b (by omega)).2,(D.lo j h1).2];exact b2,by rw[(K b).2.1,olo b (by omega)];exact b3,by rw[(K b).2.2,olo b (by omega)];exact b4,fun k k1 k2=>?_⟩
  rw[(D.lo k (by omega)).2,(D.lo j h1).2,(K k).2.1,olo k (by omega)]
  exact b5 k k1 k2
 ·by_cases h2:j<i+(1+c)+(1+c)
  ·obtain⟨r,rfl⟩:∃ r,j=i+(1+c)+r:=⟨j-(i+(1+c)),by omega⟩
   have eo:orig i (1+c) (i+(1+c)+r)=i+r:=by rw[ohi _ (by omega)];omega
   rw[eo] at b1 b2 b5 hcl
   by_cases hr:r=0
   ·subst hr
    rw[Nat.add_zero] at b1 b2 b5 hcl ⊢
    refine⟨b,by omega,by rw[(D.lo b (by omega)).2,D.cp0];exact b2,by rw[(K b).2.1,olo b (by omega)];exact b3,by rw[(K b).2.2,olo b (by omega)];exact b4,fun k k1 k2=>?_⟩
    rw[(D.lo k k2).2,D.cp0,(K k).2.1,olo k k2]
    by_cases hk:k<i
    ·exact b5 k k1 hk
    ·by_cases hki:k=i
     ·right;rw[hki];exact hcl
     ·exact .inl (oP6 d.blk ⟨by omega,by omega⟩)
   ·obtain⟨t,ht,e,e'⟩:=cpr r (by omega) (by omega)
    rw[e] at b2
    have hb:=pJ d.blk (by omega) (by omega) b2
    obtain⟨s,rfl⟩:∃ s,b=i+s:=⟨b-i,by omega⟩
    have es:orig i (1+c) (i+(1+c)+s)=i+s:=by rw[ohi _ (by omega)];omega
    refine⟨i+(1+c)+s,by omega,by rw[D.cpP s t (by omega) (by omega) b2,e'],by rw[(K _).2.1,es];exact b3,by rw[(K _).2.2,es];exact b4,fun k k1 k2=>?_⟩
    obtain⟨x,rfl⟩:∃ x,k=i+(1+c)+x:=⟨k-(i+(1+c)),by omega⟩
    have ex:orig i (1+c) (i+(1+c)+x)=i+x:=by rw[ohi _ (by omega)];omega
    rw[(K _).2.1,ex,e']
    rcases b5 (i+x) (by omega) (by omega) with q|q
    ·left
     obtain⟨t',_,f1,f2⟩:=cpr x (by omega) (by omega)
     rw[f2]
     intro h
     have:t'=t:=by omega
     subst this
     exact q (by rw[f1,e])
    ·exact .inr q
  ·obtain⟨k,rfl⟩:∃ k,j=k+(1+c):=⟨j-(1+c),by omega⟩
   have eo:orig i (1+c) (k+(1+c))=k:=by rw[ohi _ (by omega)];omega
   rw[eo] at b1 b2 b5 hcl
   have hkn:k<p.2.2.2.1.length:=by omega
   have hj2:=(D.hi k (by omega) hkn).2
   have hsm:=small k hkn
   have cpne:∀ r,0<r→r<1+c→paL (dupD p i (1+c) C).2.2.2.1 (i+(1+c)+r)≠paL p.2.2.2.1 k:=fun r h0 hr h=>by
    obtain⟨t,_,_,f2⟩:=cpr r h0 hr
    omega
   have hib:∀ t,t<1+c→paL p.2.2.2.1 k≠idL p.2.2.2.1 (i+t):=fun t ht h=>by
    have:=pJ d.blk hkn ht h;omega
   by_cases hb:b<i+(1+c)
   ·-- the base stands ahead of the copy,or is the root that was copied
    have hbo:b≤i:=by
     refine Nat.le_of_not_lt fun hh=>?_
     obtain⟨t,t1,t2⟩:=rM6 d.blk (r:=b-i) (by omega) (by omega)
     rw[show i+(b-i)=b by omega] at t2
     exact hib t (by omega) (by rw[← b2,t2])
    by_cases hbi:b=i
    ·subst hbi
     have er:orig b (1+c) (b+(1+c))=b:=by rw[ohi _ (by omega)];omega
     refine⟨b+(1+c),by omega,by rw[D.cp0,hj2];exact b2,by rw[(K _).2.1,er];exact b3,by rw[(K _).2.2,er];exact b4,fun x x1 x2=>?_⟩
     rw[hj2]
     by_cases hx:x<b+(1+c)+(1+c)
     ·left
      obtain⟨r,rfl⟩:∃ r,x=b+(1+c)+r:=⟨x-(b+(1+c)),by omega⟩
      exact cpne r (by omega) (by omega)
     ·obtain⟨y,rfl⟩:∃ y,x=y+(1+c):=⟨x-(1+c),by omega⟩
      have ey:orig b (1+c) (y+(1+c))=y:=by rw[ohi _ (by omega)];omega
      rw[(D.hi y (by omega) (by omega)).2,(K _).2.1,ey]
      exact b5 y (by omega) (by omega)
    ·refine⟨b,by omega,by rw[(D.lo b (by omega)).2,hj2];exact b2,by rw[(K b).2.1,olo b hb];exact b3,by rw[(K b).2.2,olo b hb];exact b4,fun x x1 x2=>?_⟩
     rw[hj2]
     by_cases hx0:x<i+(1+c)
     ·rw[(D.lo x hx0).2,(K x).2.1,olo x hx0]
      exact b5 x x1 (by omega)
     ·by_cases hx:x<i+(1+c)+(1+c)
      ·obtain⟨r,rfl⟩:∃ r,x=i+(1+c)+r:=⟨x-(i+(1+c)),by omega⟩
       by_cases hr:r=0
       ·subst hr
        have er:orig i (1+c) (i+(1+c)+0)=i:=by rw[ohi _ (by omega)];omega
        rw[(K _).2.1,er,Nat.add_zero,D.cp0]
        exact b5 i (by omega) (by omega)
       ·exact .inl (cpne r (by omega) (by omega))
      ·obtain⟨y,rfl⟩:∃ y,x=y+(1+c):=⟨x-(1+c),by omega⟩
       have ey:orig i (1+c) (y+(1+c))=y:=by rw[ohi _ (by omega)];omega
       rw[(D.hi y (by omega) (by omega)).2,(K _).2.1,ey]
       exact b5 y (by omega) (by omega)
   ·have eb:orig i (1+c) (b+(1+c))=b:=by rw[ohi _ (by omega)];omega
    refine⟨b+(1+c),by omega,by rw[(D.hi b (by omega) (by omega)).2,hj2];exact b2,by rw[(K _).2.1,eb];exact b3,by rw[(K _).2.2,eb];exact b4,fun x x1 x2=>?_⟩
    obtain⟨y,rfl⟩:∃ y,x=y+(1+c):=⟨x-(1+c),by omega⟩
    have ey:orig i (1+c) (y+(1+c))=y:=by rw[ohi _ (by omega)];omega
    rw[hj2,(D.hi y (by omega) (by omega)).2,(K _).2.1,ey]
    exact b5 y (by omega) (by omega)
theorem pD6 (l:List D90)(n:D49)(id par:Int):tT8 l (cpN n id par (vB5 n),())=tT8 l (n,()):=rfl
theorem oH8 {p:D28}(v:Valid p){i c:Nat}{C:List D49}(d:IsDup p i c C)(hn':len p.2.2.2.1+(1+c)≤64){j:Nat}(hj:j<p.2.2.2.1.length+(1+c)):RAt (dupD p i (1+c) C) j:=by
 have hle:=d.blk.le
 have ln:(p.2.2.2.1.length:Int)=len p.2.2.2.1:=rfl
 have ol:=wQ7 hle hj
 have hR:=(rA6 p v.len1).1 v.refs (orig i (1+c) j) (by omega)
 obtain⟨dn,dr⟩:=sD7 d j
 have e:nth (dupD p i (1+c) C).2.2.2.1 (j:Int) Z49=cpN (nth p.2.2.2.1 (orig i (1+c) j:Int) Z49) (idL (dupD p i (1+c) C).2.2.2.1 j) (paL (dupD p i (1+c) C).2.2.2.1 j) (rfL (dupD p i (1+c) C).2.2.2.1 j):=by rw[wC1,wC1];exact dn
 refine⟨fun hk=>?_,fun hk=>?_⟩
 ·rw[(uV2 d j).1] at hk
  have:=dr (by rw[hk];decide)
  rw[e,this]
  exact (pD6 _ _ _ _).trans (hR.1 hk)
 ·rw[(uV2 d j).1] at hk
  obtain⟨a,a1,a2,a3,a4⟩:=qN3 v d hn' hj hk
  have a2':f8 (dupD p i (1+c) C) (vB5 (nth (dupD p i (1+c) C).2.2.2.1 (j:Int) Z49))=(a:Int):=a2
  show ¬ f8 (dupD p i (1+c) C) (vB5 (nth (dupD p i (1+c) C).2.2.2.1 (j:Int) Z49))<0∧f54 (nth (dupD p i (1+c) C).2.2.2.1 (f8 (dupD p i (1+c) C) (vB5 (nth (dupD p i (1+c) C).2.2.2.1 (j:Int) Z49))) Z49)=false
  rw[a2',(uV2 d a).2.2]
  exact⟨by omega,a4⟩
theorem oH9 {p:D28}(v:Valid p){i c:Nat}{C:List D49}(d:IsDup p i c C)(hn':len p.2.2.2.1+(1+c)≤64):∀ j,j<p.2.2.2.1.length+(1+c)→Acc (Src (dupD p i (1+c) C)) j:=by
 have hle:=d.blk.le
 have ln:(p.2.2.2.1.length:Int)=len p.2.2.2.1:=rfl
 have D:=rM8 v d
 have tr:=sD3 D v.next1
 have hdl:=uN3 d
 have hld:len (dupD p i (1+c) C).2.2.2.1=len p.2.2.2.1+(1+c):=by unfold len;rw[hdl];omega
 have hA:=(qN0 p v.len1).1 v.cyc
 have step:∀ a b,b<p.2.2.2.1.length+(1+c)→Src (dupD p i (1+c) C) a b→a<p.2.2.2.1.length+(1+c)∧Src p (orig i (1+c) a) (orig i (1+c) b):=fun a b hb hs=>by
  rw[qN1 _ (by omega)] at hs
  rw[qN1 _ v.len1]
  have ob:=wQ7 hle hb
  rcases hs with ⟨h1,h2,h3⟩ | ⟨h1,h2⟩
  ·rw[(uV2 d b).1] at h1
   have ha:a<p.2.2.2.1.length+(1+c):=by omega
   have oa:=wQ7 hle ha
   refine⟨ha,.inl ⟨h1,by omega,?_⟩⟩
   obtain⟨p0,p1⟩:=rA5 D ha
   rcases (sD d.blk.tree).par _ oa with q|⟨u,hu,q⟩
   ·have:=p0 q
    have h4:=tr.pos b hb
    omega
   ·obtain⟨u',a1,a2,a3⟩:=p1 u hu q
    have:=tr.inj u' b (by omega) hb (by rw[← a3,h3])
    subst this
    rw[q,a2]
  ·rw[(uV2 d b).1] at h1
   obtain⟨a',a1,a2,a3,_⟩:=qN3 v d hn' hb h1
   have:a'=a:=by
    have:f8 (dupD p i (1+c) C) (rfL (dupD p i (1+c) C).2.2.2.1 b)=(a:Int):=h2
    rw[a2] at this;omega
   subst this
   exact⟨a1,.inr ⟨h1,a3⟩⟩
 have key:∀ o,Acc (Src p) o→∀ j,j<p.2.2.2.1.length+(1+c)→orig i (1+c) j=o→Acc (Src (dupD p i (1+c) C)) j:=by
  intro o ho
  induction ho with
  |intro o _ ih =>
   intro j hj e
   refine .intro j fun a ha=>?_
   obtain⟨h1,h2⟩:=step a j hj ha
   rw[e] at h2
   exact ih _ h2 a h1 rfl
 intro j hj
 have:=wQ7 hle hj
 exact key _ (hA _ (by omega)) j hj rfl
theorem qN4 {p:D28}(v:Valid p){i c:Nat}{C:List D49}(d:IsDup p i c C)(hn':len p.2.2.2.1+(1+c)≤64)(hN':p.2.2.2.2.1+(1+c)≤1073741824):Valid (dupD p i (1+c) C):=by
 have hdl:=uN3 d
 have hld:len (dupD p i (1+c) C).2.2.2.1=len p.2.2.2.1+(1+c):=by unfold len;rw[hdl];omega
 have hN1:=v.next1
 have ln:(p.2.2.2.1.length:Int)=len p.2.2.2.1:=rfl
 refine⟨v.head,by omega,v.len2,?_,?_,?_,?_,?_,?_,?_,v.sel,v.size,v.mta⟩
 ·show 1≤p.2.2.2.2.1+((1+c:Nat):Int);omega
 ·show p.2.2.2.2.1+((1+c:Nat):Int)≤1073741824;omega
 ·exact (uN0 _ (by omega)).2 fun j hj=>oH7 v d hn' hN' (by omega)
 ·exact (qN _ (by omega)).2 fun j hj=>pD5 v d (by omega)
 ·exact rT1 _ v.len2 (by omega) v.links
 ·exact (rA6 _ (by omega)).2 fun j hj=>oH8 v d hn' (by omega)
 ·exact (qN0 _ (by omega)).2 fun j hj=>oH9 v d hn' j (by omega)
end Go.Proofs.YtpanghcojpnkaaaGreatDoor.Am
