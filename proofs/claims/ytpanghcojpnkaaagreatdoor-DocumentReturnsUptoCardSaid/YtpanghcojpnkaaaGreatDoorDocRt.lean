/- Move and back again. Condition: the second form's bound. -/
import Derived.Test.YtpanghcojpnkaaaGreatDoorDocSl
namespace Go.Proofs.YtpanghcojpnkaaaGreatDoor.Am
open Go Go.Am
theorem rI2 (n:D49)(a b:Int):vT (vT n a) b=vT n b:=rfl
theorem qX5 {l:List D49}{i m r:Nat}(hr:r<m):(blkL l i m).getD r Z49=l.getD (i+r) Z49:=by
 unfold blkL
 rw[List.getD_eq_getElem?_getD,List.getD_eq_getElem?_getD,List.getElem?_drop,List.getElem?_take_of_lt (by omega)]
theorem rV0 {l:List D49}{i m:Nat}(hm:0<m):wN9 (blkL l i m) (paL l i)=blkL l i m:=by
 unfold wN9
 have e:nth (blkL l i m) (0:Int) Z49=nth l (i:Int) Z49:=by
  have:=qX5 (l:=l) (i:=i) (r:=0) hm
  rw[show (0:Int)=((0:Nat):Int) from rfl,uD,uD,this,Nat.add_zero]
 rw[e]
 have e2:vT (nth l (i:Int) Z49) (paL l i)=nth l (i:Int) Z49:=rfl
 rw[e2,← e]
 exact rU6 (blkL l i m) 0 Z49
theorem nB0 (b:List D49)(hb:0<b.length)(x y:Int):wN9 (wN9 b x) y=wN9 b y:=by
 unfold wN9
 have e:nth (List.set b 0 (vT (nth b (0:Int) Z49) x)) (0:Int) Z49=vT (nth b (0:Int) Z49) x:=by
  show (List.set b 0 _).getD 0 Z49=_
  rw[List.getD_eq_getElem?_getD,List.getElem?_set_self hb];rfl
 rw[e,List.set_set,rI2]
theorem sX4 {l:List D49}{i m:Nat}(h:i+m≤l.length):List.take i (yL9 l i m)++(blkL l i m++List.drop i (yL9 l i m))=l:=by
 have h1:List.take i (yL9 l i m)=List.take i l:=by
  unfold yL9
  rw[List.take_append_of_le_length (by rw[List.length_take];omega),List.take_take,Nat.min_self]
 have h2:List.drop i (yL9 l i m)=List.drop (i+m) l:=by
  unfold yL9
  rw[List.drop_append_of_le_length (by rw[List.length_take];omega),List.drop_of_length_le (by rw[List.length_take];omega),List.nil_append]
 rw[h1,h2]
 unfold blkL
 have h3:List.drop i (List.take (i+m) l)++List.drop (i+m) l=List.drop i l:=by
  have:=List.drop_append_of_le_length (l₁:=List.take (i+m) l) (l₂:=List.drop (i+m) l) (i:=i) (by rw[List.length_take];omega)
  rw[List.take_append_drop] at this
  exact this.symm
 rw[h3,List.take_append_drop]
theorem pU0 {s b:List D49}{k:Nat}(hk:k≤s.length):yL9 (List.take k s++(b++List.drop k s)) k b.length=s∧blkL (List.take k s++(b++List.drop k s)) k b.length=b:=by
 have ht:(List.take k s).length=k:=by rw[List.length_take];omega
 constructor
 ·unfold yL9
  rw[List.take_append_of_le_length (by omega),List.take_of_length_le (by omega),List.drop_append,ht,List.drop_of_length_le (by omega),List.nil_append,show k+b.length-k=b.length by omega,List.drop_append_of_le_length (Nat.le_refl _),List.drop_of_length_le (Nat.le_refl _),List.nil_append,List.take_append_drop]
 ·unfold blkL
  rw[List.take_append,ht,List.take_of_length_le (by omega),show k+b.length-k=b.length by omega,List.take_append_of_le_length (Nat.le_refl _),List.take_of_length_le (Nat.le_refl _),List.drop_append_of_le_length (by omega),List.drop_of_length_le (by omega),List.nil_append]
def rank (p:D28)(i:Nat):Nat:=((List.range i).filter fun j=>paL p.2.2.2.1 j==paL p.2.2.2.1 i).length
theorem qX6 (p:D28)(m:D54){i:Nat}(h:Tree (idL p.2.2.2.1) (paL p.2.2.2.1) p.2.2.2.1.length)(hn:len p.2.2.2.1≤64)(hi:i<p.2.2.2.1.length)(hm:m.1=idL p.2.2.2.1 i) :
  Am.Ends (uC6 (p,m,paL p.2.2.2.1 i,f20 p (paL p.2.2.2.1 i),len (f20 p (paL p.2.2.2.1 i)),())) (wQ (p,m,paL p.2.2.2.1 i,f20 p (paL p.2.2.2.1 i),len (f20 p (paL p.2.2.2.1 i)),())) (vX9 (p,m,paL p.2.2.2.1 i,f20 p (paL p.2.2.2.1 i),len (f20 p (paL p.2.2.2.1 i)),())) ((-1:Int),(0:Int),()) ∧
  uP9 (p,m,paL p.2.2.2.1 i,f20 p (paL p.2.2.2.1 i),len (f20 p (paL p.2.2.2.1 i)),()) (zC1 (uC6 (p,m,paL p.2.2.2.1 i,f20 p (paL p.2.2.2.1 i),len (f20 p (paL p.2.2.2.1 i)),())) (wQ (p,m,paL p.2.2.2.1 i,f20 p (paL p.2.2.2.1 i),len (f20 p (paL p.2.2.2.1 i)),())) ((-1:Int),(0:Int),()))=(rank p i:Int):=by
 have ln:(p.2.2.2.1.length:Int)=len p.2.2.2.1:=rfl
 have hk:=(vS9 p (paL p.2.2.2.1 i) (by omega)).2
 have hsp:=sB3 (P:=paL p.2.2.2.1) (n:=p.2.2.2.1.length) (i:=i) (q:=paL p.2.2.2.1 i) (by omega)
 rw[uZ0 (P:=paL p.2.2.2.1) (k:=p.2.2.2.1.length-i) (q:=paL p.2.2.2.1 i) (by omega) rfl] at hsp
 have hnd:(vS8 (paL p.2.2.2.1) p.2.2.2.1.length (paL p.2.2.2.1 i)).Nodup:=List.nodup_range.filter _
 have hlen:len (f20 p (paL p.2.2.2.1 i))=((vS8 (paL p.2.2.2.1) p.2.2.2.1.length (paL p.2.2.2.1 i)).length:Int):=by rw[hk];simp only[len,List.length_map]
 have hkl:=pU (P:=paL p.2.2.2.1) (n:=p.2.2.2.1.length) (q:=paL p.2.2.2.1 i)
 have har:rank p i<(vS8 (paL p.2.2.2.1) p.2.2.2.1.length (paL p.2.2.2.1 i)).length:=by
  rw[hsp,List.length_append,List.length_cons];unfold rank;omega
 have hat:(vS8 (paL p.2.2.2.1) p.2.2.2.1.length (paL p.2.2.2.1 i))[rank p i]'har=i:=by
  have:(vS8 (paL p.2.2.2.1) p.2.2.2.1.length (paL p.2.2.2.1 i))[rank p i]?=some i:=by
   rw[hsp,List.getElem?_append_right (by unfold rank;exact Nat.le_refl _)]
   unfold rank;simp
  rw[List.getElem?_eq_getElem har] at this
  injection this
 have hiff:∀ k:Nat,k<(vS8 (paL p.2.2.2.1) p.2.2.2.1.length (paL p.2.2.2.1 i)).length→((nth (f20 p (paL p.2.2.2.1 i)) (k:Int) (0:Int)==m.1)=decide (k=rank p i)):=fun k hkk=>by
  have e:nth (f20 p (paL p.2.2.2.1 i)) (k:Int) (0:Int)=idL p.2.2.2.1 ((vS8 (paL p.2.2.2.1) p.2.2.2.1.length (paL p.2.2.2.1 i))[k]'hkk):=by
   rw[hk]
   show List.getD _ (k:Int).toNat 0=_
   rw[Int.toNat_natCast,List.getD_eq_getElem?_getD,List.getElem?_map,List.getElem?_eq_getElem hkk];rfl
  have hlt:=(kids_mem.1 (List.getElem_mem hkk)).1
  rw[e,hm,Bool.eq_iff_iff,beq_iff_eq,decide_eq_true_eq]
  constructor
  ·intro q
   have:=h.inj _ _ hlt hi q
   have h6:=this.trans hat.symm
   exact (List.getElem?_inj hkk hnd).1 (by rw[List.getElem?_eq_getElem hkk,List.getElem?_eq_getElem har,h6])
  ·intro q
   subst q
   rw[hat]
 have w:=whole (g:=uC6 (p,m,paL p.2.2.2.1 i,f20 p (paL p.2.2.2.1 i),len (f20 p (paL p.2.2.2.1 i)),())) (next:=wQ (p,m,paL p.2.2.2.1 i,f20 p (paL p.2.2.2.1 i),len (f20 p (paL p.2.2.2.1 i)),())) (ok:=vX9 (p,m,paL p.2.2.2.1 i,f20 p (paL p.2.2.2.1 i),len (f20 p (paL p.2.2.2.1 i)),()))
  (fun x=>∃ k:Nat,x.2.1=(k:Int)∧(k:Int)≤len (f20 p (paL p.2.2.2.1 i))∧x.1=if rank p i<k then (rank p i:Int) else -1) (fun x=>(len (f20 p (paL p.2.2.2.1 i))-x.2.1).toNat) (fun x hx=>fun h3=>?_) (fun x hx hg=>?_) (x:=((-1:Int),(0:Int),()))
  ⟨0,rfl,by omega,by rw[if_neg (Nat.not_lt_zero _)]⟩ (by unfold zI1;simp only;omega)
 ·refine⟨w.1,?_⟩
  obtain⟨⟨k,hk0,hk1,hx⟩,hg⟩:=w.2
  have hg':¬ (zC1 (uC6 (p,m,paL p.2.2.2.1 i,f20 p (paL p.2.2.2.1 i),len (f20 p (paL p.2.2.2.1 i)),())) (wQ (p,m,paL p.2.2.2.1 i,f20 p (paL p.2.2.2.1 i),len (f20 p (paL p.2.2.2.1 i)),())) ((-1:Int),(0:Int),())).2.1<len (f20 p (paL p.2.2.2.1 i)):=of_decide_eq_false hg
  exact hx.trans (if_pos (by omega))
 ·have h4:x.2.1<len (f20 p (paL p.2.2.2.1 i)):=of_decide_eq_true h3
  obtain⟨k,hk0,hk1,hx⟩:=hx
  exact⟨⟨by omega,h4⟩,xY6 (by omega) (by omega)⟩
 ·have h4:x.2.1<len (f20 p (paL p.2.2.2.1 i)):=of_decide_eq_true hg
  obtain⟨k,hk0,hk1,hx⟩:=hx
  obtain⟨y,k',⟨⟩⟩:=x
  simp only at hk0 hx h4
  subst hk0
  refine⟨⟨k+1,by show (k:Int)+1=_;omega,by omega,?_⟩,(show (len (f20 p (paL p.2.2.2.1 i))-((k:Int)+1)).toNat<(len (f20 p (paL p.2.2.2.1 i))-(k:Int)).toNat by omega)⟩
  show (bif (nth (f20 p (paL p.2.2.2.1 i)) (k:Int) (0:Int)==m.1) then (k:Int) else y)=_
  rw[hiff k (by omega),hx]
  by_cases e:k=rank p i
  ·rw[decide_eq_true e,cond_true,if_pos (by omega),e]
  ·rw[decide_eq_false e,cond_false]
   by_cases h5:rank p i<k
   ·rw[if_pos h5,if_pos (by omega)]
   ·rw[if_neg h5,if_neg (by omega)]
theorem rV1 {p:D28}(v:Valid p){i c:Nat}(hi:i<p.2.2.2.1.length):paL p.2.2.2.1 i=0∨∃ j,j<p.2.2.2.1.length∧idL p.2.2.2.1 j=paL p.2.2.2.1 i∧kdL p.2.2.2.1 j=1∧(j<i∨i+1+c≤j):=by
 rcases ((qW p v.len1).1 v.nodes i (by unfold len;omega)).par with h|⟨⟨u,hu,e,k⟩,_⟩
 ·exact .inl h
 ·exact .inr ⟨u,by omega,e.symm,k,.inl hu⟩
theorem qX7 {p:D28}(v:Valid p):f38 p=(p,0,()):=by
 rw[qX0,(vI9 p).2 v];rfl
theorem qX8 {p:D28}(g:Good p)(v:Valid p){i:Nat}(hi:i<p.2.2.2.1.length):f16 p (idL p.2.2.2.1 i) (paL p.2.2.2.1 i) (rank p i:Int)=(p,0,()):=by
 obtain⟨c,b,hb⟩:=uM5 v hi
 have hle:=b.le
 obtain⟨s1,s2⟩:=sX2 (s:=cutD p i c) b v.len1 rfl
 have s2':(rank p i:Int)≤len (f20 (cutD p i c) (paL p.2.2.2.1 i)):=s2
 rw[sJ3 g v hi b hb (paL p.2.2.2.1 i) (rank p i:Int) (rV1 v hi) (by omega) s2']
 show f38 (wE3 p i c (f37 (cutD p i c) (paL p.2.2.2.1 i) (rank p i:Int)) (paL p.2.2.2.1 i))=_
 rw[show f37 (cutD p i c) (paL p.2.2.2.1 i) (rank p i:Int)=(i:Int) from s1]
 have:wE3 p i c (i:Int) (paL p.2.2.2.1 i)=p:=by
  unfold wE3 f36
  rw[Int.toNat_natCast,rV0 (by omega),sX4 (by omega)]
  exact uQ6 p
 rw[this,qX7 v]
end Go.Proofs.YtpanghcojpnkaaaGreatDoor.Am
namespace Go.Proofs.YtpanghcojpnkaaaGreatDoor.Am
open Go Go.Am
theorem qX9 {p:D28}(g:Good p)(v:Valid p){i:Nat}(hi:i<p.2.2.2.1.length){c:Nat}(b:blkP p i c)(hb:f11 p (idL p.2.2.2.1 i)=(List.range' (i+1) c).map (idL p.2.2.2.1))(q at':Int)
  (h:(f16 p (idL p.2.2.2.1 i) q at').2.1=0):∃ k:Nat,k≤(yL9 p.2.2.2.1 i (1+c)).length∧(f16 p (idL p.2.2.2.1 i) q at').1=wE3 p i c (k:Int) q∧Valid (wE3 p i c (k:Int) q):=by
 have hle:=b.le
 have hn:=v.len1
 have h9:=(vI9 p).2 v
 have h8:=sB2 v hi
 have ln:(p.2.2.2.1.length:Int)=len p.2.2.2.1:=rfl
 by_cases h33:f33 p q=0
 ·have hq:=(vY2 v q).2.1 h33
  cases hc:(bif (q==idL p.2.2.2.1 i) then true else f40 (f11 p (idL p.2.2.2.1 i)) q) with
  |true =>
   simp only[f16,f16t,h9,h8,h33,hc,bne_self_eq_false,cond_false,cond_true,decide_eq_false (show ¬ ((i:Int)<0) by omega)] at h
   exact absurd h (by decide)
  |false =>
   have hq':q=0∨∃ j,j<p.2.2.2.1.length∧idL p.2.2.2.1 j=q∧kdL p.2.2.2.1 j=1∧(j<i∨i+1+c≤j):=by
    rcases hq with h|⟨j,h1,h2,h3⟩
    ·exact .inl h
    ·refine .inr ⟨j,h1,h2,h3,?_⟩
     by_cases ho:j<i∨i+1+c≤j
     ·exact ho
     ·have:=(uQ8 v hi b hb q).2 ⟨j,by omega,by omega,h2⟩
      rw[hc] at this;cases this
   have hlb:len (f11 p (idL p.2.2.2.1 i))=(c:Int):=by rw[hb];simp only[len,List.length_map,List.length_range']
   have hcp:=(tT7 g v.len1).1
   have e1:(i:Int).toNat=i:=Int.toNat_natCast i
   have e2:((i:Int)+1+(c:Int)).toNat=i+(1+c):=by omega
   have hcut:(p.1,p.2.1,p.2.2.1,f39 p.2.2.2.1 (i:Int) ((i:Int)+1+(c:Int)),p.2.2.2.2.1,p.2.2.2.2.2.1,p.2.2.2.2.2.2.1,p.2.2.2.2.2.2.2.1,())=cutD p i c:=by
    unfold f39;rw[e1,e2];rfl
   cases hr:(bif decide (at'<0) then true else decide (at'>len (f20 (cutD p i c) q))) with
   |true =>
    simp only[f16,f16t,h9,h8,h33,hc,hcp,hlb,hcut,hr,bne_self_eq_false,cond_false,cond_true,decide_eq_false (show ¬ ((i:Int)<0) by omega)] at h
    exact absurd h (by decide)
   |false =>
    simp only[Bool.cond_true_left,Bool.or_eq_false_iff,decide_eq_false_iff_not] at hr
    have hv:=sJ3 g v hi b hb q at' hq' (by omega) (by omega)
    have hcl:=rV b
    have hq2:q=0∨∃ j,j<(cutD p i c).2.2.2.1.length∧idL (cutD p i c).2.2.2.1 j=q:=by
     rcases hq' with h|⟨j,h1,h2,_,h3⟩
     ·exact .inl h
     ·obtain⟨k,k1,k2⟩:=qX3 b h1 h3
      exact .inr ⟨k,k1,by rw[k2,h2]⟩
    obtain⟨_,s2,s3⟩:=qW5 (cutD p i c) q at' (qX4 b) (by omega) hq2 (by omega)
    rw[hv] at h ⊢
    obtain⟨k,hk⟩:∃ k:Nat,f37 (cutD p i c) q at'=(k:Int):=⟨(f37 (cutD p i c) q at').toNat,by omega⟩
    rw[hk] at h ⊢
    have hz:f9 (wE3 p i c (k:Int) q)=0:=by
     rw[qX0] at h
     by_cases hz:f9 (wE3 p i c (k:Int) q)=0
     ·exact hz
     ·rw[show (f9 (wE3 p i c (k:Int) q)!=0)=true by simpa using hz] at h
      exact absurd h hz
    have hvm:=(vI9 _).1 hz
    refine⟨k,?_,by rw[qX7 hvm],hvm⟩
    have:len (cutD p i c).2.2.2.1=((yL9 p.2.2.2.1 i (1+c)).length:Int):=rfl
    omega
 ·exfalso
  simp only[f16,f16t,h9,h8,bne_self_eq_false,cond_false,decide_eq_false (show ¬ ((i:Int)<0) by omega),show (f33 p q !=0)=true by simpa using h33,cond_true] at h
  exact h33 h
theorem sJ4 {p:D28}{i c k:Nat}{q:Int}(hi:i+(1+c)≤p.2.2.2.1.length)(hk:k≤(yL9 p.2.2.2.1 i (1+c)).length) :
  yL9 (wE3 p i c (k:Int) q).2.2.2.1 k (1+c)=yL9 p.2.2.2.1 i (1+c)∧blkL (wE3 p i c (k:Int) q).2.2.2.1 k (1+c)=wN9 (blkL p.2.2.2.1 i (1+c)) q:=by
 have:=pU0 (s:=yL9 p.2.2.2.1 i (1+c)) (b:=wN9 (blkL p.2.2.2.1 i (1+c)) q) hk
 rw[qW8,tT6 hi] at this
 show yL9 (f36 (yL9 p.2.2.2.1 i (1+c)) (k:Int) (wN9 (blkL p.2.2.2.1 i (1+c)) q)) k (1+c)=_∧blkL (f36 (yL9 p.2.2.2.1 i (1+c)) (k:Int) (wN9 (blkL p.2.2.2.1 i (1+c)) q)) k (1+c)=_
 unfold f36
 rw[Int.toNat_natCast]
 exact this
theorem idb {l:List D49}{i m r:Nat}(hr:r<m):idL l (i+r)=((blkL l i m).getD r Z49).1∧paL l (i+r)=((blkL l i m).getD r Z49).2.2.1∧kdL l (i+r)=((blkL l i m).getD r Z49).2.1:=by
 unfold idL paL kdL
 rw[uD,qX5 hr]
 exact⟨rfl,rfl,rfl⟩
theorem zD4 (b:List D49)(q:Int)(r:Nat):((wN9 b q).getD r Z49).1=(b.getD r Z49).1∧((wN9 b q).getD r Z49).2.1=(b.getD r Z49).2.1∧(0<r→(wN9 b q).getD r Z49=b.getD r Z49):=by
 unfold wN9
 by_cases h:r=0
 ·subst h
  refine⟨?_,?_,fun h=>absurd h (Nat.lt_irrefl _)⟩
  all_goals
   cases b with
   |nil=>rfl
   |cons x y=>rfl
 ·have e:(List.set b 0 (vT (nth b (0:Int) Z49) q)).getD r Z49=b.getD r Z49:=by
   rw[List.getD_eq_getElem?_getD,List.getD_eq_getElem?_getD,List.getElem?_set_ne (by omega)]
  rw[e]
  exact⟨rfl,rfl,fun _=>rfl⟩
theorem rV2 {p:D28}{i c k:Nat}{q:Int}(hi:i+(1+c)≤p.2.2.2.1.length)(hk:k≤(yL9 p.2.2.2.1 i (1+c)).length){r:Nat}(hr:r<1+c) :
  idL (wE3 p i c (k:Int) q).2.2.2.1 (k+r)=idL p.2.2.2.1 (i+r)∧(0<r→paL (wE3 p i c (k:Int) q).2.2.2.1 (k+r)=paL p.2.2.2.1 (i+r)):=by
 obtain⟨_,h2⟩:=sJ4 (q:=q) hi hk
 obtain⟨a1,a2,_⟩:=idb (l:=(wE3 p i c (k:Int) q).2.2.2.1) (i:=k) hr
 obtain⟨b1,b2,_⟩:=idb (l:=p.2.2.2.1) (i:=i) hr
 rw[h2] at a1 a2
 obtain⟨c1,_,c3⟩:=zD4 (blkL p.2.2.2.1 i (1+c)) q r
 exact⟨by rw[a1,b1,c1],fun h=>by rw[a2,b2,c3 h]⟩
theorem sX5 {p:D28}{i c k:Nat}{q:Int}(hi:i+(1+c)≤p.2.2.2.1.length)(hk:k≤(yL9 p.2.2.2.1 i (1+c)).length)(j:Nat) :
  idL (wE3 p i c (k:Int) q).2.2.2.1 (past k (1+c) j)=idL p.2.2.2.1 (past i (1+c) j)∧paL (wE3 p i c (k:Int) q).2.2.2.1 (past k (1+c) j)=paL p.2.2.2.1 (past i (1+c) j)∧kdL (wE3 p i c (k:Int) q).2.2.2.1 (past k (1+c) j)=kdL p.2.2.2.1 (past i (1+c) j):=by
 obtain⟨h1,_⟩:=sJ4 (q:=q) hi hk
 have hcl:=vM5 (l:=p.2.2.2.1) (i:=i) (m:=1+c) hi
 have e1:=rI0 (l:=(wE3 p i c (k:Int) q).2.2.2.1) (i:=k) (m:=1+c) (j:=j) (by rw[uM6 hi];omega)
 have e2:=rI0 (l:=p.2.2.2.1) (i:=i) (m:=1+c) (j:=j) hi
 rw[h1,e2] at e1
 unfold idL paL kdL
 rw[uD,uD,← e1]
 exact⟨rfl,rfl,rfl⟩
theorem qY {p:D28}{i c k:Nat}{q:Int}(b:blkP p i c)(hk:k≤(yL9 p.2.2.2.1 i (1+c)).length){c':Nat}(b':blkP (wE3 p i c (k:Int) q) k c'):c'=c:=by
 have hle:=b.le
 have hle':=b'.le
 have hcl:=vM5 (l:=p.2.2.2.1) (i:=i) (m:=1+c) (by omega)
 have hml:=uM6 (p:=p) (i:=i) (c:=c) (k:=(k:Int)) (q:=q) (by omega)
 have hid:=fun r (hr:r<1+c)=>rV2 (q:=q) (show i+(1+c)≤p.2.2.2.1.length by omega) hk hr
 have hk0:=(hid 0 (by omega)).1
 rw[Nat.add_zero,Nat.add_zero] at hk0
 have hge:c≤c':=by
  have key:∀ j,Und (idL p.2.2.2.1) (paL p.2.2.2.1) (idL p.2.2.2.1 i) j→j<p.2.2.2.1.length→Und (idL (wE3 p i c (k:Int) q).2.2.2.1) (paL (wE3 p i c (k:Int) q).2.2.2.1) (idL (wE3 p i c (k:Int) q).2.2.2.1 k) (k+(j-i)):=by
   intro j hu
   induction hu with
   |@top j h =>
    intro hj
    have hj2:=(b.und j hj).1 (.top h)
    have:=(hid (j-i) (by omega)).2 (by omega)
    exact .top (by rw[this,show i+(j-i)=j by omega,h,hk0])
   |@sub u j h1 h2 h3 ih =>
    intro hj
    have hj2:=(b.und j hj).1 (.sub h1 h2 h3)
    have hu2:=(b.und u (by omega)).1 h1
    have e1:=(hid (j-i) (by omega)).2 (by omega)
    have e2:=(hid (u-i) (by omega)).1
    exact .sub (ih (by omega)) (by omega) (by rw[e1,e2,show i+(j-i)=j by omega,show i+(u-i)=u by omega,h3])
  by_cases h0:c=0
  ·omega
  ·have hu:=key (i+c) ((b.und (i+c) (by omega)).2 (by omega)) (by omega)
   have:=(b'.und (k+(i+c-i)) (by omega)).1 hu
   omega
 have hle2:c'≤c:=by
  refine Nat.le_of_not_lt fun hlt=>?_
  have hlen:k+1+c<(wE3 p i c (k:Int) q).2.2.2.1.length:=by omega
  have hu:=(b'.und (k+1+c) hlen).2 (by omega)
  have hpar:∃ u,k≤u∧u<k+(1+c)∧paL (wE3 p i c (k:Int) q).2.2.2.1 (k+1+c)=idL (wE3 p i c (k:Int) q).2.2.2.1 u:=by
   cases hu with
   |top h=>exact⟨k,Nat.le_refl _,by omega,h⟩
   |@sub u _ h1 h2 h3 =>
    have:=(b'.und u (by omega)).1 h1
    exact⟨u,by omega,by omega,h3⟩
  obtain⟨u,u1,u2,u3⟩:=hpar
  have hpk:past k (1+c) k=k+1+c:=by unfold past;rw[if_neg (by omega)];omega
  have ho:=(sX5 (q:=q) (show i+(1+c)≤p.2.2.2.1.length by omega) hk k).2.1
  rw[hpk] at ho
  have hi2:=(hid (u-k) (by omega)).1
  rw[show k+(u-k)=u by omega] at hi2
  rw[ho,hi2] at u3
  have hpl:past i (1+c) k<p.2.2.2.1.length:=by unfold past;split<;>omega
  rcases (pT6 b.tree).par _ hpl with h0|⟨w,w1,w2⟩
  ·have:=b.tree.pos (i+(u-k)) (by omega);omega
  ·have:=b.tree.inj w (i+(u-k)) (by omega) (by omega) (by rw[← w2,u3])
   subst this
   have:=sJ1 b hpl sJ0 w1 w2
   omega
 omega
theorem qY0 {p:D28}(g:Good p)(v:Valid p){i:Nat}(hi:i<p.2.2.2.1.length){c:Nat}(b:blkP p i c){k:Nat}(hk:k≤(yL9 p.2.2.2.1 i (1+c)).length){q:Int}(vm:Valid (wE3 p i c (k:Int) q)) :
  f16 (wE3 p i c (k:Int) q) (idL p.2.2.2.1 i) (paL p.2.2.2.1 i) (rank p i:Int)=(p,0,()):=by
 have hle:=b.le
 have hcl:=vM5 (l:=p.2.2.2.1) (i:=i) (m:=1+c) (by omega)
 have hml:=uM6 (p:=p) (i:=i) (c:=c) (k:=(k:Int)) (q:=q) (by omega)
 have hk0:=(rV2 (q:=q) (show i+(1+c)≤p.2.2.2.1.length by omega) hk (r:=0) (by omega)).1
 rw[Nat.add_zero,Nat.add_zero] at hk0
 obtain⟨m1,m2⟩:=sJ4 (q:=q) (show i+(1+c)≤p.2.2.2.1.length by omega) hk
 obtain⟨c',b',hb'⟩:=uM5 vm (i:=k) (by omega)
 have hc:=qY b hk b'
 subst hc
 have hcd:cutD (wE3 p i c' (k:Int) q) k c'=cutD p i c':=by
  show vY4 p (yL9 (wE3 p i c' (k:Int) q).2.2.2.1 k (1+c')) p.2.2.2.2.1=_
  rw[m1];rfl
 obtain⟨s1,s2⟩:=sX2 (s:=cutD p i c') b v.len1 rfl
 have s1':f37 (cutD p i c') (paL p.2.2.2.1 i) (rank p i:Int)=(i:Int):=s1
 have s2':(rank p i:Int)≤len (f20 (cutD p i c') (paL p.2.2.2.1 i)):=s2
 have hq:paL p.2.2.2.1 i=0∨∃ j,j<(wE3 p i c' (k:Int) q).2.2.2.1.length∧idL (wE3 p i c' (k:Int) q).2.2.2.1 j=paL p.2.2.2.1 i∧kdL (wE3 p i c' (k:Int) q).2.2.2.1 j=1∧(j<k∨k+1+c'≤j):=by
  rcases rV1 (c:=c') v hi with h|⟨j,j1,j2,j3,j4⟩
  ·exact .inl h
  ·obtain⟨w,w1,_⟩:=rI (i:=i) (m:=1+c') (k:=j) (by omega)
   obtain⟨o1,_,o3⟩:=sX5 (q:=q) (show i+(1+c')≤p.2.2.2.1.length by omega) hk w
   have hw:w<p.2.2.2.1.length-(1+c'):=by unfold past at w1;split at w1<;>omega
   refine .inr ⟨past k (1+c') w,?_,by rw[o1,w1,j2],by rw[o3,w1,j3],?_⟩
   ·rw[hml];unfold past;split<;>omega
   ·have:=sJ0 (i:=k) (m:=1+c') (j:=w);omega
 have hmv:=sJ3 (uQ9 (k:=(k:Int)) (q:=q) g (i:=i) (c:=c') (by omega)) vm (i:=k) (by omega) b' hb' (paL p.2.2.2.1 i) (rank p i:Int) hq (by omega) (by rw[hcd];exact s2')
 rw[hk0,hcd,s1'] at hmv
 rw[hmv]
 have:wE3 (wE3 p i c' (k:Int) q) k c' (i:Int) (paL p.2.2.2.1 i)=p:=by
  show vY4 p (f36 (yL9 (wE3 p i c' (k:Int) q).2.2.2.1 k (1+c')) (i:Int) (wN9 (blkL (wE3 p i c' (k:Int) q).2.2.2.1 k (1+c')) (paL p.2.2.2.1 i))) p.2.2.2.2.1=p
  rw[m1,m2,nB0 _ (by rw[tT6 (by omega)];omega),rV0 (by omega)]
  unfold f36
  rw[Int.toNat_natCast,sX4 (by omega)]
  exact uQ6 p
 rw[this,qX7 v]
end Go.Proofs.YtpanghcojpnkaaaGreatDoor.Am
