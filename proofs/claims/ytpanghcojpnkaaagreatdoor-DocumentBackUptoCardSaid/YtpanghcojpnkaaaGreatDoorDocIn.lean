/- Insert and Remove in plain words. Condition: the second form's bound. -/
import Derived.Test.YtpanghcojpnkaaaGreatDoorDocRt
import Derived.Test.YtpanghcojpnkaaaGreatDoorDocDp
namespace Go.Proofs.YtpanghcojpnkaaaGreatDoor.Am
open Go Go.Am
def insD (d:D28)(k:Int)(n:D49):D28:=vE5 d (f36 d.2.2.2.1 k [n]) (d.2.2.2.2.1+1)
theorem rM9 {n:D49}{a b:Int}(h:Short n):Short (xZ6 n a b):=⟨h.mask,h.pix,h.params,h.stops,h.segs,h.warp⟩
theorem pJ0 {n:D49}{a b:Int}(h:wJ8 n):wJ8 (xZ6 n a b):=h
theorem qN5 {d:D28}{k:Int}{n:D49}{R:D49→Prop}(h:∀ m∈d.2.2.2.1,R m)(hn:R n):∀ m∈(insD d k n).2.2.2.1,R m:=by
 intro m hm
 have hm:m∈List.take (Int.toNat k) d.2.2.2.1++([n]++List.drop (Int.toNat k) d.2.2.2.1):=hm
 rcases List.mem_append.1 hm with hm|hm
 ·exact h m (List.mem_of_mem_take hm)
 ·rcases List.mem_append.1 hm with hm|hm
  ·rw[jH.1 hm];exact hn
  ·exact h m (List.mem_of_mem_drop hm)
theorem rN {d:D28}(g:Good d)(hl:len d.2.2.2.1≤64){n:D49}(hf:wJ8 n)(hs:Short n)(k:Int):Good (insD d k n):=
 uK0 g _ (by
  show len (List.take (Int.toNat k) d.2.2.2.1++([n]++List.drop (Int.toNat k) d.2.2.2.1))<_
  unfold len at hl ⊢
  rw[jO,jO,jT,List.length_drop]
  simp only[List.length_cons,List.length_nil]
  omega) (qN5 g.fit.1.2 hf) (qN5 g.sz.nodes hs)
theorem pD7 {p:D28}(g:Good p)(n:D49)(q at':Int)(h:(f14 p n q at').2.2.1=0) :
  Valid p∧(q=0∨∃ j,j<p.2.2.2.1.length∧idL p.2.2.2.1 j=q∧kdL p.2.2.2.1 j=1)∧0≤at'∧len p.2.2.2.1<64∧p.2.2.2.2.1<1073741824∧∃ k:Nat,(k:Int)≤len p.2.2.2.1 ∧
   f14 p n q at'=(insD p (k:Int) (xZ6 n p.2.2.2.2.1 q),p.2.2.2.2.1,0,())∧Valid (insD p (k:Int) (xZ6 n p.2.2.2.2.1 q)):=by
 have h':(bif (f9 p !=0) then f9 p else (bif (f33 p q !=0) then f33 p q else (bif (bif decide (at'<0) then true else (decide (at'>(len (f20 p q))))) then (2:Int) else (bif (bif (decide ((len p.2.2.2.1)≥64)) then true else (p.2.2.2.2.1==1073741824)) then (3:Int) else
  (bif ((f38 (insD (f34 p) (f37 p q at') (xZ6 (f35 n) p.2.2.2.2.1 q))).2.1 !=0) then (f38 (insD (f34 p) (f37 p q at') (xZ6 (f35 n) p.2.2.2.2.1 q))).2.1 else (0:Int))))))=0:=h
 obtain⟨a1,h1⟩:=wX1 h' ne_zero.1
 obtain⟨a2,h2⟩:=wX1 h1 ne_zero.1
 obtain⟨a3,h3⟩:=wX1 h2 (fun _=>by decide)
 obtain⟨a4,h4⟩:=wX1 h3 (fun _=>by decide)
 obtain⟨a5,_⟩:=wX1 h4 ne_zero.1
 have h9:f9 p=0:=by simpa using a1
 have v:=(wA1 p).1 h9
 have hq:=(wX2 v q).2.1 (by simpa using a2)
 have hcp:=wU7 g v.len1
 have hN2:=v.next2
 simp only[Bool.cond_true_left,jJ,decide_eq_false_iff_not] at a3 a4
 have hat:0≤at':=by omega
 obtain⟨_,s2,s3⟩:=sD0 p q at' (sD (wO1 v)) v.len1 (hq.imp_right fun ⟨j,h1,h2,_⟩=>⟨j,h1,h2⟩) hat
 rw[hcp.1,sP6] at a5
 obtain⟨k,hk⟩:∃ k:Nat,f37 p q at'=(k:Int):=⟨(f37 p q at').toNat,by omega⟩
 rw[hk] at a5
 have hz:f9 (insD p (k:Int) (xZ6 n p.2.2.2.2.1 q))=0:=by
  rw[sD1] at a5
  by_cases hz:f9 (insD p (k:Int) (xZ6 n p.2.2.2.2.1 q))=0
  ·exact hz
  ·rw[show (f9 (insD p (k:Int) (xZ6 n p.2.2.2.2.1 q))!=0)=true by simpa using hz] at a5
   exact absurd (show (f9 (insD p (k:Int) (xZ6 n p.2.2.2.2.1 q))!=0)=false from a5) (by simpa using hz)
 have vm:=(wA1 _).1 hz
 refine⟨v,hq,hat,by omega,by have:=a4.2;simp at this;omega,k,by omega,?_,vm⟩
 have e:f14 p n q at'=(bif (f9 p !=0) then rT0 else (bif (f33 p q !=0) then rT0 else (bif (bif decide (at'<0) then true else (decide (at'>(len (f20 p q))))) then rT0 else (bif (bif (decide ((len p.2.2.2.1)≥64)) then true else (p.2.2.2.2.1==1073741824)) then rT0 else
  (bif ((f38 (insD (f34 p) (f37 p q at') (xZ6 (f35 n) p.2.2.2.2.1 q))).2.1 !=0) then rT0 else (f38 (insD (f34 p) (f37 p q at') (xZ6 (f35 n) p.2.2.2.2.1 q))).1)))),(bif (f9 p !=0) then (0:Int) else (bif (f33 p q !=0) then (0:Int) else (bif (bif decide (at'<0) then true else (decide (at'>(len (f20 p q))))) then (0:Int) else (bif (bif (decide ((len p.2.2.2.1)≥64)) then true else (p.2.2.2.2.1==1073741824)) then (0:Int) else
  (bif ((f38 (insD (f34 p) (f37 p q at') (xZ6 (f35 n) p.2.2.2.2.1 q))).2.1 !=0) then (0:Int) else p.2.2.2.2.1))))),(f14 p n q at').2.2.1,()):=rfl
 rw[e,h,hcp.1,sP6,hk,qM4 vm,a1,a2]
 have b3:(bif decide (at'<0) then true else (decide (at'>(len (f20 p q)))))=false:=by
  rw[decide_eq_false a3.1,decide_eq_false a3.2];rfl
 have b4:(bif (decide ((len p.2.2.2.1)≥64)) then true else (p.2.2.2.2.1==1073741824))=false:=by
  rw[decide_eq_false a4.1,a4.2];rfl
 rw[b3,b4]
 rfl
theorem pD8 {p:D28}(g:Good p){n:D49}(hf:wJ8 n)(hs:Short n)(q at':Int):uJ2 p n q at':=by
 refine⟨wV p g.fit,fun h1=>?_⟩
 have h9:f9 p=0:=by simpa using h1
 have v:=(wA1 p).1 h9
 have hn:=v.len1
 have hN1:=v.next1
 have hN2:=v.next2
 have hcp:=wU7 g v.len1
 refine⟨(wX2 v q).1,fun h2=>⟨fun _=>(tO8 p q (by omega)).1,fun h3=>fun _=>?_⟩⟩
 have hq:=(wX2 v q).2.1 (by simpa using h2)
 have hat:0≤at':=by
  refine Int.not_lt.1 fun hh=>?_
  have h3':(!(bif decide (at'<0) then true else (decide (at'>(len (f20 p q))))))=true:=h3
  rw[decide_eq_true hh] at h3'
  cases h3'
 obtain⟨s1,s2,s3⟩:=sD0 p q at' (sD (wO1 v)) v.len1 (hq.imp_right fun ⟨j,h1,h2,_⟩=>⟨j,h1,h2⟩) hat
 refine⟨hcp.2,sZ8 hs,s1,?_,?_,?_⟩
 ·show uU7 (f34 p).2.2.2.1 (f37 p q at') [xZ6 (f35 n) p.2.2.2.2.1 q]
  rw[hcp.1]
  have ln:(p.2.2.2.1.length:Int)=len p.2.2.2.1:=rfl
  exact⟨s2,s3,Nat.zero_lt_one,(show ((p.2.2.2.1.length+1:Nat):Int)≤4294967296 by omega)⟩
 ·show InR ((f34 p).2.2.2.2.1+1)
  rw[hcp.1];exact xY3 (by omega) (by omega)
 ·show uU8 (insD (f34 p) (f37 p q at') (xZ6 (f35 n) p.2.2.2.2.1 q))
  rw[hcp.1,sP6]
  exact rA4 (rN g v.len1 (pJ0 hf) (rM9 hs) _)
theorem rN0 {p:D28}(g:Good p)(i c:Nat):Good (cutD p i c):=
 uK0 g _ (by
  have h:=g.fit.1.1
  show len (List.take i p.2.2.2.1++List.drop (i+(1+c)) p.2.2.2.1)<_
  unfold len at h ⊢
  rw[jO,jT,List.length_drop];omega) (fun n hn=>g.fit.1.2 n (sD2 hn)) (fun n hn=>g.sz.nodes n (sD2 hn))
theorem oI {p:D28}(g:Good p)(v:Valid p){i:Nat}(hi:i<p.2.2.2.1.length){c:Nat}(b:blkP p i c)(hb:f11 p (idL p.2.2.2.1 i)=(List.range' (i+1) c).map (idL p.2.2.2.1)):f15 p (idL p.2.2.2.1 i)=f38 (cutD p i c):=by
 have hle:=b.le
 have h9:=(wA1 p).2 v
 have h8:=vX4 v hi
 have hlb:len (f11 p (idL p.2.2.2.1 i))=(c:Int):=by rw[hb];simp only[len,List.length_map,List.length_range']
 have hcp:=(wU7 g v.len1).1
 have e1:(i:Int).toNat=i:=Int.toNat_natCast i
 have e2:((i:Int)+1+(c:Int)).toNat=i+(1+c):=by omega
 have hcut:(p.1,p.2.1,p.2.2.1,f39 p.2.2.2.1 (i:Int) ((i:Int)+1+(c:Int)),p.2.2.2.2)=cutD p i c:=by
  unfold f39;rw[e1,e2];rfl
 simp only[f15,f15t,h9,h8,hcp,hlb,hcut,bne_self_eq_false,jD,decide_eq_false (show ¬ ((i:Int)<0) by omega)]
theorem oQ4 {p:D28}(g:Good p)(id:Int):sO8 p id:=by
 have hlt:=g.fit.1.1
 refine⟨wV p g.fit,fun h1=>⟨(vI6 p id hlt).1,fun h2=>?_⟩⟩
 have h9:f9 p=0:=by simpa using h1
 have v:=(wA1 p).1 h9
 have hn:=v.len1
 have ln:(p.2.2.2.1.length:Int)=len p.2.2.2.1:=rfl
 have hcp:=wU7 g v.len1
 rcases wL8 p id hlt with ⟨h8,_⟩ | ⟨i,hi,h8,hid,_⟩
 ·have h2':(!(decide (f8 p id<0)))=true:=h2
  rw[h8] at h2';exact absurd h2' (by decide)
 ·subst hid
  obtain⟨c,b,hb⟩:=vS6 v hi
  have hle:=b.le
  have hlb:len (f11 p (idL p.2.2.2.1 i))=(c:Int):=by rw[hb];simp only[len,List.length_map,List.length_range']
  have e1:(i:Int).toNat=i:=Int.toNat_natCast i
  have e2:((i:Int)+1+(c:Int)).toNat=i+(1+c):=by omega
  have h39:f39 p.2.2.2.1 (i:Int) ((i:Int)+1+(c:Int))=yL8 p.2.2.2.1 i (1+c):=by unfold f39;rw[e1,e2];rfl
  simp only[hcp.1,h8,hlb,h39]
  exact⟨hcp.2,xY3 (by omega) (by omega),(wO0 p _ (by omega)).1,xY3 (by omega) (by omega),⟨by omega,by omega,by rw[ln];omega⟩,rA4 (rN0 g i c)⟩
theorem oI0 {p:D28}(g:Good p)(id:Int):uJ4 p id∧((f17 p id).2.2.1=0→∃ i c C,i<p.2.2.2.1.length∧idL p.2.2.2.1 i=id∧Valid p∧IsDup p i c C∧len p.2.2.2.1+(1+c)≤64∧p.2.2.2.2.1+(1+c)≤1073741824∧f17 p id=(dupD p i (1+c) C,p.2.2.2.2.1,0,())∧Valid (dupD p i (1+c) C)):=by
 have hlt:=g.fit.1.1
 by_cases h9:f9 p=0
 ·have v:=(wA1 p).1 h9
  rcases wL8 p id hlt with ⟨h8,_⟩ | ⟨i,hi,h8,hid,_⟩
  ·refine⟨⟨wV p g.fit,fun _=>⟨(vI6 p id hlt).1,fun h=>?_⟩⟩,fun h=>?_⟩
   ·have h':(!(decide (f8 p id<0)))=true:=h
    rw[h8] at h';exact absurd h' (by decide)
   ·exfalso
    revert h
    dsimp only[f17,f17t]
    rw[h9,h8]
    intro h
    exact absurd (show (9:Int)=0 from h) (by decide)
  ·subst hid
   obtain⟨c,b,hb⟩:=vS6 v hi
   obtain⟨h1,h2⟩:=oH5 g v hi b hb
   refine⟨h1,fun h=>?_⟩
   obtain⟨C,d,l1,l2,e⟩:=h2 h
   exact⟨i,c,C,hi,rfl,v,d,l1,l2,e,qN4 v d l1 l2⟩
 ·have hb:(f9 p !=0)=true:=by simpa using h9
  refine⟨⟨wV p g.fit,fun h=>?_⟩,fun h=>?_⟩
  ·have h':(!(f9 p !=0))=true:=h
   rw[hb] at h';cases h'
  ·exfalso
   revert h
   dsimp only[f17,f17t]
   rw[hb]
   exact h9
theorem cpy_good {M:IMap}{n:D49}:(Short n→Short (cpy M n))∧(wJ8 n→wJ8 (cpy M n)):=⟨fun h=>⟨h.mask,h.pix,h.params,h.stops,h.segs,h.warp⟩,fun h=>h⟩
theorem qN6 {p:D28}{i c:Nat}{C:List D49}(d:IsDup p i c C){R:D49→Prop}(h:∀ n∈p.2.2.2.1,R n)(hc:∀ M n,R n→R (cpy M n)):∀ n∈(dupD p i (1+c) C).2.2.2.1,R n:=by
 have hle:=d.blk.le
 intro n hn
 have hn:n∈List.take (i+(1+c)) p.2.2.2.1++(C++List.drop (i+(1+c)) p.2.2.2.1):=hn
 rcases List.mem_append.1 hn with hn|hn
 ·exact h n (List.mem_of_mem_take hn)
 ·rcases List.mem_append.1 hn with hn|hn
  ·obtain⟨r,hr,e⟩:=List.getElem_of_mem hn
   obtain⟨M,_,hC⟩:=d.at'
   have:=hC r (by rw[← d.len];exact hr)
   rw[jM,jL hr,Option.getD_some,e] at this
   rw[this]
   refine hc M _ (h _ ?_)
   have hlt:i+r<p.2.2.2.1.length:=by have:=d.len;omega
   rw[jM,jL hlt,Option.getD_some]
   exact List.getElem_mem hlt
  ·exact h n (List.mem_of_mem_drop hn)
theorem pE1 {p:D28}(g:Good p){i c:Nat}{C:List D49}(d:IsDup p i c C)(hl:len p.2.2.2.1+(1+c)≤64):Good (dupD p i (1+c) C):=
 uK0 g _ (by
  have:=uN3 d
  show len (dupD p i (1+c) C).2.2.2.1<_
  unfold len at hl ⊢
  rw[this];omega) (qN6 d g.fit.1.2 fun _ _=>cpy_good.2) (qN6 d g.sz.nodes fun _ _=>cpy_good.1)
end Go.Proofs.YtpanghcojpnkaaaGreatDoor.Am
