/- Kids and slots in plain words. Condition: lengths of Go slices. -/
import Derived.Test.YtpanghcojpnkaaaGreatDoorDocW
import Derived.Test.YtpanghcojpnkaaaGreatDoorDocTr
namespace Go.Proofs.YtpanghcojpnkaaaGreatDoor.Am
open Go Go.Am
def rA1 (P:Nat→Int)(n:Nat)(q:Int):List Nat:=(List.range n).filter fun j=>P j==q
def kidI (l:List D49)(q:Int)(x:wW0):Prop:=∃ i:Nat,x.2.1=(i:Int)∧(i:Int)≤len l∧x.1=(rA1 (paL l) i q).map (idL l)
theorem pC7 (l:List D49)(q:Int)(a:List Int)(i:Int):wM3 (q,l,len l,()) (a,i,())=(bif ((nth l i Z49).2.2.1==q) then a++[(nth l i Z49).1] else a,i+1,()):=rfl
theorem qL8 (P:Nat→Int)(k:Nat)(q:Int):rA1 P (k+1) q=rA1 P k q++(bif P k==q then [k] else []):=by
 unfold rA1
 rw[List.range_succ,List.filter_append]
 cases h:(P k==q)<;>simp[h]
theorem tO8 (p:D28)(q:Int)(hn:len p.2.2.2.1≤4294967296):uU3 p q∧f20 p q=(rA1 (paL p.2.2.2.1) p.2.2.2.1.length q).map (idL p.2.2.2.1):=by
 have h0n:=xT7 p.2.2.2.1
 have w:=whole (g:=vW8 (q,p.2.2.2.1,len p.2.2.2.1,())) (next:=wM3 (q,p.2.2.2.1,len p.2.2.2.1,())) (ok:=vS0 (q,p.2.2.2.1,len p.2.2.2.1,())) (kidI p.2.2.2.1 q) (fun x=>(len p.2.2.2.1-x.2.1).toNat) (fun x hx=>fun h3=>?_) (fun x hx hg=>?_) (x:=(([]:List Int),(0:Int),()))
  ⟨0,rfl,by omega,rfl⟩ (by unfold zI1;simp only;omega)
 ·refine⟨w.1,?_⟩
  obtain⟨⟨i,hi0,hi1,hl⟩,hg⟩:=w.2
  show (zC3 (vW8 (q,p.2.2.2.1,len p.2.2.2.1,())) (wM3 (q,p.2.2.2.1,len p.2.2.2.1,())) (([]:List Int),(0:Int),())).1=_
  rw[hl]
  have hg':¬ (zC3 (vW8 (q,p.2.2.2.1,len p.2.2.2.1,())) (wM3 (q,p.2.2.2.1,len p.2.2.2.1,())) (([]:List Int),(0:Int),())).2.1<len p.2.2.2.1:=of_decide_eq_false hg
  have ln:(p.2.2.2.1.length:Int)=len p.2.2.2.1:=rfl
  have:i=p.2.2.2.1.length:=by omega
  rw[this]
 ·have h4:x.2.1<len p.2.2.2.1:=jF h3
  obtain⟨i,hi0,hi1,hl⟩:=hx
  refine⟨⟨by omega,h4⟩,fun _=>?_,xY3 (by omega) (by omega)⟩
  have e:x.1.length≤i:=by
   rw[hl,List.length_map]
   have:=List.length_filter_le (fun j=>paL p.2.2.2.1 j==q) (List.range i)
   rw[List.length_range] at this
   exact this
  show ((x.1.length+1:Nat):Int)≤4294967296
  omega
 ·have h4:x.2.1<len p.2.2.2.1:=jF hg
  obtain⟨i,hi0,hi1,hl⟩:=hx
  obtain⟨a,i',⟨⟩⟩:=x
  simp only at hi0 hl h4
  subst hi0
  rw[pC7]
  refine⟨⟨i+1,by simp,by omega,?_⟩,(show (len p.2.2.2.1-((i:Int)+1)).toNat<(len p.2.2.2.1-(i:Int)).toNat by omega)⟩
  rw[qL8,List.map_append,← hl]
  show (bif (paL p.2.2.2.1 i==q) then _ else _)=_
  cases (paL p.2.2.2.1 i==q) with
  |true=>rfl
  |false=>simp
theorem kids_mem {P:Nat→Int}{n:Nat}{q:Int}{j:Nat}:j∈rA1 P n q↔j<n∧P j=q:=by
 unfold rA1
 rw[List.mem_filter,List.mem_range,beq_iff_eq]
theorem rA2 {p:D28}(h:Fo (idL p.2.2.2.1) (paL p.2.2.2.1) p.2.2.2.1.length)(hn:len p.2.2.2.1<9223372036854775808){j:Nat}(hj:j<p.2.2.2.1.length):f8 p (idL p.2.2.2.1 j)=(j:Int):=by
 rcases wL8 p (idL p.2.2.2.1 j) hn with ⟨_,h1⟩ | ⟨u,hu,h1,h2,_⟩
 ·exact absurd rfl (h1 j hj)
 ·rw[h1,h.inj u j hu hj h2]
open Classical in
theorem qL9 {p:D28}(h:Fo (idL p.2.2.2.1) (paL p.2.2.2.1) p.2.2.2.1.length)(hn:len p.2.2.2.1≤4294967296){f:Nat}(hf:f<p.2.2.2.1.length):(f:Int)+1+len (f11 p (idL p.2.2.2.1 f))≤len p.2.2.2.1:=by
 rw[(wO0 p _ hn).2]
 have:=sZ9 (n:=p.2.2.2.1.length) (f:=f) (fun j=>decide (Und (idL p.2.2.2.1) (paL p.2.2.2.1) (idL p.2.2.2.1 f) j)) (fun j hj hd=>oR1 h hf (jF hd) hj) hf
 simp only[len,List.length_map]
 unfold undL
 omega
theorem sD0 (p:D28)(q at':Int)(h:Fo (idL p.2.2.2.1) (paL p.2.2.2.1) p.2.2.2.1.length)(hn:len p.2.2.2.1≤64)(hq:q=0∨∃ j,j<p.2.2.2.1.length∧idL p.2.2.2.1 j=q)(ha:0≤at') :
  tV0 p q at'∧0≤f37 p q at'∧f37 p q at'≤len p.2.2.2.1:=by
 have hk:=tO8 p q (by omega)
 have hlt:len p.2.2.2.1<9223372036854775808:=by omega
 have h8:∀ k,vX5 p k:=fun k=>(vI6 p k hlt).1
 have ln:(p.2.2.2.1.length:Int)=len p.2.2.2.1:=rfl
 have hb:∀ f:Nat,f<p.2.2.2.1.length→idL p.2.2.2.1 f=q→f8 p q=(f:Int)∧(f:Int)+1+len (f11 p q)≤len p.2.2.2.1:=fun f hf e=>by
  rw[← e];exact⟨rA2 h hlt hf,qL9 h (by omega) hf⟩
 have hneg:¬ q=0→vX5 p q∧InR (f8 p q+1)∧uJ0 p q∧InR (f8 p q+1+len (f11 p q))∧0≤f8 p q+1+len (f11 p q)∧f8 p q+1+len (f11 p q)≤len p.2.2.2.1:=fun hq0=>by
  rcases hq with h0|⟨f,hf,e⟩
  ·exact absurd h0 hq0
  ·obtain⟨e1,e2⟩:=hb f hf e
   have:=xT7 (f11 p q)
   rw[e1]
   exact⟨h8 q,xY3 (by omega) (by omega),(wO0 p q (by omega)).1,xY3 (by omega) (by omega),by omega,by omega⟩
 refine⟨⟨hk.1,fun hd=>⟨⟨ha,jF hd⟩,h8 _⟩,fun _ hz=>?_⟩,?_⟩
 ·have hz':¬ q=0:=by simpa using hz
  obtain⟨a1,a2,a3,a4,_⟩:=hneg hz'
  exact⟨a1,a2,a3,a4⟩
 ·show 0≤(bif decide (at'<len (f20 p q)) then f8 p (nth (f20 p q) at' 0) else (bif q==0 then len p.2.2.2.1 else f8 p q+1+len (f11 p q)))∧(bif decide (at'<len (f20 p q)) then f8 p (nth (f20 p q) at' 0) else (bif q==0 then len p.2.2.2.1 else f8 p q+1+len (f11 p q)))≤len p.2.2.2.1
  cases hd:decide (at'<len (f20 p q)) with
  |true =>
   have hlt:=jF hd
   simp only[jE]
   have hm:nth (f20 p q) at' 0∈f20 p q:=wA3 ⟨ha,hlt⟩
   rw[hk.2] at hm
   obtain⟨j,hj,e⟩:=List.mem_map.1 hm
   have hj':=(kids_mem.1 hj).1
   have e':nth (f20 p q) at' 0=idL p.2.2.2.1 j:=by rw[hk.2];exact e.symm
   rw[e',rA2 h (by omega) hj']
   omega
  |false =>
   simp only[jD]
   by_cases hq0:q=0
   ·subst hq0
    simp only[beq_self_eq_true,jE]
    exact⟨xT7 _,Int.le_refl _⟩
   ·have:(q==0)=false:=by simpa using hq0
    rw[this,jD]
    obtain⟨_,_,_,_,a5,a6⟩:=hneg hq0
    exact⟨a5,a6⟩
def yL8 (l:List D49)(i m:Nat):List D49:=List.take i l++List.drop (i+m) l
theorem tO9 {l:List D49}{i m:Nat}(h:i+m≤l.length):(yL8 l i m).length=l.length-m:=by
 unfold yL8;rw[jO,jT,List.length_drop];omega
theorem wC1 (l:List D49)(j:Nat):nth l (j:Int) Z49=l.getD j Z49:=by
 show l.getD (j:Int).toNat Z49=_
 rw[Int.toNat_natCast]
theorem oG3 {l:List D49}{i m j:Nat}(h:i+m≤l.length):(yL8 l i m).getD j Z49=l.getD (past i m j) Z49:=by
 unfold yL8 past
 rw[jM,jM]
 congr 1
 split
 ·rw[List.getElem?_append_left (by rw[jT];omega),List.getElem?_take_of_lt (by assumption)]
 ·rw[List.getElem?_append_right (by rw[jT];omega),List.getElem?_drop,jT]
  congr 1;omega
theorem pI7 {l:List D49}{i m:Nat}(h:i+m≤l.length)(j:Nat):idL (yL8 l i m) j=idL l (past i m j)∧paL (yL8 l i m) j=paL l (past i m j):=by
 unfold idL paL
 rw[wC1,wC1,oG3 h]
 exact⟨rfl,rfl⟩
abbrev blkP (p:D28)(i c:Nat):Prop:=Blk (idL p.2.2.2.1) (paL p.2.2.2.1) p.2.2.2.1.length i c
theorem vS6 {p:D28}(v:Valid p){i:Nat}(hi:i<p.2.2.2.1.length):∃ c,blkP p i c∧f11 p (idL p.2.2.2.1 i)=(List.range' (i+1) c).map (idL p.2.2.2.1):=by
 obtain⟨c,h1,h2,h3⟩:=sZ7 v hi
 exact⟨c,⟨wO1 v,h1,h3⟩,h2⟩
theorem oG4 {p s:D28}{i c:Nat}(b:blkP p i c)(hs:s.2.2.2.1=yL8 p.2.2.2.1 i (1+c)):Fo (idL s.2.2.2.1) (paL s.2.2.2.1) s.2.2.2.1.length:=by
 have hl:=tO9 (l:=p.2.2.2.1) (i:=i) (m:=1+c) (by have:=b.le;omega)
 rw[hs,hl]
 exact oP5 b fun j _=>pI7 (by have:=b.le;omega) j
end Go.Proofs.YtpanghcojpnkaaaGreatDoor.Am
namespace Go.Proofs.YtpanghcojpnkaaaGreatDoor.Am
open Go Go.Am
theorem uN1 (l:List Int)(k:Int)(hl:len l<9223372036854775808):sO7 l k∧(f40 l k=true↔k∈l):=by
 obtain⟨z,h1,h2,h3,h4,h5⟩:=xY2 (g:=vM2 (l,k,len l,())) (next:=wM5 (l,k,len l,())) (n:=len l) (c:=fun i=>k==nth l i 0) (xT7 _) hl (fun _=>rfl) (fun _=>rfl)
 have hz:Am.Ends (vM2 (l,k,len l,())) (wM5 (l,k,len l,())) (vS3 (l,k,len l,())) (0,()):=
  xV4 (n:=len l) (xT7 _) hl (fun x hg=>xZ1 hg) (fun _=>rfl) fun x hx0 hx1=>fun h=>by
   have h4:x.1<len l:=jF h
   exact⟨⟨hx0,h4⟩,fun _=>(show InR (x.1+1) from xY3 (by omega) (by omega))⟩
 refine⟨hz,?_⟩
 have e:f40 l k=decide ((bif (decide (z<len l)&&(k==nth l z 0)) then z else -1)≥0):=by
  show decide ((bif tL7 (l,k,len l,()) (zC3 (vM2 (l,k,len l,())) (wM5 (l,k,len l,())) (0,())) then uA8 (l,k,len l,()) (zC3 (vM2 (l,k,len l,())) (wM5 (l,k,len l,())) (0,())) else -1)≥0)=_
  rw[h3];rfl
 rw[e,decide_eq_true_eq]
 have hlen:len l=(l.length:Int):=rfl
 by_cases hlt:z<len l
 ·have h6:=h5 hlt
  rw[decide_eq_true hlt,h6]
  simp only[Bool.and_true,jE]
  have hk:k=nth l z 0:=by simpa using h6
  exact⟨fun _=>by rw[hk];exact wA3 ⟨h1,hlt⟩,fun _=>h1⟩
 ·rw[decide_eq_false hlt]
  simp only[Bool.false_and,jD]
  refine⟨fun h=>absurd h (by decide),fun h=>?_⟩
  obtain⟨j,hj,he⟩:=List.getElem_of_mem h
  have h7:=h4 (j:Int) (by omega) (by omega)
  have:nth l (j:Int) 0=k:=by
   show l.getD (j:Int).toNat 0=k
   rw[Int.toNat_natCast,jM,jL hj,Option.getD_some,he]
  rw[this] at h7
  simp at h7
theorem wX2 {p:D28}(v:Valid p)(q:Int):tU4 p q∧(f33 p q=0↔q=0∨∃ j,j<p.2.2.2.1.length∧idL p.2.2.2.1 j=q∧kdL p.2.2.2.1 j=1):=by
 have hn:=v.len1
 have hlt:len p.2.2.2.1<9223372036854775808:=by omega
 have h8:=vI6 p q hlt
 have ln:(p.2.2.2.1.length:Int)=len p.2.2.2.1:=rfl
 refine⟨fun _=>⟨h8.1,fun h=>?_⟩,?_⟩
 ·rcases h8.2 with h' | h'
  ·have:decide (f8 p q<0)=true:=decide_eq_true h'
   rw[show (!(decide (f8 p q<0)))=false by rw[this];rfl] at h
   cases h
  ·exact h'
 ·show (bif q==0 then 0 else (bif decide (f8 p q<0) then 9 else (bif (nth p.2.2.2.1 (f8 p q) Z49).2.1 !=1 then 8 else 0)))=(0:Int)↔_
  by_cases hq:q=0
  ·subst hq;simp
  ·have hqb:(q==0)=false:=by simpa using hq
   rw[hqb,jD]
   rcases wL8 p q hlt with ⟨h1,h2⟩ | ⟨j,hj,h1,h2,_⟩
   ·rw[h1]
    refine⟨fun h=>absurd (show (9:Int)=0 from h) (by decide),?_⟩
    rintro (h|⟨j,hj,e,_⟩)
    ·exact absurd h hq
    ·exact absurd e (h2 j hj)
   ·rw[h1,decide_eq_false (by omega),jD]
    cases hk:((nth p.2.2.2.1 (j:Int) Z49).2.1 !=1) with
    |true =>
     refine⟨fun h=>absurd h (by decide),?_⟩
     rintro (h|⟨u,hu,e,k⟩)
     ·exact absurd h hq
     ·have:=(wO1 v).inj u j hu hj (by rw[e,h2])
      subst this
      simp[kdL] at k
      simp[k] at hk
    |false=>exact⟨fun _=>.inr ⟨j,hj,h2,by simpa[kdL] using hk⟩,fun _=>rfl⟩
def sP8 (n:D49)(q:Int):D49:=(n.1,n.2.1,q,n.2.2.2)
def blkL (l:List D49)(i m:Nat):List D49:=List.drop i (List.take (i+m) l)
def uK (b:List D49)(q:Int):List D49:=List.set b 0 (sP8 (nth b (0:Int) Z49) q)
theorem rA3 {l:List D49}{i m:Nat}(h:i+m≤l.length):(blkL l i m).length=m:=by
 unfold blkL;rw[List.length_drop,jT];omega
theorem oG5 (b:List D49)(q:Int):(uK b q).length=b.length:=by unfold uK;rw[List.length_set]
theorem qM {n:D49}{q:Int}(h:Short n):Short (sP8 n q):=⟨h.mask,h.pix,h.params,h.stops,h.segs,h.warp⟩
theorem oG6 {n:D49}{q:Int}(h:wJ8 n):wJ8 (sP8 n q):=h
structure Good (p:D28):Prop where
 fit:qL2 p
 sz:DocSz p
theorem uK0 {p:D28}(g:Good p){l:List D49}(nx:Int)(hl:len l<9223372036854775808)(hf:∀ n∈l,wJ8 n)(hs:∀ n∈l,Short n):Good (vE5 p l nx):=
 ⟨⟨⟨hl,hf⟩,g.fit.2⟩,⟨hs,g.sz.sel,g.sz.met,g.sz.lnk,g.sz.pix⟩⟩
theorem oG7 {p:D28}(w:Ty.wf T28 p)(h:Ty.bulk T28 p≤1048576):Good p:=⟨oF6 w,oP3 h⟩
def rT0:D28:=((0:Int),(0:Int),(0:Int),([]:List D49),(0:Int),((0:Int),(0:Int),([]:List Int),()),([]:List D87),([]:List D90),())
theorem sD1 (s:D28):f38 s=(bif f9 s !=0 then rT0 else s,bif f9 s !=0 then f9 s else 0,()):=rfl
theorem wU7 {p:D28}(g:Good p)(h:len p.2.2.2.1≤64):f34 p=p∧uI9 p:=
 ⟨oP4 p g.fit.1.1 (by have:=g.sz.lnk;unfold len;omega),oG1 p (by omega) g.sz⟩
theorem uN2 {p:D28}(v:Valid p){i:Nat}(hi:i<p.2.2.2.1.length){c:Nat}(b:blkP p i c)(hb:f11 p (idL p.2.2.2.1 i)=(List.range' (i+1) c).map (idL p.2.2.2.1))(q:Int) :
  (bif (q==idL p.2.2.2.1 i) then true else f40 (f11 p (idL p.2.2.2.1 i)) q)=true↔∃ j,i≤j∧j<i+1+c∧idL p.2.2.2.1 j=q:=by
 have hle:=b.le
 have hn:=v.len1
 have ln:(p.2.2.2.1.length:Int)=len p.2.2.2.1:=rfl
 rw[Bool.cond_true_left,Bool.or_eq_true,beq_iff_eq,(uN1 _ _ (by rw[hb];simp only[len,List.length_map,List.length_range'];omega)).2,hb,List.mem_map]
 constructor
 ·rintro (h|⟨j,hj,e⟩)
  ·exact⟨i,by omega,by omega,h.symm⟩
  ·have:=List.mem_range'_1.1 hj
   exact⟨j,by omega,by omega,e⟩
 ·rintro⟨j,h1,h2,e⟩
  by_cases hj:j=i
  ·subst hj;exact .inl e.symm
  ·exact .inr ⟨j,List.mem_range'_1.2 ⟨by omega,by omega⟩,e⟩
def tP5 (p:D28)(i c:Nat)(k:Int)(q:Int):D28:=vE5 p (f36 (yL8 p.2.2.2.1 i (1+c)) k (uK (blkL p.2.2.2.1 i (1+c)) q)) p.2.2.2.2.1
def cutD (p:D28)(i c:Nat):D28:=vE5 p (yL8 p.2.2.2.1 i (1+c)) p.2.2.2.2.1
theorem sD2 {l:List D49}{i m:Nat}{n:D49}(h:n∈yL8 l i m):n∈l:=by
 rcases List.mem_append.1 h with h|h
 ·exact List.mem_of_mem_take h
 ·exact List.mem_of_mem_drop h
theorem qM0 {l:List D49}{i m:Nat}{n:D49}(h:n∈blkL l i m):n∈l:=List.mem_of_mem_take (List.mem_of_mem_drop h)
theorem sP9 {p:D28}{i c:Nat}{k q:Int}{R:D49→Prop}(hi:i+(1+c)≤p.2.2.2.1.length)(h:∀ n∈p.2.2.2.1,R n)(hp:∀ n,R n→R (sP8 n q)):∀ n∈(tP5 p i c k q).2.2.2.1,R n:=by
 intro n hn
 have hn:n∈List.take (Int.toNat k) (yL8 p.2.2.2.1 i (1+c))++(uK (blkL p.2.2.2.1 i (1+c)) q++List.drop (Int.toNat k) (yL8 p.2.2.2.1 i (1+c))):=hn
 rcases List.mem_append.1 hn with hn|hn
 ·exact h n (sD2 (List.mem_of_mem_take hn))
 ·rcases List.mem_append.1 hn with hn|hn
  ·rcases List.mem_or_eq_of_mem_set hn with hn|hn
   ·exact h n (qM0 hn)
   ·rw[hn]
    have hb:=rA3 (l:=p.2.2.2.1) (i:=i) (m:=1+c) hi
    exact hp _ (h _ (qM0 (wA3 (l:=blkL p.2.2.2.1 i (1+c)) (i:=0) ⟨Int.le_refl _,by unfold len;omega⟩)))
  ·exact h n (sD2 (List.mem_of_mem_drop hn))
theorem qM1 {p:D28}{i c:Nat}{k q:Int}(hi:i+(1+c)≤p.2.2.2.1.length):(tP5 p i c k q).2.2.2.1.length=p.2.2.2.1.length:=by
 show (List.take (Int.toNat k) (yL8 p.2.2.2.1 i (1+c))++(uK (blkL p.2.2.2.1 i (1+c)) q++List.drop (Int.toNat k) (yL8 p.2.2.2.1 i (1+c)))).length=_
 rw[jO,jO,oG5,rA3 hi,jT,List.length_drop,tO9 hi]
 omega
theorem tV9 {p:D28}(g:Good p){i c:Nat}{k q:Int}(hi:i+(1+c)≤p.2.2.2.1.length):Good (tP5 p i c k q):=
 uK0 g _ (by have:=qM1 (p:=p) (k:=k) (q:=q) hi;have h1:=g.fit.1.1;unfold len at h1 ⊢;show ((tP5 p i c k q).2.2.2.1.length:Int)<_;rw[this];exact h1) (sP9 hi g.fit.1.2 fun _=>oG6) (sP9 hi g.sz.nodes fun _=>qM)
theorem pC8 {p:D28}(g:Good p)(v:Valid p){i:Nat}(hi:i<p.2.2.2.1.length){c:Nat}(b:blkP p i c)(hb:f11 p (idL p.2.2.2.1 i)=(List.range' (i+1) c).map (idL p.2.2.2.1))(q at':Int)
  (hq:q=0∨∃ j,j<p.2.2.2.1.length∧idL p.2.2.2.1 j=q∧kdL p.2.2.2.1 j=1∧(j<i∨i+1+c≤j)) (h0:0≤at') (h1:at'≤len (f20 (cutD p i c) q)) :
  f16 p (idL p.2.2.2.1 i) q at'=f38 (tP5 p i c (f37 (cutD p i c) q at') q):=by
 have hle:=b.le
 have h9:=(wA1 p).2 v
 have h8:=vX4 v hi
 have hp:f33 p q=0:=(wX2 v q).2.2 (by
  rcases hq with h|⟨j,h1,h2,h3,_⟩
  ·exact .inl h
  ·exact .inr ⟨j,h1,h2,h3⟩)
 have hc:(bif (q==idL p.2.2.2.1 i) then true else f40 (f11 p (idL p.2.2.2.1 i)) q)=false:=by
  cases hx:(bif (q==idL p.2.2.2.1 i) then true else f40 (f11 p (idL p.2.2.2.1 i)) q) with
  |false=>rfl
  |true =>
   obtain⟨j,j1,j2,e⟩:=(uN2 v hi b hb q).1 hx
   rcases hq with h|⟨u,hu,e2,_,ho⟩
   ·have:=(wO1 v).pos j (by omega);omega
   ·have:=(wO1 v).inj j u (by omega) hu (by rw[e,e2])
    omega
 have hlb:len (f11 p (idL p.2.2.2.1 i))=(c:Int):=by rw[hb];simp only[len,List.length_map,List.length_range']
 have hcp:=(wU7 g v.len1).1
 have e1:(i:Int).toNat=i:=Int.toNat_natCast i
 have e2:((i:Int)+1+(c:Int)).toNat=i+(1+c):=by omega
 have hk:decide (at'<0)=false:=decide_eq_false (by omega)
 have hk2:decide (at'>len (f20 (cutD p i c) q))=false:=decide_eq_false (by omega)
 have hcut:(p.1,p.2.1,p.2.2.1,f39 p.2.2.2.1 (i:Int) ((i:Int)+1+(c:Int)),p.2.2.2.2)=cutD p i c:=by
  unfold f39;rw[e1,e2];rfl
 simp only[f16,f16t,h9,h8,hp,hc,hcp,hlb,hcut,hk,hk2,bne_self_eq_false,jD,decide_eq_false (show ¬ ((i:Int)<0) by omega)]
 rw[show f39 p.2.2.2.1 (i:Int) ((i:Int)+1+(c:Int))=yL8 p.2.2.2.1 i (1+c) from by unfold f39;rw[e1,e2];rfl,e1,e2]
 rfl
theorem qM2 {p:D28}{i c:Nat}(b:blkP p i c){j:Nat}(hj:j<p.2.2.2.1.length)(ho:j<i∨i+1+c≤j):∃ k,k<(cutD p i c).2.2.2.1.length∧idL (cutD p i c).2.2.2.1 k=idL p.2.2.2.1 j:=by
 have hle:=b.le
 have hcl:=tO9 (l:=p.2.2.2.1) (i:=i) (m:=1+c) (by omega)
 obtain⟨k,h1,h2⟩:=qL7 (i:=i) (m:=1+c) (k:=j) (by omega)
 refine⟨k,?_,?_⟩
 ·show k<(yL8 p.2.2.2.1 i (1+c)).length
  rw[hcl]
  unfold past at h1
  split at h1<;>omega
 ·show idL (yL8 p.2.2.2.1 i (1+c)) k=_
  rw[(pI7 (by omega) k).1,h1]
theorem qM3 {p:D28}{i c:Nat}(b:blkP p i c):Fo (idL (cutD p i c).2.2.2.1) (paL (cutD p i c).2.2.2.1) (cutD p i c).2.2.2.1.length:=oG4 b rfl
theorem rM5 {p:D28}{i c:Nat}(b:blkP p i c):len (cutD p i c).2.2.2.1=len p.2.2.2.1-(1+c):=by
 have hle:=b.le
 have hcl:=tO9 (l:=p.2.2.2.1) (i:=i) (m:=1+c) (by omega)
 show len (yL8 p.2.2.2.1 i (1+c))=_
 unfold len
 rw[hcl];omega
theorem rA4 {p:D28}(g:Good p):uU8 p:=wV p g.fit
theorem oG8 {p:D28}(g:Good p)(id q at':Int):tL9 p id q at':=by
 have hlt:=g.fit.1.1
 by_cases h9:f9 p=0
 ·have v:=(wA1 p).1 h9
  have hn:=v.len1
  have ln:(p.2.2.2.1.length:Int)=len p.2.2.2.1:=rfl
  rcases wL8 p id hlt with ⟨h8,_⟩ | ⟨i,hi,h8,hid,_⟩
  ·refine⟨wV p g.fit,fun _=>⟨(vI6 p id hlt).1,fun h=>?_⟩⟩
   have h':(!(decide (f8 p id<0)))=true:=h
   rw[h8] at h';exact absurd h' (by decide)
  ·subst hid
   by_cases h33:f33 p q=0
   ·have hq:=(wX2 v q).2.1 h33
    obtain⟨c,b,hb⟩:=vS6 v hi
    have hle:=b.le
    have hib:len (f11 p (idL p.2.2.2.1 i))<9223372036854775808:=by rw[hb];simp only[len,List.length_map,List.length_range'];omega
    cases hc:(bif (q==idL p.2.2.2.1 i) then true else f40 (f11 p (idL p.2.2.2.1 i)) q) with
    |true =>
     refine⟨wV p g.fit,fun _=>⟨(vI6 p _ hlt).1,fun _=>⟨(wX2 v q).1,fun _=>⟨(wO0 p _ (by omega)).1,fun _=>(uN1 _ _ hib).1,fun h=>?_⟩⟩⟩⟩
     have h':(!(bif (q==idL p.2.2.2.1 i) then true else f40 (f11 p (idL p.2.2.2.1 i)) q))=true:=h
     rw[hc] at h';cases h'
    |false =>
     have hq':q=0∨∃ j,j<p.2.2.2.1.length∧idL p.2.2.2.1 j=q∧kdL p.2.2.2.1 j=1∧(j<i∨i+1+c≤j):=by
      rcases hq with h|⟨j,h1,h2,h3⟩
      ·exact .inl h
      ·refine .inr ⟨j,h1,h2,h3,?_⟩
       by_cases ho:j<i∨i+1+c≤j
       ·exact ho
       ·have:=(uN2 v hi b hb q).2 ⟨j,by omega,by omega,h2⟩
        rw[hc] at this;cases this
     have hlb:len (f11 p (idL p.2.2.2.1 i))=(c:Int):=by rw[hb];simp only[len,List.length_map,List.length_range']
     have hcp:=wU7 g v.len1
     have e1:(i:Int).toNat=i:=Int.toNat_natCast i
     have e2:((i:Int)+1+(c:Int)).toNat=i+(1+c):=by omega
     have h39:f39 p.2.2.2.1 (i:Int) ((i:Int)+1+(c:Int))=yL8 p.2.2.2.1 i (1+c):=by unfold f39;rw[e1,e2];rfl
     have hbl:(List.drop i (List.take (i+(1+c)) p.2.2.2.1)).length=1+c:=rA3 (l:=p.2.2.2.1) (by omega)
     have hcl:=rM5 b
     have hq2:q=0∨∃ j,j<(cutD p i c).2.2.2.1.length∧idL (cutD p i c).2.2.2.1 j=q:=by
      rcases hq' with h|⟨j,h1,h2,_,h3⟩
      ·exact .inl h
      ·obtain⟨k,k1,k2⟩:=qM2 b h1 h3
       exact .inr ⟨k,k1,by rw[k2,h2]⟩
     refine⟨wV p g.fit,fun _=>⟨(vI6 p _ hlt).1,fun _=>⟨(wX2 v q).1,fun _=>⟨(wO0 p _ (by omega)).1,fun _=>(uN1 _ _ hib).1,fun _=>?_⟩⟩⟩⟩
     simp only[hcp.1,h8,hlb,e1,e2,h39]
     refine⟨hcp.2,xY3 (by omega) (by omega),xY3 (by omega) (by omega),⟨by omega,by omega,by omega⟩,⟨by rw[hbl];omega,by rw[hbl];omega⟩,⟨Int.le_refl _,by unfold len;rw[hbl];omega⟩,by unfold len;rw[hbl];omega,⟨by omega,by omega,by rw[ln];omega⟩,fun _=>(tO8 (cutD p i c) q (by omega)).1,fun h80=>?_⟩
     have ha:0≤at':=by
      refine Int.not_lt.1 fun hh=>?_
      rw[decide_eq_true hh] at h80
      simp at h80
     obtain⟨s1,s2,s3⟩:=sD0 (cutD p i c) q at' (qM3 b) (by omega) hq2 ha
     refine⟨s1,⟨s2,s3,?_,?_⟩,rA4 (tV9 (k:=f37 (cutD p i c) q at') (q:=q) g (i:=i) (c:=c) (by omega))⟩
     ·rw[List.length_set,hbl];omega
     ·rw[List.length_set,hbl,tO9 (l:=p.2.2.2.1) (by omega)];omega
   ·refine⟨wV p g.fit,fun _=>⟨(vI6 p _ hlt).1,fun _=>⟨(wX2 v q).1,fun h=>?_⟩⟩⟩
    have h':(!(f33 p q !=0))=true:=h
    rw[show (f33 p q !=0)=true by simpa using h33] at h'
    cases h'
 ·refine⟨wV p g.fit,fun h=>?_⟩
  have h':(!(f9 p !=0))=true:=h
  rw[show (f9 p !=0)=true by simpa using h9] at h'
  cases h'
end Go.Proofs.YtpanghcojpnkaaaGreatDoor.Am
