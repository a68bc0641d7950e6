/- Kids and slots in plain words. Condition: lengths of Go slices. -/
import Derived.Test.YtpanghcojpnkaaaGreatDoorDocW
import Derived.Test.YtpanghcojpnkaaaGreatDoorDocTr
namespace Go.Proofs.YtpanghcojpnkaaaGreatDoor.Am
open Go Go.Am
def vS8 (P:Nat→Int)(n:Nat)(q:Int):List Nat:=(List.range n).filter fun j=>P j==q
def kidI (l:List D49)(q:Int)(x:wV9):Prop:=∃ i:Nat,x.2.1=(i:Int)∧(i:Int)≤len l∧x.1=(vS8 (paL l) i q).map (idL l)
theorem pT9 (l:List D49)(q:Int)(a:List Int)(i:Int):wM0 (q,l,len l,()) (a,i,())=(bif ((nth l i Z49).2.2.1==q) then a++[(nth l i Z49).1] else a,i+1,()):=rfl
theorem qW3 (P:Nat→Int)(k:Nat)(q:Int):vS8 P (k+1) q=vS8 P k q++(bif P k==q then [k] else []):=by
 unfold vS8
 rw[List.range_succ,List.filter_append]
 cases h:(P k==q)<;>simp[h]
theorem vS9 (p:D28)(q:Int)(hn:len p.2.2.2.1≤4294967296):uK6 p q∧f20 p q=(vS8 (paL p.2.2.2.1) p.2.2.2.1.length q).map (idL p.2.2.2.1):=by
 have h0n:=xT8 p.2.2.2.1
 have w:=whole (g:=vX1 (q,p.2.2.2.1,len p.2.2.2.1,())) (next:=wM0 (q,p.2.2.2.1,len p.2.2.2.1,())) (ok:=vR6 (q,p.2.2.2.1,len p.2.2.2.1,())) (kidI p.2.2.2.1 q) (fun x=>(len p.2.2.2.1-x.2.1).toNat) (fun x hx=>fun h3=>?_) (fun x hx hg=>?_) (x:=(([]:List Int),(0:Int),()))
  ⟨0,rfl,by omega,rfl⟩ (by unfold zI1;simp only;omega)
 ·refine⟨w.1,?_⟩
  obtain⟨⟨i,hi0,hi1,hl⟩,hg⟩:=w.2
  show (zC1 (vX1 (q,p.2.2.2.1,len p.2.2.2.1,())) (wM0 (q,p.2.2.2.1,len p.2.2.2.1,())) (([]:List Int),(0:Int),())).1=_
  rw[hl]
  have hg':¬ (zC1 (vX1 (q,p.2.2.2.1,len p.2.2.2.1,())) (wM0 (q,p.2.2.2.1,len p.2.2.2.1,())) (([]:List Int),(0:Int),())).2.1<len p.2.2.2.1:=of_decide_eq_false hg
  have ln:(p.2.2.2.1.length:Int)=len p.2.2.2.1:=rfl
  have:i=p.2.2.2.1.length:=by omega
  rw[this]
 ·have h4:x.2.1<len p.2.2.2.1:=of_decide_eq_true h3
  obtain⟨i,hi0,hi1,hl⟩:=hx
  refine⟨⟨by omega,h4⟩,fun _=>?_,xY6 (by omega) (by omega)⟩
  have e:x.1.length≤i:=by
   rw[hl,List.length_map]
   have:=List.length_filter_le (fun j=>paL p.2.2.2.1 j==q) (List.range i)
   rw[List.length_range] at this
   exact this
  show ((x.1.length+1:Nat):Int)≤4294967296
  omega
 ·have h4:x.2.1<len p.2.2.2.1:=of_decide_eq_true hg
  obtain⟨i,hi0,hi1,hl⟩:=hx
  obtain⟨a,i',⟨⟩⟩:=x
  simp only at hi0 hl h4
  subst hi0
  rw[pT9]
  refine⟨⟨i+1,by simp,by omega,?_⟩,(show (len p.2.2.2.1-((i:Int)+1)).toNat<(len p.2.2.2.1-(i:Int)).toNat by omega)⟩
  rw[qW3,List.map_append,← hl]
  show (bif (paL p.2.2.2.1 i==q) then _ else _)=_
  cases (paL p.2.2.2.1 i==q) with
  |true=>rfl
  |false=>simp
theorem pU {P:Nat→Int}{n:Nat}{q:Int}:(vS8 P n q).length≤n:=by
 have:=List.length_filter_le (fun j=>P j==q) (List.range n)
 rw[List.length_range] at this
 exact this
theorem kids_mem {P:Nat→Int}{n:Nat}{q:Int}{j:Nat}:j∈vS8 P n q↔j<n∧P j=q:=by
 unfold vS8
 rw[List.mem_filter,List.mem_range,beq_iff_eq]
theorem sJ2 {p:D28}(h:Fo (idL p.2.2.2.1) (paL p.2.2.2.1) p.2.2.2.1.length)(hn:len p.2.2.2.1<9223372036854775808){j:Nat}(hj:j<p.2.2.2.1.length):f8 p (idL p.2.2.2.1 j)=(j:Int):=by
 rcases vS7 p (idL p.2.2.2.1 j) hn with ⟨_,h1⟩ | ⟨u,hu,h1,h2,_⟩
 ·exact absurd rfl (h1 j hj)
 ·rw[h1,h.inj u j hu hj h2]
open Classical in
theorem qW4 {p:D28}(h:Fo (idL p.2.2.2.1) (paL p.2.2.2.1) p.2.2.2.1.length)(hn:len p.2.2.2.1≤4294967296){f:Nat}(hf:f<p.2.2.2.1.length):(f:Int)+1+len (f11 p (idL p.2.2.2.1 f))≤len p.2.2.2.1:=by
 rw[(wY3 p _ hn).2]
 have:=rH9 (n:=p.2.2.2.1.length) (f:=f) (fun j=>decide (Und (idL p.2.2.2.1) (paL p.2.2.2.1) (idL p.2.2.2.1 f) j)) (fun j hj hd=>nK5 h hf (of_decide_eq_true hd) hj) hf
 simp only[len,List.length_map]
 unfold undL
 omega
theorem qW5 (p:D28)(q at':Int)(h:Fo (idL p.2.2.2.1) (paL p.2.2.2.1) p.2.2.2.1.length)(hn:len p.2.2.2.1≤64)(hq:q=0∨∃ j,j<p.2.2.2.1.length∧idL p.2.2.2.1 j=q)(ha:0≤at') :
  tZ7 p q at'∧0≤f37 p q at'∧f37 p q at'≤len p.2.2.2.1:=by
 have hk:=vS9 p q (by omega)
 have hlt:len p.2.2.2.1<9223372036854775808:=by omega
 have h8:∀ k,vY3 p k:=fun k=>(vZ9 p k hlt).1
 have ln:(p.2.2.2.1.length:Int)=len p.2.2.2.1:=rfl
 have hb:∀ f:Nat,f<p.2.2.2.1.length→idL p.2.2.2.1 f=q→f8 p q=(f:Int)∧(f:Int)+1+len (f11 p q)≤len p.2.2.2.1:=fun f hf e=>by
  rw[← e];exact⟨sJ2 h hlt hf,qW4 h (by omega) hf⟩
 have hneg:¬ q=0→vY3 p q∧InR (f8 p q+1)∧uY2 p q∧InR (f8 p q+1+len (f11 p q))∧0≤f8 p q+1+len (f11 p q)∧f8 p q+1+len (f11 p q)≤len p.2.2.2.1:=fun hq0=>by
  rcases hq with h0|⟨f,hf,e⟩
  ·exact absurd h0 hq0
  ·obtain⟨e1,e2⟩:=hb f hf e
   have:=xT8 (f11 p q)
   rw[e1]
   exact⟨h8 q,xY6 (by omega) (by omega),(wY3 p q (by omega)).1,xY6 (by omega) (by omega),by omega,by omega⟩
 refine⟨⟨hk.1,fun hd=>⟨⟨ha,of_decide_eq_true hd⟩,h8 _⟩,fun _ hz=>?_⟩,?_⟩
 ·have hz':¬ q=0:=by simpa using hz
  obtain⟨a1,a2,a3,a4,_⟩:=hneg hz'
  exact⟨a1,a2,a3,a4⟩
 ·show 0≤(bif decide (at'<len (f20 p q)) then f8 p (nth (f20 p q) at' 0) else (bif q==0 then len p.2.2.2.1 else f8 p q+1+len (f11 p q)))∧(bif decide (at'<len (f20 p q)) then f8 p (nth (f20 p q) at' 0) else (bif q==0 then len p.2.2.2.1 else f8 p q+1+len (f11 p q)))≤len p.2.2.2.1
  cases hd:decide (at'<len (f20 p q)) with
  |true =>
   have hlt:=of_decide_eq_true hd
   simp only[cond_true]
   have hm:nth (f20 p q) at' 0∈f20 p q:=xZ4 ⟨ha,hlt⟩
   rw[hk.2] at hm
   obtain⟨j,hj,e⟩:=List.mem_map.1 hm
   have hj':=(kids_mem.1 hj).1
   have e':nth (f20 p q) at' 0=idL p.2.2.2.1 j:=by rw[hk.2];exact e.symm
   rw[e',sJ2 h (by omega) hj']
   omega
  |false =>
   simp only[cond_false]
   by_cases hq0:q=0
   ·subst hq0
    simp only[beq_self_eq_true,cond_true]
    exact⟨xT8 _,Int.le_refl _⟩
   ·have:(q==0)=false:=by simpa using hq0
    rw[this,cond_false]
    obtain⟨_,_,_,_,a5,a6⟩:=hneg hq0
    exact⟨a5,a6⟩
def yL9 (l:List D49)(i m:Nat):List D49:=List.take i l++List.drop (i+m) l
theorem vM5 {l:List D49}{i m:Nat}(h:i+m≤l.length):(yL9 l i m).length=l.length-m:=by
 unfold yL9;rw[List.length_append,List.length_take,List.length_drop];omega
theorem uD (l:List D49)(j:Nat):nth l (j:Int) Z49=l.getD j Z49:=by
 show l.getD (j:Int).toNat Z49=_
 rw[Int.toNat_natCast]
theorem rI0 {l:List D49}{i m j:Nat}(h:i+m≤l.length):(yL9 l i m).getD j Z49=l.getD (past i m j) Z49:=by
 unfold yL9 past
 rw[List.getD_eq_getElem?_getD,List.getD_eq_getElem?_getD]
 congr 1
 split
 ·rw[List.getElem?_append_left (by rw[List.length_take];omega),List.getElem?_take_of_lt (by assumption)]
 ·rw[List.getElem?_append_right (by rw[List.length_take];omega),List.getElem?_drop,List.length_take]
  congr 1;omega
theorem qW6 {l:List D49}{i m:Nat}(h:i+m≤l.length)(j:Nat):idL (yL9 l i m) j=idL l (past i m j)∧paL (yL9 l i m) j=paL l (past i m j):=by
 unfold idL paL
 rw[uD,uD,rI0 h]
 exact⟨rfl,rfl⟩
abbrev blkP (p:D28)(i c:Nat):Prop:=Blk (idL p.2.2.2.1) (paL p.2.2.2.1) p.2.2.2.1.length i c
theorem uM5 {p:D28}(v:Valid p){i:Nat}(hi:i<p.2.2.2.1.length):∃ c,blkP p i c∧f11 p (idL p.2.2.2.1 i)=(List.range' (i+1) c).map (idL p.2.2.2.1):=by
 obtain⟨c,h1,h2,h3⟩:=rH8 v hi
 exact⟨c,⟨wQ0 v,h1,h3⟩,h2⟩
theorem qW7 {p s:D28}{i c:Nat}(b:blkP p i c)(hs:s.2.2.2.1=yL9 p.2.2.2.1 i (1+c)):Fo (idL s.2.2.2.1) (paL s.2.2.2.1) s.2.2.2.1.length:=by
 have hl:=vM5 (l:=p.2.2.2.1) (i:=i) (m:=1+c) (by have:=b.le;omega)
 rw[hs,hl]
 exact nK6 b fun j _=>qW6 (by have:=b.le;omega) j
theorem sB3 {P:Nat→Int}{n i:Nat}{q:Int}(h:i≤n):vS8 P n q=(List.range i).filter (fun j=>P j==q)++(List.range' i (n-i)).filter (fun j=>P j==q):=by
 unfold vS8
 have:=List.range'_append_1 (s:=0) (m:=i) (n:=n-i)
 rw[Nat.zero_add] at this
 rw[List.range_eq_range',List.range_eq_range',show n=i+(n-i) by omega,← this,List.filter_append]
 simp
theorem uZ0 {P:Nat→Int}{i k:Nat}{q:Int}(hk:0<k)(h:P i=q):(List.range' i k).filter (fun j=>P j==q)=i::(List.range' (i+1) (k-1)).filter (fun j=>P j==q):=by
 obtain⟨k',rfl⟩:∃ k',k=k'+1:=⟨k-1,by omega⟩
 rw[List.range'_succ,List.filter_cons_of_pos (by simpa using h)]
 rfl
open Classical in
theorem sX2 {p s:D28}{i c:Nat}(b:blkP p i c)(hn:len p.2.2.2.1≤64)(hs:s.2.2.2.1=yL9 p.2.2.2.1 i (1+c)) :
  f37 s (paL p.2.2.2.1 i) (((List.range i).filter fun j=>paL p.2.2.2.1 j==paL p.2.2.2.1 i).length:Int)=(i:Int)∧(((List.range i).filter fun j=>paL p.2.2.2.1 j==paL p.2.2.2.1 i).length:Int)≤len (f20 s (paL p.2.2.2.1 i)):=by
 have hle:=b.le
 have hcl:=vM5 (l:=p.2.2.2.1) (i:=i) (m:=1+c) (by omega)
 have hN:s.2.2.2.1.length=p.2.2.2.1.length-(1+c):=by rw[hs];exact hcl
 have ln:(p.2.2.2.1.length:Int)=len p.2.2.2.1:=rfl
 have lns:(s.2.2.2.1.length:Int)=len s.2.2.2.1:=rfl
 have hid:∀ j,idL s.2.2.2.1 j=idL p.2.2.2.1 (past i (1+c) j)∧paL s.2.2.2.1 j=paL p.2.2.2.1 (past i (1+c) j):=fun j=>by rw[hs];exact qW6 (by omega) j
 have hF:=qW7 b hs
 have hk:=(vS9 s (paL p.2.2.2.1 i) (by omega)).2
 rw[sB3 (n:=s.2.2.2.1.length) (i:=i) (by omega)] at hk
 have hA:(List.range i).filter (fun j=>paL s.2.2.2.1 j==paL p.2.2.2.1 i)=(List.range i).filter (fun j=>paL p.2.2.2.1 j==paL p.2.2.2.1 i):=by
  refine List.filter_congr fun j hj=>?_
  have:=List.mem_range.1 hj
  rw[(hid j).2];unfold past;rw[if_pos this]
 rw[hA] at hk
 generalize hAA:(List.range i).filter (fun j=>paL p.2.2.2.1 j==paL p.2.2.2.1 i)=A at hk
 have hpi:past i (1+c) i=i+1+c:=by unfold past;rw[if_neg (by omega)];omega
 have hpge:∀ j,i≤j→past i (1+c) j=j+(1+c):=fun j hj=>by unfold past;rw[if_neg (by omega)]
 have hplt:∀ j,j<i→past i (1+c) j=j:=fun j hj=>by unfold past;rw[if_pos hj]
 have hlk:len (f20 s (paL p.2.2.2.1 i))=(A.length:Int)+(((List.range' i (s.2.2.2.1.length-i)).filter (fun j=>paL s.2.2.2.1 j==paL p.2.2.2.1 i)).length:Int):=by
  rw[hk];simp only[len,List.length_map,List.length_append];omega
 refine⟨?_,by rw[hlk];omega⟩
 show (bif decide ((A.length:Int)<len (f20 s (paL p.2.2.2.1 i))) then f8 s (nth (f20 s (paL p.2.2.2.1 i)) (A.length:Int) 0) else (bif paL p.2.2.2.1 i==0 then len s.2.2.2.1 else f8 s (paL p.2.2.2.1 i)+1+len (f11 s (paL p.2.2.2.1 i))))=(i:Int)
 by_cases hT:i<s.2.2.2.1.length∧paL s.2.2.2.1 i=paL p.2.2.2.1 i
 ·have hcons:=uZ0 (P:=paL s.2.2.2.1) (k:=s.2.2.2.1.length-i) (by omega) hT.2
  rw[hcons] at hk hlk
  rw[decide_eq_true (by rw[hlk];simp only[List.length_cons];omega),cond_true]
  have hnth:nth (f20 s (paL p.2.2.2.1 i)) (A.length:Int) 0=idL s.2.2.2.1 i:=by
   rw[hk]
   show List.getD _ (A.length:Int).toNat 0=_
   rw[Int.toNat_natCast,List.map_append,List.getD_eq_getElem?_getD,List.getElem?_append_right (by simp)]
   simp
  rw[hnth]
  exact sJ2 hF (by omega) hT.1
 ·-- whoever is below the block's parent behind the block brings its next node along
  have hno:∀ j,i≤j→j<s.2.2.2.1.length→paL p.2.2.2.1 i≠0→¬ Und (idL p.2.2.2.1) (paL p.2.2.2.1) (paL p.2.2.2.1 i) (j+(1+c)):=fun j hj hjN hq hu=>by
   rcases (pT6 b.tree).par i (by omega) with h0|⟨f,hf,he⟩
   ·exact hq h0
   ·obtain⟨cf,hcf,hblk⟩:=tT5 b.tree (i:=f) (by omega)
    rw[he] at hu
    have h1:=(hblk _ (by omega)).1 hu
    have h2:=(hblk (i+1+c) (by omega)).2 (by omega)
    have:=pT8 b (by omega) hf he h2
    exact hT ⟨by omega,by rw[(hid i).2,hpi,this,he]⟩
  have hroot:paL p.2.2.2.1 i=0→s.2.2.2.1.length=i:=fun h0=>by
   by_cases hlt:i<s.2.2.2.1.length
   ·have:=qW2 b (by omega) h0
    exact absurd ⟨hlt,by rw[(hid i).2,hpi,this,h0]⟩ hT
   ·omega
  have hnil:(List.range' i (s.2.2.2.1.length-i)).filter (fun j=>paL s.2.2.2.1 j==paL p.2.2.2.1 i)=[]:=by
   rw[List.filter_eq_nil_iff]
   intro j hj hd
   have hj':=List.mem_range'_1.1 hj
   have hd':paL s.2.2.2.1 j=paL p.2.2.2.1 i:=by simpa using hd
   by_cases h0:paL p.2.2.2.1 i=0
   ·have:=hroot h0;omega
   ·rw[(hid j).2,hpge j (by omega)] at hd'
    exact hno j (by omega) (by omega) h0 (.top hd')
  rw[hnil] at hlk
  rw[decide_eq_false (by rw[hlk];simp),cond_false]
  by_cases h0:paL p.2.2.2.1 i=0
  ·rw[h0];simp only[beq_self_eq_true,cond_true]
   have:=hroot h0;omega
  ·have hb0:(paL p.2.2.2.1 i==0)=false:=by simpa using h0
   rw[hb0,cond_false]
   rcases (pT6 b.tree).par i (by omega) with h1|⟨f,hf,he⟩
   ·exact absurd h1 h0
   ·have hfs:idL s.2.2.2.1 f=paL p.2.2.2.1 i:=by rw[(hid f).1,hplt f hf,he]
    have h8:f8 s (paL p.2.2.2.1 i)=(f:Int):=by rw[← hfs];exact sJ2 hF (by omega) (by omega)
    obtain⟨cf,hcf,hblk⟩:=tT5 b.tree (i:=f) (by omega)
    have hif:Und (idL p.2.2.2.1) (paL p.2.2.2.1) (idL p.2.2.2.1 f) i:=.top he
    have hif':=(hblk i (by omega)).1 hif
    have hbel:undL (idL s.2.2.2.1) (paL s.2.2.2.1) s.2.2.2.1.length (paL p.2.2.2.1 i)=List.range' (f+1) (i-(f+1)):=by
     refine sX1 (by omega) _ fun j hj=>?_
     constructor
     ·intro hd
      have hu:=of_decide_eq_true hd
      have hu':=hu
      rw[← hfs] at hu'
      have hgt:=nK5 hF (by omega) hu' hj
      have hu2:=nA7 (I:=idL p.2.2.2.1) (P:=paL p.2.2.2.1) (N:=s.2.2.2.1.length) (fun k _=>hid k) hu hj
      refine⟨by omega,?_⟩
      refine Nat.lt_of_not_le fun hge=>?_
      rw[hpge j (by omega)] at hu2
      exact hno j (by omega) hj h0 hu2
     ·rintro⟨h1,h2⟩
      refine decide_eq_true ?_
      have hu:=(hblk j (by omega)).2 (by omega)
      rw[← he] at hu
      exact qW0 (fun k hk=>by rw[(hid k).1,(hid k).2,hplt k (by omega)];exact⟨rfl,rfl⟩) hu
    rw[h8,(wY3 s _ (by omega)).2,hbel]
    simp only[len,List.length_map,List.length_range']
    omega
end Go.Proofs.YtpanghcojpnkaaaGreatDoor.Am
namespace Go.Proofs.YtpanghcojpnkaaaGreatDoor.Am
open Go Go.Am
theorem uQ7 (l:List Int)(k:Int)(hl:len l<9223372036854775808):sU7 l k∧(f40 l k=true↔k∈l):=by
 obtain⟨z,h1,h2,h3,h4,h5⟩:=xY1 (g:=vM (l,k,len l,())) (next:=wM2 (l,k,len l,())) (n:=len l) (c:=fun i=>k==nth l i 0) (xT8 _) hl (fun _=>rfl) (fun _=>rfl)
 have hz:Am.Ends (vM (l,k,len l,())) (wM2 (l,k,len l,())) (vR9 (l,k,len l,())) (0,()):=
  xV5 (n:=len l) (xT8 _) hl (fun x hg=>xZ7 hg) (fun _=>rfl) fun x hx0 hx1=>fun h=>by
   have h4:x.1<len l:=of_decide_eq_true h
   exact⟨⟨hx0,h4⟩,fun _=>(show InR (x.1+1) from xY6 (by omega) (by omega))⟩
 refine⟨hz,?_⟩
 have e:f40 l k=decide ((bif (decide (z<len l)&&(k==nth l z 0)) then z else -1)≥0):=by
  show decide ((bif tQ4 (l,k,len l,()) (zC1 (vM (l,k,len l,())) (wM2 (l,k,len l,())) (0,())) then uC4 (l,k,len l,()) (zC1 (vM (l,k,len l,())) (wM2 (l,k,len l,())) (0,())) else -1)≥0)=_
  rw[h3];rfl
 rw[e,decide_eq_true_eq]
 have hlen:len l=(l.length:Int):=rfl
 by_cases hlt:z<len l
 ·have h6:=h5 hlt
  rw[decide_eq_true hlt,h6]
  simp only[Bool.and_true,cond_true]
  have hk:k=nth l z 0:=by simpa using h6
  exact⟨fun _=>by rw[hk];exact xZ4 ⟨h1,hlt⟩,fun _=>h1⟩
 ·rw[decide_eq_false hlt]
  simp only[Bool.false_and,cond_false]
  refine⟨fun h=>absurd h (by decide),fun h=>?_⟩
  obtain⟨j,hj,he⟩:=List.getElem_of_mem h
  have h7:=h4 (j:Int) (by omega) (by omega)
  have:nth l (j:Int) 0=k:=by
   show l.getD (j:Int).toNat 0=k
   rw[Int.toNat_natCast,List.getD_eq_getElem?_getD,List.getElem?_eq_getElem hj,Option.getD_some,he]
  rw[this] at h7
  simp at h7
theorem vY2 {p:D28}(v:Valid p)(q:Int):tZ p q∧(f33 p q=0↔q=0∨∃ j,j<p.2.2.2.1.length∧idL p.2.2.2.1 j=q∧kdL p.2.2.2.1 j=1):=by
 have hn:=v.len1
 have hlt:len p.2.2.2.1<9223372036854775808:=by omega
 have h8:=vZ9 p q hlt
 have ln:(p.2.2.2.1.length:Int)=len p.2.2.2.1:=rfl
 refine⟨fun _=>⟨h8.1,fun h=>?_⟩,?_⟩
 ·rcases h8.2 with h' | h'
  ·have:decide (f8 p q<0)=true:=decide_eq_true h'
   rw[show (!(decide (f8 p q<0)))=false by rw[this];rfl] at h
   cases h
  ·exact h'
 ·show (bif q==0 then 0 else (bif decide (f8 p q<0) then 9 else (bif (nth p.2.2.2.1 (f8 p q) Z49).2.1 !=1 then 8 else 0)))=(0:Int)↔_
  by_cases hq:q=0
  ·subst hq;simp
  ·have hqb:(q==0)=false:=by simpa using hq
   rw[hqb,cond_false]
   rcases vS7 p q hlt with ⟨h1,h2⟩ | ⟨j,hj,h1,h2,_⟩
   ·rw[h1]
    refine⟨fun h=>absurd (show (9:Int)=0 from h) (by decide),?_⟩
    rintro (h|⟨j,hj,e,_⟩)
    ·exact absurd h hq
    ·exact absurd e (h2 j hj)
   ·rw[h1,decide_eq_false (by omega),cond_false]
    cases hk:((nth p.2.2.2.1 (j:Int) Z49).2.1 !=1) with
    |true =>
     refine⟨fun h=>absurd h (by decide),?_⟩
     rintro (h|⟨u,hu,e,k⟩)
     ·exact absurd h hq
     ·have:=(wQ0 v).inj u j hu hj (by rw[e,h2])
      subst this
      simp[kdL] at k
      simp[k] at hk
    |false=>exact⟨fun _=>.inr ⟨j,hj,h2,by simpa[kdL] using hk⟩,fun _=>rfl⟩
def vT (n:D49)(q:Int):D49:=(n.1,n.2.1,q,n.2.2.2)
def blkL (l:List D49)(i m:Nat):List D49:=List.drop i (List.take (i+m) l)
def wN9 (b:List D49)(q:Int):List D49:=List.set b 0 (vT (nth b (0:Int) Z49) q)
theorem tT6 {l:List D49}{i m:Nat}(h:i+m≤l.length):(blkL l i m).length=m:=by
 unfold blkL;rw[List.length_drop,List.length_take];omega
theorem qW8 (b:List D49)(q:Int):(wN9 b q).length=b.length:=by unfold wN9;rw[List.length_set]
theorem qW9 {n:D49}{q:Int}(h:Short n):Short (vT n q):=⟨h.mask,h.pix,h.params,h.stops,h.segs,h.warp⟩
theorem nA8 {n:D49}{q:Int}(h:vM4 n):vM4 (vT n q):=h
structure Good (p:D28):Prop where
 fit:qV6 p
 sz:DocSz p
theorem qX {p:D28}(g:Good p){l:List D49}(nx:Int)(hl:len l<9223372036854775808)(hf:∀ n∈l,vM4 n)(hs:∀ n∈l,Short n):Good (vY4 p l nx):=
 ⟨⟨⟨hl,hf⟩,g.fit.2⟩,⟨hs,g.sz.sel,g.sz.met,g.sz.lnk,g.sz.pix⟩⟩
theorem nA9 {p:D28}(w:Ty.wf T28 p)(h:Ty.bulk T28 p≤1048576):Good p:=⟨nA w,nK3 h⟩
def nL3:D28:=((0:Int),(0:Int),(0:Int),([]:List D49),(0:Int),((0:Int),(0:Int),([]:List Int),()),([]:List D87),([]:List D90),())
theorem qX0 (s:D28):f38 s=(bif f9 s !=0 then nL3 else s,bif f9 s !=0 then f9 s else 0,()):=rfl
theorem tT7 {p:D28}(g:Good p)(h:len p.2.2.2.1≤64):f34 p=p∧uY1 p:=
 ⟨nK4 p g.fit.1.1 (by have:=g.sz.lnk;unfold len;omega),nA6 p (by omega) g.sz⟩
theorem uQ8 {p:D28}(v:Valid p){i:Nat}(hi:i<p.2.2.2.1.length){c:Nat}(b:blkP p i c)(hb:f11 p (idL p.2.2.2.1 i)=(List.range' (i+1) c).map (idL p.2.2.2.1))(q:Int) :
  (bif (q==idL p.2.2.2.1 i) then true else f40 (f11 p (idL p.2.2.2.1 i)) q)=true↔∃ j,i≤j∧j<i+1+c∧idL p.2.2.2.1 j=q:=by
 have hle:=b.le
 have hn:=v.len1
 have ln:(p.2.2.2.1.length:Int)=len p.2.2.2.1:=rfl
 rw[Bool.cond_true_left,Bool.or_eq_true,beq_iff_eq,(uQ7 _ _ (by rw[hb];simp only[len,List.length_map,List.length_range'];omega)).2,hb,List.mem_map]
 constructor
 ·rintro (h|⟨j,hj,e⟩)
  ·exact⟨i,by omega,by omega,h.symm⟩
  ·have:=List.mem_range'_1.1 hj
   exact⟨j,by omega,by omega,e⟩
 ·rintro⟨j,h1,h2,e⟩
  by_cases hj:j=i
  ·subst hj;exact .inl e.symm
  ·exact .inr ⟨j,List.mem_range'_1.2 ⟨by omega,by omega⟩,e⟩
def wE3 (p:D28)(i c:Nat)(k:Int)(q:Int):D28:=vY4 p (f36 (yL9 p.2.2.2.1 i (1+c)) k (wN9 (blkL p.2.2.2.1 i (1+c)) q)) p.2.2.2.2.1
def cutD (p:D28)(i c:Nat):D28:=vY4 p (yL9 p.2.2.2.1 i (1+c)) p.2.2.2.2.1
theorem qX1 {l:List D49}{i m:Nat}{n:D49}(h:n∈yL9 l i m):n∈l:=by
 rcases List.mem_append.1 h with h|h
 ·exact List.mem_of_mem_take h
 ·exact List.mem_of_mem_drop h
theorem qX2 {l:List D49}{i m:Nat}{n:D49}(h:n∈blkL l i m):n∈l:=List.mem_of_mem_take (List.mem_of_mem_drop h)
theorem sX3 {p:D28}{i c:Nat}{k q:Int}{R:D49→Prop}(hi:i+(1+c)≤p.2.2.2.1.length)(h:∀ n∈p.2.2.2.1,R n)(hp:∀ n,R n→R (vT n q)):∀ n∈(wE3 p i c k q).2.2.2.1,R n:=by
 intro n hn
 have hn:n∈List.take (Int.toNat k) (yL9 p.2.2.2.1 i (1+c))++(wN9 (blkL p.2.2.2.1 i (1+c)) q++List.drop (Int.toNat k) (yL9 p.2.2.2.1 i (1+c))):=hn
 rcases List.mem_append.1 hn with hn|hn
 ·exact h n (qX1 (List.mem_of_mem_take hn))
 ·rcases List.mem_append.1 hn with hn|hn
  ·rcases List.mem_or_eq_of_mem_set hn with hn|hn
   ·exact h n (qX2 hn)
   ·rw[hn]
    have hb:=tT6 (l:=p.2.2.2.1) (i:=i) (m:=1+c) hi
    exact hp _ (h _ (qX2 (xZ4 (l:=blkL p.2.2.2.1 i (1+c)) (i:=0) ⟨Int.le_refl _,by unfold len;omega⟩)))
  ·exact h n (qX1 (List.mem_of_mem_drop hn))
theorem uM6 {p:D28}{i c:Nat}{k q:Int}(hi:i+(1+c)≤p.2.2.2.1.length):(wE3 p i c k q).2.2.2.1.length=p.2.2.2.1.length:=by
 show (List.take (Int.toNat k) (yL9 p.2.2.2.1 i (1+c))++(wN9 (blkL p.2.2.2.1 i (1+c)) q++List.drop (Int.toNat k) (yL9 p.2.2.2.1 i (1+c)))).length=_
 rw[List.length_append,List.length_append,qW8,tT6 hi,List.length_take,List.length_drop,vM5 hi]
 omega
theorem uQ9 {p:D28}(g:Good p){i c:Nat}{k q:Int}(hi:i+(1+c)≤p.2.2.2.1.length):Good (wE3 p i c k q):=
 qX g _ (by have:=uM6 (p:=p) (k:=k) (q:=q) hi;have h1:=g.fit.1.1;unfold len at h1 ⊢;show ((wE3 p i c k q).2.2.2.1.length:Int)<_;rw[this];exact h1) (sX3 hi g.fit.1.2 fun _=>nA8) (sX3 hi g.sz.nodes fun _=>qW9)
theorem sJ3 {p:D28}(g:Good p)(v:Valid p){i:Nat}(hi:i<p.2.2.2.1.length){c:Nat}(b:blkP p i c)(hb:f11 p (idL p.2.2.2.1 i)=(List.range' (i+1) c).map (idL p.2.2.2.1))(q at':Int)
  (hq:q=0∨∃ j,j<p.2.2.2.1.length∧idL p.2.2.2.1 j=q∧kdL p.2.2.2.1 j=1∧(j<i∨i+1+c≤j)) (h0:0≤at') (h1:at'≤len (f20 (cutD p i c) q)) :
  f16 p (idL p.2.2.2.1 i) q at'=f38 (wE3 p i c (f37 (cutD p i c) q at') q):=by
 have hle:=b.le
 have h9:=(vI9 p).2 v
 have h8:=sB2 v hi
 have hp:f33 p q=0:=(vY2 v q).2.2 (by
  rcases hq with h|⟨j,h1,h2,h3,_⟩
  ·exact .inl h
  ·exact .inr ⟨j,h1,h2,h3⟩)
 have hc:(bif (q==idL p.2.2.2.1 i) then true else f40 (f11 p (idL p.2.2.2.1 i)) q)=false:=by
  cases hx:(bif (q==idL p.2.2.2.1 i) then true else f40 (f11 p (idL p.2.2.2.1 i)) q) with
  |false=>rfl
  |true =>
   obtain⟨j,j1,j2,e⟩:=(uQ8 v hi b hb q).1 hx
   rcases hq with h|⟨u,hu,e2,_,ho⟩
   ·have:=(wQ0 v).pos j (by omega);omega
   ·have:=(wQ0 v).inj j u (by omega) hu (by rw[e,e2])
    omega
 have hlb:len (f11 p (idL p.2.2.2.1 i))=(c:Int):=by rw[hb];simp only[len,List.length_map,List.length_range']
 have hcp:=(tT7 g v.len1).1
 have e1:(i:Int).toNat=i:=Int.toNat_natCast i
 have e2:((i:Int)+1+(c:Int)).toNat=i+(1+c):=by omega
 have hk:decide (at'<0)=false:=decide_eq_false (by omega)
 have hk2:decide (at'>len (f20 (cutD p i c) q))=false:=decide_eq_false (by omega)
 have hcut:(p.1,p.2.1,p.2.2.1,f39 p.2.2.2.1 (i:Int) ((i:Int)+1+(c:Int)),p.2.2.2.2.1,p.2.2.2.2.2.1,p.2.2.2.2.2.2.1,p.2.2.2.2.2.2.2.1,())=cutD p i c:=by
  unfold f39;rw[e1,e2];rfl
 simp only[f16,f16t,h9,h8,hp,hc,hcp,hlb,hcut,hk,hk2,bne_self_eq_false,cond_false,decide_eq_false (show ¬ ((i:Int)<0) by omega)]
 rw[show f39 p.2.2.2.1 (i:Int) ((i:Int)+1+(c:Int))=yL9 p.2.2.2.1 i (1+c) from by unfold f39;rw[e1,e2];rfl,e1,e2]
 rfl
theorem qX3 {p:D28}{i c:Nat}(b:blkP p i c){j:Nat}(hj:j<p.2.2.2.1.length)(ho:j<i∨i+1+c≤j):∃ k,k<(cutD p i c).2.2.2.1.length∧idL (cutD p i c).2.2.2.1 k=idL p.2.2.2.1 j:=by
 have hle:=b.le
 have hcl:=vM5 (l:=p.2.2.2.1) (i:=i) (m:=1+c) (by omega)
 obtain⟨k,h1,h2⟩:=rI (i:=i) (m:=1+c) (k:=j) (by omega)
 refine⟨k,?_,?_⟩
 ·show k<(yL9 p.2.2.2.1 i (1+c)).length
  rw[hcl]
  unfold past at h1
  split at h1<;>omega
 ·show idL (yL9 p.2.2.2.1 i (1+c)) k=_
  rw[(qW6 (by omega) k).1,h1]
theorem qX4 {p:D28}{i c:Nat}(b:blkP p i c):Fo (idL (cutD p i c).2.2.2.1) (paL (cutD p i c).2.2.2.1) (cutD p i c).2.2.2.1.length:=qW7 b rfl
theorem rV {p:D28}{i c:Nat}(b:blkP p i c):len (cutD p i c).2.2.2.1=len p.2.2.2.1-(1+c):=by
 have hle:=b.le
 have hcl:=vM5 (l:=p.2.2.2.1) (i:=i) (m:=1+c) (by omega)
 show len (yL9 p.2.2.2.1 i (1+c))=_
 unfold len
 rw[hcl];omega
theorem nB {p:D28}(g:Good p):tZ8 p:=uZ p g.fit
theorem rI1 {p:D28}(g:Good p)(id q at':Int):vZ4 p id q at':=by
 have hlt:=g.fit.1.1
 by_cases h9:f9 p=0
 ·have v:=(vI9 p).1 h9
  have hn:=v.len1
  have ln:(p.2.2.2.1.length:Int)=len p.2.2.2.1:=rfl
  rcases vS7 p id hlt with ⟨h8,_⟩ | ⟨i,hi,h8,hid,_⟩
  ·refine⟨uZ p g.fit,fun _=>⟨(vZ9 p id hlt).1,fun h=>?_⟩⟩
   have h':(!(decide (f8 p id<0)))=true:=h
   rw[h8] at h';exact absurd h' (by decide)
  ·subst hid
   by_cases h33:f33 p q=0
   ·have hq:=(vY2 v q).2.1 h33
    obtain⟨c,b,hb⟩:=uM5 v hi
    have hle:=b.le
    have hib:len (f11 p (idL p.2.2.2.1 i))<9223372036854775808:=by rw[hb];simp only[len,List.length_map,List.length_range'];omega
    cases hc:(bif (q==idL p.2.2.2.1 i) then true else f40 (f11 p (idL p.2.2.2.1 i)) q) with
    |true =>
     refine⟨uZ p g.fit,fun _=>⟨(vZ9 p _ hlt).1,fun _=>⟨(vY2 v q).1,fun _=>⟨(wY3 p _ (by omega)).1,fun _=>(uQ7 _ _ hib).1,fun h=>?_⟩⟩⟩⟩
     have h':(!(bif (q==idL p.2.2.2.1 i) then true else f40 (f11 p (idL p.2.2.2.1 i)) q))=true:=h
     rw[hc] at h';cases h'
    |false =>
     have hq':q=0∨∃ j,j<p.2.2.2.1.length∧idL p.2.2.2.1 j=q∧kdL p.2.2.2.1 j=1∧(j<i∨i+1+c≤j):=by
      rcases hq with h|⟨j,h1,h2,h3⟩
      ·exact .inl h
      ·refine .inr ⟨j,h1,h2,h3,?_⟩
       by_cases ho:j<i∨i+1+c≤j
       ·exact ho
       ·have:=(uQ8 v hi b hb q).2 ⟨j,by omega,by omega,h2⟩
        rw[hc] at this;cases this
     have hlb:len (f11 p (idL p.2.2.2.1 i))=(c:Int):=by rw[hb];simp only[len,List.length_map,List.length_range']
     have hcp:=tT7 g v.len1
     have e1:(i:Int).toNat=i:=Int.toNat_natCast i
     have e2:((i:Int)+1+(c:Int)).toNat=i+(1+c):=by omega
     have h39:f39 p.2.2.2.1 (i:Int) ((i:Int)+1+(c:Int))=yL9 p.2.2.2.1 i (1+c):=by unfold f39;rw[e1,e2];rfl
     have hbl:(List.drop i (List.take (i+(1+c)) p.2.2.2.1)).length=1+c:=tT6 (l:=p.2.2.2.1) (by omega)
     have hcl:=rV b
     have hq2:q=0∨∃ j,j<(cutD p i c).2.2.2.1.length∧idL (cutD p i c).2.2.2.1 j=q:=by
      rcases hq' with h|⟨j,h1,h2,_,h3⟩
      ·exact .inl h
      ·obtain⟨k,k1,k2⟩:=qX3 b h1 h3
       exact .inr ⟨k,k1,by rw[k2,h2]⟩
     refine⟨uZ p g.fit,fun _=>⟨(vZ9 p _ hlt).1,fun _=>⟨(vY2 v q).1,fun _=>⟨(wY3 p _ (by omega)).1,fun _=>(uQ7 _ _ hib).1,fun _=>?_⟩⟩⟩⟩
     simp only[hcp.1,h8,hlb,e1,e2,h39]
     refine⟨hcp.2,xY6 (by omega) (by omega),xY6 (by omega) (by omega),⟨by omega,by omega,by omega⟩,⟨by rw[hbl];omega,by rw[hbl];omega⟩,⟨Int.le_refl _,by unfold len;rw[hbl];omega⟩,by unfold len;rw[hbl];omega,⟨by omega,by omega,by rw[ln];omega⟩,fun _=>(vS9 (cutD p i c) q (by omega)).1,fun h80=>?_⟩
     have ha:0≤at':=by
      refine Int.not_lt.1 fun hh=>?_
      rw[decide_eq_true hh] at h80
      simp at h80
     obtain⟨s1,s2,s3⟩:=qW5 (cutD p i c) q at' (qX4 b) (by omega) hq2 ha
     refine⟨s1,⟨s2,s3,?_,?_⟩,nB (uQ9 (k:=f37 (cutD p i c) q at') (q:=q) g (i:=i) (c:=c) (by omega))⟩
     ·rw[List.length_set,hbl];omega
     ·rw[List.length_set,hbl,vM5 (l:=p.2.2.2.1) (by omega)];omega
   ·refine⟨uZ p g.fit,fun _=>⟨(vZ9 p _ hlt).1,fun _=>⟨(vY2 v q).1,fun h=>?_⟩⟩⟩
    have h':(!(f33 p q !=0))=true:=h
    rw[show (f33 p q !=0)=true by simpa using h33] at h'
    cases h'
 ·refine⟨uZ p g.fit,fun h=>?_⟩
  have h':(!(f9 p !=0))=true:=h
  rw[show (f9 p !=0)=true by simpa using h9] at h'
  cases h'
end Go.Proofs.YtpanghcojpnkaaaGreatDoor.Am
