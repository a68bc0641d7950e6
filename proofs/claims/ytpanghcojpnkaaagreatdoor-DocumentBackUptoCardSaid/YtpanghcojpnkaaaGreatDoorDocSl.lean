/- Kids and slots in plain words. Condition: lengths of Go slices. -/
import Derived.Test.YtpanghcojpnkaaaGreatDoorDocW
import Derived.Test.YtpanghcojpnkaaaGreatDoorDocTr
namespace Go.Proofs.YtpanghcojpnkaaaGreatDoor.Am
open Go Go.Am
def rA1 (P:Nat→Int)(n:Nat)(q:Int):List Nat:=(List.range n).filter fun j=>P j==q
def kidI (l:List D49)(q:Int)(x:wW0):Prop:=∃ i:Nat,x.2.1=(i:Int)∧(i:Int)≤len l∧x.1=(rA1 (paL l) i q).map (idL l)
theorem pC7 (l:List D49)(q:Int)(a:List Int)(i:Int):wM3 (q,l,len l,()) (a,i,())=(bif ((nth l i Z49).2.2.1==q) then a++[(nth l i Z49).1] else a,i+1,()):=rfl
theorem qL8 (P:Nat→Int)(k:Nat)(q:Int):rA1 P (k+1) q=rA1 P k q++(bif P k==q then [k] else []):=by
 unfold rA1
 rw[List.range_succ,List.filter_append]
 cases h:(P k==q)<;>simp[h]
theorem tO8 (p:D28)(q:Int)(hn:len p.2.2.2.1≤4294967296):uU3 p q∧f20 p q=(rA1 (paL p.2.2.2.1) p.2.2.2.1.length q).map (idL p.2.2.2.1):=by
 have h0n:=xT7 p.2.2.2.1
 have w:=whole (g:=vW8 (q,p.2.2.2.1,len p.2.2.2.1,())) (next:=wM3 (q,p.2.2.2.1,len p.2.2.2.1,())) (ok:=vS0 (q,p.2.2.2.1,len p.2.2.2.1,())) (kidI p.2.2.2.1 q) (fun x=>(len p.2.2.2.1-x.2.1).toNat) (fun x hx=>fun h3=>?_) (fun x hx hg=>?_) (x:=(([]:List Int),(0:Int),()))
  ⟨0,rfl,by omega,rfl⟩ (by unfold zI1;simp only;omega)
 ·refine⟨w.1,?_⟩
  obtain⟨⟨i,hi0,hi1,hl⟩,hg⟩:=w.2
  show (zC3 (vW8 (q,p.2.2.2.1,len p.2.2.2.1,())) (wM3 (q,p.2.2.2.1,len p.2.2.2.1,())) (([]:List Int),(0:Int),())).1=_
  rw[hl]
  have hg':¬ (zC3 (vW8 (q,p.2.2.2.1,len p.2.2.2.1,())) (wM3 (q,p.2.2.2.1,len p.2.2.2.1,())) (([]:List Int),(0:Int),())).2.1<len p.2.2.2.1:=of_decide_eq_false hg
  have ln:(p.2.2.2.1.length:Int)=len p.2.2.2.1:=rfl
  have:i=p.2.2.2.1.length:=by omega
  rw[this]
 ·have h4:x.2.1<len p.2.2.2.1:=jF h3
  obtain⟨i,hi0,hi1,hl⟩:=hx
  refine⟨⟨by omega,h4⟩,fun _=>?_,xY3 (by omega) (by omega)⟩
  have e:x.1.length≤i:=by
   rw[hl,List.length_map]
   have:=List.length_filter_le (fun j=>paL p.2.2.2.1 j==q) (List.range i)
   rw[List.length_range] at this
   exact this
  show ((x.1.length+1:Nat):Int)≤4294967296
  omega
 ·have h4:x.2.1<len p.2.2.2.1:=jF hg
  obtain⟨i,hi0,hi1,hl⟩:=hx
  obtain⟨a,i',⟨⟩⟩:=x
  simp only at hi0 hl h4
  subst hi0
  rw[pC7]
  refine⟨⟨i+1,by simp,by omega,?_⟩,(show (len p.2.2.2.1-((i:Int)+1)).toNat<(len p.2.2.2.1-(i:Int)).toNat by omega)⟩
  rw[qL8,List.map_append,← hl]
  show (bif (paL p.2.2.2.1 i==q) then _ else _)=_
  cases (paL p.2.2.2.1 i==q) with
  |true=>rfl
  |false=>simp
theorem kids_mem {P:Nat→Int}{n:Nat}{q:Int}{j:Nat}:j∈rA1 P n q↔j<n∧P j=q:=by
 unfold rA1
 rw[List.mem_filter,List.mem_range,beq_iff_eq]
theorem rA2 {p:D28}(h:Fo (idL p.2.2.2.1) (paL p.2.2.2.1) p.2.2.2.1.length)(hn:len p.2.2.2.1<9223372036854775808){j:Nat}(hj:j<p.2.2.2.1.length):f8 p (idL p.2.2.2.1 j)=(j:Int):=by
 rcases wL8 p (idL p.2.2.2.1 j) hn with ⟨_,h1⟩ | ⟨u,hu,h1,h2,_⟩
 ·exact absurd rfl (h1 j hj)
 ·rw[h1,h.inj u j hu hj h2]
open Classical in
theorem qL9 {p:D28}(h:Fo (idL p.2.2.2.1) (paL p.2.2.2.1) p.2.2.2.1.length)(hn:len p.2.2.2.1≤4294967296){f:Nat}(hf:f<p.2.2.2.1.length):(f:Int)+1+len (f11 p (idL p.2.2.2.1 f))≤len p.2.2.2.1:=by
 rw[(wO0 p _ hn).2]
 have:=sZ9 (n:=p.2.2.2.1.length) (f:=f) (fun j=>decide (Und (idL p.2.2.2.1) (paL p.2.2.2.1) (idL p.2.2.2.1 f) j)) (fun j hj hd=>oR1 h hf (jF hd) hj) hf
 simp only[len,List.length_map]
 unfold undL
 omega
theorem sD0 (p:D28)(q at':Int)(h:Fo (idL p.2.2.2.1) (paL p.2.2.2.1) p.2.2.2.1.length)(hn:len p.2.2.2.1≤64)(hq:q=0∨∃ j,j<p.2.2.2.1.length∧idL p.2.2.2.1 j=q)(ha:0≤at') :
  tV0 p q at'∧0≤f37 p q at'∧f37 p q at'≤len p.2.2.2.1:=by
 have hk:=tO8 p q (by omega)
 have hlt:len p.2.2.2.1<9223372036854775808:=by omega
 have h8:∀ k,vX5 p k:=fun k=>(vI6 p k hlt).1
 have ln:(p.2.2.2.1.length:Int)=len p.2.2.2.1:=rfl
 have hb:∀ f:Nat,f<p.2.2.2.1.length→idL p.2.2.2.1 f=q→f8 p q=(f:Int)∧(f:Int)+1+len (f11 p q)≤len p.2.2.2.1:=fun f hf e=>by
  rw[← e];exact⟨rA2 h hlt hf,qL9 h (by omega) hf⟩
 have hneg:¬ q=0→vX5 p q∧InR (f8 p q+1)∧uJ0 p q∧InR (f8 p q+1+len (f11 p q))∧0≤f8 p q+1+len (f11 p q)∧f8 p q+1+len (f11 p q)≤len p.2.2.2.1:=fun hq0=>by
  rcases hq with h0|⟨f,hf,e⟩
  ·exact absurd h0 hq0
  ·obtain⟨e1,e2⟩:=hb f hf e
   have:=xT7 (f11 p q)
   rw[e1]
   exact⟨h8 q,xY3 (by omega) (by omega),(wO0 p q (by omega)).1,xY3 (by omega) (by omega),by omega,by omega⟩
 refine⟨⟨hk.1,fun hd=>⟨⟨ha,jF hd⟩,h8 _⟩,fun _ hz=>?_⟩,?_⟩
 ·have hz':¬ q=0:=by simpa using hz
  obtain⟨a1,a2,a3,a4,_⟩:=hneg hz'
  exact⟨a1,a2,a3,a4⟩
 ·show 0≤(bif decide (at'<len (f20 p q)) then f8 p (nth (f20 p q) at' 0) else (bif q==0 then len p.2.2.2.1 else f8 p q+1+len (f11 p q)))∧(bif decide (at'<len (f20 p q)) then f8 p (nth (f20 p q) at' 0) else (bif q==0 then len p.2.2.2.1 else f8 p q+1+len (f11 p q)))≤len p.2.2.2.1
  cases hd:decide (at'<len (f20 p q)) with
  |true =>
   have hlt:=jF hd
   simp only[jE]
   have hm:nth (f20 p q) at' 0∈f20 p q:=wA3 ⟨ha,hlt⟩
   rw[hk.2] at hm
   obtain⟨j,hj,e⟩:=List.mem_map.1 hm
   have hj':=(kids_mem.1 hj).1
   have e':nth (f20 p q) at' 0=idL p.2.2.2.1 j:=by rw[hk.2];exact e.symm
   rw[e',rA2 h (by omega) hj']
   omega
  |false =>
   simp only[jD]
   by_cases hq0:q=0
   ·subst hq0
    simp only[beq_self_eq_true,jE]
    exact⟨xT7 _,Int.le_refl _⟩
   ·have:(q==0)=false:=by simpa using hq0
    rw[this,jD]
    obtain⟨_,_,_,_,a5,a6⟩:=hneg hq0
    exact⟨a5,a6⟩
def yL8 (l:List D49)(i m:Nat):List D49:=List.take i l++List.drop (i+m) l
theorem wC1 (l:List D49)(j:Nat):nth l (j:Int) Z49=l.getD j Z49:=by
 show l.getD (j:Int).toNat Z49=_
 rw[Int.toNat_natCast]
abbrev blkP (p:D28)(i c:Nat):Prop:=Blk (idL p.2.2.2.1) (paL p.2.2.2.1) p.2.2.2.1.length i c
theorem vS6 {p:D28}(v:Valid p){i:Nat}(hi:i<p.2.2.2.1.length):∃ c,blkP p i c∧f11 p (idL p.2.2.2.1 i)=(List.range' (i+1) c).map (idL p.2.2.2.1):=by
 obtain⟨c,h1,h2,h3⟩:=sZ7 v hi
 exact⟨c,⟨wO1 v,h1,h3⟩,h2⟩
end Go.Proofs.YtpanghcojpnkaaaGreatDoor.Am
namespace Go.Proofs.YtpanghcojpnkaaaGreatDoor.Am
open Go Go.Am
theorem wX2 {p:D28}(v:Valid p)(q:Int):tU4 p q∧(f33 p q=0↔q=0∨∃ j,j<p.2.2.2.1.length∧idL p.2.2.2.1 j=q∧kdL p.2.2.2.1 j=1):=by
 have hn:=v.len1
 have hlt:len p.2.2.2.1<9223372036854775808:=by omega
 have h8:=vI6 p q hlt
 have ln:(p.2.2.2.1.length:Int)=len p.2.2.2.1:=rfl
 refine⟨fun _=>⟨h8.1,fun h=>?_⟩,?_⟩
 ·rcases h8.2 with h' | h'
  ·have:decide (f8 p q<0)=true:=decide_eq_true h'
   rw[show (!(decide (f8 p q<0)))=false by rw[this];rfl] at h
   cases h
  ·exact h'
 ·show (bif q==0 then 0 else (bif decide (f8 p q<0) then 9 else (bif (nth p.2.2.2.1 (f8 p q) Z49).2.1 !=1 then 8 else 0)))=(0:Int)↔_
  by_cases hq:q=0
  ·subst hq;simp
  ·have hqb:(q==0)=false:=by simpa using hq
   rw[hqb,jD]
   rcases wL8 p q hlt with ⟨h1,h2⟩ | ⟨j,hj,h1,h2,_⟩
   ·rw[h1]
    refine⟨fun h=>absurd (show (9:Int)=0 from h) (by decide),?_⟩
    rintro (h|⟨j,hj,e,_⟩)
    ·exact absurd h hq
    ·exact absurd e (h2 j hj)
   ·rw[h1,decide_eq_false (by omega),jD]
    cases hk:((nth p.2.2.2.1 (j:Int) Z49).2.1 !=1) with
    |true =>
     refine⟨fun h=>absurd h (by decide),?_⟩
     rintro (h|⟨u,hu,e,k⟩)
     ·exact absurd h hq
     ·have:=(wO1 v).inj u j hu hj (by rw[e,h2])
      subst this
      simp[kdL] at k
      simp[k] at hk
    |false=>exact⟨fun _=>.inr ⟨j,hj,h2,by simpa[kdL] using hk⟩,fun _=>rfl⟩
def sP8 (n:D49)(q:Int):D49:=(n.1,n.2.1,q,n.2.2.2)
def blkL (l:List D49)(i m:Nat):List D49:=List.drop i (List.take (i+m) l)
def uK (b:List D49)(q:Int):List D49:=List.set b 0 (sP8 (nth b (0:Int) Z49) q)
structure Good (p:D28):Prop where
 fit:qL2 p
 sz:DocSz p
theorem uK0 {p:D28}(g:Good p){l:List D49}(nx:Int)(hl:len l<9223372036854775808)(hf:∀ n∈l,wJ8 n)(hs:∀ n∈l,Short n):Good (vE5 p l nx):=
 ⟨⟨⟨hl,hf⟩,g.fit.2⟩,⟨hs,g.sz.sel,g.sz.met,g.sz.lnk,g.sz.pix⟩⟩
theorem oG7 {p:D28}(w:Ty.wf T28 p)(h:Ty.bulk T28 p≤1048576):Good p:=⟨oF6 w,oP3 h⟩
def rT0:D28:=((0:Int),(0:Int),(0:Int),([]:List D49),(0:Int),((0:Int),(0:Int),([]:List Int),()),([]:List D87),([]:List D90),())
theorem sD1 (s:D28):f38 s=(bif f9 s !=0 then rT0 else s,bif f9 s !=0 then f9 s else 0,()):=rfl
theorem wU7 {p:D28}(g:Good p)(h:len p.2.2.2.1≤64):f34 p=p∧uI9 p:=
 ⟨oP4 p g.fit.1.1 (by have:=g.sz.lnk;unfold len;omega),oG1 p (by omega) g.sz⟩
def cutD (p:D28)(i c:Nat):D28:=vE5 p (yL8 p.2.2.2.1 i (1+c)) p.2.2.2.2.1
theorem sD2 {l:List D49}{i m:Nat}{n:D49}(h:n∈yL8 l i m):n∈l:=by
 rcases List.mem_append.1 h with h|h
 ·exact List.mem_of_mem_take h
 ·exact List.mem_of_mem_drop h
theorem rA4 {p:D28}(g:Good p):uU8 p:=wV p g.fit
end Go.Proofs.YtpanghcojpnkaaaGreatDoor.Am
