/- History: states are found by their ids, entered, added. No condition. -/
import Derived.Test.YtofmmkikplmlpaaGreatDoorDocA
import Derived.Test.YtofmmkikplmlpaaGreatDoorMach4
import Derived.Test.YtofmmkikplmlpaaGreatDoorDocQ
namespace Go.Proofs.YtofmmkikplmlpaaGreatDoor.Am
open Go Go.Am
abbrev sid (s:D73):Int:=s.1.1
abbrev spar (s:D73):Int:=s.1.2.1
abbrev sdoc (s:D73):D28:=s.1.2.2.2.1
abbrev seen (s:D73):Int:=s.2.1
abbrev Asc (l:List D73):Prop:=l.Pairwise fun a b=>sid a<sid b
theorem wV0 {α:Type}{l:List α}{j:Nat}{d:α}(h:j<l.length):nth l (j:Int) d=l[j]:=by
 show l.getD (Int.toNat (j:Int)) d=_;simp[h]
theorem rG {l:List D73}(h:l≠[]):0<len l:=by
 cases l with
 |nil=>exact absurd rfl h
 |cons a r=>simp[len]
theorem tG9 (l:List D73)(k:Int)(hl:len l<9223372036854775808) :
  uI8 l (k,())∧((vB1 l (k,())=-1∧∀ s∈l,sid s≠k)∨∃ j:Nat,∃ h:j<l.length,vB1 l (k,())=(j:Int)∧sid l[j]=k):=by
 have ln:(l.length:Int)=len l:=rfl;refine⟨wG8 (wF l) hl (fun _ h=>wL6 h) (fun _=>rfl) fun x h1 _=>fun h3=>?_,?_⟩
 ·have h4:x.1<len l:=of_decide_eq_true h3;exact⟨⟨h1,h4⟩,trivial,fun _=>wL (by omega) (by omega)⟩
 obtain⟨z,h1,h2,h3,h4,h5⟩:=wK7 (g:=vE0 (l,(k,()),len l,())) (next:=wS3 (l,(k,()),len l,())) (n:=len l) (c:=fun i=>sid (nth l i Z73)==k) (wF _) hl (fun _=>rfl) (fun _=>rfl)
 have e:vB1 l (k,())=(bif (decide (z<len l)&&(sid (nth l z Z73)==k)) then z else -1):=by
  show (bif uI7 (l,(k,()),len l,()) (zB9 (vE0 (l,(k,()),len l,())) (wS3 (l,(k,()),len l,())) (0,())) then vU0 (l,(k,()),len l,()) (zB9 (vE0 (l,(k,()),len l,())) (wS3 (l,(k,()),len l,())) (0,())) else -1)=_;rw[h3];rfl
 by_cases hz:z<len l
 ·right;have h6:=h5 hz;have hn:z.toNat<l.length:=by omega
  have hzz:((z.toNat:Nat):Int)=z:=by omega
  refine⟨z.toNat,hn,?_,?_⟩
  ·rw[e,h6,decide_eq_true hz,hzz];rfl
  ·rw[← wV0 (d:=Z73) hn,hzz];simpa using h6
 ·left;refine⟨by rw[e,decide_eq_false hz];rfl,fun s hs hk=>?_⟩;obtain⟨i,hi,rfl⟩:=List.mem_iff_getElem.1 hs;have:=h4 (i:Int) (by omega) (by omega);rw[wV0 hi,hk] at this;simp at this
theorem qC8 {l:List D73}{k:Int}(hl:len l<9223372036854775808)(h:∃ s∈l,sid s=k):∃ j:Nat,∃ h:j<l.length,vB1 l (k,())=(j:Int)∧sid l[j]=k:=by
 rcases (tG9 l k hl).2 with ⟨_,q⟩ | q
 ·obtain⟨s,hs,e⟩:=h;exact absurd e (q s hs)
 ·exact q
theorem pM {l:List D73}(h:Asc l){j:Nat}(hj:j<l.length){k:Int}(hk:sid l[j]=k)(g:D73→D73):List.set l j (g l[j])=l.map fun s=>if sid s=k then g s else s:=by
 apply List.ext_getElem (by simp);intro i h1 h2;rw[List.getElem_set,List.getElem_map];have hi:i<l.length:=by simpa using h1
 by_cases e:j=i
 ·subst e;simp[hk]
 ·rw[if_neg e];have hp:=List.pairwise_iff_getElem.1 h;have:sid l[i]≠k:=by
   rcases Nat.lt_or_gt_of_ne e with q|q
   ·have:=hp j i hj hi q;omega
   ·have:=hp i j hi hj q;omega
  rw[if_neg this]
theorem tH {l:List D73}(h:Asc l){j:Nat}(hj:j<l.length){k:Int}(hk:sid l[j]=k):List.take j l++List.drop (j+1) l=l.filter fun s=>decide (sid s≠k):=by
 have hp:=List.pairwise_iff_getElem.1 h;have e:l=List.take j l++(l[j]::List.drop (j+1) l):=by
  rw[← List.drop_eq_getElem_cons hj,List.take_append_drop]
 have h1:(List.take j l).filter (fun s=>decide (sid s≠k))=List.take j l:=by
  rw[List.filter_eq_self];intro s hs;obtain⟨i,hi,rfl⟩:=List.mem_iff_getElem.1 hs;have hij:i<j:=by simp at hi;omega
  rw[List.getElem_take];have:=hp i j (by omega) hj hij;simp;omega
 have h2:(List.drop (j+1) l).filter (fun s=>decide (sid s≠k))=List.drop (j+1) l:=by
  rw[List.filter_eq_self];intro s hs;obtain⟨i,hi,rfl⟩:=List.mem_iff_getElem.1 hs;have hij:j+1+i<l.length:=by simp at hi;omega
  rw[List.getElem_drop];have:=hp j (j+1+i) hj hij (by omega);simp;omega
 conv=>rhs;rw[e]
 rw[List.filter_append,List.filter_cons,h1,h2,hk];simp
def ent (t:D70)(k:Int):D70:=(t.1.map (fun s=>if sid s=k then (s.1,t.2.2.2.1+1,()) else s),k,t.2.2.1,t.2.2.2.1+1,())
theorem qR2 {t:D70}{k:Int}(hl:len t.1<9223372036854775808)(ha:Asc t.1)(hk:∃ s∈t.1,sid s=k)(hc:InR (t.2.2.2.1+1)):wS t k∧wS5 t k=(ent t k,()):=by
 obtain⟨j,hj,e1,e2⟩:=qC8 hl hk;have ef:f38 (t.1,k,t.2.2.1,t.2.2.2.1+1,()) k=(j:Int):=e1;constructor
 ·show InR (t.2.2.2.1+1)∧(uI9 (t.1,k,t.2.2.1,t.2.2.2.1+1,()) k∧(InB (f38 (t.1,k,t.2.2.1,t.2.2.2.1+1,()) k) (len t.1)∧f38 (t.1,k,t.2.2.1,t.2.2.2.1+1,()) k<len t.1));rw[ef];have ln:(t.1.length:Int)=len t.1:=rfl;exact⟨hc,(tG9 t.1 k hl).1,⟨by omega,by omega⟩,by omega⟩
 ·show ((List.set t.1 (Int.toNat (f38 (t.1,k,t.2.2.1,t.2.2.2.1+1,()) k)) ((nth t.1 (f38 (t.1,k,t.2.2.1,t.2.2.2.1+1,()) k) Z73).1,t.2.2.2.1+1,()),k,t.2.2.1,t.2.2.2.1+1,()),())=_;rw[ef,wV0 hj];have:=pM ha hj e2 (fun s=>(s.1,t.2.2.2.1+1,()));simp only[Int.toNat_natCast];rw[this];rfl
theorem pM0 {l:List D73}{g:D73→D73}(hg:∀ s,(g s).1=s.1)(h:Asc l):Asc (l.map g):=by
 refine List.pairwise_map.2 (h.imp fun {a b} q=>?_);show (g a).1.1<(g b).1.1;rw[hg,hg];exact q
theorem tH0 {t:D70}{k:Int}{s:D73}(h:s∈(ent t k).1):∃ u∈t.1,s.1=u.1∧(sid u=k→seen s=t.2.2.2.1+1)∧(sid u≠k→s=u):=by
 obtain⟨u,hu,rfl⟩:=List.mem_map.1 h;refine⟨u,hu,?_,fun e=>?_,fun e=>?_⟩
 ·split<;>rfl
 ·rw[if_pos e]
 ·rw[if_neg e]
theorem sJ0 {t:D70}(k:Int){u:D73}(h:u∈t.1):∃ s∈(ent t k).1,s.1=u.1:=
 ⟨_,List.mem_map.2 ⟨u,h,rfl⟩,by split<;>rfl⟩
end Go.Proofs.YtofmmkikplmlpaaGreatDoor.Am
namespace Go.Proofs.YtofmmkikplmlpaaGreatDoor.Am
open Go Go.Am
theorem pV8 {α:Type}{l:List α}{i:Int}{d:α}(h:InB i (len l)):nth l i d∈l:=by obtain⟨h1,h2⟩:=h;(have h3:i.toNat<l.length:=by simp only[len] at h2;omega);show l.getD i.toNat d∈l;rw[List.getD_eq_getElem?_getD,List.getElem?_eq_getElem h3];exact List.getElem_mem h3
theorem pM1 {α:Type}(l:List α)(i:Nat)(x:α):len (List.set l i x)=len l:=by simp[len]
theorem hA1 {α:Type}{a b:List α}{z:α}(hl:a.length=b.length)(h:∀ i:Nat,i<a.length→a.getD i z=b.getD i z):a=b:=by apply List.ext_getElem hl;intro i h1 h2;have:=h i h1;rw[List.getD_eq_getElem?_getD,List.getD_eq_getElem?_getD,List.getElem?_eq_getElem h1,List.getElem?_eq_getElem h2] at this;exact this
theorem qC9 (n:D91):f65 n n=(n,0,()):=by simp only[f65,f65t];rw[show (n.2.1 !=n.2.1)=false by simp];rfl
theorem qM4 {α:Type}(l:List α)(i:Int)(z:α):List.set l i.toNat (nth l i z)=l:=by unfold nth;by_cases h:i.toNat<l.length;rw[List.getD_eq_getElem?_getD,List.getElem?_eq_getElem h,Option.getD_some];exact List.set_getElem_self h;exact List.set_eq_of_length_le (by omega)
def qM5 {α:Type}(l m:List α)(i:Int):Prop:=m.length=l.length∧∀ (j:Nat) (z:α),(j:Int)<i→m.getD j z=l.getD j z
theorem sX8 {α:Type}{l m:List α}{i:Int}(z:α)(h:qM5 l m i)(h0:0≤i)(h1:i<len l):qM5 l (List.set m i.toNat (nth l i z)) (i+1):=by refine⟨by rw[List.length_set];exact h.1,fun j z' hj=>?_⟩;(have hi:i.toNat<m.length:=by rw[h.1];grind [len]);by_cases hji:j=i.toNat;unfold nth;(have hl:i.toNat<l.length:=by rw[← h.1];grind);grind;rw[List.getD_eq_getElem?_getD,List.getElem?_set_ne (fun e=>hji e.symm),← List.getD_eq_getElem?_getD];exact h.2 j z' (by omega)
theorem qM6 {α:Type}{l m:List α}{i:Int}(z:α)(h:qM5 l m i)(h1:len l≤i):m=l:=hA1 (z:=z) h.1 fun j hj=>h.2 j z (by rw[h.1] at hj;unfold len at h1;omega)
theorem pM2 {τ:Ty}(hb:∀ x:τ.den,1≤τ.bulk x):∀ l:List τ.den,l.length≤(l.map τ.bulk).sum:=by intro l;induction l<;>grind
theorem fbk (f:Ty):∀ (k:Nat) (x:f.den),(f.fty k).bulk (f.fget k x)≤f.bulk x:=by induction f with|cons h t _ iht=>intro k x;cases k<;>grind [Ty.fty,Ty.fget,Ty.bulk]|_=>grind [Ty.fty,Ty.fget,Ty.bulk]
theorem sb (f:Ty)(k:Nat)(x:f.den):(f.fty k).bulk (f.fget k x)≤(Ty.st f).bulk x:=by have:=fbk f k x;have e:(Ty.st f).bulk x=f.bulk x+1:=rfl;omega
def fieldsOf:Ty→Ty
 |.st f=>f
 |τ=>τ
theorem uK {τ:Ty}(hb:∀ x:τ.den,1≤τ.bulk x){l:List τ.den}{N:Nat}(h:(Ty.sl τ).bulk l≤N):l.length≤N:=by have:=pM2 hb l;have e:(Ty.sl τ).bulk l=(l.map τ.bulk).sum+1:=rfl;omega
theorem tL5 (f:Ty)(x:(Ty.st f).den):1≤(Ty.st f).bulk x:=by have e:(Ty.st f).bulk x=f.bulk x+1:=rfl;omega
structure Short (n:D91):Prop where
 mask:n.2.2.2.2.2.2.2.2.2.1.2.2.1.length≤1048576
 pix:n.2.2.2.2.2.2.2.2.2.2.2.2.1.2.2.1.length≤1048576
 params:n.2.2.2.2.2.2.2.2.2.2.2.2.2.2.2.1.length≤1048576
 stops:n.2.2.2.2.2.2.2.2.2.2.2.2.2.2.2.2.2.1.length≤1048576
 segs:n.2.2.2.2.2.2.2.2.2.2.2.2.2.2.2.2.2.2.1.length≤1048576
 warp:n.2.2.2.2.2.2.2.2.2.2.2.2.2.2.2.2.2.2.2.2.2.2.2.2.2.2.2.1.2.2.2.1.length≤1048576
theorem qM7 {n:D91}(h:Ty.bulk T91 n≤1048576):Short n:=by refine⟨?_,?_,?_,?_,?_,?_⟩;exact uK (τ:=.int .i64) (fun _=>Nat.le_refl _) (Nat.le_trans (sb (fieldsOf ((fieldsOf T91).fty 9)) 2 n.2.2.2.2.2.2.2.2.2.1) (Nat.le_trans (sb (fieldsOf T91) 9 n) h));exact uK (τ:=T84) (tL5 _) (Nat.le_trans (sb (fieldsOf ((fieldsOf T91).fty 12)) 2 n.2.2.2.2.2.2.2.2.2.2.2.2.1) (Nat.le_trans (sb (fieldsOf T91) 12 n) h));exact uK (τ:=.int .i64) (fun _=>Nat.le_refl _) (Nat.le_trans (sb (fieldsOf T91) 15 n) h);exact uK (τ:=T137) (tL5 _) (Nat.le_trans (sb (fieldsOf T91) 17 n) h);exact uK (τ:=T143) (tL5 _) (Nat.le_trans (sb (fieldsOf T91) 18 n) h);exact uK (τ:=T140) (tL5 _) (Nat.le_trans (sb (fieldsOf ((fieldsOf T91).fty 27)) 3 n.2.2.2.2.2.2.2.2.2.2.2.2.2.2.2.2.2.2.2.2.2.2.2.2.2.2.2.1) (Nat.le_trans (sb (fieldsOf T91) 27 n) h))
theorem sC7 {α:Type}{l:List α}(h:l.length≤1048576):(l.length:Int)≤4294967296:=by omega
theorem pM3 {a b:D91}(ha:Short a)(hb:Short b):sH3 a b:=by intro _;exact⟨sC7 ha.mask,sC7 hb.pix,sC7 hb.params,sC7 hb.stops,sC7 hb.segs,sC7 hb.warp⟩
abbrev cpN (n:D91):D91:=(f65 n n).1
theorem pV9 (n:D91):cpN n=n:=by show (f65 n n).1=n;rw[qC9]
theorem pM4 {n:D91}(h:Short n):sH3 n n:=pM3 h h
structure DocSz (d:D28):Prop where
 nodes:∀ n∈d.2.2.2.1,Short n
 sel:d.2.2.2.2.2.1.2.2.1.length≤1048576
 met:d.2.2.2.2.2.2.1.length≤1048576
 lnk:d.2.2.2.2.2.2.2.1.length≤1048576
 pix:∀ m∈d.2.2.2.2.2.2.2.1,m.2.2.2.2.1.2.2.1.length≤1048576
theorem rJ7 {τ:Ty}:∀ {l:List τ.den}{x:τ.den},x∈l→τ.bulk x≤(l.map τ.bulk).sum |y::r,x,h=>by simp only[List.map_cons,List.sum_cons];rcases List.mem_cons.1 h with h|h;rw[h];omega;have:=rJ7 h;omega
theorem qD {τ:Ty}{l:List τ.den}{x:τ.den}{N:Nat}(h:x∈l)(hN:(Ty.sl τ).bulk l≤N):τ.bulk x≤N:=by have:=rJ7 h;have e:(Ty.sl τ).bulk l=(l.map τ.bulk).sum+1:=rfl;omega
theorem sJ1 {d:D28}(h:Ty.bulk T28 d≤1048576):DocSz d:=by have hl:=Nat.le_trans (sb (fieldsOf T28) 7 d) h;exact⟨fun n hn=>qM7 (qD (τ:=T91) hn (Nat.le_trans (sb (fieldsOf T28) 3 d) h)),uK (τ:=.int .i64) (fun _=>Nat.le_refl _) (Nat.le_trans (sb (fieldsOf T24) 2 d.2.2.2.2.2.1) (Nat.le_trans (sb (fieldsOf T28) 5 d) h)),uK (τ:=T95) (tL5 _) (Nat.le_trans (sb (fieldsOf T28) 6 d) h),uK (τ:=T98) (tL5 _) hl,fun m hm=>uK (τ:=T84) (tL5 _) (Nat.le_trans (sb (fieldsOf ((fieldsOf T98).fty 4)) 2 m.2.2.2.2.1) (Nat.le_trans (sb (fieldsOf T98) 4 m) (qD (τ:=T98) hm hl)))⟩
def sO4 (d:D28)(l:List D91)(nx:Int):D28:=(d.1,d.2.1,d.2.2.1,l,nx,d.2.2.2.2.2.1,d.2.2.2.2.2.2.1,d.2.2.2.2.2.2.2.1,())
theorem rP5 (d:D28):sO4 d d.2.2.2.1 d.2.2.2.2.1=d:=rfl
def zV:Int×Int×Int×(List D91)×Int×(Int×Int×(List Int)×Unit)×(List D95)×(List D98)×Unit:=(0,0,0,([]:List D91),0,(0,0,([]:List Int),()),([]:List D95),([]:List D98),())
def cp4I (p:D28)(x:vR5):Prop:=(0≤x.2.1∧x.2.1≤len p.2.2.2.1)∧∃ m,x.1=sO4 p m p.2.2.2.2.1∧qM5 p.2.2.2.1 m x.2.1
theorem rJ8 (p:D28)(m:List D91)(i:Int):wR2 (p,zV,p.2.2.2.1,len p.2.2.2.1,()) (sO4 p m p.2.2.2.2.1,i,())=(sO4 p (List.set m (Int.toNat i) (nth p.2.2.2.1 i Z91)) p.2.2.2.2.1,i+1,()):=by show (sO4 p (List.set m (Int.toNat i) (cpN (nth p.2.2.2.1 i Z91))) p.2.2.2.2.1,i+1,())=_;rw[pV9]
theorem cp4 (p:D28)(h1:len p.2.2.2.1<9223372036854775808):(zB9 (vR6 (p,zV,p.2.2.2.1,len p.2.2.2.1,())) (wR2 (p,zV,p.2.2.2.1,len p.2.2.2.1,())) (sO4 p (List.replicate (Int.toNat (len p.2.2.2.1)) Z91) p.2.2.2.2.1,0,())).1=p:=by have h0:=wF p.2.2.2.1;have w:=xF4 (g:=vR6 (p,zV,p.2.2.2.1,len p.2.2.2.1,())) (next:=wR2 (p,zV,p.2.2.2.1,len p.2.2.2.1,())) (cp4I p) (fun x=>(len p.2.2.2.1-x.2.1).toNat) (fun x hx hg=>?_) (x:=(sO4 p (List.replicate (Int.toNat (len p.2.2.2.1)) Z91) p.2.2.2.2.1,0,())) ⟨⟨Int.le_refl 0,h0⟩,_,rfl,by grind [List.length_replicate,len],fun j z hj=>by grind⟩ (by unfold zH7;grind);obtain⟨⟨⟨i0,i1⟩,m,e,hm⟩,hg⟩:=w;have hg':¬ (zB9 (vR6 (p,zV,p.2.2.2.1,len p.2.2.2.1,())) (wR2 (p,zV,p.2.2.2.1,len p.2.2.2.1,())) (sO4 p (List.replicate (Int.toNat (len p.2.2.2.1)) Z91) p.2.2.2.2.1,0,())).2.1<len p.2.2.2.1:=of_decide_eq_false hg;rw[e,qM6 Z91 hm (by omega)];exact rP5 p;obtain⟨⟨i0,i1⟩,m,e,hm⟩:=hx;obtain⟨x1,i,⟨⟩⟩:=x;simp only at i0 i1 e hm;subst e;have h4:i<len p.2.2.2.1:=of_decide_eq_true hg;rw[rJ8];exact⟨⟨⟨(show 0≤i+1 by omega),(show i+1≤len p.2.2.2.1 by omega)⟩,_,rfl,sX8 Z91 hm i0 h4⟩,(show (len p.2.2.2.1-(i+1)).toNat<(len p.2.2.2.1-i).toNat by omega)⟩
theorem cp12 (p:D28)(h2:len p.2.2.2.2.2.2.2.1<9223372036854775808):(zB9 (uI5 (zV,p.2.2.2.2.2.2.2.1,len p.2.2.2.2.2.2.2.1,())) (vG2 (zV,p.2.2.2.2.2.2.2.1,len p.2.2.2.2.2.2.2.1,())) (p,0,())).1=p:=by have h0:=wF p.2.2.2.2.2.2.2.1;have w:=xF4 (g:=uI5 (zV,p.2.2.2.2.2.2.2.1,len p.2.2.2.2.2.2.2.1,())) (next:=vG2 (zV,p.2.2.2.2.2.2.2.1,len p.2.2.2.2.2.2.2.1,())) (fun x=>(0≤x.2.1∧x.2.1≤len p.2.2.2.2.2.2.2.1)∧x.1=p) (fun x=>(len p.2.2.2.2.2.2.2.1-x.2.1).toNat) (fun x hx hg=>?_) (x:=(p,0,())) ⟨⟨Int.le_refl 0,h0⟩,rfl⟩ (by unfold zH7;grind);grind;obtain⟨⟨i0,i1⟩,e⟩:=hx;obtain⟨x1,i,⟨⟩⟩:=x;simp only at i0 i1 e;subst e;have h4:i<len x1.2.2.2.2.2.2.2.1:=of_decide_eq_true hg;refine⟨⟨⟨(show 0≤i+1 by omega),(show i+1≤len x1.2.2.2.2.2.2.2.1 by omega)⟩,?_⟩,(show (len x1.2.2.2.2.2.2.2.1-(i+1)).toNat<(len x1.2.2.2.2.2.2.2.1-i).toNat by omega)⟩;show (x1.1,x1.2.1,x1.2.2.1,x1.2.2.2.1,x1.2.2.2.2.1,x1.2.2.2.2.2.1,x1.2.2.2.2.2.2.1,List.set x1.2.2.2.2.2.2.2.1 (Int.toNat i) (nth x1.2.2.2.2.2.2.2.1 i Z98),())=x1;rw[qM4]
theorem qR3 (p:D28)(h1:len p.2.2.2.1<9223372036854775808)(h2:len p.2.2.2.2.2.2.2.1<9223372036854775808):f37 p=p:=by have e4:=cp4 p h1;have e12:=cp12 p h2;have a4:uR7 (p,(0,0,0,([]:List D91),0,(0,0,([]:List Int),()),([]:List D95),([]:List D98),()),p.2.2.2.1,len p.2.2.2.1,()) (zB9 (vR6 (p,(0,0,0,([]:List D91),0,(0,0,([]:List Int),()),([]:List D95),([]:List D98),()),p.2.2.2.1,len p.2.2.2.1,())) (wR2 (p,(0,0,0,([]:List D91),0,(0,0,([]:List Int),()),([]:List D95),([]:List D98),()),p.2.2.2.1,len p.2.2.2.1,())) ((p.1,p.2.1,p.2.2.1,(List.replicate (Int.toNat (len p.2.2.2.1)) Z91),p.2.2.2.2.1,p.2.2.2.2.2.1,p.2.2.2.2.2.2.1,p.2.2.2.2.2.2.2.1,()),0,()))=p:=e4;unfold f37 f37t;dsimp only;rw[a4];exact e12
theorem qD0 (p:D28)(h1:len p.2.2.2.1≤1048576)(hs:DocSz p):uI6 p:=by have h0:=wF p.2.2.2.1;have l0:=wF p.2.2.2.2.2.2.2.1;(have l1:len p.2.2.2.2.2.2.2.1≤1048576:=by have:=hs.lnk;grind [len]);refine⟨⟨h0,Int.le_refl _,(show len p.2.2.2.1≤4294967296 by omega)⟩,?_,sC7 hs.sel,sC7 hs.met,sC7 hs.lnk,?_⟩;(·have w:=whole (g:=vR6 (p,zV,p.2.2.2.1,len p.2.2.2.1,())) (next:=wR2 (p,zV,p.2.2.2.1,len p.2.2.2.1,())) (ok:=uI3 (p,zV,p.2.2.2.1,len p.2.2.2.1,())) (cp4I p) (fun x=>(len p.2.2.2.1-x.2.1).toNat) (fun x hx=>fun h3=>?_) (fun x hx hg=>?_) (x:=(sO4 p (List.replicate (Int.toNat (len p.2.2.2.1)) Z91) p.2.2.2.2.1,0,())) ⟨⟨Int.le_refl 0,h0⟩,_,rfl,by grind [List.length_replicate,len],fun j z hj=>by grind⟩ (by unfold zH7;grind);(·exact w.1);(·have h4:x.2.1<len p.2.2.2.1:=of_decide_eq_true h3;obtain⟨⟨i0,i1⟩,m,e,hm,_⟩:=hx;(have hl:len x.1.2.2.2.1=len p.2.2.2.1:=by rw[e];show len m=_;grind [len]);refine⟨⟨i0,h4⟩,pM4 (hs.nodes _ (pV8 ⟨i0,h4⟩)),?_,?_,wL (by omega) (by omega)⟩;all_goals grind [InB,len]);(·obtain⟨⟨i0,i1⟩,m,e,hm⟩:=hx;obtain⟨x1,i,⟨⟩⟩:=x;simp only at i0 i1 e hm;subst e;have h4:i<len p.2.2.2.1:=of_decide_eq_true hg;rw[rJ8];exact⟨⟨⟨(show 0≤i+1 by omega),(show i+1≤len p.2.2.2.1 by omega)⟩,_,rfl,sX8 Z91 hm i0 h4⟩,(show (len p.2.2.2.1-(i+1)).toNat<(len p.2.2.2.1-i).toNat by omega)⟩));(·refine xF5 (fun x=>(0≤x.2.1∧x.2.1≤len p.2.2.2.2.2.2.2.1)∧len x.1.2.2.2.2.2.2.2.1=len p.2.2.2.2.2.2.2.1) (fun x=>(len p.2.2.2.2.2.2.2.1-x.2.1).toNat) (fun x hx=>fun h3=>?_) (fun x hx hg=>?_) ⟨⟨Int.le_refl 0,l0⟩,rfl⟩ (by unfold zH7;grind);(·have h4:x.2.1<len p.2.2.2.2.2.2.2.1:=of_decide_eq_true h3;obtain⟨⟨i0,i1⟩,hl⟩:=hx;refine⟨⟨i0,h4⟩,sC7 (hs.pix _ (pV8 (d:=Z98) ⟨i0,h4⟩)),?_,?_,wL (by omega) (by omega)⟩;all_goals grind [InB,len]);(·have h4:x.2.1<len p.2.2.2.2.2.2.2.1:=of_decide_eq_true hg;refine⟨⟨⟨(show 0≤x.2.1+1 by omega),(show x.2.1+1≤len p.2.2.2.2.2.2.2.1 by omega)⟩,?_⟩,(show (len p.2.2.2.2.2.2.2.1-(x.2.1+1)).toNat<(len p.2.2.2.2.2.2.2.1-x.2.1).toNat by omega)⟩;show len (List.set x.1.2.2.2.2.2.2.2.1 _ _)=_;grind [pM1]))
end Go.Proofs.YtofmmkikplmlpaaGreatDoor.Am
namespace Go.Proofs.YtofmmkikplmlpaaGreatDoor.Am
open Go Go.Am
theorem qM8 {a:D91}(ha:Lens a):f42 a a=true:=by
 simp only[f42,f42t,f72,f72t,f73,f73t];simp only[qB9 _ _ ha.mask,qR1 _ _ ha.pix,qB9 _ _ ha.params,pU7 _ _ ha.stops,pU8 _ _ ha.segs,pU9 _ _ ha.warp,vT2 (rJ4 _),vT2 (uO6 (τ:=T84) (by rfl) _),vT2 (uO6 (τ:=T137) (by rfl) _),vT2 (uO6 (τ:=T143) (by rfl) _),vT2 (uO6 (τ:=T140) (by rfl) _),qM3,sO2 T79 rfl,sO2 T84 rfl,beq_self_eq_true,bne_self_eq_false,Bool.not_true,cond_true,cond_false]
theorem qM9 {a:D98}(wa:Ty.wf T98 a):f46 a a=true:=by
 obtain⟨_,_,_,_,⟨_,_,wa4,_⟩,_⟩:=wa;simp only[f46,f46t,f73,f73t,qR1 _ _ (wP2 wa4.1),vT2 (uO6 (τ:=T84) (by rfl) _),beq_self_eq_true,bne_self_eq_false,Bool.not_true,Bool.not_false,cond_true,cond_false]
theorem sO5 {d:D28}(h:Ty.wf T28 d):sC6 d:=by
 refine pV4 d ⟨⟨wP2 h.2.2.2.1.1,fun n hn=>pV0 (h.2.2.2.1.2 n hn)⟩,wP2 h.2.2.2.2.2.1.2.2.1.1,fun m hm=>?_,fun m hm=>?_⟩
 ·have:=h.2.2.2.2.2.2.1.2 m hm;exact⟨wP2 this.1,wP2 this.2.1⟩
 ·have:=h.2.2.2.2.2.2.2.1.2 m hm;exact wP2 this.2.2.2.2.1.2.2.1.1
theorem vX4 (d:D28)(h:Ty.wf T28 d):f13 d d=true:=by
 simp only[f13,f13t,bne_self_eq_false,cond_false,pV5 _ _ (wP2 h.2.2.2.1.1),tC2 (t:=f42) (fun x hx=>qM8 (qC0 (h.2.2.2.1.2 x hx))),qB9 _ _ (wP2 h.2.2.2.2.2.1.2.2.1.1),vT2 (rJ4 _),pV6 _ _ (wP2 h.2.2.2.2.2.2.1.1),vT2 (uO6 (τ:=T95) (by rfl) _),pV7 _ _ (wP2 h.2.2.2.2.2.2.2.1.1),tC2 (t:=f46) (fun x hx=>qM9 (h.2.2.2.2.2.2.2.1.2 x hx)),Bool.not_true,cond_true]
theorem tH1 (a b:D28)(h:Ty.wf T28 a)(_h':Ty.wf T28 b):vS5 a b:=
 fun _=>⟨pL6 _ _ (wP2 h.2.2.2.1.1) fun n hn=>qC0 (h.2.2.2.1.2 n hn),fun _=>⟨fun _=>rF7 _ _ (wP2 h.2.2.2.2.2.1.2.2.1.1),fun _=>⟨pL7 _ _ (wP2 h.2.2.2.2.2.2.1.1),fun _=>pL9 _ _ h.2.2.2.2.2.2.2.1⟩⟩⟩
end Go.Proofs.YtofmmkikplmlpaaGreatDoor.Am
namespace Go.Proofs.YtofmmkikplmlpaaGreatDoor.Am
open Go Go.Am
structure Good (d:D28):Prop where
 wf:Ty.wf T28 d
 sz:DocSz d
 ok:f9 d=0
 n1:len d.2.2.2.1≤64
structure Inv (t:D70) (k:Int):Prop where
 ne:t.1≠[]
 few:len t.1≤128
 asc:Asc t.1
 pos:∀ s∈t.1,1≤sid s∧sid s<t.2.2.1
 nxt:t.2.2.1≤1073741825
 now:∃ s∈t.1,sid s=t.2.1
 par:∀ s∈t.1,spar s=0∨∃ u∈t.1,sid u=spar s∧sid u<sid s
 root:∀ s∈t.1,∀ u∈t.1,spar s=0→spar u=0→sid s=sid u
 clk:0≤t.2.2.2.1∧t.2.2.2.1≤k
 sn:∀ s∈t.1,0≤seen s∧seen s≤t.2.2.2.1
 doc:∀ s∈t.1,Good (sdoc s)
theorem Inv.mono {t:D70}{k k':Int}(h:Inv t k)(hk:k≤k'):Inv t k':={ h with clk:=⟨h.clk.1,Int.le_trans h.clk.2 hk⟩ }
theorem Inv.small {t:D70}{k:Int}(h:Inv t k):len t.1<9223372036854775808:=by have:=h.few;omega
theorem Inv.made {t:D70}{k:Int}(h:Inv t k):vP t∧f36 t=true:=by
 refine⟨trivial,?_⟩;show (bif (!false) then decide (len t.1>0) else false)=true;rw[decide_eq_true (rG h.ne)];rfl
theorem pM5 (t:D70)(q:Int):len (ent t q).1=len t.1:=by simp[ent,len]
theorem uT3 {t:D70}{k q:Int}(h:Inv t k)(hq:∃ s∈t.1,sid s=q):Inv (ent t q) (k+1):=by
 have hm:=fun {s:D73}(hs:s∈(ent t q).1)=>tH0 hs;refine⟨?_,?_,pM0 (fun s=>by split<;>rfl) h.asc,fun s hs=>?_,h.nxt,?_,fun s hs=>?_,fun s hs u hu e1 e2=>?_,⟨?_,?_⟩,fun s hs=>?_,fun s hs=>?_⟩
 ·have:=h.ne;simp[ent,this]
 ·rw[pM5];exact h.few
 ·obtain⟨u,hu,e,_⟩:=hm hs;have:=h.pos u hu;show 1≤s.1.1∧s.1.1<t.2.2.1;rw[e];exact this
 ·obtain⟨s,hs,e⟩:=hq;obtain⟨u,hu,e'⟩:=sJ0 q hs;exact⟨u,hu,by show u.1.1=q;rw[e'];exact e⟩
 ·obtain⟨u,hu,e,_⟩:=hm hs;rcases h.par u hu with p|⟨v,hv,p1,p2⟩
  ·left;show s.1.2.1=0;rw[e];exact p
  ·obtain⟨v',hv',e'⟩:=sJ0 q hv;right;refine⟨v',hv',?_,?_⟩
   ·show v'.1.1=s.1.2.1;rw[e,e'];exact p1
   ·show v'.1.1<s.1.1;rw[e,e'];exact p2
 ·obtain⟨s',hs',e,_⟩:=hm hs;obtain⟨u',hu',e',_⟩:=hm hu;show s.1.1=u.1.1;rw[e,e'];exact h.root s' hs' u' hu' (by show s'.1.2.1=0;rw[← e];exact e1) (by show u'.1.2.1=0;rw[← e'];exact e2)
 ·have:=h.clk;show 0≤t.2.2.2.1+1;omega
 ·have:=h.clk;show t.2.2.2.1+1≤k+1;omega
 ·obtain⟨u,hu,e,a,b⟩:=hm hs;show 0≤seen s∧seen s≤t.2.2.2.1+1;have:=h.clk;by_cases hk:sid u=q
  ·rw[a hk];omega
  ·rw[b hk];have:=h.sn u hu;omega
 ·obtain⟨u,hu,e,_⟩:=hm hs;have:=h.doc u hu;show Good s.1.2.2.2.1;rw[e];exact this
theorem tO {t:D70}{k q:Int}(h:Inv t k)(hk:k≤9000000)(hq:∃ s∈t.1,sid s=q):wS t q∧wS5 t q=(ent t q,()):=
 qR2 h.small h.asc hq (wL (by have:=h.clk;omega) (by have:=h.clk;omega))
def newS (t:D70)(lab:List UInt8)(d:D28):D73:=((t.2.2.1,t.2.1,lab,d,()),0,())
def uC6 (t:D70)(lab:List UInt8)(d:D28):D70:=(t.1++[newS t lab d],t.2.1,t.2.2.1+1,t.2.2.2.1,())
def addT (t:D70)(lab:List UInt8)(d:D28):D70:=ent (uC6 t lab d) t.2.2.1
theorem rJ9 {t:D70}{lab:List UInt8}{d:D28}(ha:Asc t.1)(hp:∀ s∈t.1,sid s<t.2.2.1):Asc (uC6 t lab d).1:=by
 refine List.pairwise_append.2 ⟨ha,List.pairwise_singleton _ _,fun a ha b hb=>?_⟩;rw[List.mem_singleton] at hb;subst hb;exact hp a ha
theorem rK (t:D70)(lab:List UInt8)(d:D28):len (uC6 t lab d).1=len t.1+1:=by simp[uC6,len]
theorem qR4 {t:D70}{lab:List UInt8}{d:D28}(hl:len t.1≤127)(ha:Asc t.1)(hp:∀ s∈t.1,sid s<t.2.2.1)(hn:0≤t.2.2.1∧t.2.2.1≤1073741824)(hc:0≤t.2.2.2.1∧t.2.2.2.1≤9000000)(hd:Good d) :
  vG3 t lab d∧vS0 t lab d=(addT t lab d,()):=by
 have hk:len d.2.2.2.2.2.2.2.1<9223372036854775808:=by have:=hd.sz.lnk;unfold len;omega
 have ec:f37 d=d:=qR3 d (by have:=hd.n1;omega) hk;have es:=qR2 (t:=uC6 t lab d) (k:=t.2.2.1) (by rw[rK];omega) (rJ9 ha hp) ⟨newS t lab d,List.mem_append_right _ (List.mem_singleton.2 rfl),rfl⟩ (by show InR (t.2.2.2.1+1);exact wL (by omega) (by omega));have hs:((t.1++([((t.2.2.1,t.2.1,lab,(f37 d),()),(0:Int),())]:List D73)),t.2.1,(t.2.2.1+1),t.2.2.2.1,())=uC6 t lab d:=by rw[ec];rfl
 constructor
 ·show (uI6 d)∧(((List.length t.1+List.length ([((t.2.2.1,t.2.1,lab,(f37 d),()),(0:Int),())]:List D73):Nat):Int)≤4294967296∧(InR (t.2.2.1+1)∧(wS ((t.1++([((t.2.2.1,t.2.1,lab,(f37 d),()),(0:Int),())]:List D73)),t.2.1,(t.2.2.1+1),t.2.2.2.1,()) t.2.2.1)));refine⟨qD0 d (by have:=hd.n1;omega) hd.sz,?_,wL (by omega) (by omega),?_⟩
  ·have:(t.1.length:Int)=len t.1:=rfl;simp only[List.length_singleton];omega
  ·rw[hs];exact es.1
 ·show (((wS5 ((t.1++([((t.2.2.1,t.2.1,lab,(f37 d),()),(0:Int),())]:List D73)),t.2.1,(t.2.2.1+1),t.2.2.2.1,()) t.2.2.1).1.1,(wS5 ((t.1++([((t.2.2.1,t.2.1,lab,(f37 d),()),(0:Int),())]:List D73)),t.2.1,(t.2.2.1+1),t.2.2.2.1,()) t.2.2.1).1.2.1,(wS5 ((t.1++([((t.2.2.1,t.2.1,lab,(f37 d),()),(0:Int),())]:List D73)),t.2.1,(t.2.2.1+1),t.2.2.2.1,()) t.2.2.1).1.2.2.1,(wS5 ((t.1++([((t.2.2.1,t.2.1,lab,(f37 d),()),(0:Int),())]:List D73)),t.2.1,(t.2.2.1+1),t.2.2.2.1,()) t.2.2.1).1.2.2.2.1,()),())=_;rw[hs,es.2];rfl
theorem rK0 {t:D70}{k:Int}{lab:List UInt8}{d:D28}(h:Inv t k)(hl:len t.1≤127)(hn:t.2.2.1≤1073741824)(hd:Good d):Inv (addT t lab d) (k+1):=by
 have hnow:=h.now;obtain⟨s0,hs0,e0⟩:=hnow;have hp0:=h.pos s0 hs0;have hmem:∀ {s:D73},s∈(uC6 t lab d).1→s∈t.1∨s=newS t lab d:=fun hs=>by
  rcases List.mem_append.1 hs with q|q
  ·exact .inl q
  ·exact .inr (List.mem_singleton.1 q)
 have hin:∀ {s:D73},s∈t.1→s∈(uC6 t lab d).1:=fun hs=>List.mem_append_left _ hs;have hsame:∀ s∈t.1,sid s<t.2.2.1:=fun s hs=>(h.pos s hs).2;refine uT3 (t:=uC6 t lab d) (k:=k) ⟨?_,?_,rJ9 h.asc hsame,fun s hs=>?_,?_,?_,fun s hs=>?_,fun s hs u hu e1 e2=>?_,h.clk,fun s hs=>?_,fun s hs=>?_⟩ ⟨newS t lab d,List.mem_append_right _ (List.mem_singleton.2 rfl),rfl⟩
 ·simp[uC6]
 ·rw[rK];omega
 ·show 1≤sid s∧sid s<t.2.2.1+1;rcases hmem hs with q|q
  ·have:=h.pos s q;omega
  ·subst q;show 1≤t.2.2.1∧t.2.2.1<t.2.2.1+1;omega
 ·show t.2.2.1+1≤1073741825;omega
 ·exact⟨s0,hin hs0,e0⟩
 ·rcases hmem hs with q|q
  ·rcases h.par s q with p|⟨v,hv,p⟩
   ·exact .inl p
   ·exact .inr ⟨v,hin hv,p⟩
  ·subst q;exact .inr ⟨s0,hin hs0,e0,hp0.2⟩
 ·have hne:∀ {s:D73},s∈(uC6 t lab d).1→spar s=0→s∈t.1:=fun {s} hs e=>by
   rcases hmem hs with q|q
   ·exact q
   ·subst q;have:t.2.1=0:=e;omega
  exact h.root s (hne hs e1) u (hne hu e2) e1 e2
 ·have:=h.clk;rcases hmem hs with q|q
  ·exact h.sn s q
  ·subst q;show (0:Int)≤0∧(0:Int)≤t.2.2.2.1;omega
 ·rcases hmem hs with q|q
  ·exact h.doc s q
  ·subst q;exact hd
end Go.Proofs.YtofmmkikplmlpaaGreatDoor.Am
namespace Go.Proofs.YtofmmkikplmlpaaGreatDoor.Am
open Go Go.Am
theorem pX0 {d:D28}(h:f9 d=0):len d.2.2.2.1≤64:=by
 have e:∀ (b c:Bool) (x y:Int),(bif b then x else bif c then (3:Int) else y)=0→(b=true→x≠0)→c=false:=by
  intro b c x y h g;cases b<;>cases c<;>simp_all
 have:=e (f28 d !=0) _ (f28 d) _ h (by simp);simp at this;omega
theorem sO6 {d:D28}(hw:Ty.wf T28 d)(hz:DocSz d)(h:f9 d=0):Good d:=⟨hw,hz,h,pX0 h⟩
theorem Good.cp {d:D28}(h:Good d):f37 d=d∧uI6 d:=by
 have hk:len d.2.2.2.2.2.2.2.1<9223372036854775808:=by have:=h.sz.lnk;unfold len;omega
 exact⟨qR3 d (by have:=h.n1;omega) hk,qD0 d (by have:=h.n1;omega) h.sz⟩
theorem qN (s:List UInt8):sT5 s:=fun h0=>by
 have hl:len s≤32:=by
  simp at h0;omega
 exact wG8 (wF s) (by omega) (fun _ h=>wL6 h) (fun _=>rfl) fun x h1 _=>fun h3=>by
  have h4:x.1<len s:=of_decide_eq_true h3;exact⟨⟨h1,h4⟩,fun _=>⟨h1,h4⟩,fun _=>wL (by omega) (by omega)⟩
theorem sX9 {t:D70}{k:Int}{lab:List UInt8}{d:D28}(h:Inv t k)(hk:k≤9000000)(hw:Ty.wf T28 d)(hz:DocSz d) :
  vP1 t lab d∧(((vB2 t lab d).2.1≠0∧(vB2 t lab d).1=0∧wW7 t lab d=(t,())∧(f39 lab=true→f9 d=(vB2 t lab d).2.1∨(vB2 t lab d).2.1=22∨(vB2 t lab d).2.1=3)) ∨
   (vB2 t lab d=(t.2.2.1,0,())∧wW7 t lab d=(addT t lab d,())∧Good d∧len t.1≤127∧t.2.2.1≤1073741824)):=by
 have hm:=h.made.2;have e11:f36 (t.1,t.2.1,t.2.2.1,t.2.2.2.1,())=true:=hm;obtain⟨s0,hs0,_⟩:=h.now;have hp0:=h.pos s0 hs0;have hadd:f9 d=0→len t.1<128→t.2.2.1≤1073741824→vG3 t lab d∧vS0 t lab d=(addT t lab d,()):=fun e a b =>
  qR4 (by omega) h.asc (fun s hs=>(h.pos s hs).2) ⟨by omega,b⟩ ⟨h.clk.1,by have:=h.clk;omega⟩ (sO6 hw hz e)
 constructor
 ·refine⟨h.made.1,fun _=>⟨qN lab,fun _=>⟨sO5 hw,fun e=>fun a=>fun b=>?_⟩⟩⟩;exact (hadd (by simpa using e) (by simpa using a) (by simpa using b)).1
 ·cases n:f39 lab with
  |false =>
   left;simp only[vB2,wW7,vU1,e11,n,Bool.not_true,Bool.not_false,cond_true,cond_false];exact⟨by decide,trivial,trivial,fun q=>Bool.noConfusion q⟩
  |true =>
   cases c:(f9 d !=0) with
   |true =>
    left;simp only[vB2,wW7,vU1,e11,n,c,Bool.not_true,Bool.not_false,cond_true,cond_false];exact⟨by simpa using c,trivial,trivial,fun _=>.inl trivial⟩
   |false =>
    have c0:f9 d=0:=by simpa using c
    cases l:decide (len t.1≥128) with
    |true =>
     left;simp only[vB2,wW7,vU1,e11,n,c,l,Bool.not_true,Bool.not_false,cond_true,cond_false];exact⟨by decide,trivial,trivial,fun _=>.inr (.inl trivial)⟩
    |false =>
     cases x:decide (t.2.2.1>1073741824) with
     |true =>
      left;simp only[vB2,wW7,vU1,e11,n,c,l,x,Bool.not_true,Bool.not_false,cond_true,cond_false];exact⟨by decide,trivial,trivial,fun _=>.inr (.inr trivial)⟩
     |false =>
      right;have l':len t.1≤127:=by have:=of_decide_eq_false l;omega
      have x':t.2.2.1≤1073741824:=by have:=of_decide_eq_false x;omega
      have ha:=(hadd c0 (by omega) x').2;have ha':vS0 (t.1,t.2.1,t.2.2.1,t.2.2.2.1,()) lab d=(addT t lab d,()):=ha;refine⟨?_,?_,sO6 hw hz c0,l',x'⟩
      ·simp only[vB2,vU1,e11,n,c,l,x,ha',Bool.not_true,cond_false];rfl
      ·simp only[wW7,vU1,e11,n,c,l,x,ha',Bool.not_true,cond_false]
theorem qR5 {t:D70}{k:Int}(h:Inv t k):∃ j:Nat,∃ hj:j<t.1.length,f38 t t.2.1=(j:Int)∧sid t.1[j]=t.2.1∧uI9 t t.2.1:=by
 obtain⟨j,hj,e1,e2⟩:=qC8 h.small h.now;exact⟨j,hj,e1,e2,(tG9 t.1 t.2.1 h.small).1⟩
theorem rG0 {t:D70}{k:Int}(h:Inv t k)(hk:k≤9000000):vP2 t∧((uP3 t=14∧wX6 t=(t,())∧∃ s∈t.1,sid s=t.2.1∧spar s=0)∨∃ s∈t.1,sid s=t.2.1∧spar s≠0∧(∃ u∈t.1,sid u=spar s)∧uP3 t=0∧wX6 t=(ent t (spar s),())):=by
 have e11:f36 (t.1,t.2.1,t.2.2.1,t.2.2.2.1,())=true:=h.made.2;obtain⟨j,hj,e1,e2,e3⟩:=qR5 h;have e1':f38 (t.1,t.2.1,t.2.2.1,t.2.2.2.1,()) t.2.1=(j:Int):=e1;have en:nth t.1 (j:Int) Z73=t.1[j]:=wV0 hj;have hmem:t.1[j]∈t.1:=List.getElem_mem hj;have ln:(t.1.length:Int)=len t.1:=rfl;have hent:spar t.1[j]≠0→(∃ u∈t.1,sid u=spar t.1[j]):=fun q=>by
  rcases h.par _ hmem with p|⟨u,hu,p,_⟩
  ·exact absurd p q
  ·exact⟨u,hu,p⟩
 constructor
 ·refine⟨h.made.1,fun _=>⟨e3,?_⟩⟩;show InB (f38 t t.2.1) (len t.1)∧(f38 t t.2.1<len t.1∧((!((nth t.1 (f38 t t.2.1) Z73).1.2.1==0))=true→wS t (nth t.1 (f38 t t.2.1) Z73).1.2.1));rw[e1,en];exact⟨⟨by omega,by omega⟩,by omega,fun q=>(tO h hk (hent (by simpa using q))).1⟩
 ·cases z:(spar t.1[j]==0) with
  |true =>
   left;have z':((t.1[j]).1.2.1==0)=true:=z;refine⟨?_,?_,_,hmem,e2,by simpa using z⟩
   ·simp only[uP3,uJ1,e11,e1',en,z',Bool.not_true,cond_true,cond_false]
   ·simp only[wX6,uJ1,e11,e1',en,z',Bool.not_true,cond_true,cond_false]
  |false =>
   right;have z':((t.1[j]).1.2.1==0)=false:=z;have q:spar t.1[j]≠0:=by simpa using z
   have he:=(tO h hk (hent q)).2;have he':wS5 (t.1,t.2.1,t.2.2.1,t.2.2.2.1,()) (t.1[j]).1.2.1=(ent t (spar t.1[j]),()):=he;refine⟨_,hmem,e2,q,hent q,?_,?_⟩
   ·simp only[uP3,uJ1,e11,e1',en,z',Bool.not_true,cond_false]
   ·simp only[wX6,uJ1,e11,e1',en,z',he',Bool.not_true,cond_false]
theorem pM6 {t:D70}{k q:Int}(h:Inv t k)(hk:k≤9000000):uJ4 t q∧((sH9 t q=9∧vS1 t q=(t,()))∨((∃ s∈t.1,sid s=q)∧sH9 t q=0∧vS1 t q=(ent t q,()))):=by
 have e11:f36 (t.1,t.2.1,t.2.2.1,t.2.2.2.1,())=true:=h.made.2;obtain⟨o1,hf⟩:=tG9 t.1 q h.small;have ef:f38 (t.1,t.2.1,t.2.2.1,t.2.2.2.1,()) q=vB1 t.1 (q,()):=rfl;rcases hf with ⟨e,_⟩ | ⟨j,hj,e,e2⟩
 ·have hd:decide (vB1 t.1 (q,())<0)=true:=by rw[e];rfl
  refine⟨⟨h.made.1,fun _=>⟨o1,fun p=>?_⟩⟩,.inl ⟨?_,?_⟩⟩
  ·have p:(!(decide (vB1 t.1 (q,())<0)))=true:=p;rw[hd] at p;exact Bool.noConfusion p
  ·simp only[sH9,uJ3,e11,ef,hd,Bool.not_true,cond_true,cond_false]
  ·simp only[vS1,uJ3,e11,ef,hd,Bool.not_true,cond_true,cond_false]
 ·have hd:decide (vB1 t.1 (q,())<0)=false:=by rw[e];exact decide_eq_false (by omega)
  have hx:∃ s∈t.1,sid s=q:=⟨_,List.getElem_mem hj,e2⟩;obtain⟨a1,a2⟩:=tO h hk hx;have a2':wS5 (t.1,t.2.1,t.2.2.1,t.2.2.2.1,()) q=(ent t q,()):=a2;refine⟨⟨h.made.1,fun _=>⟨o1,fun _=>a1⟩⟩,.inr ⟨hx,?_,?_⟩⟩
  ·simp only[sH9,uJ3,e11,ef,hd,Bool.not_true,cond_false]
  ·simp only[vS1,uJ3,e11,ef,hd,a2',Bool.not_true,cond_false]
theorem uP9 {t:D70}{k:Int}(h:Inv t k):wN6 t∧(∃ s∈t.1,sid s=t.2.1∧wO6 t=sdoc s)∧vF t=(t,()):=by
 have e11:f36 (t.1,t.2.1,t.2.2.1,t.2.2.2.1,())=true:=h.made.2;obtain⟨j,hj,e1,e2,e3⟩:=qR5 h;have e1':f38 (t.1,t.2.1,t.2.2.1,t.2.2.2.1,()) t.2.1=(j:Int):=e1;have en:nth t.1 (j:Int) Z73=t.1[j]:=wV0 hj;have hmem:t.1[j]∈t.1:=List.getElem_mem hj;have ln:(t.1.length:Int)=len t.1:=rfl;have hc:=(h.doc _ hmem).cp;refine⟨⟨h.made.1,fun _=>⟨e3,?_⟩⟩,⟨_,hmem,e2,?_⟩,rfl⟩
 ·show InB (f38 t t.2.1) (len t.1)∧(f38 t t.2.1<len t.1∧uI6 (nth t.1 (f38 t t.2.1) Z73).1.2.2.2.1);rw[e1,en];exact⟨⟨by omega,by omega⟩,by omega,hc.2⟩
 ·simp only[wO6,tZ4,e11,e1',en,Bool.not_true,cond_false];exact hc.1
theorem tL6 {t:D70}{k:Int}(h:Inv t k):vG9 t∧f10 t=t.2.1:=by
 refine⟨h.made.1,?_⟩;have:=h.made.2;simp only[f10,f10t,this,Bool.not_true,cond_false]
theorem tO0 {t:D70}{k q:Int}(h:Inv t k):wP8 t q∧wM5 t q=(t,())∧(((wM0 t q).2.1=9∧∀ s∈t.1,sid s≠q)∨∃ s∈t.1,sid s=q∧wM0 t q=(s.1,0,())):=by
 have e11:f36 (t.1,t.2.1,t.2.2.1,t.2.2.2.1,())=true:=h.made.2;obtain⟨o1,hf⟩:=tG9 t.1 q h.small;have ef:f38 (t.1,t.2.1,t.2.2.1,t.2.2.2.1,()) q=vB1 t.1 (q,()):=rfl;have ln:(t.1.length:Int)=len t.1:=rfl;rcases hf with ⟨e,no⟩ | ⟨j,hj,e,e2⟩
 ·have hd:decide (vB1 t.1 (q,())<0)=true:=by rw[e];rfl
  refine⟨⟨h.made.1,fun _=>⟨o1,fun p=>?_⟩⟩,rfl,.inl ⟨?_,no⟩⟩
  ·have p:(!(decide (vB1 t.1 (q,())<0)))=true:=p;rw[hd] at p;exact Bool.noConfusion p
  ·simp only[wM0,tG0,e11,ef,hd,Bool.not_true,cond_true,cond_false]
 ·have hd:decide (vB1 t.1 (q,())<0)=false:=by rw[e];exact decide_eq_false (by omega)
  have en:nth t.1 (j:Int) Z73=t.1[j]:=wV0 hj;have hmem:t.1[j]∈t.1:=List.getElem_mem hj;have hc:=(h.doc _ hmem).cp;refine⟨⟨h.made.1,fun _=>⟨o1,fun _=>?_⟩⟩,rfl,.inr ⟨_,hmem,e2,?_⟩⟩
  ·show InB (vB1 t.1 (q,())) (len t.1)∧(vB1 t.1 (q,())<len t.1∧uI6 (nth t.1 (vB1 t.1 (q,())) Z73).1.2.2.2.1);rw[e,en];exact⟨⟨by omega,by omega⟩,by omega,hc.2⟩
  ·have hd':decide ((j:Int)<0)=false:=decide_eq_false (by omega);simp only[wM0,tG0,e11,ef,e,en,hd',Bool.not_true,cond_false];rw[hc.1]
end Go.Proofs.YtofmmkikplmlpaaGreatDoor.Am
namespace Go.Proofs.YtofmmkikplmlpaaGreatDoor.Am
open Go Go.Am
def pM7 (l:List D73)(now:Int)(c m i:Int):Prop:=
 (c=0∧m=0∧∀ j:Nat,∀ h:j<l.length,(j:Int)<i→spar l[j]=now→seen l[j]≤0) ∨
 ∃ j:Nat,∃ h:j<l.length,(j:Int)<i∧c=sid l[j]∧m=seen l[j]∧spar l[j]=now∧0<m∧∀ u:Nat,∀ h:u<l.length,(u:Int)<i→spar l[u]=now→seen l[u]≤m
theorem qD1 {l:List D73}{now c m:Int}{i:Nat}(hi:i<l.length)(h:pM7 l now c m i) :
  pM7 l now (bif (bif (spar l[i]==now) then decide (seen l[i]>m) else false) then sid l[i] else c) (bif (bif (spar l[i]==now) then decide (seen l[i]>m) else false) then seen l[i] else m) ((i:Int)+1):=by
 have hm0:0≤m:=by
  rcases h with ⟨_,e,_⟩ | ⟨_,_,_,_,_,_,p,_⟩<;>omega
 have hle:∀ u:Nat,∀ hu:u<l.length,(u:Int)<i→spar l[u]=now→seen l[u]≤m:=by
  rcases h with ⟨_,e,p⟩ | ⟨_,_,_,_,_,_,_,p⟩
  ·intro u hu a b;have:=p u hu a b;omega
  ·exact p
 cases e:(bif (spar l[i]==now) then decide (seen l[i]>m) else false) with
 |true =>
  right;have e':spar l[i]=now∧seen l[i]>m:=by
   cases q:(spar l[i]==now) with
   |false=>rw[q] at e;cases e
   |true=>rw[q] at e;exact⟨by simpa using q,of_decide_eq_true e⟩
  refine⟨i,hi,by omega,rfl,rfl,e'.1,by simp only[cond_true];omega,fun u hu a b=>?_⟩;simp only[cond_true];by_cases hui:u=i
  ·subst hui;omega
  ·have:=hle u hu (by omega) b;omega
 |false =>
  simp only[cond_false];have e':spar l[i]=now→seen l[i]≤m:=fun q=>by
   rw[show (spar l[i]==now)=true by simpa using q] at e;have:=of_decide_eq_false e;omega
  rcases h with ⟨a,b,p⟩ | ⟨j,hj,a,b,d,f,g,p⟩
  ·left;refine⟨a,b,fun u hu x y=>?_⟩;by_cases hui:u=i
   ·subst hui;have:=e' y;omega
   ·exact p u hu (by omega) y
  ·right;refine⟨j,hj,by omega,b,d,f,g,fun u hu x y=>?_⟩;by_cases hui:u=i
   ·subst hui;exact e' y
   ·exact p u hu (by omega) y
theorem rG1 {t:D70}{k:Int}(h:Inv t k)(hk:k≤9000000):vP4 t∧((uP4 t=14∧wX7 t=(t,())∧∀ s∈t.1,spar s=t.2.1→seen s≤0) ∨
  ∃ s∈t.1,spar s=t.2.1∧0<seen s∧(∀ u∈t.1,spar u=t.2.1→seen u≤seen s)∧uP4 t=0∧wX7 t=(ent t (sid s),())):=by
 have e11:f36 (t.1,t.2.1,t.2.2.1,t.2.2.2.1,())=true:=h.made.2;have ln:(t.1.length:Int)=len t.1:=rfl;have hs:=h.small;have h0:=wF t.1;have w:=whole (g:=wU1 ((t.1,t.2.1,t.2.2.1,t.2.2.2.1,()),t.1,len t.1,())) (next:=wN8 ((t.1,t.2.1,t.2.2.1,t.2.2.2.1,()),t.1,len t.1,())) (ok:=vG4 ((t.1,t.2.1,t.2.2.1,t.2.2.2.1,()),t.1,len t.1,()))
  (fun x=>(0≤x.2.2.1∧x.2.2.1≤len t.1)∧pM7 t.1 t.2.1 x.1 x.2.1 x.2.2.1) (fun x=>(len t.1-x.2.2.1).toNat) (fun x hx=>fun h3=>?_) (fun x hx hg=>?_) (x:=(0,0,0,())) ⟨⟨Int.le_refl 0,h0⟩,.inl ⟨rfl,rfl,fun j _ hj=>by simp only at hj;omega⟩⟩ (by show (len t.1-0).toNat<zH7;unfold zH7;omega)
 ·obtain⟨wo,⟨⟨i0,i1⟩,wb⟩,wg⟩:=w;generalize hz:zB9 (wU1 ((t.1,t.2.1,t.2.2.1,t.2.2.2.1,()),t.1,len t.1,())) (wN8 ((t.1,t.2.1,t.2.2.1,t.2.2.2.1,()),t.1,len t.1,())) ((0:Int),(0:Int),(0:Int),())=z at i0 i1 wb wg;have hi:¬ z.2.2.1<len t.1:=of_decide_eq_false wg;have er:wX2 ((t.1,t.2.1,t.2.2.1,t.2.2.2.1,()),t.1,len t.1,()) (zB9 (wU1 ((t.1,t.2.1,t.2.2.1,t.2.2.2.1,()),t.1,len t.1,())) (wN8 ((t.1,t.2.1,t.2.2.1,t.2.2.2.1,()),t.1,len t.1,())) ((0:Int),(0:Int),(0:Int),()))=z.1:=by rw[hz];rfl
  rcases wb with ⟨c0,m0,p⟩ | ⟨j,hj,_,cj,mj,pj,mp,p⟩
  ·have ez:(z.1==0)=true:=by rw[c0];rfl
   refine⟨⟨h.made.1,fun _=>⟨wo,fun q=>?_⟩⟩,.inl ⟨?_,?_,fun s hs' e=>?_⟩⟩
   ·have q:(!((wX2 ((t.1,t.2.1,t.2.2.1,t.2.2.2.1,()),t.1,len t.1,()) (zB9 (wU1 ((t.1,t.2.1,t.2.2.1,t.2.2.2.1,()),t.1,len t.1,())) (wN8 ((t.1,t.2.1,t.2.2.1,t.2.2.2.1,()),t.1,len t.1,())) ((0:Int),(0:Int),(0:Int),())))==0))=true:=q;rw[er,ez] at q;exact Bool.noConfusion q
   ·simp only[uP4,uJ2,e11,er,ez,Bool.not_true,cond_true,cond_false]
   ·simp only[wX7,uJ2,e11,er,ez,Bool.not_true,cond_true,cond_false]
   ·obtain⟨i,hi',rfl⟩:=List.mem_iff_getElem.1 hs';exact p i hi' (by omega) e
  ·have hmem:t.1[j]∈t.1:=List.getElem_mem hj;have hp:=(h.pos _ hmem).1;have ez:(z.1==0)=false:=by rw[cj];simp;omega
   obtain⟨a1,a2⟩:=tO h hk ⟨_,hmem,rfl⟩;have a2':wS5 (t.1,t.2.1,t.2.2.1,t.2.2.2.1,()) z.1=(ent t (sid t.1[j]),()):=by rw[cj];exact a2
   refine⟨⟨h.made.1,fun _=>⟨wo,fun q=>?_⟩⟩,.inr ⟨_,hmem,pj,by omega,fun u hu e=>?_,?_,?_⟩⟩
   ·show wS t (wX2 ((t.1,t.2.1,t.2.2.1,t.2.2.2.1,()),t.1,len t.1,()) (zB9 (wU1 ((t.1,t.2.1,t.2.2.1,t.2.2.2.1,()),t.1,len t.1,())) (wN8 ((t.1,t.2.1,t.2.2.1,t.2.2.2.1,()),t.1,len t.1,())) ((0:Int),(0:Int),(0:Int),())));rw[er,cj];exact a1
   ·obtain⟨i,hi',rfl⟩:=List.mem_iff_getElem.1 hu;rw[← mj];exact p i hi' (by omega) e
   ·simp only[uP4,uJ2,e11,er,ez,Bool.not_true,cond_false]
   ·simp only[wX7,uJ2,e11,er,ez,a2',Bool.not_true,cond_false]
 ·have h4:x.2.2.1<len t.1:=of_decide_eq_true h3;exact⟨⟨hx.1.1,h4⟩,h4,wL (by omega) (by omega)⟩
 ·have h4:x.2.2.1<len t.1:=of_decide_eq_true hg;obtain⟨⟨i0,i1⟩,hb⟩:=hx;obtain⟨c,m,i,⟨⟩⟩:=x;obtain⟨n,rfl⟩:∃ n:Nat,i=(n:Int):=⟨i.toNat,by simp only at i0;omega⟩;have hn:n<t.1.length:=by simp only at h4;omega
  refine⟨⟨⟨?_,?_⟩,?_⟩,?_⟩
  ·show 0≤(n:Int)+1;omega
  ·show (n:Int)+1≤len t.1;omega
  ·have:=qD1 hn hb;rw[← wV0 (d:=Z73) hn] at this;exact this
  ·show (len t.1-((n:Int)+1)).toNat<(len t.1-(n:Int)).toNat;omega
end Go.Proofs.YtofmmkikplmlpaaGreatDoor.Am
namespace Go.Proofs.YtofmmkikplmlpaaGreatDoor.Am
open Go Go.Am
def sY (l:List D73)(c:D73→Bool)(f:D73→Int)(a:List Int)(i:Int):List Int:=bif c (nth l i Z73) then a++[f (nth l i Z73)] else a
theorem uC5 {l:List D73}{c:D73→Bool}{f:D73→Int}:∀ n:Nat,n≤l.length→xC4 (sY l c f) n []=((l.take n).filter c).map f:=by
 intro n
 induction n with
 |zero=>intro _;simp[xC4]
 |succ n ih =>
  intro hn;have h:n<l.length:=by omega
  rw[xC4,ih (by omega),sY,wV0 h,List.take_succ_eq_append_getElem h,List.filter_append,List.map_append];cases e:c l[n]<;>simp[e]
theorem sJ2 {l:List D73}{c:D73→Bool}(f:D73→Int)(n:Nat):(((l.take n).filter c).map f).length≤l.length:=by
 rw[List.length_map];exact Nat.le_trans (List.length_filter_le _ _) (by simp;omega)
theorem sJ3 {t:D70}{k:Int}(h:Inv t k):vS6 t∧f16 t=t.1.map sid:=by
 have e11:=h.made.2;have ln:(t.1.length:Int)=len t.1:=rfl;have h0:=wF t.1;have hf:=h.few;have hl:=wG9 (g:=uO2 (t.1,len t.1,())) (next:=vE4 (t.1,len t.1,())) (n:=len t.1) (step:=sY t.1 (fun _=>true) sid) h0 (by omega) (fun _=>rfl) (fun _=>rfl) []
 refine⟨⟨h.made.1,fun _=>?_⟩,?_⟩
 ·refine wH (g:=uO2 (t.1,len t.1,())) (next:=vE4 (t.1,len t.1,())) (n:=len t.1) (step:=sY t.1 (fun _=>true) sid) h0 (by omega) (fun _=>rfl) (fun _=>rfl) [] fun i i0 i1=>fun h3=>?_
  have h4:i<len t.1:=of_decide_eq_true h3;refine⟨⟨i0,h4⟩,?_,wL (by show _≤i+1;omega) (by show i+1≤_;omega)⟩;show ((List.length (xC4 (sY t.1 (fun _=>true) sid) i.toNat [])+1:Nat):Int)≤4294967296;rw[uC5 i.toNat (by omega)];have:=sJ2 (l:=t.1) (c:=fun _=>true) sid i.toNat;omega
 ·simp only[f16,f16t,e11,Bool.not_true,cond_false];show (zB9 (uO2 (t.1,len t.1,())) (vE4 (t.1,len t.1,())) (([]:List Int),(0:Int),())).1=_;rw[hl];show xC4 _ _ _=_;rw[uC5 (len t.1).toNat (by omega)];have:(len t.1).toNat=t.1.length:=by omega
  rw[this,List.take_length];exact congrArg (List.map sid) (List.filter_eq_self.2 fun _ _=>rfl)
theorem sO7 {t:D70}{k q:Int}(h:Inv t k):tK7 t q∧((∃ s∈t.1,sid s=q)→f23 t q=(t.1.filter (fun s=>spar s==q)).map sid):=by
 have e11:=h.made.2;have ln:(t.1.length:Int)=len t.1:=rfl;have h0:=wF t.1;have hf:=h.few;obtain⟨o1,fs⟩:=tG9 t.1 q h.small;have hl:=wG9 (g:=uN9 (q,t.1,len t.1,())) (next:=vE1 (q,t.1,len t.1,())) (n:=len t.1) (step:=sY t.1 (fun s:D73=>spar s==q) sid) h0 (by omega) (fun _=>rfl) (fun _=>rfl) []
 refine⟨⟨h.made.1,fun _=>o1,fun _=>?_⟩,fun hx=>?_⟩
 ·refine wH (g:=uN9 (q,t.1,len t.1,())) (next:=vE1 (q,t.1,len t.1,())) (n:=len t.1) (step:=sY t.1 (fun s:D73=>spar s==q) sid) h0 (by omega) (fun _=>rfl) (fun _=>rfl) [] fun i i0 i1=>fun h3=>?_
  have h4:i<len t.1:=of_decide_eq_true h3;refine⟨⟨i0,h4⟩,fun _=>?_,wL (by show _≤i+1;omega) (by show i+1≤_;omega)⟩;show ((List.length (xC4 (sY t.1 (fun s:D73=>spar s==q) sid) i.toNat [])+1:Nat):Int)≤4294967296;rw[uC5 i.toNat (by omega)];have:=sJ2 (l:=t.1) (c:=fun s:D73=>spar s==q) sid i.toNat;omega
 ·have ef:f38 t q=vB1 t.1 (q,()):=rfl;have hd:decide (vB1 t.1 (q,())<0)=false:=by
   rcases fs with ⟨_,no⟩ | ⟨j,hj,e,_⟩
   ·obtain⟨s,hs,e⟩:=hx;exact absurd e (no s hs)
   ·rw[e];exact decide_eq_false (by omega)
  simp only[f23,f23t,e11,ef,hd,Bool.not_true,cond_false];show (zB9 (uN9 (q,t.1,len t.1,())) (vE1 (q,t.1,len t.1,())) (([]:List Int),(0:Int),())).1=_;rw[hl];show xC4 _ _ _=_;rw[uC5 (len t.1).toNat (by omega)];have:(len t.1).toNat=t.1.length:=by omega
  rw[this,List.take_length]
theorem qN0 {t:D70}{k q:Int}(h:Inv t k)(hx:∃ s∈t.1,sid s=q):(len (f23 t q)==0)=true↔∀ s∈t.1,spar s≠q:=by
 rw[(sO7 h).2 hx];constructor
 ·intro e s hs hq;have:s∈t.1.filter (fun s=>spar s==q):=List.mem_filter.2 ⟨hs,by simpa using hq⟩;have hl:=List.length_pos_of_mem this;have e:len ((t.1.filter (fun s=>spar s==q)).map sid)=0:=by simpa using e
  unfold len at e;rw[List.length_map] at e;omega
 ·intro no;have:t.1.filter (fun s=>spar s==q)=[]:=by
   rw[List.filter_eq_nil_iff];intro s hs;have:=no s hs;simpa using this
  rw[this];rfl
end Go.Proofs.YtofmmkikplmlpaaGreatDoor.Am
namespace Go.Proofs.YtofmmkikplmlpaaGreatDoor.Am
open Go Go.Am
def pM8 (l:List D73)(r i:Int):Prop:=(r=0∧∀ j:Nat,∀ h:j<l.length,(j:Int)<i→spar l[j]≠0)∨∃ j:Nat,∃ h:j<l.length,r=(j:Int)∧(j:Int)<i∧spar l[j]=0
theorem qD2 {l:List D73}{r:Int}{i:Nat}(hi:i<l.length)(h:pM8 l r i):pM8 l (bif (spar l[i]==0) then (i:Int) else r) ((i:Int)+1):=by
 cases e:(spar l[i]==0) with
 |true=>exact .inr ⟨i,hi,rfl,by omega,by simpa using e⟩
 |false =>
  have e':spar l[i]≠0:=by simpa using e
  rcases h with ⟨a,p⟩ | ⟨j,hj,a,b,d⟩
  ·refine .inl ⟨a,fun j hj q=>?_⟩;by_cases hji:j=i
   ·subst hji;exact e'
   ·exact p j hj (by omega)
  ·exact .inr ⟨j,hj,a,by omega,d⟩
theorem sY0 {t:D70}{k:Int}(h:Inv t k):sH8 t∧∃ j:Nat,∃ hj:j<t.1.length,f48 t=(j:Int) ∧
  ((sid t.1[j]≠t.2.1∧∀ s∈t.1,spar s≠sid t.1[j])∨(spar t.1[j]=0∧∀ s∈t.1,sid s=t.2.1∨∃ u∈t.1,spar u=sid s)):=by
 have ln:(t.1.length:Int)=len t.1:=rfl;have h0:=wF t.1;have hf:=h.few;have hpos:=rG h.ne;have hv:∀ i:Nat,∀ hi:i<t.1.length,(bif (sid t.1[i]!=t.2.1) then ((len (f23 t (sid t.1[i])))==0) else false)=true↔(sid t.1[i]≠t.2.1∧∀ s∈t.1,spar s≠sid t.1[i]):=fun i hi=>by
  have hl:=qN0 h ⟨_,List.getElem_mem hi,rfl⟩;cases e:(sid t.1[i]!=t.2.1) with
  |true =>
   simp only[cond_true];rw[hl];have:sid t.1[i]≠t.2.1:=by simpa using e
   exact⟨fun q=>⟨this,q⟩,fun q=>q.2⟩
  |false =>
   simp only[cond_false];have:sid t.1[i]=t.2.1:=by simpa using e
   exact⟨fun q=>Bool.noConfusion q,fun q=>absurd this q.1⟩
 have w:=whole (g:=vR9 (t,t.1,len t.1,())) (next:=wU0 (t,t.1,len t.1,())) (ok:=uJ (t,t.1,len t.1,()))
  (fun x=>(0≤x.2.1∧x.2.1≤len t.1)∧pM8 t.1 x.1 x.2.1∧∀ j:Nat,∀ hj:j<t.1.length,(j:Int)<x.2.1→sid t.1[j]=t.2.1∨∃ u∈t.1,spar u=sid t.1[j])
  (fun x=>(len t.1-x.2.1).toNat) (fun x hx=>fun h3=>?_) (fun x hx hg=>?_) (x:=(0,0,())) ⟨⟨Int.le_refl 0,h0⟩,.inl ⟨rfl,fun j _ hj=>by simp only at hj;omega⟩,fun j _ hj=>by simp only at hj;omega⟩ (by show (len t.1-0).toNat<zH7;unfold zH7;omega)
 ·obtain⟨wo,⟨⟨i0,i1⟩,wr,wl⟩,wg⟩:=w;refine⟨wo,?_⟩;have ef:f48 t=(bif (uJ0 (t,t.1,len t.1,()) (zB9 (vR9 (t,t.1,len t.1,())) (wU0 (t,t.1,len t.1,())) ((0:Int),(0:Int),()))) then (uR8 (t,t.1,len t.1,()) (zB9 (vR9 (t,t.1,len t.1,())) (wU0 (t,t.1,len t.1,())) ((0:Int),(0:Int),()))) else (uR9 (t,t.1,len t.1,()) (zB9 (vR9 (t,t.1,len t.1,())) (wU0 (t,t.1,len t.1,())) ((0:Int),(0:Int),())))):=rfl;generalize hz:zB9 (vR9 (t,t.1,len t.1,())) (wU0 (t,t.1,len t.1,())) ((0:Int),(0:Int),())=z at i0 i1 wr wl wg ef;obtain⟨r,i,⟨⟩⟩:=z;simp only at i0 i1 wr wl;obtain⟨n,rfl⟩:∃ n:Nat,i=(n:Int):=⟨i.toNat,by omega⟩;by_cases hn:n<t.1.length
  ·-- it stopped at a leaf
   have hnn:nth t.1 (n:Int) Z73=t.1[n]:=wV0 hn;have hlt:decide ((n:Int)<len t.1)=true:=decide_eq_true (by omega);have wg':(decide ((n:Int)<len t.1)&&(!(bif ((nth t.1 (n:Int) Z73).1.1 !=t.2.1) then ((len (f23 t (nth t.1 (n:Int) Z73).1.1))==0) else false)))=false:=wg;rw[hlt,hnn] at wg';have hb:(bif (sid t.1[n]!=t.2.1) then ((len (f23 t (sid t.1[n])))==0) else false)=true:=by simpa using wg'
   have e1:uJ0 (t,t.1,len t.1,()) (r,(n:Int),())=true:=by
    show (decide ((n:Int)<len t.1)&&(bif ((nth t.1 (n:Int) Z73).1.1 !=t.2.1) then ((len (f23 t (nth t.1 (n:Int) Z73).1.1))==0) else false))=true;rw[hlt,hnn];exact hb
   rw[e1] at ef;exact⟨n,hn,ef,.inl ((hv n hn).1 hb)⟩
  ·have hlt:decide ((n:Int)<len t.1)=false:=decide_eq_false (by omega);have e1:uJ0 (t,t.1,len t.1,()) (r,(n:Int),())=false:=by
    show (decide ((n:Int)<len t.1)&&(bif ((nth t.1 (n:Int) Z73).1.1 !=t.2.1) then ((len (f23 t (nth t.1 (n:Int) Z73).1.1))==0) else false))=false;rw[hlt];rfl
   rw[e1] at ef;have ef:f48 t=r:=ef;have hall:∀ s∈t.1,sid s=t.2.1∨∃ u∈t.1,spar u=sid s:=fun s hs=>by
    obtain⟨j,hj,rfl⟩:=List.mem_iff_getElem.1 hs;exact wl j hj (by omega)
   rcases wr with ⟨_,p⟩ | ⟨j,hj,a,_,d⟩
   ·-- some state is a root: the first one
    exfalso;have h1:0<t.1.length:=by omega
    have hp:=p 0 h1 (by omega);rcases h.par _ (List.getElem_mem h1) with q|⟨u,hu,q1,q2⟩
    ·exact hp q
    ·obtain⟨i,hi,rfl⟩:=List.mem_iff_getElem.1 hu;have ha:=List.pairwise_iff_getElem.1 h.asc;by_cases h2:i=0
     ·subst h2;omega
     ·have:=ha 0 i h1 hi (by omega);omega
   ·exact⟨j,hj,ef.trans a,.inr ⟨d,hall⟩⟩
 ·have h4:x.2.1<len t.1:=of_decide_eq_true h3;exact⟨⟨hx.1.1,h4⟩,fun _=>(sO7 h).1,fun _=>wL (by omega) (by omega)⟩
 ·have h4:x.2.1<len t.1:=wL6 hg;obtain⟨⟨i0,i1⟩,hr,hl⟩:=hx;obtain⟨r,i,⟨⟩⟩:=x;simp only at i0 i1 hr hl h4;obtain⟨n,rfl⟩:∃ n:Nat,i=(n:Int):=⟨i.toNat,by omega⟩;have hn:n<t.1.length:=by omega
  have hnn:nth t.1 (n:Int) Z73=t.1[n]:=wV0 hn;have hg':(decide ((n:Int)<len t.1)&&(!(bif ((nth t.1 (n:Int) Z73).1.1 !=t.2.1) then ((len (f23 t (nth t.1 (n:Int) Z73).1.1))==0) else false)))=true:=hg;rw[hnn] at hg';have hb:(bif (sid t.1[n]!=t.2.1) then ((len (f23 t (sid t.1[n])))==0) else false)=false:=by
   simp only[Bool.and_eq_true,Bool.not_eq_true'] at hg';exact hg'.2
  have hnl:sid t.1[n]=t.2.1∨∃ u∈t.1,spar u=sid t.1[n]:=by
   by_cases q:sid t.1[n]=t.2.1
   ·exact .inl q
   ·right;refine Classical.byContradiction fun no=>?_;have:=(hv n hn).2 ⟨q,fun s hs e=>no ⟨s,hs,e⟩⟩;rw[hb] at this;cases this
  refine⟨⟨⟨?_,?_⟩,?_,fun j hj hlt=>?_⟩,?_⟩
  ·show 0≤(n:Int)+1;omega
  ·show (n:Int)+1≤len t.1;omega
  ·have:=qD2 hn hr;rw[← hnn] at this;exact this
  ·have hlt:(j:Int)<(n:Int)+1:=hlt;by_cases hjn:j=n
   ·subst hjn;exact hnl
   ·exact hl j hj (by omega)
  ·show (len t.1-((n:Int)+1)).toNat<(len t.1-(n:Int)).toNat;omega
end Go.Proofs.YtofmmkikplmlpaaGreatDoor.Am
namespace Go.Proofs.YtofmmkikplmlpaaGreatDoor.Am
open Go Go.Am
def clr (v:Int)(s:D73):D73:=bif (spar s==v) then ((s.1.1,(0:Int),s.1.2.2.1,s.1.2.2.2.1,()),s.2.1,()) else s
theorem wR7 (v:Int)(s:D73):sid (clr v s)=sid s∧sdoc (clr v s)=sdoc s∧seen (clr v s)=seen s∧(clr v s).1.2.2.1=s.1.2.2.1:=by
 unfold clr;cases (spar s==v)<;>exact⟨rfl,rfl,rfl,rfl⟩
theorem sO8 (v:Int)(s:D73):(spar s=v∧spar (clr v s)=0)∨(spar s≠v∧spar (clr v s)=spar s):=by
 unfold clr;cases e:(spar s==v) with
 |true=>exact .inl ⟨by simpa using e,rfl⟩
 |false=>exact .inr ⟨by simpa using e,rfl⟩
def cutT (t:D70)(v:Int):D70:=((t.1.filter (fun s=>decide (sid s≠v))).map (clr v),t.2.1,t.2.2.1,t.2.2.2.1,())
theorem cut_mem {t:D70}{v:Int}{s:D73}:s∈(cutT t v).1↔∃ u∈t.1,sid u≠v∧s=clr v u:=by
 unfold cutT;simp only[List.mem_map,List.mem_filter,decide_eq_true_eq];constructor
 ·rintro⟨u,⟨h1,h2⟩,rfl⟩;exact⟨u,h1,h2,rfl⟩
 ·rintro⟨u,h1,h2,rfl⟩;exact⟨u,⟨h1,h2⟩,rfl⟩
theorem pM9 {t:D70}{v:Int}(h:Asc t.1):Asc (cutT t v).1:=by
 refine List.pairwise_map.2 ((h.filter _).imp fun {a b} q=>?_);rw[(wR7 v a).1,(wR7 v b).1];exact q
theorem rK1 {t:D70}{k:Int}(h:Inv t k)(hc:∀ s∈t.1,sid s=t.2.1∨∃ u∈t.1,spar u=sid s) :
  (∃ hl:t.1.length-1<t.1.length,sid (t.1[t.1.length-1])=t.2.1)∧∀ m j:Nat,∀ hj:j+1<t.1.length,t.1.length≤j+1+m→spar t.1[j+1]=sid t.1[j]:=by
 have ha:=List.pairwise_iff_getElem.1 h.asc;have hpos:0<t.1.length:=List.length_pos_iff.2 h.ne;have hup:∀ {i j:Nat}(hi:i<t.1.length) (hj:j<t.1.length),spar t.1[i]=sid t.1[j]→j<i:=fun {i j} hi hj e=>by
  have hp:=(h.pos _ (List.getElem_mem hj)).1;rcases h.par _ (List.getElem_mem hi) with q|⟨u,hu,q1,q2⟩
  ·omega
  ·rcases Nat.lt_trichotomy j i with x|x|x
   ·exact x
   ·subst x;omega
   ·have:=ha i j hi hj x;omega
 have hlast:sid (t.1[t.1.length-1]'(by omega))=t.2.1:=by
  rcases hc _ (List.getElem_mem (show t.1.length-1<t.1.length by omega)) with q|⟨u,hu,q⟩
  ·exact q
  ·obtain⟨i,hi,rfl⟩:=List.mem_iff_getElem.1 hu;have:=hup hi (by omega) q;omega
 refine⟨⟨by omega,hlast⟩,fun m=>?_⟩
 induction m with
 |zero=>intro j hj hm;omega
 |succ m ih =>
  intro j hj hm;have hj0:j<t.1.length:=by omega
  rcases hc _ (List.getElem_mem hj0) with q|⟨u,hu,q⟩
  ·exfalso;have:=ha j (t.1.length-1) hj0 (by omega) (by omega);omega
  ·obtain⟨i,hi,rfl⟩:=List.mem_iff_getElem.1 hu;have hij:=hup hi hj0 q;by_cases e:i=j+1
   ·subst e;exact q
   ·exfalso;obtain⟨i',rfl⟩:∃ i',i=i'+1:=⟨i-1,by omega⟩;have h1:=ih i' hi (by omega);have h2:=ha j i' hj0 (by omega) (by omega);omega
theorem sC2 {t:D70}{k:Int}(h:Inv t k)(hc:∀ s∈t.1,sid s=t.2.1∨∃ u∈t.1,spar u=sid s){j:Nat}(hj:j+1<t.1.length):spar t.1[j+1]=sid t.1[j]:=
 (rK1 h hc).2 t.1.length j hj (by omega)
theorem pN {t:D70}{k:Int}(h:Inv t k)(h2:2≤len t.1){j:Nat}(hj:j<t.1.length)
  (hv:(sid t.1[j]≠t.2.1∧∀ s∈t.1,spar s≠sid t.1[j])∨(spar t.1[j]=0∧∀ s∈t.1,sid s=t.2.1∨∃ u∈t.1,spar u=sid s)) :
  Inv (cutT t (sid t.1[j])) k∧sid t.1[j]≠t.2.1∧len (cutT t (sid t.1[j])).1=len t.1-1:=by
 have ln:(t.1.length:Int)=len t.1:=rfl;have ha:=List.pairwise_iff_getElem.1 h.asc;have hvm:t.1[j]∈t.1:=List.getElem_mem hj;have hp0:=(h.pos _ hvm).1;have hne:sid t.1[j]≠t.2.1:=by
  rcases hv with ⟨q,_⟩ | ⟨q,hc⟩
  ·exact q
  ·obtain⟨⟨hl,e⟩,_⟩:=rK1 h hc;intro e';by_cases hj0:j=0
   ·subst hj0;have:=ha 0 (t.1.length-1) hj hl (by omega);omega
   ·obtain⟨i,rfl⟩:∃ i,j=i+1:=⟨j-1,by omega⟩;have e1:=sC2 h hc hj;have:=(h.pos _ (List.getElem_mem (show i<t.1.length by omega))).1;omega
 have hlen:len (cutT t (sid t.1[j])).1=len t.1-1:=by
  have e:=tH h.asc hj rfl;show ((List.map (clr (sid t.1[j])) (t.1.filter (fun s=>decide (sid s≠sid t.1[j])))).length:Int)=_;rw[List.length_map,← e,List.length_append,List.length_take,List.length_drop];omega
 have hroot:∀ s∈t.1,sid s≠sid t.1[j]→∀ u∈t.1,sid u≠sid t.1[j]→spar (clr (sid t.1[j]) s)=0→spar (clr (sid t.1[j]) u)=0→sid s=sid u:=by
  intro s hs ns u hu nu e1 e2;rcases hv with ⟨_,no⟩ | ⟨q,hc⟩
  ·have f:∀ x∈t.1,spar (clr (sid t.1[j]) x)=0→spar x=0:=fun x hx e=>by
    rcases sO8 (sid t.1[j]) x with ⟨a,_⟩ | ⟨_,b⟩
    ·exact absurd a (no x hx)
    ·rw[← b];exact e
   exact h.root s hs u hu (f s hs e1) (f u hu e2)
  ·have hj0:j=0:=by
    refine Classical.byContradiction fun hj0=>?_;obtain⟨i,rfl⟩:∃ i,j=i+1:=⟨j-1,by omega⟩;have e1:=sC2 h hc hj;have:=(h.pos _ (List.getElem_mem (show i<t.1.length by omega))).1;omega
   subst hj0;have f:∀ x∈t.1,sid x≠sid t.1[0]→spar (clr (sid t.1[0]) x)=0→∃ h1:1<t.1.length,x=t.1[1]:=fun x hx nx e=>by
    obtain⟨i,hi,rfl⟩:=List.mem_iff_getElem.1 hx;have hi0:i≠0:=fun e=>nx (by subst e;rfl);obtain⟨i',rfl⟩:∃ i',i=i'+1:=⟨i-1,by omega⟩;have ep:=sC2 h hc hi;have hpi:=(h.pos _ (List.getElem_mem (show i'<t.1.length by omega))).1;rcases sO8 (sid t.1[0]) t.1[i'+1] with ⟨a,_⟩ | ⟨_,b⟩
    ·have:i'=0:=by
      refine Classical.byContradiction fun hh=>?_;have:=ha 0 i' (by omega) (by omega) (by omega);omega
     subst this;exact⟨hi,rfl⟩
    ·omega
   obtain⟨h1,rfl⟩:=f s hs ns e1;obtain⟨_,rfl⟩:=f u hu nu e2;rfl
 refine⟨⟨?_,?_,pM9 h.asc,fun s hs=>?_,h.nxt,?_,fun s hs=>?_,fun s hs u hu e1 e2=>?_,h.clk,fun s hs=>?_,fun s hs=>?_⟩,hne,hlen⟩
 ·intro e;have:len (cutT t (sid t.1[j])).1=0:=by rw[e];rfl
  omega
 ·rw[hlen];have:=h.few;omega
 ·obtain⟨u,hu,_,rfl⟩:=cut_mem.1 hs;rw[(wR7 _ u).1];exact h.pos u hu
 ·obtain⟨s,hs,e⟩:=h.now;exact⟨_,cut_mem.2 ⟨s,hs,fun e'=>hne (e'.symm.trans e),rfl⟩,(wR7 _ s).1.trans e⟩
 ·obtain⟨u,hu,nu,rfl⟩:=cut_mem.1 hs;rcases sO8 (sid t.1[j]) u with ⟨_,b⟩ | ⟨a,b⟩
  ·exact .inl b
  ·rcases h.par u hu with q|⟨x,hx,q1,q2⟩
   ·exact .inl (b.trans q)
   ·right;refine⟨_,cut_mem.2 ⟨x,hx,fun e=>a (q1.symm.trans e),rfl⟩,?_,?_⟩
    ·rw[(wR7 _ x).1,b];exact q1
    ·rw[(wR7 _ x).1,(wR7 _ u).1];exact q2
 ·obtain⟨s',hs',ns,rfl⟩:=cut_mem.1 hs;obtain⟨u',hu',nu,rfl⟩:=cut_mem.1 hu;rw[(wR7 _ s').1,(wR7 _ u').1];exact hroot s' hs' ns u' hu' nu e1 e2
 ·obtain⟨u,hu,_,rfl⟩:=cut_mem.1 hs;rw[(wR7 _ u).2.2.1];exact h.sn u hu
 ·obtain⟨u,hu,_,rfl⟩:=cut_mem.1 hs;rw[(wR7 _ u).2.1];exact h.doc u hu
end Go.Proofs.YtofmmkikplmlpaaGreatDoor.Am
namespace Go.Proofs.YtofmmkikplmlpaaGreatDoor.Am
open Go Go.Am
def clrS (v:Int)(a:D70)(i:Int):D70:=
 ((bif (((nth a.1 i Z73).1.2.1)==v) then (List.set a.1 (Int.toNat i) (((nth a.1 i Z73).1.1,(0:Int),(nth a.1 i Z73).1.2.2.1,(nth a.1 i Z73).1.2.2.2.1,()),(nth a.1 i Z73).2.1,())) else a.1),(bif (((nth a.1 i Z73).1.2.1)==v) then a.2.1 else a.2.1),(bif (((nth a.1 i Z73).1.2.1)==v) then a.2.2.1 else a.2.2.1),(bif (((nth a.1 i Z73).1.2.1)==v) then a.2.2.2.1 else a.2.2.2.1),())
theorem pN0 {l:List D73}{f:D73→D73}{n:Nat}(h:n<l.length)(x:D73):List.set ((l.take n).map f++l.drop n) n x=(l.take n).map f++x::l.drop (n+1):=by
 have hn:((l.take n).map f).length=n:=by simp;omega
 rw[List.set_append_right _ _ (by omega),hn,Nat.sub_self,List.drop_eq_getElem_cons h];rfl
theorem pN1 {l:List D73}{f:D73→D73}{n:Nat}(h:n<l.length):nth ((l.take n).map f++l.drop n) (n:Int) Z73=l[n]:=by
 have hn:((l.take n).map f).length=n:=by simp;omega
 have hlt:n<((l.take n).map f++l.drop n).length:=by simp;omega
 have e:n+(n-((l.take n).map f).length)=n:=by omega
 rw[wV0 hlt,List.getElem_append_right (by omega),List.getElem_drop];congr 1
theorem rK2 (v:Int)(l:List D73)(a b c:Int):∀ n:Nat,n≤l.length→xC4 (clrS v) n (l,a,b,c,())=((l.take n).map (clr v)++l.drop n,a,b,c,()):=by
 intro n
 induction n with
 |zero=>intro _;simp[xC4]
 |succ n ih =>
  intro hn;have h:n<l.length:=by omega
  rw[xC4,ih (by omega)];unfold clrS;simp only;rw[pN1 h,Int.toNat_natCast,pN0 h,List.take_succ_eq_append_getElem h,List.map_append,List.append_assoc];unfold clr;cases e:((l[n]).1.2.1==v) with
  |true =>
   have e':(spar l[n]==v)=true:=e;simp only[cond_true,List.map_cons,List.map_nil,e',List.cons_append,List.nil_append]
  |false =>
   have e':(spar l[n]==v)=false:=e;simp only[cond_false,List.map_cons,List.map_nil,e',List.cons_append,List.nil_append];rw[List.drop_eq_getElem_cons h]
theorem rK3 (n:Int)(g:List Int)(v:Int)(l:List D73)(a b c:Int)(hl:len l≤128) :
  xB7 (wQ5 (n,g,v,len l,())) (wN5 (n,g,v,len l,())) (vB3 (n,g,v,len l,())) ((l,a,b,c,()),0,()) ∧
  vB4 (n,g,v,len l,()) (zB9 (wQ5 (n,g,v,len l,())) (wN5 (n,g,v,len l,())) ((l,a,b,c,()),0,()))=(l.map (clr v),a,b,c,()):=by
 have ln:(l.length:Int)=len l:=rfl;have h0:=wF l;have hf:=wG9 (g:=wQ5 (n,g,v,len l,())) (next:=wN5 (n,g,v,len l,())) (n:=len l) (step:=clrS v) h0 (by omega) (fun _=>rfl) (fun _=>rfl) (l,a,b,c,())
 constructor
 ·refine wH (g:=wQ5 (n,g,v,len l,())) (next:=wN5 (n,g,v,len l,())) (n:=len l) (step:=clrS v) h0 (by omega) (fun _=>rfl) (fun _=>rfl) (l,a,b,c,()) fun i i0 i1=>fun h3=>?_
  have h4:i<len l:=of_decide_eq_true h3;have hx:=rK2 v l a b c i.toNat (by omega);have hlen:len (xC4 (clrS v) i.toNat (l,a,b,c,())).1=len l:=by
   rw[hx];simp only[len,List.length_append,List.length_map,List.length_take,List.length_drop];omega
  show InB i (len (xC4 (clrS v) i.toNat (l,a,b,c,())).1)∧(i<len (xC4 (clrS v) i.toNat (l,a,b,c,())).1∧((_→(InB i (len (xC4 (clrS v) i.toNat (l,a,b,c,())).1)∧i<len (xC4 (clrS v) i.toNat (l,a,b,c,())).1))∧InR (i+1)));rw[hlen];exact⟨⟨i0,h4⟩,h4,fun _=>⟨⟨i0,h4⟩,h4⟩,wL (by omega) (by omega)⟩
 ·rw[hf,rK2 v l a b c (len l).toNat (by omega)];have e:(len l).toNat=l.length:=by omega
  rw[e,List.take_length,List.drop_length,List.append_nil];rfl
structure Less (t t':D70):Prop where
 now:t'.2.1=t.2.1
 nxt:t'.2.2.1=t.2.2.1
 clk:t'.2.2.2.1=t.2.2.2.1
 old:∀ s∈t'.1,∃ u∈t.1,sid s=sid u∧s.1.2.2=u.1.2.2∧(spar s=spar u∨spar s=0)
theorem Less.refl (t:D70):Less t t:=⟨rfl,rfl,rfl,fun s hs=>⟨s,hs,rfl,rfl,.inl rfl⟩⟩
theorem Less.trans {a b c:D70}(h:Less a b)(h':Less b c):Less a c:=⟨h'.now.trans h.now,h'.nxt.trans h.nxt,h'.clk.trans h.clk,fun s hs=>by
 obtain⟨u,hu,e1,e2,e3⟩:=h'.old s hs;obtain⟨x,hx,f1,f2,f3⟩:=h.old u hu;refine⟨x,hx,e1.trans f1,e2.trans f2,?_⟩;rcases e3 with q|q
 ·rcases f3 with p|p
  ·exact .inl (q.trans p)
  ·exact .inr (q.trans p)
 ·exact .inr q⟩
theorem qN1 (t:D70)(v:Int):Less t (cutT t v):=⟨rfl,rfl,rfl,fun s hs=>by
 obtain⟨u,hu,_,rfl⟩:=cut_mem.1 hs;refine⟨u,hu,(wR7 v u).1,?_,?_⟩
 ·unfold clr;cases (spar u==v)<;>rfl
 ·rcases sO8 v u with ⟨_,q⟩ | ⟨_,q⟩
  ·exact .inr q
  ·exact .inl q⟩
structure PurI (t:D70) (k n:Int) (t':D70) (g:List Int):Prop where
 inv:Inv t' k
 less:Less t t'
 some:∀ q,(∃ s∈t.1,sid s=q)→(∃ s∈t'.1,sid s=q)∨q∈g
 gone:∀ q∈g,(∃ s∈t.1,sid s=q)∧∀ s∈t'.1,sid s≠q
 cnt:len g=len t.1-len t'.1
 min:n≤len t'.1∨t'=t
theorem rK4 {t:D70}{k n:Int}(h:Inv t k):vP5 t n∧((n<1∧tL t n=([],1,())∧vE9 t n=(t,())) ∨
  (1≤n∧∃ t' g,tL t n=(g,0,())∧vE9 t n=(t',())∧PurI t k n t' g∧(len t'.1=n∨len t'.1=len t.1∧len t.1≤n))):=by
 have e11:f36 (t.1,t.2.1,t.2.2.1,t.2.2.2.1,())=true:=h.made.2;by_cases hn:n<1
 ·have hd:decide (n<1)=true:=decide_eq_true hn;refine⟨⟨h.made.1,fun _ q=>?_⟩,.inl ⟨hn,?_,?_⟩⟩
  ·have q:(!(decide (n<1)))=true:=q;rw[hd] at q;exact Bool.noConfusion q
  ·simp only[tL,uJ5,e11,hd,Bool.not_true,cond_true,cond_false]
  ·simp only[vE9,uJ5,e11,hd,Bool.not_true,cond_true,cond_false]
 ·have hd:decide (n<1)=false:=decide_eq_false hn;have w:=whole (g:=vE3 (n,())) (next:=wN9 (n,())) (ok:=vG6 (n,())) (fun x=>PurI t k n x.1 x.2.1) (fun x=>(len x.1.1).toNat) (fun x hx=>fun h3=>?_) (fun x hx hg=>?_)
   (x:=(t,[],())) ⟨h,Less.refl t,fun q hq=>.inl hq,fun q hq=>absurd hq (by simp),by show len ([]:List Int)=len t.1-len t.1;simp[len],.inr rfl⟩ (by have:=h.few;show (len t.1).toNat<zH7;unfold zH7;omega)
  ·obtain⟨wo,wp,wg⟩:=w;generalize hz:zB9 (vE3 (n,())) (wN9 (n,())) (t,([]:List Int),())=z at wp wg;have hle:¬ len z.1.1>n:=of_decide_eq_false wg;have er:zB9 (vE3 (n,())) (wN9 (n,())) ((t.1,t.2.1,t.2.2.1,t.2.2.2.1,()),([]:List Int),())=z:=hz;refine⟨⟨h.made.1,fun _ _=>wo⟩,.inr ⟨by omega,z.1,z.2.1,?_,?_,wp,?_⟩⟩
   ·simp only[tL,uJ5,e11,hd,er,Bool.not_true,cond_false];rfl
   ·simp only[vE9,uJ5,e11,hd,er,Bool.not_true,cond_false];rfl
   ·rcases wp.min with q|q
    ·left;omega
    ·right;rw[q] at hle;exact⟨by rw[q],by omega⟩
  all_goals obtain⟨a,g,⟨⟩⟩:=x
  ·have hx:PurI t k n a g:=hx;have h3:len a.1>n:=of_decide_eq_true h3;obtain⟨vo,j,hj,ej,hv⟩:=sY0 hx.inv;have ln:(a.1.length:Int)=len a.1:=rfl;have hf:=hx.inv.few;have hcut:f49 a.1 (f48 a) (f48 a+1)=a.1.filter (fun s=>decide (sid s≠sid a.1[j])):=by
    rw[← tH hx.inv.asc hj rfl,ej];show List.take (Int.toNat (j:Int)) a.1++List.drop (Int.toNat ((j:Int)+1)) a.1=_;rw[show Int.toNat ((j:Int)+1)=j+1 by omega,Int.toNat_natCast]
   have hfl:len (f49 a.1 (f48 a) (f48 a+1))≤128:=by
    rw[hcut];have:=List.length_filter_le (fun s=>decide (sid s≠sid a.1[j])) a.1;unfold len;omega
   have hgc:=hx.cnt;have h0:=wF t.1;have hft:=h.few;have h1:=wF a.1;have lg:(g.length:Int)=len g:=rfl;show sH8 a∧(InB (f48 a) (len a.1)∧(f48 a<len a.1∧(InR (f48 a+1)∧((sU a.1 (f48 a) (f48 a+1))∧(xB7 _ _ _ _∧((List.length g+List.length [(nth a.1 (f48 a) Z73).1.1]:Nat):Int)≤4294967296)))));refine⟨vo,by rw[ej];exact⟨by omega,by omega⟩,by rw[ej];omega,by rw[ej];exact wL (by omega) (by omega),?_,(rK3 n g _ _ _ _ _ hfl).1,?_⟩
   ·show 0≤f48 a∧f48 a<f48 a+1∧f48 a+1≤(List.length a.1:Int);rw[ej];omega
   ·rw[List.length_singleton];omega
  ·have hx:PurI t k n a g:=hx;have hg:len a.1>n:=of_decide_eq_true hg;obtain⟨vo,j,hj,ej,hv⟩:=sY0 hx.inv;have ln:(a.1.length:Int)=len a.1:=rfl;have hf:=hx.inv.few;have hcut:f49 a.1 (f48 a) (f48 a+1)=a.1.filter (fun s=>decide (sid s≠sid a.1[j])):=by
    rw[← tH hx.inv.asc hj rfl,ej];show List.take (Int.toNat (j:Int)) a.1++List.drop (Int.toNat ((j:Int)+1)) a.1=_;rw[show Int.toNat ((j:Int)+1)=j+1 by omega,Int.toNat_natCast]
   have hfl:len (f49 a.1 (f48 a) (f48 a+1))≤128:=by
    rw[hcut];have:=List.length_filter_le (fun s=>decide (sid s≠sid a.1[j])) a.1;unfold len;omega
   have hid:(nth a.1 (f48 a) Z73).1.1=sid a.1[j]:=by rw[ej,wV0 hj]
   have hnx:wN9 (n,()) (a,g,())=(cutT a (sid a.1[j]),g++[sid a.1[j]],()):=by
    have e:=(rK3 n g (nth a.1 (f48 a) Z73).1.1 (f49 a.1 (f48 a) (f48 a+1)) a.2.1 a.2.2.1 a.2.2.2.1 hfl).2;have:wN9 (n,()) (a,g,())=(vB4 (n,g,(nth a.1 (f48 a) Z73).1.1,len (f49 a.1 (f48 a) (f48 a+1)),()) (zB9 (wQ5 (n,g,(nth a.1 (f48 a) Z73).1.1,len (f49 a.1 (f48 a) (f48 a+1)),())) (wN5 (n,g,(nth a.1 (f48 a) Z73).1.1,len (f49 a.1 (f48 a) (f48 a+1)),())) ((f49 a.1 (f48 a) (f48 a+1),a.2.1,a.2.2.1,a.2.2.2.1,()),0,())),g++[(nth a.1 (f48 a) Z73).1.1],()):=rfl;rw[this,e,hid,hcut];rfl
   rw[hnx];obtain⟨i1,i2,i3⟩:=pN hx.inv (by omega) hj hv;have hvm:a.1[j]∈a.1:=List.getElem_mem hj;refine⟨⟨i1,hx.less.trans (qN1 a _),fun q hq=>?_,fun q hq=>?_,?_,?_⟩,?_⟩
   ·rcases hx.some q hq with ⟨s,hs,e⟩ | p
    ·by_cases hqv:q=sid a.1[j]
     ·exact .inr (List.mem_append_right _ (List.mem_singleton.2 hqv))
     ·exact .inl ⟨_,cut_mem.2 ⟨s,hs,fun e'=>hqv (e.symm.trans e'),rfl⟩,(wR7 _ s).1.trans e⟩
    ·exact .inr (List.mem_append_left _ p)
   ·rcases List.mem_append.1 hq with p|p
    ·obtain⟨p1,p2⟩:=hx.gone q p;refine⟨p1,fun s hs=>?_⟩;obtain⟨u,hu,_,rfl⟩:=cut_mem.1 hs;rw[(wR7 _ u).1];exact p2 u hu
    ·rw[List.mem_singleton] at p;subst p;obtain⟨u,hu,e,_⟩:=hx.less.old _ hvm;refine⟨⟨u,hu,e.symm⟩,fun s hs=>?_⟩;obtain⟨u,hu,nu,rfl⟩:=cut_mem.1 hs;rw[(wR7 _ u).1];exact nu
   ·show len (g++[sid a.1[j]])=_;rw[i3,wV];have:=hx.cnt;show len g+1=_;omega
   ·left;rw[i3];omega
   ·show (len (cutT a (sid a.1[j])).1).toNat<(len a.1).toNat;rw[i3];have:=wF a.1;omega
end Go.Proofs.YtofmmkikplmlpaaGreatDoor.Am
namespace Go.Proofs.YtofmmkikplmlpaaGreatDoor.Am
open Go Go.Am
theorem qD3 {t:D70}{k:Int}(h:Inv t k):vG7 t∧tL0 t=false∧vS2 t=(t,(true,t),()):=by
 have e11:f36 (t.1,t.2.1,t.2.2.1,t.2.2.2.1,())=true:=h.made.2;have hf:=h.few;have hp:=rG h.ne;have ln:(t.1.length:Int)=len t.1:=rfl;have hl:0<t.1.length:=by omega
 refine⟨⟨h.made.1,fun _=>⟨⟨hl,fun _=>?_⟩,hl,rfl,rfl,rfl,rfl⟩⟩,?_,?_⟩
 ·show ((List.length ([]:List D73)+List.length t.1:Nat):Int)≤4294967296;rw[List.length_nil];omega
 ·simp only[tL0,tF3,e11,Bool.not_true]
 ·simp only[vS2,tF3,e11,Bool.not_true,cond_false];rfl
structure Keep (t t':D70):Prop where
 old:∀ s∈t'.1,(∃ u∈t.1,sid s=sid u∧s.1.2.2=u.1.2.2∧(spar s=spar u∨spar s=0))∨t.2.2.1≤sid s
 nxt:t.2.2.1≤t'.2.2.1
theorem Keep.refl (t:D70):Keep t t:=⟨fun s hs=>.inl ⟨s,hs,rfl,rfl,.inl rfl⟩,Int.le_refl _⟩
theorem Keep.trans {a b c:D70}(h:Keep a b)(h':Keep b c):Keep a c:=⟨fun s hs=>by
 rcases h'.old s hs with ⟨u,hu,e1,e2,e3⟩ | q
 ·rcases h.old u hu with ⟨x,hx,f1,f2,f3⟩ | q
  ·refine .inl ⟨x,hx,e1.trans f1,e2.trans f2,?_⟩;rcases e3 with q|q
   ·rcases f3 with p|p
    ·exact .inl (q.trans p)
    ·exact .inr (q.trans p)
   ·exact .inr q
  ·right;omega
 ·right;have:=h.nxt;omega,Int.le_trans h.nxt h'.nxt⟩
theorem tO1 (t:D70)(q:Int):Keep t (ent t q):=⟨fun s hs=>by
 obtain⟨u,hu,e,_⟩:=tH0 hs;exact .inl ⟨u,hu,by show s.1.1=u.1.1;rw[e],by rw[e],.inl (by show s.1.2.1=u.1.2.1;rw[e])⟩,Int.le_refl _⟩
theorem qN2 (t:D70)(lab:List UInt8)(d:D28):Keep t (addT t lab d):=
 Keep.trans (b:=uC6 t lab d) ⟨fun s hs=>by
  rcases List.mem_append.1 hs with q|q
  ·exact .inl ⟨s,q,rfl,rfl,.inl rfl⟩
  ·rw[List.mem_singleton] at q;subst q;exact .inr (Int.le_refl _),by show t.2.2.1≤t.2.2.1+1;omega⟩ (tO1 _ _)
theorem qD4 {t t':D70}(h:Less t t'):Keep t t':=⟨fun s hs=>.inl (h.old s hs),by rw[h.nxt];exact Int.le_refl _⟩
structure OpOk (o:D50):Prop where
 wf:Ty.wf T28 o.2.2.2.1
 sz:DocSz o.2.2.2.1
theorem rG2 {t:D70}{k:Int}{o:D50}(h:Inv t k)(hk:k≤8999999)(ho:OpOk o) :
  wX3 t o∧(vG8 t o).1=false∧∃ t',wR4 t o=((true,t'),())∧Inv t' (k+1)∧Keep t t':=by
 have hk':k≤9000000:=by omega
 have hm:Inv t (k+1):=h.mono (by omega);obtain⟨c1,c2⟩:=sX9 (lab:=o.2.2.1) h hk' ho.wf ho.sz;obtain⟨u1,u2⟩:=rG0 h hk';obtain⟨r1,r2⟩:=rG1 h hk';obtain⟨g1,g2⟩:=pM6 (q:=o.2.1) h hk';obtain⟨p1,p2⟩:=rK4 (n:=o.2.1) h;obtain⟨y1,y2,y3⟩:=qD3 h;have y2':tL0 (t.1,t.2.1,t.2.2.1,t.2.2.2.1,())=false:=y2;have y3':vS2 (t.1,t.2.1,t.2.2.1,t.2.2.2.1,())=(t,(true,t),()):=y3;constructor
 ·exact⟨fun _=>c1,fun _=>⟨fun _=>u1,fun _=>⟨fun _=>r1,fun _=>⟨fun _=>g1,fun _=>⟨fun _=>p1,fun _ _=>y1⟩⟩⟩⟩⟩
 ·have hbin:∀ b:Bool,(bif b then false else false)=false:=fun b=>by cases b<;>rfl
  cases k1:(o.1==1) with
  |true =>
   have hc:∃ t',wW7 t o.2.2.1 o.2.2.2.1=(t',())∧Inv t' (k+1)∧Keep t t':=by
    rcases c2 with ⟨_,_,e,_⟩ | ⟨_,e,gd,l1,l2⟩
    ·exact⟨t,e,hm,Keep.refl t⟩
    ·exact⟨_,e,rK0 h l1 l2 gd,qN2 _ _ _⟩
   obtain⟨t',e,a,b⟩:=hc;have e':wW7 (t.1,t.2.1,t.2.2.1,t.2.2.2.1,()) o.2.2.1 o.2.2.2.1=(t',()):=e;refine⟨?_,t',?_,a,b⟩
   ·simp only[vG8,wU4,k1,cond_true]
   ·simp only[wR4,wU4,k1,e',cond_true]
  |false =>
   cases k2:(o.1==2) with
   |true =>
    have hc:∃ t',wX6 t=(t',())∧Inv t' (k+1)∧Keep t t':=by
     rcases u2 with ⟨_,e,_⟩ | ⟨s,_,_,_,hx,_,e⟩
     ·exact⟨t,e,hm,Keep.refl t⟩
     ·exact⟨_,e,uT3 h hx,tO1 _ _⟩
    obtain⟨t',e,a,b⟩:=hc;have e':wX6 (t.1,t.2.1,t.2.2.1,t.2.2.2.1,())=(t',()):=e;refine⟨?_,t',?_,a,b⟩
    ·simp only[vG8,wU4,k1,k2,cond_true,cond_false]
    ·simp only[wR4,wU4,k1,k2,e',cond_true,cond_false]
   |false =>
    cases k3:(o.1==3) with
    |true =>
     have hc:∃ t',wX7 t=(t',())∧Inv t' (k+1)∧Keep t t':=by
      rcases r2 with ⟨_,e,_⟩ | ⟨s,hs,_,_,_,_,e⟩
      ·exact⟨t,e,hm,Keep.refl t⟩
      ·exact⟨_,e,uT3 h ⟨s,hs,rfl⟩,tO1 _ _⟩
     obtain⟨t',e,a,b⟩:=hc;have e':wX7 (t.1,t.2.1,t.2.2.1,t.2.2.2.1,())=(t',()):=e;refine⟨?_,t',?_,a,b⟩
     ·simp only[vG8,wU4,k1,k2,k3,cond_true,cond_false]
     ·simp only[wR4,wU4,k1,k2,k3,e',cond_true,cond_false]
    |false =>
     cases k4:(o.1==4) with
     |true =>
      have hc:∃ t',vS1 t o.2.1=(t',())∧Inv t' (k+1)∧Keep t t':=by
       rcases g2 with ⟨_,e⟩ | ⟨hx,_,e⟩
       ·exact⟨t,e,hm,Keep.refl t⟩
       ·exact⟨_,e,uT3 h hx,tO1 _ _⟩
      obtain⟨t',e,a,b⟩:=hc;have e':vS1 (t.1,t.2.1,t.2.2.1,t.2.2.2.1,()) o.2.1=(t',()):=e;refine⟨?_,t',?_,a,b⟩
      ·simp only[vG8,wU4,k1,k2,k3,k4,cond_true,cond_false]
      ·simp only[wR4,wU4,k1,k2,k3,k4,e',cond_true,cond_false]
     |false =>
      cases k5:(o.1==5) with
      |true =>
       have hc:∃ t',vE9 t o.2.1=(t',())∧Inv t' (k+1)∧Keep t t':=by
        rcases p2 with ⟨_,_,e⟩ | ⟨_,t',g,_,e,pi,_⟩
        ·exact⟨t,e,hm,Keep.refl t⟩
        ·exact⟨t',e,pi.inv.mono (by omega),qD4 pi.less⟩
       obtain⟨t',e,a,b⟩:=hc;have e':vE9 (t.1,t.2.1,t.2.2.1,t.2.2.2.1,()) o.2.1=(t',()):=e;refine⟨?_,t',?_,a,b⟩
       ·simp only[vG8,wU4,k1,k2,k3,k4,k5,cond_true,cond_false]
       ·simp only[wR4,wU4,k1,k2,k3,k4,k5,e',cond_true,cond_false]
      |false =>
       refine⟨?_,t,?_,hm,Keep.refl t⟩
       ·simp only[vG8,wU4,k1,k2,k3,k4,k5,y2',cond_false];exact hbin _
       ·cases k6:(o.1==6) with
        |true =>
         simp only[wR4,wU4,k1,k2,k3,k4,k5,k6,y3',cond_true,cond_false]
        |false =>
         simp only[wR4,wU4,k1,k2,k3,k4,k5,k6,cond_false]
def sY1:D70:=(([]:List D73),0,1,0,())
def T0 (d:D28):D70:=([((1,0,([]:List UInt8),d,()),1,())],1,2,1,())
theorem qD5 (d:D28):addT sY1 [] d=T0 d:=rfl
theorem pW {d:D28}(h:Good d):Inv (T0 d) 1:=by
 have hm:∀ {s:D73},s∈(T0 d).1→s=((1,0,([]:List UInt8),d,()),1,()):=fun hs=>List.mem_singleton.1 hs;refine⟨by simp[T0],by show (1:Int)≤128;decide,List.pairwise_singleton _ _,fun s hs=>?_,by show (2:Int)≤1073741825;decide,⟨_,List.mem_singleton.2 rfl,rfl⟩,fun s hs=>?_,fun s hs u hu _ _=>?_,⟨by show (0:Int)≤1;decide,by show (1:Int)≤1;decide⟩,fun s hs=>?_,fun s hs=>?_⟩
 ·have:=hm hs;subst this;show (1:Int)≤1∧(1:Int)<2;decide
 ·have:=hm hs;subst this;exact .inl rfl
 ·have:=hm hs;have:=hm hu;subst_vars;rfl
 ·have:=hm hs;subst this;show (0:Int)≤1∧(1:Int)≤1;decide
 ·have:=hm hs;subst this;exact h
theorem pW0 {d:D28}(hw:Ty.wf T28 d)(hz:DocSz d):sU1 d∧((f9 d≠0∧f25 d=(true,f9 d,()))∨(Good d∧f25 d=(false,0,())∧qH6 d=((true,T0 d),()))):=by
 have ha:Good d→vG3 sY1 [] d∧vS0 sY1 [] d=(T0 d,()):=fun g=>by
  have:=qR4 (t:=sY1) (lab:=[]) (d:=d) (by show (0:Int)≤127;decide) List.Pairwise.nil (fun s hs=>absurd hs (by simp[sY1])) ⟨by show (0:Int)≤1;decide,by show (1:Int)≤1073741824;decide⟩ ⟨by show (0:Int)≤0;decide,by show (0:Int)≤9000000;decide⟩ g;rw[qD5] at this;exact this
 refine⟨⟨sO5 hw,fun q=>(ha (sO6 hw hz (by simpa using q))).1⟩,?_⟩;cases c:(f9 d !=0) with
 |true =>
  left;refine⟨by simpa using c,?_⟩;simp only[f25,f25t,c,cond_true]
 |false =>
  right;have g:=sO6 hw hz (by simpa using c);have e:vS0 (([]:List D73),(0:Int),(1:Int),(0:Int),()) ([]:List UInt8) d=(T0 d,()):=(ha g).2;refine⟨g,?_,?_⟩
  ·simp only[f25,f25t,c,cond_false]
  ·simp only[qH6,f25t,c,e,Bool.not_false]
end Go.Proofs.YtofmmkikplmlpaaGreatDoor.Am
namespace Go.Proofs.YtofmmkikplmlpaaGreatDoor.Am
open Go Go.Am
abbrev RunX:Type:=Bool×Int×(Bool×D70)×Unit
def runI (ops:List D50)(t:D70)(k:Int)(x:RunX):Prop:=x.1=false∧0≤x.2.1∧x.2.1≤len ops∧x.2.2.1.1=true∧Inv x.2.2.1.2 (k+x.2.1)∧Keep t x.2.2.1.2
theorem rG3 {ops:List D50}(ho:∀ o∈ops,OpOk o){g:RunX→Bool}{next:RunX→RunX}{ok:RunX→Prop}
  (hg:∀ x,g x=(decide (x.2.1<len ops)&&!(vG8 x.2.2.1.2 (nth ops x.2.1 Z50)).1))
  (hx:∀ x,next x=((vG8 x.2.2.1.2 (nth ops x.2.1 Z50)).1,x.2.1+1,(wR4 x.2.2.1.2 (nth ops x.2.1 Z50)).1,()))
  (hok:∀ x,(decide (x.2.1<len ops)=true→InB x.2.1 (len ops)∧x.1=false∧x.2.2.1.1=true∧wX3 x.2.2.1.2 (nth ops x.2.1 Z50)∧((!(vG8 x.2.2.1.2 (nth ops x.2.1 Z50)).1)=true→InR (x.2.1+1)))→ok x)
  {t:D70}{k:Int}(h:Inv t k) (hk:k+len ops≤9000000) (h0:0≤k) :
  xB7 g next ok (false,0,(true,t),())∧∃ t',zB9 g next (false,0,(true,t),())=(false,len ops,(true,t'),())∧Inv t' (k+len ops)∧Keep t t':=by
 have hl:=wF ops;obtain⟨a,b,c⟩:=whole (g:=g) (next:=next) (ok:=ok) (runI ops t k) (fun x=>(len ops-x.2.1).toNat)
  (fun x ⟨e1,e2,e3,e4,e5,e6⟩=>hok x fun q=>by
   have q':=of_decide_eq_true q;have hm:=rG2 (o:=nth ops x.2.1 Z50) e5 (by omega) (ho _ (wM ⟨e2,q'⟩));exact⟨⟨e2,q'⟩,e1,e4,hm.1,fun _=>wL (by omega) (by omega)⟩)
  (fun x ⟨e1,e2,e3,e4,e5,e6⟩ hgx=>by
   rw[hg,Bool.and_eq_true] at hgx;have q':=of_decide_eq_true hgx.1;obtain⟨_,s2,t',s3,s4,s5⟩:=rG2 (o:=nth ops x.2.1 Z50) e5 (by omega) (ho _ (wM ⟨e2,q'⟩));rw[hx,s2,s3];have e:k+(x.2.1+1)=k+x.2.1+1:=by omega
   exact⟨⟨rfl,by show 0≤x.2.1+1;omega,by show x.2.1+1≤_;omega,rfl,by show Inv t' (k+(x.2.1+1));rw[e];exact s4,e6.trans s5⟩,by show (len ops-(x.2.1+1)).toNat<(len ops-x.2.1).toNat;omega⟩)
  (x:=(false,0,(true,t),())) ⟨rfl,Int.le_refl _,hl,rfl,by show Inv t (k+0);rw[Int.add_zero];exact h,Keep.refl t⟩ (uO4 (by show (len ops-0).toNat≤_;omega))
 refine⟨a,?_⟩;obtain⟨e1,e2,e3,e4,e5,e6⟩:=b;rw[hg] at c;generalize zB9 g next (false,0,(true,t),())=x at *
 obtain⟨x1,x2,⟨x3,t'⟩,⟨⟩⟩:=x;have e1':x1=false:=e1;have e4':x3=true:=e4;subst e1' e4';have e5':Inv t' (k+x2):=e5;have e3':x2≤len ops:=e3;have e2':0≤x2:=e2;cases q:decide (x2<len ops) with
 |true =>
  have q':=of_decide_eq_true q;obtain⟨_,s2,_⟩:=rG2 (o:=nth ops x2 Z50) e5' (by omega) (ho _ (wM ⟨e2',q'⟩));have c':(decide (x2<len ops)&&!(vG8 t' (nth ops x2 Z50)).1)=false:=c;rw[q,s2] at c';exact absurd c' (by decide)
 |false =>
  have q':¬ x2<len ops:=of_decide_eq_false q;have:x2=len ops:=by omega
  subst this;exact⟨t',rfl,e5',e6⟩
theorem sO9 {d:D28}{ops:List D50}(hw:Ty.wf T28 d)(hz:DocSz d)(ho:∀ o∈ops,OpOk o)(hn:len ops≤8999999) :
  sM4 d ops∧((f9 d≠0∧f7 d ops=(true,f9 d,()))∨(Good d∧f7 d ops=(false,0,())∧∃ t,f7_o d ops=((true,t),())∧Inv t (1+len ops)∧Keep (T0 d) t)):=by
 obtain⟨n1,n2⟩:=pW0 hw hz;have hr:=fun (g:Good d)=>rG3 (g:=sM2 (ops,len ops,())) (next:=uO1 (ops,len ops,())) (ok:=uZ4 (ops,len ops,())) ho (fun _=>rfl) (fun _=>rfl) (fun _ h=>h) (pW g) (by omega) (by omega)
 rcases n2 with ⟨c,e⟩ | ⟨gd,e,eo⟩
 ·have v20:(bif (f9 d !=0) then true else true)=true:=by cases (f9 d !=0)<;>rfl
  refine⟨⟨n1,fun q=>?_⟩,.inl ⟨c,?_⟩⟩
  ·rw[e,v20] at q;exact absurd q (by decide)
  ·simp only[f7,f7t,e,v20,cond_true]
 ·obtain⟨a,t,b,i,kp⟩:=hr gd;have e1:(sM3 (ops,len ops,()) (false,len ops,(true,t),()))=false:=by
   show (decide (len ops<len ops)&&_)=false;rw[decide_eq_false (by omega)];rfl
  refine⟨⟨n1,fun _=>?_⟩,.inr ⟨gd,?_,t,?_,i,kp⟩⟩
  ·rw[e,eo];exact a
  ·simp only[f7,f7t,e,eo];show (bif _ then _ else _,bif _ then _ else _,())=_;rw[show (bif ((0:Int)!=0) then true else false)=false from rfl];simp only[cond_false];erw [b];rw[e1];rfl
  ·simp only[f7_o,f7t,e,eo];rw[show (bif ((0:Int)!=0) then true else false)=false from rfl];simp only[cond_false];erw [b];rw[e1];rfl
end Go.Proofs.YtofmmkikplmlpaaGreatDoor.Am
namespace Go.Proofs.YtofmmkikplmlpaaGreatDoor.Am
open Go Go.Am
theorem uniq {l:List D73}(h:Asc l){s u:D73}(hs:s∈l)(hu:u∈l)(e:sid s=sid u):s=u:=by
 obtain⟨i,hi,rfl⟩:=List.getElem_of_mem hs;obtain⟨j,hj,rfl⟩:=List.getElem_of_mem hu;rcases Nat.lt_trichotomy i j with q|q|q
 ·have:=List.pairwise_iff_getElem.1 h i j hi hj q;omega
 ·subst q;rfl
 ·have:=List.pairwise_iff_getElem.1 h j i hj hi q;omega
theorem sY2 {t:D70}{k:Int}(h:Inv t k){s:D73}(hs:s∈t.1)(e:sid s=t.2.1):wO6 t=sdoc s:=by
 obtain⟨_,⟨u,hu,eu,e'⟩,_⟩:=uP9 h;rw[e',uniq h.asc hs hu (e.trans eu.symm)]
theorem qD6 {t:D70}{k q:Int}(h:Inv t k){s:D73}(hs:s∈t.1)(e:sid s=q):wO6 (ent t q)=sdoc s:=by
 have hi:=uT3 h ⟨s,hs,e⟩;obtain⟨u,hu,eu⟩:=sJ0 q hs;rw[sY2 hi hu (by show u.1.1=q;rw[eu];exact e)];show u.1.2.2.2.1=s.1.2.2.2.1;rw[eu]
theorem rK5 {t:D70}{k:Int}(h:Inv t k):Ty.wf T28 (wO6 t):=by
 obtain⟨_,⟨u,hu,eu,e'⟩,_⟩:=uP9 h;rw[e'];exact (h.doc u hu).wf
theorem qD7 {t:D70}{k:Int}{lab:List UInt8}{d:D28}(h:Inv t k)(hk:k≤8999997)(hd:Good d)(l1:len t.1≤127)(l2:t.2.2.1≤1073741824) :
  ∃ t1 t2 t3:D70,addT t lab d=t1∧Inv t1 (k+1)∧t1.2.1=t.2.2.1∧wO6 t1=d∧uP3 t1=0∧wX6 t1=(t2,()) ∧
   Inv t2 (k+2)∧t2.2.1=t.2.1∧wO6 t2=wO6 t∧uP4 t2=0∧wX7 t2=(t3,())∧Inv t3 (k+3)∧t3.2.1=t.2.2.1∧wO6 t3=d:=by
 have i1:=rK0 (lab:=lab) h l1 l2 hd;have hnew:newS t lab d∈(uC6 t lab d).1:=List.mem_append_right _ (List.mem_singleton.2 rfl);obtain⟨n1,hn1,en1⟩:=sJ0 (t:=uC6 t lab d) t.2.2.1 hnew;have hn1':n1∈(addT t lab d).1:=hn1;have hn1s:sid n1=t.2.2.1:=by show n1.1.1=_;rw[en1];rfl
 have hn1p:spar n1=t.2.1:=by show n1.1.2.1=_;rw[en1];rfl
 have hn1d:sdoc n1=d:=by show n1.1.2.2.2.1=_;rw[en1];rfl
 have hnowa:(addT t lab d).2.1=t.2.2.1:=rfl;obtain⟨s0,hs0,e0⟩:=h.now;have p0:=h.pos s0 hs0;have d1:wO6 (addT t lab d)=d:=by rw[sY2 i1 hn1' hn1s,hn1d]
 have i2:Inv (ent (addT t lab d) t.2.1) (k+2):=by
  obtain⟨u,hu,eu⟩:=sJ0 (t:=uC6 t lab d) t.2.2.1 (List.mem_append_left _ hs0);have:=uT3 i1 (q:=t.2.1) ⟨u,hu,by show u.1.1=_;rw[eu];exact e0⟩;have e:k+1+1=k+2:=by omega
  rw[e] at this;exact this
 have hu1:uP3 (addT t lab d)=0∧wX6 (addT t lab d)=(ent (addT t lab d) t.2.1,()):=by
  rcases (rG0 i1 (by omega)).2 with ⟨_,_,s,hs,es,ep⟩ | ⟨s,hs,es,_,_,e1,e2⟩
  ·have:=uniq i1.asc hs hn1' (es.trans hn1s.symm);subst this;exfalso;omega
  ·have:=uniq i1.asc hs hn1' (es.trans hn1s.symm);subst this;rw[hn1p] at e2;exact⟨e1,e2⟩
 have d2:wO6 (ent (addT t lab d) t.2.1)=wO6 t:=by
  obtain⟨u,hu,eu⟩:=sJ0 (t:=uC6 t lab d) t.2.2.1 (List.mem_append_left _ hs0);have hu':u∈(addT t lab d).1:=hu;rw[qD6 i1 hu' (by show u.1.1=_;rw[eu];exact e0),sY2 h hs0 e0];show u.1.2.2.2.1=s0.1.2.2.2.1;rw[eu]
 have clk2:(ent (addT t lab d) t.2.1).2.1=t.2.1:=rfl;have seenOld:∀ s∈(ent (addT t lab d) t.2.1).1,spar s=t.2.1→sid s=t.2.2.1∨seen s≤t.2.2.2.1:=fun s hs e=>by
  obtain⟨u,hu,eu,e1,e2⟩:=tH0 hs;have pu:=i1.pos u hu;have ne:sid u≠t.2.1:=fun q=>by
   rcases i1.par u hu with z|⟨v,hv,ev,lv⟩
   ·have:spar s=spar u:=by show s.1.2.1=u.1.2.1;rw[eu]
    omega
   ·have:spar s=spar u:=by show s.1.2.1=u.1.2.1;rw[eu]
    omega
  rw[e2 ne];obtain⟨w,hw,ew,f1,f2⟩:=tH0 (t:=uC6 t lab d) (k:=t.2.2.1) hu;rcases List.mem_append.1 hw with q|q
  ·have pw:=h.pos w q;have:u=w:=f2 (by omega);rw[this];exact .inr (h.sn w q).2
  ·rw[List.mem_singleton] at q;subst q;left;show u.1.1=_;rw[ew];rfl
 have seenNew:∃ s∈(ent (addT t lab d) t.2.1).1,sid s=t.2.2.1∧spar s=t.2.1∧t.2.2.2.1<seen s:=by
  obtain⟨w,hw,ew,f1,f2⟩:=tH0 (t:=uC6 t lab d) (k:=t.2.2.1) hn1;have hs1:seen n1=t.2.2.2.1+1:=f1 (by show w.1.1=_;rw[← ew];exact hn1s);refine⟨n1,List.mem_map.2 ⟨n1,hn1',if_neg ?_⟩,hn1s,hn1p,by omega⟩;rw[hn1s];omega
 obtain⟨ns,hns,ns1,ns2,ns3⟩:=seenNew;have hr:uP4 (ent (addT t lab d) t.2.1)=0∧wX7 (ent (addT t lab d) t.2.1)=(ent (ent (addT t lab d) t.2.1) t.2.2.1,()):=by
  have c0:=h.clk;rcases (rG1 i2 (by omega)).2 with ⟨_,_,no⟩ | ⟨s,hs,es,_,mx,e1,e2⟩
  ·have:=no ns hns (ns2.trans clk2.symm);exfalso;omega
  ·have m:=mx ns hns (ns2.trans clk2.symm);rcases seenOld s hs (es.trans clk2) with q|q
   ·rw[q] at e2;exact⟨e1,e2⟩
   ·exfalso;omega
 have i3:Inv (ent (ent (addT t lab d) t.2.1) t.2.2.1) (k+3):=by
  have:=uT3 i2 (q:=t.2.2.1) ⟨ns,hns,ns1⟩;have e:k+2+1=k+3:=by omega
  rw[e] at this;exact this
 have d3:wO6 (ent (ent (addT t lab d) t.2.1) t.2.2.1)=d:=by
  rw[qD6 i2 hns ns1];obtain⟨u,hu,eu,_⟩:=tH0 hns;have hs':sid u=t.2.2.1:=by show u.1.1=_;rw[← eu];exact ns1
  have:=uniq i1.asc hu hn1' (hs'.trans hn1s.symm);show ns.1.2.2.2.1=d;rw[eu,this];exact hn1d
 exact⟨_,_,_,rfl,i1,hnowa,d1,hu1.1,hu1.2,i2,clk2,d2,hr.1,hr.2,i3,rfl,d3⟩
end Go.Proofs.YtofmmkikplmlpaaGreatDoor.Am
namespace Go.Proofs.YtofmmkikplmlpaaGreatDoor.Am
open Go Go.Am
theorem qN3 {d e:D28}{ops:List D50}(h11:f8=true)(h11k:tB1)(hw:Ty.wf T28 d)(hz:DocSz d)(hw':Ty.wf T28 e)(hz':DocSz e)(ho:∀ o∈ops,OpOk o)(hn:len ops≤8999900):f3_ok d ops e∧f3 d ops e=true:=by
 obtain⟨p1,p2⟩:=sO9 hw hz ho (by omega);have hk0:=sO5 hw;have hk1:=sO5 hw';rcases p2 with ⟨c,q⟩ | ⟨gd,q,t,qo,iv,_⟩
 ·have c':(f9 d !=0)=true:=by simpa using c
  have cc:(f9 d==f9 d)=true:=by simp
  simp only[f3_ok,f3,f3t,q,h11,c',cc,Bool.not_true,cond_false,cond_true];simp[p1,h11k,hk0]
 have hnn:=wF ops;obtain⟨a1,a2⟩:=tL6 iv;obtain⟨b1,b2,b3⟩:=uP9 iv;have wfd:=rK5 iv;have self1:=vX4 _ wfd;have ok1:=tH1 _ _ wfd wfd;obtain⟨k1,k2⟩:=sX9 (lab:=[110,101,120,116]) iv (by omega) hw' hz';rcases k2 with ⟨r1,r2,r3,r4⟩ | ⟨r1,r2,r3,r4,r5⟩
 ·have r4':=r4 (by kernel_rfl);have r1':((vB2 t [110,101,120,116] e).2.1 !=0)=true:=by simpa using r1
  have r5:(bif (bif (f9 e==(vB2 t [110,101,120,116] e).2.1) then true else ((vB2 t [110,101,120,116] e).2.1==22)) then true else ((vB2 t [110,101,120,116] e).2.1==3))=true:=by
   rcases r4' with w|w|w<;>simp[w]
  obtain⟨l,nw,nxt,clk,⟨⟩⟩:=t;simp only at a1 a2 b1 b3 k1 r1' r2 r3 r5;simp only[f3_ok,f3,f3t,q,qo,h11,r1',r2,r3,r5,a2,b3,self1,beq_self_eq_true,Bool.not_true,Bool.not_false,cond_false,cond_true,bne_self_eq_false];simp[p1,h11k,a1,b1,k1,ok1,hk1]
 ·obtain⟨t1,t2,t3,z,i1,n1,d1,u1,u2,i2,n2,d2,s1,s2,i3,n3,d3⟩:=qD7 (lab:=[110,101,120,116]) iv (by omega) r3 r4 r5;rw[z] at r2;obtain⟨a3,a4⟩:=tL6 i1;obtain⟨a5,a6⟩:=tL6 i2;obtain⟨a7,a8⟩:=tL6 i3;obtain⟨c1,_,c2⟩:=uP9 i1;obtain⟨c3,_,c4⟩:=uP9 i2;obtain⟨c5,_,c6⟩:=uP9 i3;have ku:=(rG0 i1 (by omega)).1;have kr:=(rG1 i2 (by omega)).1;have selfe:=vX4 _ hw';have oke:=tH1 _ _ hw' hw';obtain⟨s0,hs0,e0⟩:=iv.now;have lt:=(iv.pos s0 hs0).2;rw[e0] at lt;rw[n1] at a4;rw[n2] at a6;rw[n3] at a8;have le:decide (t.2.2.1≤t.2.1)=false:=decide_eq_false (by omega);obtain⟨l,nw,nxt,clk,⟨⟩⟩:=t;obtain⟨l1,nw1,nxt1,clk1,⟨⟩⟩:=t1;obtain⟨l2,nw2,nxt2,clk2,⟨⟩⟩:=t2;obtain⟨l3,nw3,nxt3,clk3,⟨⟩⟩:=t3;simp only at a1 a2 a4 a6 a8 b1 b3 k1 r1 le;simp only[f3_ok,f3,f3t,q,qo,h11,r1,r2,a2,a4,a6,a8,b3,c2,c4,d1,d2,d3,u1,u2,s1,s2,le,self1,selfe,beq_self_eq_true,Bool.not_true,Bool.not_false,cond_false,cond_true,bne_self_eq_false];simp[p1,h11k,a1,b1,k1,ok1,hk1,a3,a5,a7,c1,c3,c5,ku,kr,oke]
end Go.Proofs.YtofmmkikplmlpaaGreatDoor.Am
namespace Go.Proofs.YtofmmkikplmlpaaGreatDoor.Am
open Go Go.Am
theorem qD8 (a b:List Int)(ha:len a<9223372036854775808):tB a b∧(a=b→f21 a b=true):=by
 constructor
 ·intro h10;have h10:(!(len a !=len b))=true:=h10;have hl:len a=len b:=by simpa using h10
  refine wG8 (wF a) ha (fun _ h=>wL6 h) (fun _=>rfl) fun x h1 _=>fun h3=>?_;have h4:x.1<len a:=of_decide_eq_true h3;exact⟨⟨h1,h4⟩,⟨h1,by rw[← hl];exact h4⟩,fun _=>wL (by omega) (by omega)⟩
 ·rintro rfl;obtain⟨j,h1,h2,h3,h4,h5⟩:=wK7 (g:=tA9 (a,a,len a,())) (next:=vQ3 (a,a,len a,())) (n:=len a) (c:=fun i=>nth a i (0:Int)!=nth a i (0:Int)) (wF _) ha (fun _=>rfl) (fun _=>rfl)
  have e1:tZ0 (a,a,len a,()) (zB9 (tA9 (a,a,len a,())) (vQ3 (a,a,len a,())) ((0:Int),()))=false:=by
   rw[h3];show (decide (j<len a)&&(nth a j (0:Int)!=nth a j (0:Int)))=false;simp
  simp only[f21,f21t,bne_self_eq_false,cond_false,e1]
theorem qD9 (l:List Int)(q:Int)(hl:len l<9223372036854775808):uJ9 l q∧(f22 l q=true↔q∈l):=by
 have ln:(l.length:Int)=len l:=rfl;constructor
 ·refine wG8 (wF l) hl (fun _ h=>wL6 h) (fun _=>rfl) fun x h1 _=>fun h3=>?_;have h4:x.1<len l:=of_decide_eq_true h3;exact⟨⟨h1,h4⟩,fun _=>wL (by omega) (by omega)⟩
 ·obtain⟨j,h1,h2,h3,h4,h5⟩:=wK7 (g:=tN2 (l,q,len l,())) (next:=uC4 (l,q,len l,())) (n:=len l) (c:=fun i=>q==nth l i (0:Int)) (wF _) hl (fun _=>rfl) (fun _=>rfl)
  have ev:f50 l q=bif (decide (j<len l)&&(q==nth l j (0:Int))) then j else -1:=by
   show (bif sA4 _ _ then uS6 _ _ else (-1:Int))=_;rw[h3];rfl
  show (decide (f50 l q≥0))=true↔q∈l;rw[ev];by_cases hj:j<len l
  ·have h6:=h5 hj;have h6:(q==nth l j (0:Int))=true:=h6;rw[decide_eq_true hj,h6];have e:q=nth l j (0:Int):=by simpa using h6
   have hm:q∈l:=by rw[e];exact wM ⟨h1,hj⟩
   simp[hm,h1]
  ·rw[decide_eq_false hj];have hn:q∉l:=fun hm=>by
    obtain⟨i,hi,e⟩:=List.getElem_of_mem hm;have:=h4 (i:Int) (by omega) (by omega);have this:(q==nth l (i:Int) (0:Int))=false:=this;rw[wV0 hi,e] at this;simp at this
   simp[hn]
end Go.Proofs.YtofmmkikplmlpaaGreatDoor.Am
namespace Go.Proofs.YtofmmkikplmlpaaGreatDoor.Am
open Go Go.Am
theorem qE {t:D70}{k:Int}{g a b:List Int}(iv:Inv t k)(hg:∀ q∈g,(∀ s∈t.1,sid s≠q)∧q∈a)(ha:len a<9223372036854775808)(hl:len g<9223372036854775808) :
  xB7 (vT ((),a,b,g,len g,())) (wU7 ((),a,b,g,len g,())) (tB6 ((),a,b,g,len g,())) (0,t,())∧zB9 (vT ((),a,b,g,len g,())) (wU7 ((),a,b,g,len g,())) (0,t,())=(len g,t,()):=by
 have h0:=wF g;have at':∀ i:Int,0≤i→i<len g→wP8 t (nth g i (0:Int))∧wM5 t (nth g i (0:Int))=(t,())∧((wM0 t (nth g i (0:Int))).2.1 !=9)=false∧uJ9 a (nth g i (0:Int))∧f22 a (nth g i (0:Int))=true:=fun i h1 h2=>by
  have hm:=hg _ (wM (d:=(0:Int)) ⟨h1,h2⟩);obtain⟨s1,s2,s3⟩:=tO0 (q:=nth g i (0:Int)) iv;obtain⟨c1,c2⟩:=qD9 a (nth g i (0:Int)) ha;refine⟨s1,s2,?_,c1,c2.2 hm.2⟩;rcases s3 with ⟨e,_⟩ | ⟨s,hs,e,_⟩
  ·rw[e];rfl
  ·exact absurd e (hm.1 s hs)
 have hG:∀ x:wX8,vT ((),a,b,g,len g,()) x=(decide (x.1<len g)&&!(bif ((wM0 x.2.1 (nth g x.1 (0:Int))).2.1 !=9) then true else !(f22 a (nth g x.1 (0:Int))))):=fun _=>rfl;have hX:∀ x:wX8,wU7 ((),a,b,g,len g,()) x=(x.1+1,(wM5 x.2.1 (nth g x.1 (0:Int))).1,()):=fun _=>rfl;obtain⟨w1,w2,w3⟩:=whole (g:=vT ((),a,b,g,len g,())) (next:=wU7 ((),a,b,g,len g,())) (ok:=tB6 ((),a,b,g,len g,())) (fun x=>0≤x.1∧x.1≤len g∧x.2.1=t) (fun x=>(len g-x.1).toNat)
  (fun x ⟨p1,p2,p3⟩=>fun q=>by
   have q':x.1<len g:=of_decide_eq_true q;obtain⟨o1,o2,o3,o4,o5⟩:=at' x.1 p1 q';have p3':(x.2.1.1,x.2.1.2.1,x.2.1.2.2.1,x.2.1.2.2.2.1,())=t:=p3;exact⟨⟨p1,q'⟩,by rw[p3'];exact o1,fun _=>o4,fun _=>wL (by omega) (by omega)⟩)
  (fun x ⟨p1,p2,p3⟩ hgx=>by
   rw[hG,Bool.and_eq_true] at hgx;have q':x.1<len g:=of_decide_eq_true hgx.1;obtain⟨o1,o2,o3,o4,o5⟩:=at' x.1 p1 q';rw[hX,p3,o2];exact⟨⟨by show 0≤x.1+1;omega,by show x.1+1≤_;omega,rfl⟩,by show (len g-(x.1+1)).toNat<(len g-x.1).toNat;omega⟩)
  (x:=((0:Int),t,())) ⟨Int.le_refl _,h0,rfl⟩ (uO4 (by show (len g-0).toNat≤_;omega))
 refine⟨w1,?_⟩;rw[hG] at w3;generalize zB9 (vT ((),a,b,g,len g,())) (wU7 ((),a,b,g,len g,())) ((0:Int),t,())=x at *;obtain⟨i,u,⟨⟩⟩:=x;obtain⟨p1,p2,p3⟩:=w2;have p3:u=t:=p3;subst p3;have p1:0≤i:=p1;have p2:i≤len g:=p2;cases q:decide (i<len g) with
 |true =>
  obtain⟨o1,o2,o3,o4,o5⟩:=at' i p1 (of_decide_eq_true q);simp only[q,o3,o5,cond_false,Bool.not_true,Bool.not_false,Bool.and_self] at w3;exact absurd w3 (by decide)
 |false =>
  have:¬ i<len g:=of_decide_eq_false q;have:i=len g:=by omega
  rw[this]
theorem qN4 {t:D70}{k:Int}(h:Inv t k):∃ j:Nat,∃ hj:j<t.1.length,spar t.1[j]=0:=by
 have hp:0<t.1.length:=List.length_pos_iff.2 h.ne;refine⟨0,hp,?_⟩;rcases h.par _ (List.getElem_mem hp) with q|⟨u,hu,_,l⟩
 ·exact q
 ·obtain⟨i,hi,rfl⟩:=List.getElem_of_mem hu;rcases Nat.eq_zero_or_pos i with z|z
  ·subst z;omega
  ·have:=List.pairwise_iff_getElem.1 h.asc 0 i hp hi z;omega
def sY3 (t:D70)(c i:Int):Prop:=(c=0∧∀ j:Nat,∀ h:j<t.1.length,(j:Int)<i→spar t.1[j]≠0)∨(c=1∧∃ j:Nat,∃ h:j<t.1.length,(j:Int)<i∧spar t.1[j]=0)
theorem qN5 {t:D70}{k:Int}(h:Inv t k){i j:Nat}(hi:i<t.1.length)(hj:j<t.1.length)(e1:spar t.1[i]=0)(e2:spar t.1[j]=0):i=j:=by
 have e:=h.root _ (List.getElem_mem hi) _ (List.getElem_mem hj) e1 e2;rcases Nat.lt_trichotomy i j with q|q|q
 ·have:=List.pairwise_iff_getElem.1 h.asc i j hi hj q;omega
 ·exact q
 ·have:=List.pairwise_iff_getElem.1 h.asc j i hj hi q;omega
theorem qE0 {t:D70}{k:Int}(iv:Inv t k) :
  xB7 (vT1 ((),t.1.map sid,t.1.map sid,len (t.1.map sid),())) (wU8 ((),t.1.map sid,t.1.map sid,len (t.1.map sid),())) (tB7 ((),t.1.map sid,t.1.map sid,len (t.1.map sid),())) (0,0,t,()) ∧
  zB9 (vT1 ((),t.1.map sid,t.1.map sid,len (t.1.map sid),())) (wU8 ((),t.1.map sid,t.1.map sid,len (t.1.map sid),())) (0,0,t,())=(1,len (t.1.map sid),t,()):=by
 have el:len (t.1.map sid)=len t.1:=by simp[len]
 have ln:(t.1.length:Int)=len t.1:=rfl;have hf:=iv.few;have h0:=wF t.1;have at':∀ i:Int,0≤i→i<len (t.1.map sid)→∃ j:Nat,∃ hj:j<t.1.length,i=(j:Int)∧wP8 t (nth (t.1.map sid) i (0:Int))∧wM5 t (nth (t.1.map sid) i (0:Int))=(t,())∧wM0 t (nth (t.1.map sid) i (0:Int))=(t.1[j].1,0,()) ∧
   (spar t.1[j]=0∨(spar t.1[j]==0)=false∧uJ9 (t.1.map sid) (spar t.1[j])∧f22 (t.1.map sid) (spar t.1[j])=true∧tK7 t (spar t.1[j])∧uJ9 (f23 t (spar t.1[j])) (nth (t.1.map sid) i (0:Int))∧f22 (f23 t (spar t.1[j])) (nth (t.1.map sid) i (0:Int))=true):=fun i h1 h2=>by
  rw[el] at h2;have hi:i.toNat<t.1.length:=by omega
  have ei:i=(i.toNat:Int):=by omega
  have e0:nth (t.1.map sid) (i.toNat:Int) (0:Int)=sid t.1[i.toNat]:=by rw[wV0 (by simpa using hi)];simp
  have e:nth (t.1.map sid) i (0:Int)=sid t.1[i.toNat]:=by rw[← ei] at e0;exact e0
  have hm:=List.getElem_mem hi;obtain⟨s1,s2,s3⟩:=tO0 (q:=sid t.1[i.toNat]) iv;rw[e];refine⟨i.toNat,hi,ei,s1,s2,?_,?_⟩
  ·rcases s3 with ⟨_,no⟩ | ⟨s,hs,es,e'⟩
   ·exact absurd rfl (no _ hm)
   ·rw[e',uniq iv.asc hs hm es]
  ·rcases iv.par _ hm with q|⟨u,hu,e1,e2⟩
   ·exact .inl q
   ·right;have pu:=(iv.pos u hu).1;have hk:=(sO7 iv).2 ⟨u,hu,e1⟩;have c1:=qD9 (t.1.map sid) (spar t.1[i.toNat]) (by omega);have c2:=qD9 (f23 t (spar t.1[i.toNat])) (sid t.1[i.toNat]) (by
     rw[hk];have:((t.1.filter (fun s=>spar s==spar t.1[i.toNat])).map sid).length≤t.1.length:=by rw[List.length_map];exact List.length_filter_le _ _
     unfold len;omega)
    refine⟨by simp only[beq_eq_false_iff_ne];omega,c1.1,c1.2.2 (List.mem_map.2 ⟨u,hu,e1⟩),(sO7 iv).1,c2.1,c2.2.2 ?_⟩;rw[hk];exact List.mem_map.2 ⟨_,List.mem_filter.2 ⟨hm,by simp⟩,rfl⟩
 have hG:∀ x:wX9,vT1 ((),t.1.map sid,t.1.map sid,len (t.1.map sid),()) x=(decide (x.2.1<len (t.1.map sid))&&((!((wM0 x.2.2.1 (nth (t.1.map sid) x.2.1 (0:Int))).2.1 !=0))&&(bif ((wM0 x.2.2.1 (nth (t.1.map sid) x.2.1 (0:Int))).1.2.1==0) then true else
   !(bif !(f22 (t.1.map sid) (wM0 x.2.2.1 (nth (t.1.map sid) x.2.1 (0:Int))).1.2.1) then true else !(f22 (f23 (wM5 x.2.2.1 (nth (t.1.map sid) x.2.1 (0:Int))).1 (wM0 x.2.2.1 (nth (t.1.map sid) x.2.1 (0:Int))).1.2.1) (nth (t.1.map sid) x.2.1 (0:Int))))))):=fun _=>rfl
 have hX:∀ x:wX9,wU8 ((),t.1.map sid,t.1.map sid,len (t.1.map sid),()) x=((bif ((wM0 x.2.2.1 (nth (t.1.map sid) x.2.1 (0:Int))).1.2.1==0) then x.1+1 else x.1),x.2.1+1,(wM5 x.2.2.1 (nth (t.1.map sid) x.2.1 (0:Int))).1,()):=fun _=>rfl;have step:∀ (c i:Int) (j:Nat) (hj:j<t.1.length),i=(j:Int)→sY3 t c i→sY3 t (bif (spar t.1[j]==0) then c+1 else c) (i+1):=fun c i j hj ei hr=>by
  subst ei;cases z:(spar t.1[j]==0) with
  |true =>
   have z:spar t.1[j]=0:=by simpa using z
   rcases hr with ⟨e,_⟩ | ⟨e,u,hu,l,eu⟩
   ·exact .inr ⟨by simp[e],j,hj,by omega,z⟩
   ·have:=qN5 iv hu hj eu z;omega
  |false =>
   have z:spar t.1[j]≠0:=by simpa using z
   rcases hr with ⟨e,no⟩ | ⟨e,u,hu,l,eu⟩
   ·exact .inl ⟨e,fun v hv lv=>by
     by_cases q:v=j
     ·subst q;exact z
     ·exact no v hv (by omega)⟩
   ·exact .inr ⟨e,u,hu,by omega,eu⟩
 have big:∀ c i,sY3 t c i→0≤c∧c≤1:=fun c i hr=>by rcases hr with ⟨e,_⟩ | ⟨e,_⟩<;>omega
 obtain⟨w1,w2,w3⟩:=whole (g:=vT1 ((),t.1.map sid,t.1.map sid,len (t.1.map sid),())) (next:=wU8 ((),t.1.map sid,t.1.map sid,len (t.1.map sid),())) (ok:=tB7 ((),t.1.map sid,t.1.map sid,len (t.1.map sid),()))
  (fun x=>0≤x.2.1∧x.2.1≤len (t.1.map sid)∧x.2.2.1=t∧sY3 t x.1 x.2.1) (fun x=>(len (t.1.map sid)-x.2.1).toNat)
  (fun x ⟨p1,p2,p3,p4⟩=>fun q=>by
   have q':x.2.1<len (t.1.map sid):=of_decide_eq_true q;obtain⟨j,hj,ei,o1,o2,o3,o4⟩:=at' x.2.1 p1 q';have p3':(x.2.2.1.1,x.2.2.1.2.1,x.2.2.1.2.2.1,x.2.2.1.2.2.2.1,())=t:=p3;have bb:=big _ _ p4;refine⟨⟨p1,q'⟩,by rw[p3'];exact o1,fun _=>⟨fun _=>wL (by omega) (by omega),?_⟩,fun _=>wL (by omega) (by omega)⟩;rw[p3',o3];rcases o4 with z|⟨z,b1,b2,b3,b4,b5⟩
   ·intro f;have f:(spar t.1[j]==0)=false:=f;rw[z] at f;exact absurd f (by decide)
   ·exact fun _=>⟨b1,fun _=>by rw[o2];exact b3,fun _=>by rw[o2];exact b4⟩)
  (fun x ⟨p1,p2,p3,p4⟩ hgx=>by
   rw[hG,Bool.and_eq_true] at hgx;have q':x.2.1<len (t.1.map sid):=of_decide_eq_true hgx.1;obtain⟨j,hj,ei,o1,o2,o3,o4⟩:=at' x.2.1 p1 q';rw[hX,p3,o2,o3];exact⟨⟨by show 0≤x.2.1+1;omega,by show x.2.1+1≤_;omega,rfl,step _ _ j hj ei p4⟩,by show (len (t.1.map sid)-(x.2.1+1)).toNat<(len (t.1.map sid)-x.2.1).toNat;omega⟩)
  (x:=((0:Int),(0:Int),t,())) ⟨Int.le_refl _,wF _,rfl,.inl ⟨rfl,fun j hj l=>absurd (show (j:Int)<0 from l) (by omega)⟩⟩ (uO4 (by show (len (t.1.map sid)-0).toNat≤_;omega))
 refine⟨w1,?_⟩;rw[hG] at w3;generalize zB9 (vT1 ((),t.1.map sid,t.1.map sid,len (t.1.map sid),())) (wU8 ((),t.1.map sid,t.1.map sid,len (t.1.map sid),())) ((0:Int),(0:Int),t,())=x at *;obtain⟨c,i,u,⟨⟩⟩:=x;obtain⟨p1,p2,p3,p4⟩:=w2;have p3:u=t:=p3;subst p3;have p1:0≤i:=p1;have p2:i≤len (u.1.map sid):=p2;have p4:sY3 u c i:=p4;cases q:decide (i<len (u.1.map sid)) with
 |true =>
  obtain⟨j,hj,ei,o1,o2,o3,o4⟩:=at' i p1 (of_decide_eq_true q);rcases o4 with z|⟨z,b1,b2,b3,b4,b5⟩
  ·have z':(u.1[j].1.2.1==0)=true:=by simpa using z
   simp only[q,o3,z',cond_true,Bool.and_true,bne_self_eq_false,Bool.not_false] at w3;exact absurd w3 (by decide)
  ·have z':(u.1[j].1.2.1==0)=false:=z;simp only[q,o2,o3,z',b2,b5,cond_false,Bool.not_true,Bool.and_true,bne_self_eq_false,Bool.not_false] at w3;exact absurd w3 (by decide)
 |false =>
  have:¬ i<len (u.1.map sid):=of_decide_eq_false q;have e:i=len (u.1.map sid):=by omega
  subst e;rcases p4 with ⟨_,no⟩ | ⟨e,_⟩
  ·obtain⟨j,hj,z⟩:=qN4 iv;exact absurd z (no j hj (by omega))
  ·rw[e]
end Go.Proofs.YtofmmkikplmlpaaGreatDoor.Am
namespace Go.Proofs.YtofmmkikplmlpaaGreatDoor.Am
open Go Go.Am
theorem qN6 {t t':D70}{k k':Int}(h:Inv t k)(h':Inv t' k')(l:Less t t'):wO6 t'=wO6 t:=by
 obtain⟨s,hs,e⟩:=h'.now;obtain⟨u,hu,e1,e2,_⟩:=l.old s hs;rw[sY2 h' hs e,sY2 h hu (by rw[← e1,e,l.now])];show s.1.2.2.2.1=u.1.2.2.2.1;rw[e2]
theorem qE1 {d:D28}{n:Int}{ops:List D50}(h11:f8=true)(h11k:tB1)(hw:Ty.wf T28 d)(hz:DocSz d)(ho:∀ o∈ops,OpOk o)(hn:len ops≤8999900):f5_ok d ops n∧f5 d ops n=true:=by
 obtain⟨p1,p2⟩:=sO9 hw hz ho (by omega);rcases p2 with ⟨c,q⟩ | ⟨gd,q,t,qo,iv,_⟩
 ·have c':(f9 d !=0)=true:=by simpa using c
  simp only[f5_ok,f5,f5t,q,h11,c',Bool.not_true,cond_false,cond_true];simp[p1,h11k]
 have hnn:=wF ops;obtain⟨a1,a2⟩:=tL6 iv;obtain⟨b1,b2,b3⟩:=uP9 iv;obtain⟨i1,i2⟩:=sJ3 iv;have el:len (t.1.map sid)=len t.1:=by simp[len]
 have hf:=iv.few;obtain⟨g1,g2⟩:=rK4 (n:=n) iv;rcases g2 with ⟨l1,r1,r2⟩ | ⟨l1,t',g,r1,r2,pi,sz⟩
 ·have hd:decide (n<1)=true:=decide_eq_true l1;obtain⟨e1,e2⟩:=qD8 (t.1.map sid) (t.1.map sid) (by omega);have e3:=e2 rfl;obtain⟨l,nw,nxt,clk,⟨⟩⟩:=t;have z:((len ([]:List Int))==0)=true:=rfl;simp only at a1 a2 b1 b3 i1 i2 g1 r1 r2 e1 e3;simp only[f5_ok,f5,f5t,q,qo,h11,a2,b3,i2,r1,r2,hd,z,e3,beq_self_eq_true,Bool.not_true,Bool.not_false,cond_false,cond_true,bne_self_eq_false];simp[p1,h11k,a1,b1,i1,g1,e1]
 ·have hd:decide (n<1)=false:=decide_eq_false (by omega);have iv':=pi.inv;obtain⟨a3,a4⟩:=tL6 iv';obtain⟨b4,_,b5⟩:=uP9 iv';obtain⟨i3,i4⟩:=sJ3 iv';have wfd:=rK5 iv;have dd:=qN6 iv iv' pi.less;have self1:=vX4 _ wfd;have ok1:=tH1 _ _ wfd wfd;have el':len (t'.1.map sid)=len t'.1:=by simp[len]
  have hf':=iv'.few;have h0:=wF t'.1;have h1:=wF t.1;have h2:=wF g;have hc:=pi.cnt;have n1:t'.2.1=t.2.1:=pi.less.now;rw[n1] at a4;obtain⟨m1,m2⟩:=qE (a:=t.1.map sid) (b:=t'.1.map sid) iv' (fun q hq=>⟨(pi.gone q hq).2,by obtain⟨s,hs,e⟩:=(pi.gone q hq).1;exact List.mem_map.2 ⟨s,hs,e⟩⟩) (by omega) (by omega);obtain⟨m3,m4⟩:=qE0 iv';have z1:(len (t'.1.map sid)!=wI6 n (len (t.1.map sid)))=false:=by
   rw[el,el'];have:wI6 n (len t.1)=len t'.1:=by
    unfold wI6;rcases sz with e|⟨e,e'⟩
    ·split<;>omega
    ·split<;>omega
   rw[this];simp
  have z2:(len g !=len (t.1.map sid)-len (t'.1.map sid))=false:=by rw[el,el',hc];simp
  have z3:InR (len (t.1.map sid)-len (t'.1.map sid)):=wL (by omega) (by omega);have z4:decide (len g<len g)=false:=decide_eq_false (by omega);have z5:sA6 ((),t.1.map sid,t'.1.map sid,g,len g,()) (len g,t',())=false:=by
   show (decide (len g<len g)&&_)=false;rw[z4];rfl
  have z6:sB ((),t'.1.map sid,t'.1.map sid,len (t'.1.map sid),()) (1,len (t'.1.map sid),t',())=false:=by
   show (decide (len (t'.1.map sid)<len (t'.1.map sid))&&_)=false;rw[decide_eq_false (by omega)];rfl
  have z7:uS7 ((),t.1.map sid,t'.1.map sid,g,len g,()) (len g,t',())=t':=rfl;have z8:uS8 ((),t'.1.map sid,t'.1.map sid,len (t'.1.map sid),()) (1,len (t'.1.map sid),t',())=1:=rfl;obtain⟨l,nw,nxt,clk,⟨⟩⟩:=t;obtain⟨l',nw',nxt',clk',⟨⟩⟩:=t';simp only at a1 a2 a3 a4 b1 b3 b4 b5 i1 i2 i3 i4 g1 r1 r2 dd m1 m2 m3 m4 z1 z2 z3 z5 z6 z7 z8;simp only[f5_ok,f5,f5t,q,qo,h11,a2,a4,b3,b5,i2,i4,r1,r2,hd,dd,self1,z1,z2,m2,z5,z7,m4,z6,z8,beq_self_eq_true,Bool.not_true,Bool.not_false,cond_false,cond_true,bne_self_eq_false];simp[p1,h11k,a1,a3,b1,b4,i1,i3,g1,ok1,z3,m1,m3]
end Go.Proofs.YtofmmkikplmlpaaGreatDoor.Am
namespace Go.Proofs.YtofmmkikplmlpaaGreatDoor.Am
open Go Go.Am
theorem qE2 {t:D70}{i:Int}(h1:0≤i)(h2:i<len t.1):∃ j:Nat,∃ hj:j<t.1.length,i=(j:Int)∧nth (t.1.map sid) i (0:Int)=sid t.1[j]∧nth (t.1.map (·.1)) i Z50=t.1[j].1:=by
 have ln:(t.1.length:Int)=len t.1:=rfl;have hi:i.toNat<t.1.length:=by omega
 have ei:i=(i.toNat:Int):=by omega
 have e0:nth (t.1.map sid) (i.toNat:Int) (0:Int)=sid t.1[i.toNat]:=by rw[wV0 (by simpa using hi)];simp
 have e1:nth (t.1.map (·.1)) (i.toNat:Int) Z50=t.1[i.toNat].1:=by rw[wV0 (by simpa using hi)];simp
 rw[← ei] at e0 e1;exact⟨i.toNat,hi,ei,e0,e1⟩
theorem qE3 {t:D70}{k:Int}{p2:List D50}(iv:Inv t k) :
  xB7 (uJ8 (p2,(),t.1.map sid,len (t.1.map sid),())) (wZ1 (p2,(),t.1.map sid,len (t.1.map sid),())) (tN0 (p2,(),t.1.map sid,len (t.1.map sid),())) ([],0,0,t,()) ∧
  ∃ top,(∀ s∈t.1,sid s≤top)∧top<t.2.2.1∧zB9 (uJ8 (p2,(),t.1.map sid,len (t.1.map sid),())) (wZ1 (p2,(),t.1.map sid,len (t.1.map sid),())) ([],0,0,t,())=(t.1.map (·.1),top,len (t.1.map sid),t,()):=by
 have el:len (t.1.map sid)=len t.1:=by simp[len]
 have ln:(t.1.length:Int)=len t.1:=rfl;have hf:=iv.few;have at':∀ i:Int,0≤i→i<len (t.1.map sid)→∃ j:Nat,∃ hj:j<t.1.length,i=(j:Int)∧nth (t.1.map sid) i (0:Int)=sid t.1[j]∧wP8 t (nth (t.1.map sid) i (0:Int))∧wM5 t (nth (t.1.map sid) i (0:Int))=(t,())∧wM0 t (nth (t.1.map sid) i (0:Int))=(t.1[j].1,0,()):=fun i h1 h2=>by
  obtain⟨j,hj,ei,e,_⟩:=qE2 (t:=t) h1 (by omega);have hm:=List.getElem_mem hj;obtain⟨s1,s2,s3⟩:=tO0 (q:=sid t.1[j]) iv;rw[e];refine⟨j,hj,ei,rfl,s1,s2,?_⟩;rcases s3 with ⟨_,no⟩ | ⟨s,hs,es,e'⟩
  ·exact absurd rfl (no _ hm)
  ·rw[e',uniq iv.asc hs hm es]
 have hG:∀ x:vB5,uJ8 (p2,(),t.1.map sid,len (t.1.map sid),()) x=(decide (x.2.2.1<len (t.1.map sid))&&!((wM0 x.2.2.2.1 (nth (t.1.map sid) x.2.2.1 (0:Int))).2.1 !=0)):=fun _=>rfl;have hX:∀ x:vB5,wZ1 (p2,(),t.1.map sid,len (t.1.map sid),()) x=(x.1++[(wM0 x.2.2.2.1 (nth (t.1.map sid) x.2.2.1 (0:Int))).1],wI5 x.2.1 (nth (t.1.map sid) x.2.2.1 (0:Int)),x.2.2.1+1,(wM5 x.2.2.2.1 (nth (t.1.map sid) x.2.2.1 (0:Int))).1,()):=fun _=>rfl;have hn0:0<t.2.2.1:=by
  obtain⟨s,hs,_⟩:=iv.now;have:=iv.pos s hs;omega
 obtain⟨w1,w2,w3⟩:=whole (g:=uJ8 (p2,(),t.1.map sid,len (t.1.map sid),())) (next:=wZ1 (p2,(),t.1.map sid,len (t.1.map sid),())) (ok:=tN0 (p2,(),t.1.map sid,len (t.1.map sid),()))
  (fun x=>0≤x.2.2.1∧x.2.2.1≤len (t.1.map sid)∧x.2.2.2.1=t∧x.1=(t.1.take x.2.2.1.toNat).map (·.1)∧x.2.1<t.2.2.1∧∀ j:Nat,∀ hj:j<t.1.length,(j:Int)<x.2.2.1→sid t.1[j]≤x.2.1) (fun x=>(len (t.1.map sid)-x.2.2.1).toNat)
  (fun x ⟨p1,p2,p3,p4,p5,p6⟩=>fun q=>by
   have q':x.2.2.1<len (t.1.map sid):=of_decide_eq_true q;obtain⟨j,hj,ei,e,o1,o2,o3⟩:=at' x.2.2.1 p1 q';have p3':(x.2.2.2.1.1,x.2.2.2.1.2.1,x.2.2.2.1.2.2.1,x.2.2.2.1.2.2.2.1,())=t:=p3;refine⟨⟨p1,q'⟩,by rw[p3'];exact o1,fun _=>?_,fun _=>wL (by omega) (by omega)⟩;show ((List.length x.1+1:Nat):Int)≤4294967296;rw[p4,List.length_map,List.length_take];omega)
  (fun x ⟨p1,p2,p3,p4,p5,p6⟩ hgx=>by
   rw[hG,Bool.and_eq_true] at hgx;have q':x.2.2.1<len (t.1.map sid):=of_decide_eq_true hgx.1;obtain⟨j,hj,ei,e,o1,o2,o3⟩:=at' x.2.2.1 p1 q';have pj:=iv.pos _ (List.getElem_mem hj);have im:∀ a b:Int,a≤wI5 a b∧b≤wI5 a b∧(wI5 a b=a∨wI5 a b=b):=fun a b=>by unfold wI5;split<;>omega
   obtain⟨m1,m2,m3⟩:=im x.2.1 (sid t.1[j]);rw[hX,p3,o2,o3,e];refine⟨⟨by show 0≤x.2.2.1+1;omega,by show x.2.2.1+1≤_;omega,rfl,?_,?_,fun u hu lu=>?_⟩,by show (len (t.1.map sid)-(x.2.2.1+1)).toNat<(len (t.1.map sid)-x.2.2.1).toNat;omega⟩
   ·show x.1++[t.1[j].1]=(t.1.take (x.2.2.1+1).toNat).map (·.1);have e1:(x.2.2.1+1).toNat=j+1:=by omega
    have e2:x.2.2.1.toNat=j:=by omega
    rw[p4,e1,e2,List.take_succ_eq_append_getElem hj,List.map_append];rfl
   ·show wI5 x.2.1 (sid t.1[j])<t.2.2.1;rcases m3 with z|z<;>omega
   ·show sid t.1[u]≤wI5 x.2.1 (sid t.1[j]);have lu:(u:Int)<x.2.2.1+1:=lu;by_cases z:u=j
    ·subst z;exact m2
    ·have:=p6 u hu (by omega);omega)
  (x:=(([]:List D50),(0:Int),(0:Int),t,())) ⟨Int.le_refl _,wF _,rfl,rfl,hn0,fun j hj l=>absurd (show (j:Int)<0 from l) (by omega)⟩ (uO4 (by show (len (t.1.map sid)-0).toNat≤_;omega))
 refine⟨w1,?_⟩;rw[hG] at w3;generalize zB9 (uJ8 (p2,(),t.1.map sid,len (t.1.map sid),())) (wZ1 (p2,(),t.1.map sid,len (t.1.map sid),())) (([]:List D50),(0:Int),(0:Int),t,())=x at *;obtain⟨c,top,i,u,⟨⟩⟩:=x;obtain⟨p1,p2,p3,p4,p5,p6⟩:=w2;have p3:u=t:=p3;subst p3;have p1:0≤i:=p1;have p2:i≤len (u.1.map sid):=p2;have p4:c=(u.1.take i.toNat).map (·.1):=p4;cases q:decide (i<len (u.1.map sid)) with
 |true =>
  obtain⟨j,hj,ei,e,o1,o2,o3⟩:=at' i p1 (of_decide_eq_true q);simp only[q,o3,Bool.and_true,bne_self_eq_false,Bool.not_false] at w3;exact absurd w3 (by decide)
 |false =>
  have:¬ i<len (u.1.map sid):=of_decide_eq_false q;have e:i=len (u.1.map sid):=by omega
  have e2:i.toNat=u.1.length:=by omega
  rw[e2,List.take_length] at p4;refine⟨top,fun s hs=>?_,p5,by rw[p4,e]⟩;obtain⟨j,hj,rfl⟩:=List.getElem_of_mem hs;exact p6 j hj (by show (j:Int)<i;omega)
end Go.Proofs.YtofmmkikplmlpaaGreatDoor.Am
namespace Go.Proofs.YtofmmkikplmlpaaGreatDoor.Am
open Go Go.Am
theorem rP6 {u:D50}(h:Ty.wf T28 u.2.2.2.1):tZ u u∧f19 u u=true:=by
 have e:=vX4 _ h;have o:=tH1 _ _ h h;refine⟨fun _=>o,?_⟩;simp only[f19,f19t,beq_self_eq_true,cond_true,e]
def held (t2:D70)(s:D73):Bool:=(t2.1.map sid).contains (sid s)
def cntI (t t2:D70)(i:Nat):Int:=len ((t.1.take i).filter (held t2))
theorem qN7 {t t2:D70}{j:Nat}(hj:j<t.1.length):cntI t t2 (j+1)=bif held t2 t.1[j] then cntI t t2 j+1 else cntI t t2 j:=by
 unfold cntI;rw[List.take_succ_eq_append_getElem hj,List.filter_append];cases e:held t2 t.1[j]<;>simp[e,len]
theorem rP7 {t t2:D70}{k k2:Int}{top:Int}(iv:Inv t k)(iv2:Inv t2 k2)(kp:Keep t t2) :
  xB7 (vS7 (top,t.1.map (·.1),len (t.1.map (·.1)),())) (wU5 (top,t.1.map (·.1),len (t.1.map (·.1)),())) (tB2 (top,t.1.map (·.1),len (t.1.map (·.1)),())) (false,0,0,(true,t2),()) ∧
  zB9 (vS7 (top,t.1.map (·.1),len (t.1.map (·.1)),())) (wU5 (top,t.1.map (·.1),len (t.1.map (·.1)),())) (false,0,0,(true,t2),())=(false,cntI t t2 t.1.length,len (t.1.map (·.1)),(true,t2),()):=by
 have el:len (t.1.map (·.1))=len t.1:=by simp[len]
 have ln:(t.1.length:Int)=len t.1:=rfl;have hf:=iv.few;have at':∀ i:Int,0≤i→i<len (t.1.map (·.1))→∃ j:Nat,∃ hj:j<t.1.length,i=(j:Int)∧nth (t.1.map (·.1)) i Z50=t.1[j].1∧wP8 t2 t.1[j].1.1∧wM5 t2 t.1[j].1.1=(t2,()) ∧
   (((wM0 t2 t.1[j].1.1).2.1 !=0)=true∧held t2 t.1[j]=false∨((wM0 t2 t.1[j].1.1).2.1 !=0)=false∧held t2 t.1[j]=true∧tZ t.1[j].1 t.1[j].1∧f19 t.1[j].1 t.1[j].1=true ∧
    (bif (wM0 t2 t.1[j].1.1).1.2.1==0 then ((wM0 t2 t.1[j].1.1).1.1,t.1[j].1.2.1,(wM0 t2 t.1[j].1.1).1.2.2.1,(wM0 t2 t.1[j].1.1).1.2.2.2.1,()) else (wM0 t2 t.1[j].1.1).1)=t.1[j].1):=fun i h1 h2=>by
  obtain⟨j,hj,ei,_,e⟩:=qE2 (t:=t) h1 (by omega);have hm:=List.getElem_mem hj;obtain⟨s1,s2,s3⟩:=tO0 (q:=t.1[j].1.1) iv2;refine⟨j,hj,ei,e,s1,s2,?_⟩;rcases s3 with ⟨e9,no⟩ | ⟨s,hs,es,e'⟩
  ·left;refine⟨by rw[e9];rfl,?_⟩;unfold held;rw[Bool.eq_false_iff];intro q;rw[List.contains_iff_mem] at q;obtain⟨s,hs,es⟩:=List.mem_map.1 q;exact no s hs es
  ·right;obtain⟨f1,f2⟩:=rP6 (u:=t.1[j].1) (iv.doc _ hm).wf;refine⟨by rw[e'];rfl,?_,f1,f2,?_⟩
   ·unfold held;rw[List.contains_iff_mem];exact List.mem_map.2 ⟨s,hs,es⟩
   ·rw[e'];have pj:=(iv.pos _ hm).2;have es:sid s=sid t.1[j]:=es;rcases kp.old s hs with ⟨u,hu,e1,e2,e3⟩ | q
    ·have:=uniq iv.asc hu hm (e1.symm.trans es);subst this;obtain⟨⟨sa,sp,sr⟩,sm⟩:=s;generalize t.1[j]=u at *;obtain⟨⟨ua,up,ur⟩,um⟩:=u;have e1:sa=ua:=e1;have e2:sr=ur:=e2;have e3:sp=up∨sp=0:=e3;subst e1 e2;cases z:(sp==0) with
     |true=>simp only[cond_true]
     |false =>
      simp only[cond_false];rcases e3 with w|w
      ·have w:sp=up:=w;rw[w]
      ·have w:sp=0:=w;subst w;exact absurd z (by decide)
    ·omega
 have hG:∀ x:wS6,vS7 (top,t.1.map (·.1),len (t.1.map (·.1)),()) x=(decide (x.2.2.1<len (t.1.map (·.1)))&&(((wM0 x.2.2.2.1.2 (nth (t.1.map (·.1)) x.2.2.1 Z50).1).2.1 !=0)||((!((wM0 x.2.2.2.1.2 (nth (t.1.map (·.1)) x.2.2.1 Z50).1).2.1 !=0))&&(!(!(f19 (bif (wM0 x.2.2.2.1.2 (nth (t.1.map (·.1)) x.2.2.1 Z50).1).1.2.1==0 then ((wM0 x.2.2.2.1.2 (nth (t.1.map (·.1)) x.2.2.1 Z50).1).1.1,(nth (t.1.map (·.1)) x.2.2.1 Z50).2.1,(wM0 x.2.2.2.1.2 (nth (t.1.map (·.1)) x.2.2.1 Z50).1).1.2.2.1,(wM0 x.2.2.2.1.2 (nth (t.1.map (·.1)) x.2.2.1 Z50).1).1.2.2.2.1,()) else (wM0 x.2.2.2.1.2 (nth (t.1.map (·.1)) x.2.2.1 Z50).1).1) (nth (t.1.map (·.1)) x.2.2.1 Z50))))))):=fun _=>rfl;have hX:∀ x:wS6,wU5 (top,t.1.map (·.1),len (t.1.map (·.1)),()) x=(false,(bif ((wM0 x.2.2.2.1.2 (nth (t.1.map (·.1)) x.2.2.1 Z50).1).2.1 !=0) then x.2.1 else x.2.1+1),x.2.2.1+1,(true,((bif ((wM0 x.2.2.2.1.2 (nth (t.1.map (·.1)) x.2.2.1 Z50).1).2.1 !=0) then (wM5 x.2.2.2.1.2 (nth (t.1.map (·.1)) x.2.2.1 Z50).1).1.1 else (wM5 x.2.2.2.1.2 (nth (t.1.map (·.1)) x.2.2.1 Z50).1).1.1),(bif ((wM0 x.2.2.2.1.2 (nth (t.1.map (·.1)) x.2.2.1 Z50).1).2.1 !=0) then (wM5 x.2.2.2.1.2 (nth (t.1.map (·.1)) x.2.2.1 Z50).1).1.2.1 else (wM5 x.2.2.2.1.2 (nth (t.1.map (·.1)) x.2.2.1 Z50).1).1.2.1),(bif ((wM0 x.2.2.2.1.2 (nth (t.1.map (·.1)) x.2.2.1 Z50).1).2.1 !=0) then (wM5 x.2.2.2.1.2 (nth (t.1.map (·.1)) x.2.2.1 Z50).1).1.2.2.1 else (wM5 x.2.2.2.1.2 (nth (t.1.map (·.1)) x.2.2.1 Z50).1).1.2.2.1),(bif ((wM0 x.2.2.2.1.2 (nth (t.1.map (·.1)) x.2.2.1 Z50).1).2.1 !=0) then (wM5 x.2.2.2.1.2 (nth (t.1.map (·.1)) x.2.2.1 Z50).1).1.2.2.2.1 else (wM5 x.2.2.2.1.2 (nth (t.1.map (·.1)) x.2.2.1 Z50).1).1.2.2.2.1),())),()):=fun _=>rfl;have bnd:∀ i:Nat,0≤cntI t t2 i∧cntI t t2 i≤128:=fun i=>by
  unfold cntI len;have:((t.1.take i).filter (held t2)).length≤t.1.length:=Nat.le_trans (List.length_filter_le _ _) (by simp;omega);omega
 obtain⟨w1,w2,w3⟩:=whole (g:=vS7 (top,t.1.map (·.1),len (t.1.map (·.1)),())) (next:=wU5 (top,t.1.map (·.1),len (t.1.map (·.1)),())) (ok:=tB2 (top,t.1.map (·.1),len (t.1.map (·.1)),()))
  (fun x=>0≤x.2.2.1∧x.2.2.1≤len (t.1.map (·.1))∧x.1=false∧x.2.2.2.1=(true,t2)∧x.2.1=cntI t t2 x.2.2.1.toNat) (fun x=>(len (t.1.map (·.1))-x.2.2.1).toNat)
  (fun x ⟨p1,p2,p3,p4,p5⟩=>fun q=>by
   have q':x.2.2.1<len (t.1.map (·.1)):=of_decide_eq_true q;obtain⟨j,hj,ei,e,o1,o2,o4⟩:=at' x.2.2.1 p1 q';have p4':(x.2.2.2.1.2.1,x.2.2.2.1.2.2.1,x.2.2.2.1.2.2.2.1,x.2.2.2.1.2.2.2.2.1,())=t2:=by
    show x.2.2.2.1.2=t2;rw[p4]
   have bb:=bnd x.2.2.1.toNat;refine⟨⟨p1,q'⟩,p3,by rw[p4],?_,fun z=>⟨wL (by omega) (by omega),?_⟩,fun _=>wL (by omega) (by omega)⟩
   ·rw[p4',e];exact o1
   ·rw[p4',e] at z;rw[p4',e];rcases o4 with ⟨z1,_⟩ | ⟨z1,z2,z3,z4,z5⟩
    ·rw[z1] at z;exact absurd z (by decide)
    ·rw[z5];exact z3)
  (fun x ⟨p1,p2,p3,p4,p5⟩ hgx=>by
   rw[hG,Bool.and_eq_true] at hgx;have q':x.2.2.1<len (t.1.map (·.1)):=of_decide_eq_true hgx.1;obtain⟨j,hj,ei,e,o1,o2,o4⟩:=at' x.2.2.1 p1 q';have ej:x.2.2.1.toNat=j:=by omega
   have ej':(x.2.2.1+1).toNat=j+1:=by omega
   have hc:=qN7 (t2:=t2) hj;rw[hX,p4];show (0≤x.2.2.1+1∧x.2.2.1+1≤_∧false=false∧_=_∧_=cntI t t2 (x.2.2.1+1).toNat)∧(len (t.1.map (·.1))-(x.2.2.1+1)).toNat<(len (t.1.map (·.1))-x.2.2.1).toNat;refine⟨⟨by omega,by omega,rfl,?_,?_⟩,by omega⟩
   ·simp only[e,o2];rcases o4 with ⟨z1,_⟩ | ⟨z1,_⟩
    ·simp only[z1,cond_true]
    ·simp only[z1,cond_false]
   ·rw[ej',hc];rw[ej] at p5;simp only[e];rcases o4 with ⟨z1,z2⟩ | ⟨z1,z2,_⟩
    ·simp only[z1,z2,cond_true,cond_false];exact p5
    ·simp only[z1,z2,cond_true,cond_false];rw[p5])
  (x:=(false,(0:Int),(0:Int),(true,t2),())) ⟨Int.le_refl _,wF _,rfl,rfl,by show 0=cntI t t2 0;simp[cntI,len]⟩ (uO4 (by show (len (t.1.map (·.1))-0).toNat≤_;omega))
 refine⟨w1,?_⟩;rw[hG] at w3;generalize zB9 (vS7 (top,t.1.map (·.1),len (t.1.map (·.1)),())) (wU5 (top,t.1.map (·.1),len (t.1.map (·.1)),())) (false,(0:Int),(0:Int),(true,t2),())=x at *;obtain⟨b,c,i,u,⟨⟩⟩:=x;obtain⟨p1,p2,p3,p4,p5⟩:=w2;have p3:b=false:=p3;have p4:u=(true,t2):=p4;subst p3 p4;have p1:0≤i:=p1;have p2:i≤len (t.1.map (·.1)):=p2;have p5:c=cntI t t2 i.toNat:=p5;cases q:decide (i<len (t.1.map (·.1))) with
 |true =>
  obtain⟨j,hj,ei,e,o1,o2,o4⟩:=at' i p1 (of_decide_eq_true q);rcases o4 with ⟨z1,z2⟩ | ⟨z1,z2,z3,z4,z5⟩
  ·simp only[q,e,z1,Bool.true_or,Bool.and_self] at w3;exact absurd w3 (by decide)
  ·simp only[q,e,z1,z5,z4,Bool.false_or,Bool.not_false,Bool.not_true,Bool.and_self] at w3;exact absurd w3 (by decide)
 |false =>
  have:¬ i<len (t.1.map (·.1)):=of_decide_eq_false q;have e:i=len (t.1.map (·.1)):=by omega
  have e2:i.toNat=t.1.length:=by omega
  rw[p5,e2,e]
end Go.Proofs.YtofmmkikplmlpaaGreatDoor.Am
namespace Go.Proofs.YtofmmkikplmlpaaGreatDoor.Am
open Go Go.Am
def cut (top:Int)(l:List Int)(n:Nat):Int:=len ((l.take n).filter (fun q=>decide (q≤top)))
theorem qN8 {top:Int}{l:List Int}{n:Nat}(h:n<l.length):cut top l (n+1)=bif decide (l[n]≤top) then cut top l n+1 else cut top l n:=by
 unfold cut;rw[List.take_succ_eq_append_getElem h,List.filter_append];cases e:decide (l[n]≤top)<;>simp[e,len]
theorem qE4 {top c:Int}{l:List Int}(hl:len l≤128)(hc:0≤c∧c≤128) :
  xB7 (vS8 (top,l,len l,())) (wU6 (top,l,len l,())) (tB4 (top,l,len l,())) (c,0,()) ∧
  zB9 (vS8 (top,l,len l,())) (wU6 (top,l,len l,())) (c,0,())=(c-cut top l l.length,len l,()):=by
 have ln:(l.length:Int)=len l:=rfl;have hG:∀ x:vJ8,vS8 (top,l,len l,()) x=decide (x.2.1<len l):=fun _=>rfl;have hX:∀ x:vJ8,wU6 (top,l,len l,()) x=((bif decide ((nth l x.2.1 (0:Int))≤top) then x.1-1 else x.1),x.2.1+1,()):=fun _=>rfl;have bnd:∀ i:Nat,0≤cut top l i∧cut top l i≤128:=fun i=>by
  unfold cut;have:((l.take i).filter (fun q=>decide (q≤top))).length≤l.length:=Nat.le_trans (List.length_filter_le _ _) (by simp;omega);unfold len at *;omega
 obtain⟨w1,w2,w3⟩:=whole (g:=vS8 (top,l,len l,())) (next:=wU6 (top,l,len l,())) (ok:=tB4 (top,l,len l,()))
  (fun x=>0≤x.2.1∧x.2.1≤len l∧x.1=c-cut top l x.2.1.toNat) (fun x=>(len l-x.2.1).toNat)
  (fun x ⟨p1,p2,p3⟩=>fun q=>by
   have q':x.2.1<len l:=of_decide_eq_true q;have:=bnd x.2.1.toNat;exact⟨⟨p1,q'⟩,fun _=>wL (by omega) (by omega),wL (by omega) (by omega)⟩)
  (fun x ⟨p1,p2,p3⟩ hgx=>by
   rw[hG] at hgx;have q':=of_decide_eq_true hgx;have hi:x.2.1.toNat<l.length:=by omega
   have ei:x.2.1=(x.2.1.toNat:Int):=by omega
   have en:nth l (x.2.1.toNat:Int) (0:Int)=l[x.2.1.toNat]:=wV0 hi;rw[← ei] at en;have e1:(x.2.1+1).toNat=x.2.1.toNat+1:=by omega
   rw[hX];refine⟨⟨by show 0≤x.2.1+1;omega,by show x.2.1+1≤_;omega,?_⟩,by show (len l-(x.2.1+1)).toNat<(len l-x.2.1).toNat;omega⟩;show (bif decide ((nth l x.2.1 (0:Int))≤top) then x.1-1 else x.1)=c-cut top l (x.2.1+1).toNat;rw[e1,qN8 hi,en,p3];cases decide (l[x.2.1.toNat]≤top)
   ·rfl
   ·simp only[cond_true];omega)
  (x:=(c,(0:Int),())) ⟨Int.le_refl _,wF _,by show c=c-cut top l 0;simp[cut,len]⟩ (uO4 (by show (len l-0).toNat≤_;omega))
 refine⟨w1,?_⟩;rw[hG] at w3;generalize zB9 (vS8 (top,l,len l,())) (wU6 (top,l,len l,())) (c,(0:Int),())=x at *;obtain⟨a,i,⟨⟩⟩:=x;obtain⟨p1,p2,p3⟩:=w2;have p1:0≤i:=p1;have p2:i≤len l:=p2;have p3:a=c-cut top l i.toNat:=p3;have:¬ i<len l:=of_decide_eq_false w3;have e:i=len l:=by omega
 have e2:i.toNat=l.length:=by omega
 rw[p3,e2,e]
theorem sY4 {l:List D73}(h:Asc l):(l.map sid).Nodup:=by
 refine List.pairwise_map.2 (h.imp fun {a b} q=>?_);omega
theorem rP8 {t t2:D70}{k k2 top:Int}(iv:Inv t k)(iv2:Inv t2 k2)(kp:Keep t t2)(h1:∀ s∈t.1,sid s≤top)(h2:top<t.2.2.1):cntI t t2 t.1.length=cut top (t2.1.map sid) (t2.1.map sid).length:=by
 unfold cntI cut;rw[List.take_length,List.take_length];have e1:((t.1.filter (held t2)).map sid).length=(t.1.filter (held t2)).length:=List.length_map _;have hp:((t.1.filter (held t2)).map sid).Perm ((t2.1.map sid).filter (fun q=>decide (q≤top))):=by
  refine (List.perm_ext_iff_of_nodup (sY4 (iv.asc.filter _)) ((sY4 iv2.asc).filter _)).2 fun q=>?_;constructor
  ·intro h;obtain⟨s,hs,rfl⟩:=List.mem_map.1 h;obtain⟨a,b⟩:=List.mem_filter.1 hs;unfold held at b;rw[List.contains_iff_mem] at b;exact List.mem_filter.2 ⟨b,decide_eq_true (h1 s a)⟩
  ·intro h;obtain⟨a,b⟩:=List.mem_filter.1 h;have b:=of_decide_eq_true b;obtain⟨s,hs,rfl⟩:=List.mem_map.1 a;rcases kp.old s hs with ⟨u,hu,f1,_⟩ | z
   ·refine List.mem_map.2 ⟨u,List.mem_filter.2 ⟨hu,?_⟩,f1.symm⟩;unfold held;rw[List.contains_iff_mem,← f1];exact a
   ·omega
 have:=hp.length_eq;unfold len;omega
theorem qN9 {d:D28}{ops ops2:List D50}(h11:f8=true)(h11k:tB1)(hw:Ty.wf T28 d)(hz:DocSz d)(ho:∀ o∈ops,OpOk o)(ho2:∀ o∈ops2,OpOk o)(hn:len ops+len ops2≤8999900):f4_ok d ops ops2∧f4 d ops ops2=true:=by
 have hnn:=wF ops;have hnn2:=wF ops2;obtain⟨p1,p2⟩:=sO9 hw hz ho (by omega);rcases p2 with ⟨c,q⟩ | ⟨gd,q,t,qo,iv,_⟩
 ·have c':(f9 d !=0)=true:=by simpa using c
  simp only[f4_ok,f4,f4t,q,h11,c',Bool.not_true,cond_false,cond_true];simp[p1,h11k]
 obtain⟨i1,i2⟩:=sJ3 iv;obtain⟨a1,top,t1,t2',a2⟩:=qE3 (p2:=ops2) iv;obtain⟨b1,t2,b2,iv2,kp⟩:=rG3 (g:=tN1 (t.1.map (·.1),top,ops2,len ops2,())) (next:=uC2 (t.1.map (·.1),top,ops2,len ops2,())) (ok:=tZ6 (t.1.map (·.1),top,ops2,len ops2,())) ho2 (fun _=>rfl) (fun _=>rfl) (fun _ h=>h) iv (by omega) (by omega)
 obtain⟨c1,c2⟩:=rP7 (top:=top) iv iv2 kp;obtain⟨i3,i4⟩:=sJ3 iv2;have hf2:=iv2.few;have hf:=iv.few;have el2:len (t2.1.map sid)=len t2.1:=by simp[len]
 have bnd:0≤cntI t t2 t.1.length∧cntI t t2 t.1.length≤128:=by
  unfold cntI;have:((t.1.take t.1.length).filter (held t2)).length≤t.1.length:=Nat.le_trans (List.length_filter_le _ _) (by simp);unfold len at *;omega
 obtain⟨d1,d2⟩:=qE4 (top:=top) (c:=cntI t t2 t.1.length) (l:=t2.1.map sid) (by omega) bnd;have sc:=rP8 iv iv2 kp t1 t2';have fin:(cntI t t2 t.1.length-cut top (t2.1.map sid) (t2.1.map sid).length==0)=true:=by rw[sc];simp
 have z1:sN0 (ops2,(),t.1.map sid,len (t.1.map sid),()) (t.1.map (·.1),top,len (t.1.map sid),t,())=false:=by
  show (decide (len (t.1.map sid)<len (t.1.map sid))&&_)=false;rw[decide_eq_false (by omega)];rfl
 have z2:tZ7 (t.1.map (·.1),top,ops2,len ops2,()) (false,len ops2,(true,t2),())=false:=by
  show (decide (len ops2<len ops2)&&_)=false;rw[decide_eq_false (by omega)];rfl
 have z3:sA0 (top,t.1.map (·.1),len (t.1.map (·.1)),()) (false,cntI t t2 t.1.length,len (t.1.map (·.1)),(true,t2),())=false:=by
  show (decide (len (t.1.map (·.1))<len (t.1.map (·.1)))&&_)=false;rw[decide_eq_false (by omega)];rfl
 have y1:tG1 (ops2,(),t.1.map sid,len (t.1.map sid),()) (t.1.map (·.1),top,len (t.1.map sid),t,())=t.1.map (·.1):=rfl;have y2:tG2 (ops2,(),t.1.map sid,len (t.1.map sid),()) (t.1.map (·.1),top,len (t.1.map sid),t,())=top:=rfl;have y3:tG3 (ops2,(),t.1.map sid,len (t.1.map sid),()) (t.1.map (·.1),top,len (t.1.map sid),t,())=t:=rfl;have y4:uS0 (t.1.map (·.1),top,ops2,len ops2,()) (false,len ops2,(true,t2),())=false:=rfl;have y5:uS1 (t.1.map (·.1),top,ops2,len ops2,()) (false,len ops2,(true,t2),())=(true,t2):=rfl;have y6:uS2 (top,t.1.map (·.1),len (t.1.map (·.1)),()) (false,cntI t t2 t.1.length,len (t.1.map (·.1)),(true,t2),())=false:=rfl;have y7:uS3 (top,t.1.map (·.1),len (t.1.map (·.1)),()) (false,cntI t t2 t.1.length,len (t.1.map (·.1)),(true,t2),())=cntI t t2 t.1.length:=rfl;have y8:uS4 (top,t.1.map (·.1),len (t.1.map (·.1)),()) (false,cntI t t2 t.1.length,len (t.1.map (·.1)),(true,t2),())=(true,t2):=rfl;have y9:uS5 (top,t2.1.map sid,len (t2.1.map sid),()) (cntI t t2 t.1.length-cut top (t2.1.map sid) (t2.1.map sid).length,len (t2.1.map sid),())=cntI t t2 t.1.length-cut top (t2.1.map sid) (t2.1.map sid).length:=rfl;generalize cntI t t2 t.1.length=cn at *;generalize cut top (t2.1.map sid) (t2.1.map sid).length=cu at *;obtain⟨l,nw,nxt,clk,⟨⟩⟩:=t;obtain⟨l',nw',nxt',clk',⟨⟩⟩:=t2;simp only at a1 a2 b1 b2 c1 c2 d1 d2 i1 i2 i3 i4 z1 z2 z3 y1 y2 y3 y4 y5 y6 y7 y8 y9 fin;simp only[f4_ok,f4,f4t,q,qo,h11,i2,a2,z1,y1,y2,y3,b2,z2,y4,y5,c2,z3,y6,y7,y8,i4,d2,y9,fin,Bool.not_true,Bool.not_false,cond_false,bne_self_eq_false];simp[p1,h11k,i1,a1,b1,c1,d1,i3]
end Go.Proofs.YtofmmkikplmlpaaGreatDoor.Am
namespace Go.Proofs.YtofmmkikplmlpaaGreatDoor.Am
open Go Go.Am
theorem rP9 {d:D28}{ops ops2:List D50}(h11:f8=true)(h11k:tB1)(hw:Ty.wf T28 d)(hz:DocSz d)(ho:∀ o∈ops,OpOk o)(ho2:∀ o∈ops2,OpOk o)(hn:len ops+len ops2≤8999900):f6_ok d ops ops2∧f6 d ops ops2=true:=by
 have hnn:=wF ops;have hnn2:=wF ops2;obtain⟨p1,p2⟩:=sO9 hw hz ho (by omega);rcases p2 with ⟨c,q⟩ | ⟨gd,q,t,qo,iv,_⟩
 ·have c':(f9 d !=0)=true:=by simpa using c
  simp only[f6_ok,f6,f6t,q,h11,c',Bool.not_true,cond_false,cond_true];simp[p1,h11k]
 obtain⟨i1,i2⟩:=sJ3 iv;obtain⟨a1,a2⟩:=tL6 iv;obtain⟨b1,_,b3⟩:=uP9 iv;obtain⟨c1,c2,c3⟩:=qD3 iv;have hf:=iv.few;have wfd:=rK5 iv;have self1:=vX4 _ wfd;have ok1:=tH1 _ _ wfd wfd;have el:len (t.1.map sid)=len t.1:=by simp[len]
 obtain⟨e1,e2⟩:=qD8 (t.1.map sid) (t.1.map sid) (by omega);have e2:=e2 rfl;have Y11:∃ y,y=((ops2,(),false,t.2.1,t.1.map sid,wO6 t,ops2,len ops2,t,(true,t),()):vF1):=⟨_,rfl⟩;obtain⟨y11,hy11⟩:=Y11;obtain⟨r1,t2,r2,iv2,kp⟩:=rG3 (g:=tB9 y11) (next:=vQ4 y11) (ok:=tB8 y11) ho2 (fun _=>by rw[hy11];rfl) (fun _=>by rw[hy11];rfl) (fun _ h=>by rw[hy11];exact h) iv (by omega) (by omega)
 have Y20:∃ y,y=((false,false,t.2.1,t.1.map sid,wO6 t,ops2,len ops2,(true,t2),(true,t),()):vF2):=⟨_,rfl⟩;obtain⟨y20,hy20⟩:=Y20;have hg:uO3 y20=tB9 y11:=funext fun _=>by rw[hy20,hy11];rfl
 have hx:vE5 y20=vQ4 y11:=funext fun _=>by rw[hy20,hy11];rfl
 have hk:tC y20=tB8 y11:=funext fun _=>by rw[hy20,hy11];rfl
 have r3:xB7 (uO3 y20) (vE5 y20) (tC y20) (false,0,(true,t),()):=by rw[hg,hx,hk];exact r1
 have r4:zB9 (uO3 y20) (vE5 y20) (false,0,(true,t),())=(false,len ops2,(true,t2),()):=by rw[hg,hx];exact r2
 have z1:sB3 y11 (false,len ops2,(true,t2),())=false:=by
  rw[hy11];show (decide (len ops2<len ops2)&&_)=false;rw[decide_eq_false (by omega)];rfl
 have z2:sB7 y20 (false,len ops2,(true,t2),())=false:=by
  rw[hy20];show (decide (len ops2<len ops2)&&_)=false;rw[decide_eq_false (by omega)];rfl
 have y1:uS9 y11 (false,len ops2,(true,t2),())=false:=rfl;have y2:uT y11 (false,len ops2,(true,t2),())=(true,t2):=rfl;have y3:uT0 y20 (false,len ops2,(true,t2),())=false:=rfl;have y4:uT1 y20 (false,len ops2,(true,t2),())=(true,t2):=rfl;obtain⟨i3,i4⟩:=sJ3 iv2;obtain⟨a3,a4⟩:=tL6 iv2;obtain⟨b4,_,b5⟩:=uP9 iv2;have hf2:=iv2.few;have wfd2:=rK5 iv2;have self2:=vX4 _ wfd2;have ok2:=tH1 _ _ wfd2 wfd2;have el2:len (t2.1.map sid)=len t2.1:=by simp[len]
 obtain⟨e3,e4⟩:=qD8 (t2.1.map sid) (t2.1.map sid) (by omega);have e4:=e4 rfl;obtain⟨l,nw,nxt,clk,⟨⟩⟩:=t;obtain⟨l',nw',nxt',clk',⟨⟩⟩:=t2;simp only at i1 i2 a1 a2 b1 b3 c1 c2 c3 e1 e2 hy11 hy20 i3 i4 a3 a4 b4 b5 e3 e4 r1 r2 r3 r4 z1 z2 y1 y2 y3 y4;simp only[f6_ok,f6,f6t,q,qo,h11,c2,c3,a2,i2,b3,← hy11,r2,y1,y2,beq_self_eq_true,bne_self_eq_false,e2,self1,Bool.not_true,Bool.not_false,cond_false,cond_true,← hy20,r4,y3,y4,z1,z2,a4,i4,e4,self2];simp[p1,h11k,c1,a1,i1,b1,r1,e1,ok1,r3,a3,i3,e3,b4,ok2]
end Go.Proofs.YtofmmkikplmlpaaGreatDoor.Am
namespace Go.Proofs.YtofmmkikplmlpaaGreatDoor.Am
open Go Go.Am
theorem sJ4 {l:List D50}(hw:Ty.wf (.sl T50) l)(hb:(Ty.sl T50).bulk l≤1048576):(∀ o∈l,OpOk o)∧len l≤1048576:=
 ⟨fun o ho=>⟨(hw.2 o ho).2.2.2.1,sJ1 (Nat.le_trans (sb (fieldsOf T50) 3 o) (qD (τ:=T50) ho hb))⟩,Int.ofNat_le.2 (uK (τ:=T50) (tL5 _) hb)⟩
theorem historyUndo_law:∀ x,wfL 0 [T28,.sl T50,T28] x→xV 0 [T28,.sl T50,T28] x≤1048576→f3_ok x.1 x.2.1 x.2.2.1∧f3 x.1 x.2.1 x.2.2.1=true:=by
 rintro⟨d,l,e,⟨⟩⟩ ⟨hw,hl,he,_⟩ hb;change f3_ok d l e∧f3 d l e=true;have h1:T28.bulk d+((Ty.sl T50).bulk l+(T28.bulk e+0))≤1048576:=hb;obtain⟨o1,o2⟩:=sJ4 (l:=l) hl (by omega);exact qN3 rfl trivial hw (sJ1 (by omega)) he (sJ1 (by omega)) o1 (by omega)
theorem historyKeeps_law:∀ x,wfL 0 [T28,.sl T50,.sl T50] x→xV 0 [T28,.sl T50,.sl T50] x≤1048576→f4_ok x.1 x.2.1 x.2.2.1∧f4 x.1 x.2.1 x.2.2.1=true:=by
 rintro⟨d,l,e,⟨⟩⟩ ⟨hw,hl,he,_⟩ hb;change f4_ok d l e∧f4 d l e=true;have h1:T28.bulk d+((Ty.sl T50).bulk l+((Ty.sl T50).bulk e+0))≤1048576:=hb;obtain⟨o1,o2⟩:=sJ4 (l:=l) hl (by omega);obtain⟨o3,o4⟩:=sJ4 (l:=e) he (by omega);exact qN9 rfl trivial hw (sJ1 (by omega)) o1 o3 (by omega)
theorem historyPurge_law:∀ x,wfL 0 [T28,.sl T50,.int .i64] x→xV 0 [T28,.sl T50,.int .i64] x≤1048576→f5_ok x.1 x.2.1 x.2.2.1∧f5 x.1 x.2.1 x.2.2.1=true:=by
 rintro⟨d,l,n,⟨⟩⟩ ⟨hw,hl,_⟩ hb;change f5_ok d l n∧f5 d l n=true;have h1:T28.bulk d+((Ty.sl T50).bulk l+(1+0))≤1048576:=hb;obtain⟨o1,o2⟩:=sJ4 (l:=l) hl (by omega);exact qE1 rfl trivial hw (sJ1 (by omega)) o1 (by omega)
theorem historyCopies_law:∀ x,wfL 0 [T28,.sl T50,.sl T50] x→xV 0 [T28,.sl T50,.sl T50] x≤1048576→f6_ok x.1 x.2.1 x.2.2.1∧f6 x.1 x.2.1 x.2.2.1=true:=by
 rintro⟨d,l,e,⟨⟩⟩ ⟨hw,hl,he,_⟩ hb;change f6_ok d l e∧f6 d l e=true;have h1:T28.bulk d+((Ty.sl T50).bulk l+((Ty.sl T50).bulk e+0))≤1048576:=hb;obtain⟨o1,o2⟩:=sJ4 (l:=l) hl (by omega);obtain⟨o3,o4⟩:=sJ4 (l:=e) he (by omega);exact rP9 rfl trivial hw (sJ1 (by omega)) o1 o3 (by omega)
end Go.Proofs.YtofmmkikplmlpaaGreatDoor.Am
