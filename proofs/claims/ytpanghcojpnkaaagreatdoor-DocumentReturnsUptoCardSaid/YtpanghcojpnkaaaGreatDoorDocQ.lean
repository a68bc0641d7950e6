/- Equality of nodes: the program's and the document's, each just where two nodes are the same. Condition: the value a Go value can be. -/
import Derived.Test.YtpanghcojpnkaaaGreatDoorDocV
import Derived.Test.YtpanghcojpnkaaaGreatDoorMach4
namespace Go.Proofs.YtpanghcojpnkaaaGreatDoor.Am
open Go Go.Am
def ne0 (a b:List Int)(i:Int):Bool:=nth a i 0 !=nth b i 0
def neT (τ:Ty)(z:τ.den)(a b:List τ.den)(i:Int):Bool:=!(Ty.eqb τ (nth a i z) (nth b i z))
def eqC (n m:Int)(c:Int→Bool):Bool:=(n==m)&&!(xX8 n c)
theorem vI8 {g:Int×Unit→Bool}{next:Int×Unit→Int×Unit}{n m:Int}{c:Int→Bool}(hn0:0≤n)(hn:n<9223372036854775808)(hg:∀ x,g x=(decide (x.1<n)&&!(c x.1)))(hx:∀ x,next x=(x.1+1,())) :
  (bif (n !=m) then false else (bif (decide ((zC1 g next (0,())).1<n)&&c (zC1 g next (0,())).1) then false else true))=eqC n m c:=by
 rw[xW6 hn0 hn hg hx]
 unfold eqC
 cases h:(n==m)<;>cases xX8 n c<;>simp_all
theorem uY9 {g:Int×Unit→Bool}{next:Int×Unit→Int×Unit}{ok:Int×Unit→Prop}{n m:Int}{c:Int→Bool}(hn0:0≤n)(hn:n<9223372036854775808)(hg:∀ x,g x=(decide (x.1<n)&&!(c x.1)))(hx:∀ x,next x=(x.1+1,()))
  (hok:∀ x:Int×Unit,n=m→0≤x.1→(x.1<n→InB x.1 n∧InB x.1 m∧InR (x.1+1))→ok x):(!(n !=m))=true→Am.Ends g next ok (0,()):=by
 intro h
 have e:n=m:=by simpa using h
 refine xV5 hn0 hn (fun x h=>?_) hx fun x h1 h2=>hok x e h1 fun h3=>⟨⟨h1,h3⟩,⟨h1,by omega⟩,?_⟩
 ·rw[hg] at h;simp only[Bool.and_eq_true,decide_eq_true_eq] at h;exact h.1
 ·unfold InR;omega
theorem sB1 (a b:List Int)(ha:len a<9223372036854775808):f97 a b=eqC (len a) (len b) (ne0 a b):=
 vI8 (g:=sH3 (a,b,())) (next:=uC7 (a,b,())) (c:=ne0 a b) (xT8 a) ha (fun _=>rfl) (fun _=>rfl)
theorem qU5 (a b:List Int)(ha:len a<9223372036854775808):f44 a b=eqC (len a) (len b) (ne0 a b):=
 vI8 (g:=uK9 (a,b,len a,())) (next:=wZ8 (a,b,len a,())) (c:=ne0 a b) (xT8 a) ha (fun _=>rfl) (fun _=>rfl)
theorem rH2 (a b:List Int)(ha:len a<9223372036854775808):tR2 a b:=
 uY9 (g:=uK9 (a,b,len a,())) (next:=wZ8 (a,b,len a,())) (c:=ne0 a b) (xT8 a) ha (fun _=>rfl) (fun _=>rfl) fun x _ _ hx h=>by
  have h:=hx (of_decide_eq_true h)
  exact⟨h.1,h.2.1,fun _=>h.2.2⟩
theorem qU6 (a b:List D122)(ha:len a<9223372036854775808):f99 a b=eqC (len a) (len b) (neT T122 Z122 a b):=
 vI8 (g:=sH4 (a,b,())) (next:=uC8 (a,b,())) (c:=neT T122 Z122 a b) (xT8 a) ha (fun _=>rfl) (fun _=>rfl)
theorem nJ0 (a b:List D122)(ha:len a<9223372036854775808):f93 a b=eqC (len a) (len b) (neT T122 Z122 a b):=
 vI8 (g:=uL2 (a,b,len a,())) (next:=vA (a,b,len a,())) (c:=neT T122 Z122 a b) (xT8 a) ha (fun _=>rfl) (fun _=>rfl)
theorem oY (a b:List D122)(ha:len a<9223372036854775808):sV1 a b:=
 uY9 (g:=uL2 (a,b,len a,())) (next:=vA (a,b,len a,())) (c:=neT T122 Z122 a b) (xT8 a) ha (fun _=>rfl) (fun _=>rfl) fun x _ _ hx h=>by
  have h:=hx (of_decide_eq_true h)
  exact⟨h.1,h.2.1,fun _=>h.2.2⟩
theorem rH3 (a b:List D128)(ha:len a<9223372036854775808):f100 a b=eqC (len a) (len b) (neT T128 Z128 a b):=
 vI8 (g:=tT0 (a,b,())) (next:=vS5 (a,b,())) (c:=neT T128 Z128 a b) (xT8 a) ha (fun _=>rfl) (fun _=>rfl)
theorem nJ1 (a b:List D128)(ha:len a<9223372036854775808):f94 a b=eqC (len a) (len b) (neT T128 Z128 a b):=
 vI8 (g:=uL4 (a,b,len a,())) (next:=vA0 (a,b,len a,())) (c:=neT T128 Z128 a b) (xT8 a) ha (fun _=>rfl) (fun _=>rfl)
theorem oY0 (a b:List D128)(ha:len a<9223372036854775808):sV3 a b:=
 uY9 (g:=uL4 (a,b,len a,())) (next:=vA0 (a,b,len a,())) (c:=neT T128 Z128 a b) (xT8 a) ha (fun _=>rfl) (fun _=>rfl) fun x _ _ hx h=>by
  have h:=hx (of_decide_eq_true h)
  exact⟨h.1,h.2.1,fun _=>h.2.2⟩
theorem pZ0 (a b:List D42)(ha:len a<9223372036854775808):f96 a b=eqC (len a) (len b) (neT T42 Z42 a b):=
 vI8 (g:=uL0 (a,b,len a,())) (next:=wZ9 (a,b,len a,())) (c:=neT T42 Z42 a b) (xT8 a) ha (fun _=>rfl) (fun _=>rfl)
theorem qU7 (a b:List D42)(ha:len a<9223372036854775808):sV a b:=
 uY9 (g:=uL0 (a,b,len a,())) (next:=wZ9 (a,b,len a,())) (c:=neT T42 Z42 a b) (xT8 a) ha (fun _=>rfl) (fun _=>rfl) fun x _ _ hx h=>by
  have h:=hx (of_decide_eq_true h)
  exact⟨h.1,h.2.1,fun _=>h.2.2⟩
theorem nJ2 (a b:List D125)(ha:len a<9223372036854775808):f95 a b=eqC (len a) (len b) (neT T125 Z125 a b):=
 vI8 (g:=uL6 (a,b,len a,())) (next:=vA1 (a,b,len a,())) (c:=neT T125 Z125 a b) (xT8 a) ha (fun _=>rfl) (fun _=>rfl)
theorem oY1 (a b:List D125)(ha:len a<9223372036854775808):sV5 a b:=
 uY9 (g:=uL6 (a,b,len a,())) (next:=vA1 (a,b,len a,())) (c:=neT T125 Z125 a b) (xT8 a) ha (fun _=>rfl) (fun _=>rfl) fun x _ _ hx h=>by
  have h:=hx (of_decide_eq_true h)
  exact⟨h.1,h.2.1,fun _=>h.2.2⟩
theorem qU8 (p q:D40)(ha:len p.2.2.1<9223372036854775808):f98 p q=((p.1==q.1)&&(p.2.1==q.2.1)&&eqC (len p.2.2.1) (len q.2.2.1) (neT T42 Z42 p.2.2.1 q.2.2.1)):=by
 rw[← vI8 (g:=vM2 (p,q,())) (next:=wM3 (p,q,())) (c:=neT T42 Z42 p.2.2.1 q.2.2.1) (xT8 _) ha (fun _=>rfl) (fun _=>rfl)]
 show (bif (bif (bif (p.1 !=q.1) then true else (p.2.1 !=q.2.1)) then true else (len p.2.2.1 !=len q.2.2.1)) then false else (bif tS8 (p,q,()) (zC1 (vM2 (p,q,())) (wM3 (p,q,())) (0,())) then false else true))=_
 generalize hB:(bif (decide ((zC1 (vM2 (p,q,())) (wM3 (p,q,())) (0,())).1<len p.2.2.1)&&neT T42 Z42 p.2.2.1 q.2.2.1 (zC1 (vM2 (p,q,())) (wM3 (p,q,())) (0,())).1) then false else true)=B
 have hB':(bif tS8 (p,q,()) (zC1 (vM2 (p,q,())) (wM3 (p,q,())) (0,())) then false else true)=B:=hB
 rw[hB']
 unfold bne
 cases (p.1==q.1)<;>cases (p.2.1==q.2.1)<;>cases (len p.2.2.1==len q.2.2.1)<;>cases B<;>rfl
theorem rH4 (p q:D47)(ha:len p.2.2.2.1<9223372036854775808):f101 p q=((p.1==q.1)&&(p.2.1==q.2.1)&&(p.2.2.1==q.2.2.1)&&eqC (len p.2.2.2.1) (len q.2.2.2.1) (neT T125 Z125 p.2.2.2.1 q.2.2.2.1)):=by
 rw[← vI8 (g:=vA7 (p,q,())) (next:=wI6 (p,q,())) (c:=neT T125 Z125 p.2.2.2.1 q.2.2.2.1) (xT8 _) ha (fun _=>rfl) (fun _=>rfl)]
 show (bif (bif (bif (bif (p.1 !=q.1) then true else (p.2.1 !=q.2.1)) then true else (p.2.2.1 !=q.2.2.1)) then true else (len p.2.2.2.1 !=len q.2.2.2.1)) then false else (bif uQ1 (p,q,()) (zC1 (vA7 (p,q,())) (wI6 (p,q,())) (0,())) then false else true))=_
 generalize hB:(bif (decide ((zC1 (vA7 (p,q,())) (wI6 (p,q,())) (0,())).1<len p.2.2.2.1)&&neT T125 Z125 p.2.2.2.1 q.2.2.2.1 (zC1 (vA7 (p,q,())) (wI6 (p,q,())) (0,())).1) then false else true)=B
 have hB':(bif uQ1 (p,q,()) (zC1 (vA7 (p,q,())) (wI6 (p,q,())) (0,())) then false else true)=B:=hB
 rw[hB']
 unfold bne
 cases (p.1==q.1)<;>cases (p.2.1==q.2.1)<;>cases (p.2.2.1==q.2.2.1)<;>cases (len p.2.2.2.1==len q.2.2.2.1)<;>cases B<;>rfl
structure Lens (n:D49):Prop where
 mask:len n.2.2.2.2.2.2.2.2.2.1.2.2.1<9223372036854775808
 pix:len n.2.2.2.2.2.2.2.2.2.2.2.2.1.2.2.1<9223372036854775808
 params:len n.2.2.2.2.2.2.2.2.2.2.2.2.2.2.2.1<9223372036854775808
 stops:len n.2.2.2.2.2.2.2.2.2.2.2.2.2.2.2.2.2.1<9223372036854775808
 segs:len n.2.2.2.2.2.2.2.2.2.2.2.2.2.2.2.2.2.2.1<9223372036854775808
 warp:len n.2.2.2.2.2.2.2.2.2.2.2.2.2.2.2.2.2.2.2.2.2.2.2.2.2.2.2.1.2.2.2.1<9223372036854775808
theorem wE2 {α:Type}{l:List α}(h:l.length≤maxLen):len l<9223372036854775808:=by
 unfold len
 have:maxLen=9223372036854775807:=rfl
 omega
theorem rH5 {n:D49}(h:Ty.wf T49 n):Lens n:=by
 obtain⟨_,_,_,_,_,_,_,_,_,⟨_,_,⟨h1,_⟩,_⟩,_,_,⟨_,_,⟨h2,_⟩,_⟩,_,_,⟨h3,_⟩,_,⟨h4,_⟩,⟨h5,_⟩,_,_,_,_,_,_,_,_,⟨_,_,_,⟨h6,_⟩,_⟩,_⟩:=h
 exact⟨wE2 h1,wE2 h2,wE2 h3,wE2 h4,wE2 h5,wE2 h6⟩
theorem oY2 {a b:D49}(ha:Lens a):f43 a b=f49 a b:=by
 simp only[f43,f43t,f49,f49t,f71,f71t,f74,f74t,f73,f73t,f72,f72t]
 simp only[qU5 _ _ ha.mask,sB1 _ _ ha.mask,qU8 _ _ ha.pix,pZ0 _ _ ha.pix,qU5 _ _ ha.params,sB1 _ _ ha.params,qU6 _ _ ha.stops,nJ0 _ _ ha.stops,rH3 _ _ ha.segs,nJ1 _ _ ha.segs,rH4 _ _ ha.warp,nJ2 _ _ ha.warp,bne,Bool.cond_false_right,Bool.cond_true_left,Bool.cond_false_left,Bool.not_or,Bool.not_and,Bool.not_not]
 ac_rfl
theorem oY3 {a b:D49}(ha:Lens a):sA1 a b:=by
 simp only[sA1,f43t,sV6,f71t,sA0,f72t]
 simp only[rH2 _ _ ha.mask,rH2 _ _ ha.params,qU7 _ _ ha.pix,oY _ _ ha.stops,oY0 _ _ ha.segs,oY1 _ _ ha.warp,implies_true,and_self]
theorem pS2 (b:Bool):Ty.eqb .bool b b=true:=by cases b<;>rfl
theorem qU9 {n:Int}{c:Int→Bool}(h:∀ i,c i=false):xX8 n c=false:=by
 unfold xX8
 rw[List.any_eq_false]
 intro x _
 simp[h]
theorem sI5:∀ (τ:Ty),τ.cmp=true→∀ x:τ.den,τ.eqb x x=true:=by
 intro τ
 induction τ with
 |int k=>intro _ x;simp[Ty.eqb]
 |bool=>intro _ x;simp[Ty.eqb]
 |str=>intro _ x;simp[Ty.eqb]
 |nl=>intro _ x;simp[Ty.eqb]
 |cons a b iha ihb=>intro h x;simp only[Ty.cmp,Bool.and_eq_true] at h;simp[Ty.eqb,iha h.1,ihb h.2]
 |st f ih=>intro h x;simp only[Ty.cmp] at h;simp only[Ty.eqb];exact ih h x
 |arr n t ih=>intro h x;simp only[Ty.cmp] at h;simp only[Ty.eqb];rw[List.all_eq_true];intro i _;exact ih h _
 |sl t _=>intro h;simp[Ty.cmp] at h
 |ptr t _=>intro h;simp[Ty.cmp] at h
theorem vE {n:Int}{c:Int→Bool}(h:∀ i,c i=false):eqC n n c=true:=by simp[eqC,qU9 h]
theorem rU0 (a:List Int)(i:Int):ne0 a a i=false:=by simp[ne0]
theorem vY0 {τ:Ty}{z:τ.den}(h:τ.cmp=true)(a:List τ.den)(i:Int):neT τ z a a i=false:=by simp[neT,sI5 τ h]
theorem pS3 {a:D49}(ha:Lens a):f49 a a=true:=by
 simp only[f49,f49t,f74,f74t,f73,f73t]
 simp only[sB1 _ _ ha.mask,qU8 _ _ ha.pix,sB1 _ _ ha.params,qU6 _ _ ha.stops,rH3 _ _ ha.segs,rH4 _ _ ha.warp,vE (rU0 _),vE (vY0 (τ:=T42) (by rfl) _),vE (vY0 (τ:=T122) (by rfl) _),vE (vY0 (τ:=T128) (by rfl) _),vE (vY0 (τ:=T125) (by rfl) _),pS2,sI5 T37 rfl,sI5 T42 rfl,beq_self_eq_true,cond_true,Bool.and_true]
theorem uM2 {α:Type}{a b:List α}{z:α}(hl:a.length=b.length)(h:∀ i:Nat,i<a.length→a.getD i z=b.getD i z):a=b:=by
 apply List.ext_getElem hl
 intro i h1 h2
 have:=h i h1
 rw[List.getD_eq_getElem?_getD,List.getD_eq_getElem?_getD,List.getElem?_eq_getElem h1,List.getElem?_eq_getElem h2] at this
 exact this
theorem qV:∀ (τ:Ty),τ.cmp=true→∀ x y:τ.den,τ.wf x→τ.wf y→τ.eqb x y=true→x=y:=by
 intro τ
 induction τ with
 |int k=>intro _ x y _ _ h;exact eq_of_beq h
 |bool=>intro _ x y _ _ h;exact eq_of_beq h
 |str=>intro _ x y _ _ h;exact eq_of_beq (α:=List UInt8) h
 |nl=>intro _ x y _ _ _;rfl
 |cons a b iha ihb =>
  intro hc x y hx hy h
  simp only[Ty.cmp,Bool.and_eq_true] at hc
  simp only[Ty.eqb,Bool.and_eq_true] at h
  exact Prod.ext (iha hc.1 _ _ hx.1 hy.1 h.1) (ihb hc.2 _ _ hx.2 hy.2 h.2)
 |st f ih=>intro hc x y hx hy h;exact ih hc x y hx hy h
 |arr n t ih =>
  intro hc x y hx hy h
  have hx1:List.length (α:=t.den) x=n:=hx.1
  have hy1:List.length (α:=t.den) y=n:=hy.1
  refine uM2 (α:=t.den) (z:=t.dflt) (hx1.trans hy1.symm) fun i hi=>?_
  have h1:=List.all_eq_true.1 h i (List.mem_range.2 (by omega))
  refine ih hc _ _ (hx.2 _ ?_) (hy.2 _ ?_) h1
  ·rw[List.getD_eq_getElem?_getD,List.getElem?_eq_getElem hi];exact List.getElem_mem hi
  ·rw[List.getD_eq_getElem?_getD,List.getElem?_eq_getElem (by omega)];exact List.getElem_mem _
 |sl t _=>intro h;simp[Ty.cmp] at h
 |ptr t _=>intro h;simp[Ty.cmp] at h
theorem qV0 {n:Int}{c:Int→Bool}(h:xX8 n c=false){i:Nat}(hi:(i:Int)<n):c i=false:=by
 unfold xX8 at h
 rw[List.any_eq_false] at h
 simpa using h i (List.mem_range.2 (by omega))
theorem rH6 {a b:List Int}(h:eqC (len a) (len b) (ne0 a b)=true):a=b:=by
 simp only[eqC,Bool.and_eq_true,beq_iff_eq,Bool.not_eq_true'] at h
 have hl:a.length=b.length:=by have:=h.1;unfold len at this;omega
 refine uM2 (z:=0) hl fun i hi=>?_
 have h1:=qV0 h.2 (i:=i) (by unfold len;omega)
 simpa[ne0,nth] using h1
theorem uQ5 {τ:Ty}{z:τ.den}(hc:τ.cmp=true){a b:List τ.den}(ha:∀ x∈a,τ.wf x)(hb:∀ x∈b,τ.wf x)(h:eqC (len a) (len b) (neT τ z a b)=true):a=b:=by
 simp only[eqC,Bool.and_eq_true,beq_iff_eq,Bool.not_eq_true'] at h
 have hl:a.length=b.length:=by have:=h.1;unfold len at this;omega
 refine uM2 (z:=z) hl fun i hi=>?_
 have h1:=qV0 h.2 (i:=i) (by unfold len;omega)
 have hia:InB (i:Int) (len a):=⟨by omega,by unfold len;omega⟩
 have hib:InB (i:Int) (len b):=⟨by omega,by unfold len;omega⟩
 have h2:τ.eqb (nth a i z) (nth b i z)=true:=by simpa[neT] using h1
 exact qV τ hc _ _ (ha _ (xZ4 hia)) (hb _ (xZ4 hib)) h2
set_option maxHeartbeats 1000000 in
theorem nJ3 {a b:D49}(wa:Ty.wf T49 a)(wb:Ty.wf T49 b)(h:f49 a b=true):a=b:=by
 have ha:=rH5 wa
 obtain⟨_,_,_,_,_,_,_,_,_,⟨_,_,_,_⟩,wa10,_,⟨_,_,⟨_,wa12⟩,_⟩,wa13,_,_,_,⟨_,wa17⟩,⟨_,wa18⟩,_,_,_,_,_,_,_,_,⟨_,_,_,⟨_,wa27⟩,_⟩,_⟩:=wa
 obtain⟨_,_,_,_,_,_,_,_,_,⟨_,_,_,_⟩,wb10,_,⟨_,_,⟨_,wb12⟩,_⟩,wb13,_,_,_,⟨_,wb17⟩,⟨_,wb18⟩,_,_,_,_,_,_,_,_,⟨_,_,_,⟨_,wb27⟩,_⟩,_⟩:=wb
 simp only[f49,f49t,f74,f74t,f73,f73t] at h
 simp only[sB1 _ _ ha.mask,qU8 _ _ ha.pix,sB1 _ _ ha.params,qU6 _ _ ha.stops,rH3 _ _ ha.segs,rH4 _ _ ha.warp,Bool.cond_false_right,Bool.and_eq_true,and_assoc] at h
 obtain⟨a0,a1,a2,a3,a4,a5,a6,a7,a8,⟨a90,a91,a92,⟨⟩⟩,a10,a11,⟨a120,a121,a122,⟨⟩⟩,a13,a14,a15,a16,a17,a18,a19,a20,a21,a22,a23,a24,a25,a26,⟨a270,a271,a272,a273,⟨⟩⟩,⟨⟩⟩:=a
 obtain⟨b0,b1,b2,b3,b4,b5,b6,b7,b8,⟨b90,b91,b92,⟨⟩⟩,b10,b11,⟨b120,b121,b122,⟨⟩⟩,b13,b14,b15,b16,b17,b18,b19,b20,b21,b22,b23,b24,b25,b26,⟨b270,b271,b272,b273,⟨⟩⟩,⟨⟩⟩:=b
 obtain⟨h0,h1,h2,h3,h4,h5,h6,h7,h8,h90,h91,h92,h10,h11,h120,h121,h122,h13,h14,h15,h16,h17,h18,h19,h20,h21,h22,h23,h24,h25,h26,h270,h271,h272,h273⟩:=h
 have e0:a0=b0:=eq_of_beq h0
 have e1:a1=b1:=eq_of_beq h1
 have e2:a2=b2:=eq_of_beq h2
 have e3:a3=b3:=eq_of_beq h3
 have e4:a4=b4:=eq_of_beq h4
 have e5:a5=b5:=eq_of_beq h5
 have e6:a6=b6:=eq_of_beq h6
 have e7:a7=b7:=eq_of_beq h7
 have e8:a8=b8:=eq_of_beq h8
 have e90:a90=b90:=eq_of_beq h90
 have e91:a91=b91:=eq_of_beq h91
 have e92:a92=b92:=rH6 h92
 have e10:a10=b10:=qV T37 rfl _ _ wa10 wb10 h10
 have e11:a11=b11:=eq_of_beq h11
 have e120:a120=b120:=eq_of_beq h120
 have e121:a121=b121:=eq_of_beq h121
 have e122:a122=b122:=uQ5 (τ:=T42) rfl wa12 wb12 h122
 have e13:a13=b13:=qV T42 rfl _ _ wa13 wb13 h13
 have e14:a14=b14:=eq_of_beq h14
 have e15:a15=b15:=rH6 h15
 have e16:a16=b16:=eq_of_beq h16
 have e17:a17=b17:=uQ5 (τ:=T122) rfl wa17 wb17 h17
 have e18:a18=b18:=uQ5 (τ:=T128) rfl wa18 wb18 h18
 have e19:a19=b19:=eq_of_beq h19
 have e20:a20=b20:=eq_of_beq h20
 have e21:a21=b21:=eq_of_beq h21
 have e22:a22=b22:=eq_of_beq h22
 have e23:a23=b23:=eq_of_beq h23
 have e24:a24=b24:=eq_of_beq h24
 have e25:a25=b25:=eq_of_beq h25
 have e26:a26=b26:=eq_of_beq h26
 have e270:a270=b270:=eq_of_beq h270
 have e271:a271=b271:=eq_of_beq h271
 have e272:a272=b272:=eq_of_beq h272
 have e273:a273=b273:=uQ5 (τ:=T125) rfl wa27 wb27 h273
 rw[e0,e1,e2,e3,e4,e5,e6,e7,e8,e90,e91,e92,e10,e11,e120,e121,e122,e13,e14,e15,e16,e17,e18,e19,e20,e21,e22,e23,e24,e25,e26,e270,e271,e272,e273]
theorem nJ4 {n:D49}(h:Ty.wf T49 n):vM4 n:=by
 obtain⟨_,_,_,h0,_,_,_,_,_,⟨_,_,⟨h1,_⟩,_⟩,_,_,⟨_,_,⟨h2,_⟩,_⟩,_,_,⟨h3,_⟩,_,⟨h4,_⟩,⟨h5,_⟩,_,_,_,_,h7,_,_,_,⟨_,_,_,⟨h6,_⟩,_⟩,_⟩:=h
 exact⟨wE2 h0,wE2 h1,wE2 h2,wE2 h3,wE2 h4,wE2 h5,wE2 h7,wE2 h6⟩
end Go.Proofs.YtpanghcojpnkaaaGreatDoor.Am
