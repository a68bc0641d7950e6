/- Loops by their rounds; numbers as bytes: the program's encoding of a number is the reference's. No condition. -/
import Derived.Test.YtmbjipigimohbaaGreatDoorDckP4
import Derived.Test.YtmbjipigimohbaaGreatDoorMach5
import Derived.Laws.BitsLemmas
import Derived.Laws.Bits64
set_option linter.unusedVariables false
namespace Go.Proofs.YtmbjipigimohbaaGreatDoor.Am
open Go Go.Am Go.Proofs
inductive LT {X:Type}(g:X→Bool) (next:X→X) (ok:X→Prop):Nat→X→X→Prop
 |stop {x:X}:ok x→g x=false→LT g next ok 0 x x
 |step {n:Nat}{x e:X}:ok x→g x=true→LT g next ok n (next x) e→LT g next ok (n+1) x e
variable {X:Type}{g:X→Bool}{next:X→X}{ok:X→Prop}{n:Nat}{x e:X}
theorem LT.runs (h:LT g next ok n x e):Runs g next ok n x:=by
 induction h with
 |stop h1 h2=>exact⟨h1,h2⟩
 |step h1 h2 _ ih=>exact⟨h1,h2,ih⟩
theorem LT.fin (h:LT g next ok n x e):∀ F,n≤F→loopN g next F x=e:=by
 induction h with
 |stop _ h=>exact fun F _=>wQ7 h F
 |step _ h2 _ ih =>
  intro F hF;cases F with
  |zero=>omega
  |succ F=>simp only[loopN,h2,cond_true];exact ih F (by omega)
theorem LT.ends (h:LT g next ok n x e)(hn:n<18446744073709551616):xQ5 g next ok x:=⟨n,hn,h.runs⟩
theorem LT.fix (h:LT g next ok n x e)(hn:n<18446744073709551616):zC4 g next x=e:=h.fin _ (Nat.le_of_lt hn)
def vlqF:Nat→Nat→List UInt8
 |0,n=>[UInt8.ofNat n]
 |m+1,n=>if n<128 then [UInt8.ofNat n] else UInt8.ofNat (n % 128+128)::vlqF m (n / 128)
def vlq (n:Nat):List UInt8:=vlqF 10 n
theorem qO7:∀ {m n:Nat},(vlqF m n).length≤m+1:=by
 intro m
 induction m with
 |zero=>intro n;simp[vlqF]
 |succ m ih =>
  intro n;have:=ih (n:=n / 128);simp only[vlqF];split<;>simp<;>omega
theorem tE1 (n:Nat):(vlq n).length≤11:=qO7
set_option maxRecDepth 20000 in
theorem pT9:∀ b:Fin 256,((BitVec.ofNat 8 b.val) ||| 128#8).toNat=b.val % 128+128:=by decide
theorem pR2 (n:Nat):ior .u8 (IntKind.wrap .u8 (n:Int)) 128=((n % 128+128:Nat):Int):=by
 have h:=pT9 ⟨n % 256,Nat.mod_lt _ (by decide)⟩;have e1:BitVec.ofInt 8 (IntKind.wrap .u8 (n:Int))=BitVec.ofNat 8 (n % 256):=by
  rw[IntKind.wrap_u8,show ((n:Int) % 256)=((n % 256:Nat):Int) by omega,BitVec.ofInt_natCast]
 show IntKind.wrap .u8 ((BitVec.ofInt 8 (IntKind.wrap .u8 (n:Int)) ||| BitVec.ofInt 8 128).toNat)=_;rw[e1,IntKind.wrap_u8];have e2:(BitVec.ofNat 8 (n % 256) ||| BitVec.ofInt 8 128).toNat=n % 256 % 128+128:=h;rw[e2];omega
theorem pU (n:Nat):wV1 (n:Int) 7 64=((n / 128:Nat):Int):=by
 show ((n:Int)).fdiv (2 ^ (min (7:Int).toNat 64))=_;rw[show (2:Int) ^ (min (7:Int).toNat 64)=128 by decide,Int.fdiv_eq_ediv_of_nonneg _ (by decide)];omega
theorem sP3 (n:Nat):UInt8.ofNat (n % 256)=UInt8.ofNat n:=by
 apply UInt8.toNat_inj.1;simp[UInt8.toNat_ofNat']
theorem rL0:∀ (m n:Nat) (l:List Int),n<128 ^ (m+1)→n<18446744073709551616→l.length≤4294967000-m→m≤10 →
  ∃ k e,k≤m∧LT (wX ()) (wW1 ()) (vR4 ()) k (l,(n:Int),()) e∧e.1.length≤l.length+m∧xC3 (e.1++[IntKind.wrap .u8 e.2.1])=xC3 l++vlqF m n:=by
 intro m
 induction m with
 |zero =>
  intro n l hn _ hl _;have hn:n<128:=by simpa using hn
  have hg:wX () (l,(n:Int),())=false:=by
   show decide ((n:Int)≥128)=false;exact decide_eq_false (by omega)
  refine⟨0,_,Nat.le_refl _,.stop ?_ hg,by simp,?_⟩
  ·intro h;rw[show decide ((n:Int)≥128)=false from hg] at h;cases h
  ·simp only[xC3,List.map_append,List.map_cons,List.map_nil,vlqF,IntKind.wrap_u8];rw[show ((n:Int) % 256).toNat=n % 256 by omega,sP3]
 |succ m ih =>
  intro n l hn hn2 hl hm;by_cases hlt:n<128
  ·have hg:wX () (l,(n:Int),())=false:=by
    show decide ((n:Int)≥128)=false;exact decide_eq_false (by omega)
   refine⟨0,_,Nat.zero_le _,.stop ?_ hg,by simp,?_⟩
   ·intro h;rw[show decide ((n:Int)≥128)=false from hg] at h;cases h
   ·simp only[xC3,List.map_append,List.map_cons,List.map_nil,vlqF,IntKind.wrap_u8,hlt,if_true];rw[show ((n:Int) % 256).toNat=n % 256 by omega,sP3]
  ·have hg:wX () (l,(n:Int),())=true:=by
    show decide ((n:Int)≥128)=true;exact decide_eq_true (by omega)
   have hx:wW1 () (l,(n:Int),())=(l++[((n % 128+128:Nat):Int)],((n / 128:Nat):Int),()):=by
    show (l++[ior .u8 (IntKind.wrap .u8 (n:Int)) 128],wV1 (n:Int) 7 64,())=_;rw[pR2,pU]
   obtain⟨k,e,h1,h2,h3,h4⟩:=ih (n / 128) (l++[((n % 128+128:Nat):Int)]) (by rw[Nat.pow_succ] at hn;omega) (by omega) (by simp;omega) (by omega);rw[← hx] at h2;refine⟨k+1,e,by omega,.step (fun _=>?_) hg h2,?_,?_⟩
   ·show ((List.length l+List.length [_]:Nat):Int)≤4294967296;simp;omega
   ·simp at h3;omega
   ·rw[h4];simp only[xC3,List.map_append,List.map_cons,List.map_nil,vlqF,hlt,if_false,List.append_assoc,List.cons_append,List.nil_append,Int.toNat_natCast]
theorem pR3 {n:Nat}(h:n<18446744073709551616):n<128 ^ 11:=Nat.lt_of_lt_of_le h (by decide)
theorem rH3 (n:Nat)(hn:n<18446744073709551616):tJ7 (n:Int)∧f71 (n:Int)=vlq n:=by
 obtain⟨k,e,h1,h2,h3,h4⟩:=rL0 10 n [] (pR3 hn) hn (by simp) (Nat.le_refl _);have h5:=h2.fix (by omega);constructor
 ·refine⟨h2.ends (by omega),?_⟩;show ((List.length (zC4 (wX ()) (wW1 ()) ([],(n:Int),())).1+List.length [_]:Nat):Int)≤4294967296;rw[h5];simp at h3 ⊢;omega
 ·show xC3 ((zC4 (wX ()) (wW1 ()) ([],(n:Int),())).1++[IntKind.wrap .u8 (zC4 (wX ()) (wW1 ()) ([],(n:Int),())).2.1])=_;rw[h5,h4];rfl
def wV5 (v:Int):List UInt8:=vlq (v % 18446744073709551616).toNat
theorem wV4 (v:Int):(wV5 v).length≤11:=tE1 _
theorem vA6 (v:Int):vD3 v∧f38 v=wV5 v:=by
 have h:IntKind.wrap .u64 v=((v % 18446744073709551616).toNat:Int):=by rw[IntKind.wrap_u64];omega
 have:=rH3 (v % 18446744073709551616).toNat (by omega);rw[← h] at this;exact this
end Go.Proofs.YtmbjipigimohbaaGreatDoor.Am
set_option linter.unusedVariables false
namespace Go.Proofs.YtmbjipigimohbaaGreatDoor.Am
open Go Go.Am Go.Proofs
theorem qO8 (p:D45):tF p:=⟨trivial,trivial,trivial,trivial⟩
def badP (d:List D45)(i:Int):Bool:=!(f84 (nth d i Z45))
def badM (d:List Int)(i:Int):Bool:=!(f74 (nth d i 0))
theorem pR4 (w h:Int):(!(f83 w h))=bif (bif (bif (bif decide (w<0) then true else decide (w>256)) then true else decide (h<0)) then true else decide (h>256)) then true else !(Ty.eqb .bool (w==0) (h==0)):=by
 show (!(bif (bif (bif (bif decide (w≥0) then decide (w≤256) else false) then decide (h≥0) else false) then decide (h≤256) else false) then Ty.eqb .bool (w==0) (h==0) else false))=_
 grind
def Small (w h n:Int):Prop:=0≤w∧w≤256∧0≤h∧h≤256∧n=w*h∧n≤65536
theorem rC3 {w h:Int}(h1:0≤w)(h2:w≤256)(h3:0≤h)(h4:h≤256):0≤w*h∧w*h≤65536:=
 ⟨Int.mul_nonneg h1 h3,by have:=Int.mul_le_mul h2 h4 h3 (by decide);simpa using this⟩
theorem rL1 {w h:Int}(hh:(bif (bif (bif decide (w<0) then true else decide (w>256)) then true else decide (h<0)) then true else decide (h>256))=false):0≤w∧w≤256∧0≤h∧h≤256:=by
 cases h1:decide (w<0)<;>cases h2:decide (w>256)<;>cases h3:decide (h<0)<;>cases h4:decide (h>256)<;>simp[h1,h2,h3,h4] at hh<;>simp at h1 h2 h3 h4<;>omega
theorem qD9 (A B C:Bool)(w h n:Int)(v:Int)(hA:A=(bif (bif (bif decide (w<0) then true else decide (w>256)) then true else decide (h<0)) then true else decide (h>256)))(hC:C=(n !=w*h))
  (hv:(bif A then (15:Int) else bif (bif B then true else C) then 15 else v)=0):Small w h n:=by
 cases A with
 |true=>simp at hv
 |false =>
  obtain⟨h1,h2,h3,h4⟩:=rL1 hA.symm;have:=rC3 h1 h2 h3 h4;cases B<;>cases C<;>simp at hv;simp at hC;exact⟨h1,h2,h3,h4,hC,by omega⟩
theorem pK7 (A B C x:Bool)(f:Bool)(h:f=(bif A then true else B)):(bif (bif f then true else C) then (15:Int) else bif x then 2 else 0)=(bif A then (15:Int) else bif (bif B then true else C) then 15 else bif x then 2 else 0):=by grind
theorem pK8 {a b:D45}:Ty.eqb T45 a b=true↔a=b:=by
 show ((a.1==b.1)&&((a.2.1==b.2.1)&&((a.2.2.1==b.2.2.1)&&((a.2.2.2.1==b.2.2.2.1)&&true))))=true↔_;obtain⟨a1,a2,a3,a4,_⟩:=a;obtain⟨b1,b2,b3,b4,_⟩:=b;simp only[Bool.and_eq_true,beq_iff_eq,Bool.and_true,Prod.mk.injEq,and_true]
def szE (w h:Int):Bool:=(bif (bif (bif decide (w<0) then true else decide (w>256)) then true else decide (h<0)) then true else decide (h>256))
theorem pR5 {w h:Int}(h2:szE w h=false):InR (w*h):=by
 obtain⟨a,b,c,d⟩:=rL1 h2;have:=rC3 a b c d;exact⟨by omega,by omega⟩
theorem pK9 (p:D43)(hl:len p.2.2.1<9223372036854775808):f57 p=bif szE p.1 p.2.1 then (15:Int) else bif (bif !(Ty.eqb .bool (p.1==0) (p.2.1==0)) then true else (len p.2.2.1 !=p.1*p.2.1)) then 15 else bif wT9 (len p.2.2.1) (badP p.2.2.1) then 2 else 0:=by
 have h1:=wR8 (g:=tF0 (p.2.2.1,len p.2.2.1,())) (next:=vX0 (p.2.2.1,len p.2.2.1,())) (n:=len p.2.2.1) (c:=badP p.2.2.1) (wO4 _) hl (fun _=>rfl) (fun _=>rfl)
 have e1:f57 p=bif (bif !(f83 p.1 p.2.1) then true else (len p.2.2.1 !=p.1*p.2.1)) then (15:Int) else bif wT9 (len p.2.2.1) (badP p.2.2.1) then 2 else 0:=by rw[← h1];rfl
 exact e1.trans (pK7 _ _ _ _ _ (pR4 p.1 p.2.1))
theorem qE (p:D43)(hl:len p.2.2.1<9223372036854775808):tQ2 p∧(f57 p=0→Small p.1 p.2.1 (len p.2.2.1)):=by
 have hb:∀ x:Int×Unit,0≤x.1→x.1≤len p.2.2.1→uE3 (p.2.2.1,len p.2.2.1,()) x:=fun x a b hx=>by
  have hx:x.1<len p.2.2.1:=of_decide_eq_true hx;exact⟨⟨a,hx⟩,qO8 _,fun _=>⟨by omega,by omega⟩⟩
 have ends1:=wQ8 (g:=tF0 (p.2.2.1,len p.2.2.1,())) (next:=vX0 (p.2.2.1,len p.2.2.1,())) (ok:=uE3 (p.2.2.1,len p.2.2.1,())) (n:=len p.2.2.1) (wO4 _) hl (fun x hx=>by
  have:=(Bool.and_eq_true _ _ ▸ hx:_∧_).1;exact of_decide_eq_true this) (fun _=>rfl) hb
 refine⟨⟨trivial,fun h=>?_,fun _=>ends1⟩,fun h=>qD9 _ _ _ _ _ _ _ rfl rfl ((pK9 p hl).symm.trans h)⟩;refine pR5 ?_;rw[pR4] at h;unfold szE
 grind
theorem qO9 (p:D24)(hl:len p.2.2.1<9223372036854775808):f40 p=bif szE p.1 p.2.1 then (15:Int) else bif (bif !(Ty.eqb .bool (p.1==0) (p.2.1==0)) then true else (len p.2.2.1 !=p.1*p.2.1)) then 15 else bif wT9 (len p.2.2.1) (badM p.2.2.1) then 2 else 0:=by
 have h1:=wR8 (g:=tE9 (p.2.2.1,len p.2.2.1,())) (next:=vW9 (p.2.2.1,len p.2.2.1,())) (n:=len p.2.2.1) (c:=badM p.2.2.1) (wO4 _) hl (fun _=>rfl) (fun _=>rfl)
 rw[← h1];rfl
theorem rL2 (p:D24)(hl:len p.2.2.1<9223372036854775808):tQ0 p∧(f40 p=0→Small p.1 p.2.1 (len p.2.2.1)):=by
 have hb:∀ x:Int×Unit,0≤x.1→x.1≤len p.2.2.1→uE2 (p.2.2.1,len p.2.2.1,()) x:=fun x a b hx=>by
  have hx:x.1<len p.2.2.1:=of_decide_eq_true hx;exact⟨⟨a,hx⟩,trivial,fun _=>⟨by omega,by omega⟩⟩
 have ends1:=wQ8 (g:=tE9 (p.2.2.1,len p.2.2.1,())) (next:=vW9 (p.2.2.1,len p.2.2.1,())) (ok:=uE2 (p.2.2.1,len p.2.2.1,())) (n:=len p.2.2.1) (wO4 _) hl (fun x hx=>by
  have:=(Bool.and_eq_true _ _ ▸ hx:_∧_).1;exact of_decide_eq_true this) (fun _=>rfl) hb
 exact⟨fun h=>⟨fun _=>pR5 (by unfold szE;simpa using h),fun _=>ends1⟩,fun h=>qD9 _ _ _ _ _ _ _ rfl rfl ((qO9 p hl).symm.trans h)⟩
end Go.Proofs.YtmbjipigimohbaaGreatDoor.Am
set_option linter.unusedVariables false
namespace Go.Proofs.YtmbjipigimohbaaGreatDoor.Am
open Go Go.Am Go.Proofs
theorem uC9 {α:Type}(l:List α)(i:Nat)(h:i<l.length)(d:α):nth l (i:Int) d=l[i]:=by
 simp[nth,List.getElem?_eq_getElem h]
theorem inR {x:Int}(h1:-9000000000000000000≤x)(h2:x≤9000000000000000000):InR x:=⟨by omega,by omega⟩
def go {α:Type}[DecidableEq α] (e:α→List UInt8):List α→Nat→List UInt8
 |[],_=>[]
 |[x],k=>wV5 k++e x
 |x::y::r,k=>if x=y then go e (y::r) (k+1) else wV5 k++e x++go e (y::r) 0
theorem sP4 (t:List Int){g:List UInt8×Int×Unit→Bool}{next:List UInt8×Int×Unit→List UInt8×Int×Unit}{ok:List UInt8×Int×Unit→Prop}
  (hg:∀ b i,g (b,i,())=decide (i<len t)) (hx:∀ b i,next (b,i,())=(b++f38 (nth t i 0),i+1,())) (ht:t.length≤1000)
  (hok:∀ b i,(i<len t→0≤i∧i<2000∧b.length+11≤4294967296)→ok (b,i,())) :
  ∀ (n i:Nat) (b:List UInt8),i+n=t.length→b.length+11*n≤4294967296→LT g next ok n (b,(i:Int),()) (b++((t.drop i).map wV5).flatten,(t.length:Int),()):=by
 intro n
 induction n with
 |zero =>
  intro i b hi hb;have e:(b++((t.drop i).map wV5).flatten,(t.length:Int),())=(b,(i:Int),()):=by
   rw[List.drop_of_length_le (by omega),show t.length=i by omega];simp
  rw[e];refine .stop (hok _ _ fun h=>?_) ?_
  ·simp only[len] at h;omega
  ·rw[hg];exact decide_eq_false (by simp only[len];omega)
 |succ n ih =>
  intro i b hi hb;have hit:i<t.length:=by omega
  have h1:f38 (nth t (i:Int) 0)=wV5 t[i]:=by rw[uC9 t i hit];exact (vA6 _).2
  refine .step (hok _ _ fun _=>⟨by omega,by omega,by omega⟩) (by rw[hg];exact decide_eq_true (by simp only[len];omega)) ?_;rw[hx,h1,List.drop_eq_getElem_cons hit,List.map_cons,List.flatten_cons,← List.append_assoc,show ((i:Int)+1)=((i+1:Nat):Int) by omega];refine ih (i+1) _ (by omega) ?_;have:=wV4 t[i];rw[List.length_append];omega
theorem rL3 {α:Type}[DecidableEq α] (e:α→List UInt8)(d:List α)(z x:α){g:Int×Unit→Bool}{next:Int×Unit→Int×Unit}{ok:Int×Unit→Prop}(hd:d.length<9223372036854775000)
  (hg:∀ p:Nat,g ((p:Int),())=(decide ((p:Int)<len d)&&decide (nth d (p:Int) z=x))) (hx:∀ i,next (i,())=(i+1,())) (hok:∀ p:Nat,p≤d.length→ok ((p:Int),())) :
  ∀ (n p k:Nat),p+n=d.length→(hp:0<p)→d[p-1]?=some x→∃ m,LT g next ok m ((p:Int),()) (((p+m:Nat):Int),())∧p+m≤d.length∧go e (d.drop (p-1)) k=wV5 ((k+m:Nat):Int)++e x++go e (d.drop (p+m)) 0:=by
 intro n
 induction n with
 |zero =>
  intro p k hp h0 hxp;obtain⟨h1,h2⟩:=List.getElem?_eq_some_iff.1 hxp;refine⟨0,.stop (hok _ (by omega)) ?_,by omega,?_⟩
  ·rw[hg,decide_eq_false (by simp only[len];omega)];rfl
  ·rw[List.drop_eq_getElem_cons h1,List.drop_of_length_le (show d.length≤p-1+1 by omega),List.drop_of_length_le (show d.length≤p+0 by omega),h2];simp[go]
 |succ n ih =>
  intro p k hp h0 hxp;obtain⟨h1,h2⟩:=List.getElem?_eq_some_iff.1 hxp;have hpl:p<d.length:=by omega
  have hdr:d.drop (p-1)=x::d[p]::d.drop (p+1):=by
   rw[List.drop_eq_getElem_cons h1,h2,show p-1+1=p by omega,List.drop_eq_getElem_cons hpl]
  have hdp:d.drop p=d[p]::d.drop (p+1):=List.drop_eq_getElem_cons hpl;have hlt:decide ((p:Int)<len d)=true:=decide_eq_true (by simp only[len];omega);by_cases hy:d[p]=x
  ·have hxp':d[p+1-1]?=some x:=by rw[Nat.add_sub_cancel,List.getElem?_eq_getElem hpl,hy]
   obtain⟨m,q1,q2,q3⟩:=ih (p+1) (k+1) (by omega) (by omega) hxp';refine⟨m+1,.step (hok _ (by omega)) ?_ ?_,by omega,?_⟩
   ·rw[hg,hlt,uC9 d p hpl,hy];simp
   ·rw[hx,show ((p:Int)+1)=((p+1:Nat):Int) by omega,show p+(m+1)=p+1+m by omega];exact q1
   ·rw[hdr,go,if_pos hy.symm,← hdp,show p+(m+1)=p+1+m by omega,show k+(m+1)=k+1+m by omega];rw[Nat.add_sub_cancel] at q3;exact q3
  ·refine⟨0,.stop (hok _ (by omega)) ?_,by omega,?_⟩
   ·rw[hg,hlt,uC9 d p hpl];simp[hy]
   ·rw[hdr,go,if_neg (fun h=>hy h.symm),← hdp];simp
theorem rL4 {α:Type}[DecidableEq α] (e:α→List UInt8)(E:Nat)(he:∀ x,(e x).length≤E):∀ (l:List α) (k:Nat),(go e l k).length≤l.length*(11+E)
 |[],_=>by simp[go]
 |[x],k=>by
  have:=he x;have:=wV4 (k:Int);simp only[go,List.length_append,List.length_cons,List.length_nil];omega
 |x::y::r,k=>by
  have h1:=rL4 e E he (y::r) (k+1);have h2:=rL4 e E he (y::r) 0;have:=he x;have:=wV4 (k:Int);have e1:(x::y::r).length*(11+E)=(y::r).length*(11+E)+(11+E):=by rw[List.length_cons,Nat.add_mul,Nat.one_mul]
  rw[e1,go];split
  ·omega
  ·simp only[List.length_append];omega
def ePix (x:D45):List UInt8:=((f59 x).map wV5).flatten
theorem rL5 (x:D45):(ePix x).length≤44:=by
 simp only[ePix,f59,f59t,List.map_cons,List.map_nil,List.flatten_cons,List.flatten_nil,List.length_append,List.length_nil];have h1:=wV4 x.1;have h2:=wV4 x.2.1;have h3:=wV4 x.2.2.1;have h4:=wV4 x.2.2.2.1;omega
theorem pR6 {a b:D45}:Ty.eqb T45 a b=decide (a=b):=by
 rw[Bool.eq_iff_iff,decide_eq_true_iff];exact pK8
theorem qE0 (d:List D45)(j:Int)(x:D45)(b:List UInt8)(hb:b.length+44≤4294967296) :
  LT (vG (d,(),j,f59 x,len (f59 x),())) (wZ6 (d,(),j,f59 x,len (f59 x),())) (vD (d,(),j,f59 x,len (f59 x),())) (f59 x).length (b,0,()) (b++ePix x,((f59 x).length:Int),()):=by
 have:=sP4 (f59 x) (g:=vG (d,(),j,f59 x,len (f59 x),())) (next:=wZ6 (d,(),j,f59 x,len (f59 x),())) (ok:=vD (d,(),j,f59 x,len (f59 x),()))
  (fun _ _=>rfl) (fun _ _=>rfl) (by simp[f59,f59t]) (fun b i h hv=>by
   have h':i<len (f59 x):=of_decide_eq_true hv;obtain⟨h1,h2,h3⟩:=h h';refine⟨⟨h1,h'⟩,(vA6 _).1,?_,(show InR (i+1) from inR (by omega) (by omega))⟩;show ((b.length+(f38 (nth (f59 x) i 0)).length:Nat):Int)≤4294967296;have:=wV4 (nth (f59 x) i 0);rw[(vA6 _).2];omega) (f59 x).length 0 b (by simp) (by simp[f59,f59t];omega)
 simpa[ePix] using this
theorem qE1 (d:List D45)(i:Nat)(b:List UInt8)(hd:d.length≤65536)(hi:i<d.length)(hb:b.length+55≤4294967296) :
  ∃ m,i+1+m≤d.length∧vG0 (d,(),()) (b,(i:Int),())∧vB2 (d,(),()) (b,(i:Int),())=(b++wV5 (m:Int)++ePix d[i],((i+1+m:Nat):Int),())∧go ePix (d.drop i) 0=wV5 (m:Int)++ePix d[i]++go ePix (d.drop (i+1+m)) 0:=by
 have hni:=uC9 d i hi Z45;obtain⟨m,h1,h2,h3⟩:=rL3 ePix d Z45 d[i] (g:=wW8 (d,(),b,(i:Int),())) (next:=wV7 (d,(),b,(i:Int),())) (ok:=vR7 (d,(),b,(i:Int),())) (by omega) (fun p=>by
   show (bif decide ((p:Int)<len d) then Ty.eqb T45 (nth d (p:Int) Z45) (nth d (i:Int) Z45) else false)=_;rw[pR6,hni];cases decide ((p:Int)<len d)<;>rfl) (fun _=>rfl) (fun p hp=>by
   refine⟨fun h=>⟨by show 0≤(p:Int);omega,of_decide_eq_true h⟩,fun h=>⟨by show 0≤(i:Int);omega,by show (i:Int)<len d;simp only[len];omega⟩,fun h=>(show InR ((p:Int)+1) from inR (by omega) (by omega))⟩)
  (d.length-(i+1)) (i+1) 0 (by omega) (by omega) (by simp[hi])
 have hf:=h1.fix (by omega);have he:=h1.ends (by omega);rw[show (((i+1:Nat):Int))=(i:Int)+1 by omega] at hf he;have hj:(((i+1+m:Nat):Int)-(i:Int)-1)=(m:Int):=by omega
 have hlen:(b++f38 (m:Int)).length+44≤4294967296:=by
  have:=wV4 (m:Int);rw[List.length_append,(vA6 _).2];omega
 have hin:=qE0 d ((i+1+m:Nat):Int) d[i] (b++f38 (m:Int)) hlen;have hc:(f59 d[i]).length<18446744073709551616:=by simp[f59,f59t]
 refine⟨m,h2,fun _=>?_,?_,?_⟩
 ·refine⟨(show InR ((i:Int)+1) from inR (by omega) (by omega)),he,?_⟩;show InR ((zC4 (wW8 (d,(),b,(i:Int),())) (wV7 (d,(),b,(i:Int),())) ((i:Int)+1,())).1-(i:Int))∧InR ((zC4 (wW8 (d,(),b,(i:Int),())) (wV7 (d,(),b,(i:Int),())) ((i:Int)+1,())).1-(i:Int)-1)∧vD3 ((zC4 (wW8 (d,(),b,(i:Int),())) (wV7 (d,(),b,(i:Int),())) ((i:Int)+1,())).1-(i:Int)-1) ∧
   ((b.length+(f38 ((zC4 (wW8 (d,(),b,(i:Int),())) (wV7 (d,(),b,(i:Int),())) ((i:Int)+1,())).1-(i:Int)-1)).length:Nat):Int)≤4294967296∧InB (i:Int) (len d)∧rA2 (nth d (i:Int) Z45) ∧
   xQ5 (vG (d,(),(zC4 (wW8 (d,(),b,(i:Int),())) (wV7 (d,(),b,(i:Int),())) ((i:Int)+1,())).1,f59 (nth d (i:Int) Z45),len (f59 (nth d (i:Int) Z45)),()))
    (wZ6 (d,(),(zC4 (wW8 (d,(),b,(i:Int),())) (wV7 (d,(),b,(i:Int),())) ((i:Int)+1,())).1,f59 (nth d (i:Int) Z45),len (f59 (nth d (i:Int) Z45)),()))
    (vD (d,(),(zC4 (wW8 (d,(),b,(i:Int),())) (wV7 (d,(),b,(i:Int),())) ((i:Int)+1,())).1,f59 (nth d (i:Int) Z45),len (f59 (nth d (i:Int) Z45)),()))
    (b++f38 ((zC4 (wW8 (d,(),b,(i:Int),())) (wV7 (d,(),b,(i:Int),())) ((i:Int)+1,())).1-(i:Int)-1),0,())
  rw[hf,hni];simp only[hj];refine⟨inR (by omega) (by omega),inR (by omega) (by omega),(vA6 _).1,?_,⟨by omega,by simp only[len];omega⟩,trivial,hin.ends hc⟩;rw[List.length_append] at hlen;omega
 ·show ((zC4 (vG (d,(),(zC4 (wW8 (d,(),b,(i:Int),())) (wV7 (d,(),b,(i:Int),())) ((i:Int)+1,())).1,f59 (nth d (i:Int) Z45),len (f59 (nth d (i:Int) Z45)),()))
    (wZ6 (d,(),(zC4 (wW8 (d,(),b,(i:Int),())) (wV7 (d,(),b,(i:Int),())) ((i:Int)+1,())).1,f59 (nth d (i:Int) Z45),len (f59 (nth d (i:Int) Z45)),()))
    (b++f38 ((zC4 (wW8 (d,(),b,(i:Int),())) (wV7 (d,(),b,(i:Int),())) ((i:Int)+1,())).1-(i:Int)-1),0,())).1,(zC4 (wW8 (d,(),b,(i:Int),())) (wV7 (d,(),b,(i:Int),())) ((i:Int)+1,())).1,())=_
  rw[hf,hni];simp only[hj];rw[hin.fix hc,(vA6 _).2]
 ·simpa using h3
theorem qE2 (d:List D45)(hd:d.length≤65536):∀ (n i:Nat) (b:List UInt8),i≤d.length→d.length≤i+n→b.length+(d.length-i)*55≤4294967296 →
  ∃ k,k≤n∧LT (vB1 (d,(),())) (vB2 (d,(),())) (vG0 (d,(),())) k (b,(i:Int),()) (b++go ePix (d.drop i) 0,(d.length:Int),()):=by
 intro n
 induction n with
 |zero =>
  intro i b h1 h2 hb;have e:(b++go ePix (d.drop i) 0,(d.length:Int),())=(b,(i:Int),()):=by
   rw[List.drop_of_length_le (by omega),show d.length=i by omega];simp[go]
  rw[e];have hg:vB1 (d,(),()) (b,(i:Int),())=false:=decide_eq_false (by show ¬ ((i:Int)<len d);simp only[len];omega);exact⟨0,Nat.le_refl _,.stop (fun h=>by have:vB1 (d,(),()) (b,(i:Int),())=true:=h;rw[hg] at this;cases this) hg⟩
 |succ n ih =>
  intro i b h1 h2 hb;by_cases hi:i<d.length
  ·obtain⟨m,q1,q2,q3,q4⟩:=qE1 d i b hd hi (by omega);have hm:=wV4 (m:Int);have hel:=rL5 d[i];obtain⟨k,r1,r2⟩:=ih (i+1+m) (b++wV5 (m:Int)++ePix d[i]) q1 (by omega) (by simp only[List.length_append];omega);refine⟨k+1,by omega,.step q2 (decide_eq_true (by show (i:Int)<len d;simp only[len];omega)) ?_⟩;rw[q3,q4];simpa only[List.append_assoc] using r2
  ·have e:(b++go ePix (d.drop i) 0,(d.length:Int),())=(b,(i:Int),()):=by
    rw[List.drop_of_length_le (by omega),show d.length=i by omega];simp[go]
   rw[e];have hg:vB1 (d,(),()) (b,(i:Int),())=false:=decide_eq_false (by show ¬ ((i:Int)<len d);simp only[len];omega);exact⟨0,Nat.zero_le _,.stop (fun h=>by have:vB1 (d,(),()) (b,(i:Int),())=true:=h;rw[hg] at this;cases this) hg⟩
theorem qP (w h:Int)(d:List D45)(hd:d.length≤65536):uT6 w h d ()∧qA3 w h d ()=wV5 w++wV5 h++go ePix d 0:=by
 have hw:=wV4 w;have hh:=wV4 h;obtain⟨k,h1,h2⟩:=qE2 d hd d.length 0 (wV5 w++wV5 h) (by omega) (by omega) (by simp only[List.length_append];omega);rw[List.drop_zero] at h2;have e1:=(vA6 w).2;have e2:=(vA6 h).2;constructor
 ·refine⟨(vA6 w).1,?_,(vA6 h).1,?_,?_⟩
  ·show ((0+(f38 w).length:Nat):Int)≤4294967296;rw[e1];omega
  ·show ((([]++f38 w).length+(f38 h).length:Nat):Int)≤4294967296;rw[e1,e2,List.nil_append];omega
  ·show xQ5 (vB1 (d,(),())) (vB2 (d,(),())) (vG0 (d,(),())) ([]++f38 w++f38 h,0,());rw[e1,e2];exact h2.ends (by omega)
 ·show (zC4 (vB1 (d,(),())) (vB2 (d,(),())) ([]++f38 w++f38 h,0,())).1=_;rw[e1,e2];exact congrArg (·.1) (h2.fix (by omega))
def eInt (x:Int):List UInt8:=((f42 x).map wV5).flatten
theorem rL6 (x:Int):(eInt x).length≤44:=by
 simp only[eInt,f42,f42t,List.map_cons,List.map_nil,List.flatten_cons,List.flatten_nil,List.length_append,List.length_nil];have h1:=wV4 x;omega
theorem pR7 {a b:Int}:BEq.beq a b=decide (a=b):=by
 rw[Bool.eq_iff_iff,decide_eq_true_iff];exact beq_iff_eq
theorem qE3 (d:List Int)(j:Int)(x:Int)(b:List UInt8)(hb:b.length+44≤4294967296) :
  LT (vF7 (d,(),j,f42 x,len (f42 x),())) (wZ5 (d,(),j,f42 x,len (f42 x),())) (vC9 (d,(),j,f42 x,len (f42 x),())) (f42 x).length (b,0,()) (b++eInt x,((f42 x).length:Int),()):=by
 have:=sP4 (f42 x) (g:=vF7 (d,(),j,f42 x,len (f42 x),())) (next:=wZ5 (d,(),j,f42 x,len (f42 x),())) (ok:=vC9 (d,(),j,f42 x,len (f42 x),()))
  (fun _ _=>rfl) (fun _ _=>rfl) (by simp[f42,f42t]) (fun b i h hv=>by
   have h':i<len (f42 x):=of_decide_eq_true hv;obtain⟨h1,h2,h3⟩:=h h';refine⟨⟨h1,h'⟩,(vA6 _).1,?_,(show InR (i+1) from inR (by omega) (by omega))⟩;show ((b.length+(f38 (nth (f42 x) i 0)).length:Nat):Int)≤4294967296;have:=wV4 (nth (f42 x) i 0);rw[(vA6 _).2];omega) (f42 x).length 0 b (by simp) (by simp[f42,f42t];omega)
 simpa[eInt] using this
theorem qE4 (d:List Int)(i:Nat)(b:List UInt8)(hd:d.length≤65536)(hi:i<d.length)(hb:b.length+55≤4294967296) :
  ∃ m,i+1+m≤d.length∧vF8 (d,(),()) (b,(i:Int),())∧vB0 (d,(),()) (b,(i:Int),())=(b++wV5 (m:Int)++eInt d[i],((i+1+m:Nat):Int),())∧go eInt (d.drop i) 0=wV5 (m:Int)++eInt d[i]++go eInt (d.drop (i+1+m)) 0:=by
 have hni:=uC9 d i hi 0;obtain⟨m,h1,h2,h3⟩:=rL3 eInt d 0 d[i] (g:=wW7 (d,(),b,(i:Int),())) (next:=wV6 (d,(),b,(i:Int),())) (ok:=vR5 (d,(),b,(i:Int),())) (by omega) (fun p=>by
   show (bif decide ((p:Int)<len d) then BEq.beq (nth d (p:Int) 0) (nth d (i:Int) 0) else false)=_;rw[pR7,hni];cases decide ((p:Int)<len d)<;>rfl) (fun _=>rfl) (fun p hp=>by
   refine⟨fun h=>⟨by show 0≤(p:Int);omega,of_decide_eq_true h⟩,fun h=>⟨by show 0≤(i:Int);omega,by show (i:Int)<len d;simp only[len];omega⟩,fun h=>(show InR ((p:Int)+1) from inR (by omega) (by omega))⟩)
  (d.length-(i+1)) (i+1) 0 (by omega) (by omega) (by simp[hi])
 have hf:=h1.fix (by omega);have he:=h1.ends (by omega);rw[show (((i+1:Nat):Int))=(i:Int)+1 by omega] at hf he;have hj:(((i+1+m:Nat):Int)-(i:Int)-1)=(m:Int):=by omega
 have hlen:(b++f38 (m:Int)).length+44≤4294967296:=by
  have:=wV4 (m:Int);rw[List.length_append,(vA6 _).2];omega
 have hin:=qE3 d ((i+1+m:Nat):Int) d[i] (b++f38 (m:Int)) hlen;have hc:(f42 d[i]).length<18446744073709551616:=by simp[f42,f42t]
 refine⟨m,h2,fun _=>?_,?_,?_⟩
 ·refine⟨(show InR ((i:Int)+1) from inR (by omega) (by omega)),he,?_⟩;show InR ((zC4 (wW7 (d,(),b,(i:Int),())) (wV6 (d,(),b,(i:Int),())) ((i:Int)+1,())).1-(i:Int))∧InR ((zC4 (wW7 (d,(),b,(i:Int),())) (wV6 (d,(),b,(i:Int),())) ((i:Int)+1,())).1-(i:Int)-1)∧vD3 ((zC4 (wW7 (d,(),b,(i:Int),())) (wV6 (d,(),b,(i:Int),())) ((i:Int)+1,())).1-(i:Int)-1) ∧
   ((b.length+(f38 ((zC4 (wW7 (d,(),b,(i:Int),())) (wV6 (d,(),b,(i:Int),())) ((i:Int)+1,())).1-(i:Int)-1)).length:Nat):Int)≤4294967296∧InB (i:Int) (len d)∧rA (nth d (i:Int) 0) ∧
   xQ5 (vF7 (d,(),(zC4 (wW7 (d,(),b,(i:Int),())) (wV6 (d,(),b,(i:Int),())) ((i:Int)+1,())).1,f42 (nth d (i:Int) 0),len (f42 (nth d (i:Int) 0)),()))
    (wZ5 (d,(),(zC4 (wW7 (d,(),b,(i:Int),())) (wV6 (d,(),b,(i:Int),())) ((i:Int)+1,())).1,f42 (nth d (i:Int) 0),len (f42 (nth d (i:Int) 0)),()))
    (vC9 (d,(),(zC4 (wW7 (d,(),b,(i:Int),())) (wV6 (d,(),b,(i:Int),())) ((i:Int)+1,())).1,f42 (nth d (i:Int) 0),len (f42 (nth d (i:Int) 0)),()))
    (b++f38 ((zC4 (wW7 (d,(),b,(i:Int),())) (wV6 (d,(),b,(i:Int),())) ((i:Int)+1,())).1-(i:Int)-1),0,())
  rw[hf,hni];simp only[hj];refine⟨inR (by omega) (by omega),inR (by omega) (by omega),(vA6 _).1,?_,⟨by omega,by simp only[len];omega⟩,trivial,hin.ends hc⟩;rw[List.length_append] at hlen;omega
 ·show ((zC4 (vF7 (d,(),(zC4 (wW7 (d,(),b,(i:Int),())) (wV6 (d,(),b,(i:Int),())) ((i:Int)+1,())).1,f42 (nth d (i:Int) 0),len (f42 (nth d (i:Int) 0)),()))
    (wZ5 (d,(),(zC4 (wW7 (d,(),b,(i:Int),())) (wV6 (d,(),b,(i:Int),())) ((i:Int)+1,())).1,f42 (nth d (i:Int) 0),len (f42 (nth d (i:Int) 0)),()))
    (b++f38 ((zC4 (wW7 (d,(),b,(i:Int),())) (wV6 (d,(),b,(i:Int),())) ((i:Int)+1,())).1-(i:Int)-1),0,())).1,(zC4 (wW7 (d,(),b,(i:Int),())) (wV6 (d,(),b,(i:Int),())) ((i:Int)+1,())).1,())=_
  rw[hf,hni];simp only[hj];rw[hin.fix hc,(vA6 _).2]
 ·simpa using h3
theorem qE5 (d:List Int)(hd:d.length≤65536):∀ (n i:Nat) (b:List UInt8),i≤d.length→d.length≤i+n→b.length+(d.length-i)*55≤4294967296 →
  ∃ k,k≤n∧LT (vA9 (d,(),())) (vB0 (d,(),())) (vF8 (d,(),())) k (b,(i:Int),()) (b++go eInt (d.drop i) 0,(d.length:Int),()):=by
 intro n
 induction n with
 |zero =>
  intro i b h1 h2 hb;have e:(b++go eInt (d.drop i) 0,(d.length:Int),())=(b,(i:Int),()):=by
   rw[List.drop_of_length_le (by omega),show d.length=i by omega];simp[go]
  rw[e];have hg:vA9 (d,(),()) (b,(i:Int),())=false:=decide_eq_false (by show ¬ ((i:Int)<len d);simp only[len];omega);exact⟨0,Nat.le_refl _,.stop (fun h=>by have:vA9 (d,(),()) (b,(i:Int),())=true:=h;rw[hg] at this;cases this) hg⟩
 |succ n ih =>
  intro i b h1 h2 hb;by_cases hi:i<d.length
  ·obtain⟨m,q1,q2,q3,q4⟩:=qE4 d i b hd hi (by omega);have hm:=wV4 (m:Int);have hel:=rL6 d[i];obtain⟨k,r1,r2⟩:=ih (i+1+m) (b++wV5 (m:Int)++eInt d[i]) q1 (by omega) (by simp only[List.length_append];omega);refine⟨k+1,by omega,.step q2 (decide_eq_true (by show (i:Int)<len d;simp only[len];omega)) ?_⟩;rw[q3,q4];simpa only[List.append_assoc] using r2
  ·have e:(b++go eInt (d.drop i) 0,(d.length:Int),())=(b,(i:Int),()):=by
    rw[List.drop_of_length_le (by omega),show d.length=i by omega];simp[go]
   rw[e];have hg:vA9 (d,(),()) (b,(i:Int),())=false:=decide_eq_false (by show ¬ ((i:Int)<len d);simp only[len];omega);exact⟨0,Nat.zero_le _,.stop (fun h=>by have:vA9 (d,(),()) (b,(i:Int),())=true:=h;rw[hg] at this;cases this) hg⟩
theorem qP0 (w h:Int)(d:List Int)(hd:d.length≤65536):uT4 w h d ()∧qA0 w h d ()=wV5 w++wV5 h++go eInt d 0:=by
 have hw:=wV4 w;have hh:=wV4 h;obtain⟨k,h1,h2⟩:=qE5 d hd d.length 0 (wV5 w++wV5 h) (by omega) (by omega) (by simp only[List.length_append];omega);rw[List.drop_zero] at h2;have e1:=(vA6 w).2;have e2:=(vA6 h).2;constructor
 ·refine⟨(vA6 w).1,?_,(vA6 h).1,?_,?_⟩
  ·show ((0+(f38 w).length:Nat):Int)≤4294967296;rw[e1];omega
  ·show ((([]++f38 w).length+(f38 h).length:Nat):Int)≤4294967296;rw[e1,e2,List.nil_append];omega
  ·show xQ5 (vA9 (d,(),())) (vB0 (d,(),())) (vF8 (d,(),())) ([]++f38 w++f38 h,0,());rw[e1,e2];exact h2.ends (by omega)
 ·show (zC4 (vA9 (d,(),())) (vB0 (d,(),())) ([]++f38 w++f38 h,0,())).1=_;rw[e1,e2];exact congrArg (·.1) (h2.fix (by omega))
end Go.Proofs.YtmbjipigimohbaaGreatDoor.Am
set_option linter.unusedVariables false
namespace Go.Proofs.YtmbjipigimohbaaGreatDoor.Am
open Go Go.Am Go.Proofs
theorem sK3 {x:Int}(h1:-9223372036854775808≤x)(h2:x<9223372036854775808):IntKind.wrap .i64 x=x:=by rw[IntKind.wrap_i64];omega
def imgW (p:D43):D43:=bif (f57 p !=0) then ((0:Int),(0:Int),([]:List D45),()) else p
theorem sP5 (p:D43)(hl:len p.2.2.1<9223372036854775808):(imgW p).2.2.1.length≤65536:=by
 obtain⟨c1,c4⟩:=qE p hl;by_cases h:f57 p=0
 ·have hq:imgW p=p:=by unfold imgW;rw[h];rfl
  have:=(c4 h).2.2.2.2.2;rw[hq];simp only[len] at this;omega
 ·have hb:(f57 p !=0)=true:=by simpa using h
  have hq:imgW p=((0:Int),(0:Int),([]:List D45),()):=by unfold imgW;rw[hb];rfl
  rw[hq];simp
theorem rH4 (p:D43)(hl:len p.2.2.1<9223372036854775808):tB9 p∧f22 p=wV5 (imgW p).1++wV5 (imgW p).2.1++go ePix (imgW p).2.2.1 0:=by
 obtain⟨c1,c4⟩:=qE p hl;obtain⟨r1,r2⟩:=qP (imgW p).1 (imgW p).2.1 (imgW p).2.2.1 (sP5 p hl);exact⟨⟨c1,r1⟩,r2⟩
theorem rH5 (p:D43)(hl:len p.2.2.1<9223372036854775808):(f22 p).length≤4000000:=by
 have hs:=sP5 p hl;have h1:=wV4 (imgW p).1;have h2:=wV4 (imgW p).2.1;have h3:=rL4 ePix 44 rL5 (imgW p).2.2.1 0;rw[(rH4 p hl).2,List.length_append,List.length_append];omega
def tL6 (p:D24):D24:=bif (f40 p !=0) then ((0:Int),(0:Int),([]:List Int),()) else p
theorem sJ5 (p:D24)(hl:len p.2.2.1<9223372036854775808):(tL6 p).2.2.1.length≤65536:=by
 obtain⟨c1,c4⟩:=rL2 p hl;by_cases h:f40 p=0
 ·have hq:tL6 p=p:=by unfold tL6;rw[h];rfl
  have:=(c4 h).2.2.2.2.2;rw[hq];simp only[len] at this;omega
 ·have hb:(f40 p !=0)=true:=by simpa using h
  have hq:tL6 p=((0:Int),(0:Int),([]:List Int),()):=by unfold tL6;rw[hb];rfl
  rw[hq];simp
theorem sV4 (p:D24)(hl:len p.2.2.1<9223372036854775808):sH8 p∧f12 p=wV5 (tL6 p).1++wV5 (tL6 p).2.1++go eInt (tL6 p).2.2.1 0:=by
 obtain⟨c1,c4⟩:=rL2 p hl;obtain⟨r1,r2⟩:=qP0 (tL6 p).1 (tL6 p).2.1 (tL6 p).2.2.1 (sJ5 p hl);exact⟨⟨c1,r1⟩,r2⟩
theorem sV5 (p:D24)(hl:len p.2.2.1<9223372036854775808):(f12 p).length≤4000000:=by
 have hs:=sJ5 p hl;have h1:=wV4 (tL6 p).1;have h2:=wV4 (tL6 p).2.1;have h3:=rL4 eInt 44 rL6 (tL6 p).2.2.1 0;rw[(sV4 p hl).2,List.length_append,List.length_append];omega
end Go.Proofs.YtmbjipigimohbaaGreatDoor.Am
set_option linter.unusedVariables false
namespace Go.Proofs.YtmbjipigimohbaaGreatDoor.Am
open Go Go.Am Go.Proofs
def I64 (v:Int):Prop:=-9223372036854775808≤v∧v≤9223372036854775807
def zz (v:Int):Int:=if 0≤v then 2*v else -2*v-1
def intB (v:Int):List UInt8:=wV5 (zz v)
theorem wV3 (v:Int):(intB v).length≤11:=wV4 _
theorem shl1 (x:Int):IntKind.wrap .u64 (wV0 x 1 64)=(2*x) % 18446744073709551616:=by
 show IntKind.wrap .u64 (x*2 ^ (min (1:Int).toNat 64))=_;rw[show (2:Int) ^ (min (1:Int).toNat 64)=2 by decide,IntKind.wrap_u64,Int.mul_comm]
theorem pU0 (x:Int)(h0:0≤x)(h1:x<18446744073709551616):wV .u64 x=18446744073709551615-x:=by
 obtain⟨n,rfl⟩:∃ n:Nat,x=(n:Int):=⟨x.toNat,by omega⟩;have e:wV .u64 (n:Int)=IntKind.wrap .u64 ((BitVec.ofInt 64 (IntKind.max .u64) ^^^ BitVec.ofInt 64 (n:Int)).toNat):=rfl;have hm:BitVec.ofInt 64 (IntKind.max .u64)=BitVec.allOnes 64:=by decide
 rw[e,hm,BitVec.allOnes_xor,BitVec.toNat_not,BitVec.ofInt_natCast,BitVec.toNat_ofNat,IntKind.wrap_u64,Nat.mod_eq_of_lt (by omega:n<2 ^ 64)];omega
theorem qE6 {v:Int}(h:I64 v):f73 v=zz v:=by
 obtain⟨h1,h2⟩:=h;show (bif decide (v<0) then wV .u64 (IntKind.wrap .u64 (wV0 (IntKind.wrap .u64 v) 1 64)) else IntKind.wrap .u64 (wV0 (IntKind.wrap .u64 v) 1 64))=_;rw[shl1,IntKind.wrap_u64];unfold zz;by_cases hv:v<0
 ·rw[decide_eq_true hv,if_neg (by omega),cond_true,pU0 _ (by omega) (by omega)];omega
 ·rw[decide_eq_false hv,if_pos (by omega),cond_false];omega
theorem qS4 {v:Int}(h:I64 v):∃ n:Nat,zz v=(n:Int)∧n<18446744073709551616:=by
 obtain⟨h1,h2⟩:=h;have:0≤zz v∧zz v<18446744073709551616:=by unfold zz;split<;>omega
 exact⟨(zz v).toNat,by omega,by omega⟩
theorem pL {v:Int}(h:I64 v):tJ7 (zz v)∧f71 (zz v)=intB v:=by
 obtain⟨n,e,hn⟩:=qS4 h;have hb:intB v=vlq n:=by
  unfold intB wV5;rw[e,show ((n:Int) % 18446744073709551616).toNat=n by omega]
 rw[hb,e];exact⟨(rH3 n hn).1,(rH3 n hn).2⟩
theorem qE7 {v:Int}(h:I64 v):rA6 v∧f70 v=intB v:=by
 obtain⟨h1,h2⟩:=pL h;constructor
 ·exact⟨trivial,by show tJ7 (f73 v);rw[qE6 h];exact h1⟩
 ·show f71 (f73 v)=_;rw[qE6 h];exact h2
def tU3 (b:Bool):List UInt8:=wV5 (bif b then 1 else 0)
def sJ6 (s:List UInt8):List UInt8:=wV5 (len s)++s
theorem uV2 (s:List UInt8)(hs:s.length≤4000000000):vJ4 s∧f34 s=sJ6 s:=by
 have h:=vA6 (len s);have hb:=wV4 (len s);have e1:f71 (IntKind.wrap .u64 (len s))=wV5 (len s):=h.2;refine⟨⟨h.1,?_⟩,?_⟩
 ·show ((List.length (f71 (IntKind.wrap .u64 (len s)))+List.length s:Nat):Int)≤9223372036854775807;rw[e1];omega
 ·show f71 (IntKind.wrap .u64 (len s))++s=_;rw[e1];rfl
theorem qE8 {α:Type}(t:List α)(z:α)(e:α→List UInt8)(E:Nat)(he:∀ x,(e x).length≤E){g:List UInt8×Int×Unit→Bool}{next:List UInt8×Int×Unit→List UInt8×Int×Unit}{ok:List UInt8×Int×Unit→Prop}
  (hg:∀ b i,g (b,i,())=decide (i<len t)) (hx:∀ b (i:Nat),i<t.length→next (b,(i:Int),())=(b++e (nth t (i:Int) z),(i:Int)+1,())) (ht:t.length≤4000000000)
  (hok:∀ b (i:Nat),(i<t.length→b.length+E≤4294967296)→ok (b,(i:Int),())) :
  ∀ (n i:Nat) (b:List UInt8),i+n=t.length→b.length+E*n≤4294967296→LT g next ok n (b,(i:Int),()) (b++((t.drop i).map e).flatten,(t.length:Int),()):=by
 intro n
 induction n with
 |zero =>
  intro i b hi hb;have h1:(b++((t.drop i).map e).flatten,(t.length:Int),())=(b,(i:Int),()):=by
   rw[List.drop_of_length_le (by omega),show t.length=i by omega];simp
  rw[h1];refine .stop (hok _ _ fun h=>by omega) ?_;rw[hg];exact decide_eq_false (by simp only[len];omega)
 |succ n ih =>
  intro i b hi hb;have hit:i<t.length:=by omega
  rw[Nat.mul_succ] at hb;refine .step (hok _ _ fun _=>by omega) (by rw[hg];exact decide_eq_true (by simp only[len];omega)) ?_;rw[hx _ _ hit,uC9 t i hit,List.drop_eq_getElem_cons hit,List.map_cons,List.flatten_cons,← List.append_assoc,show ((i:Int)+1)=((i+1:Nat):Int) by omega];refine ih (i+1) _ (by omega) ?_;have:=he t[i];rw[List.length_append];omega
theorem tL7 {α:Type}(t:List α)(z:α)(e:α→List UInt8)(E:Nat)(he:∀ x,(e x).length≤E){g:List UInt8×Int×Unit→Bool}{next:List UInt8×Int×Unit→List UInt8×Int×Unit}{ok:List UInt8×Int×Unit→Prop}
  (hg:∀ b i,g (b,i,())=decide (i<len t)) (hx:∀ b (i:Nat),i<t.length→next (b,(i:Int),())=(b++e (nth t (i:Int) z),(i:Int)+1,()))
  (hok:∀ b (i:Nat),(i<t.length→b.length+E≤4294967296)→ok (b,(i:Int),())) (b:List UInt8) (ht:t.length≤4000000000) (hb:b.length+E*t.length≤4294967296) :
  xQ5 g next ok (b,0,())∧(zC4 g next (b,0,())).1=b++(t.map e).flatten:=by
 have h:=qE8 t z e E he hg hx ht hok t.length 0 b (by omega) hb;exact⟨h.ends (by omega),congrArg (·.1) (h.fix (by omega))⟩
end Go.Proofs.YtmbjipigimohbaaGreatDoor.Am
set_option linter.unusedVariables false
namespace Go.Proofs.YtmbjipigimohbaaGreatDoor.Am
open Go Go.Am Go.Proofs
def uB8 (l:List Int):List UInt8:=(l.map intB).flatten
theorem sV6 {l:List Int}(h:∀ v∈l,I64 v)(i:Nat)(hi:i<l.length):I64 (nth l (i:Int) 0):=by
 rw[uC9 l i hi];exact h _ (List.getElem_mem hi)
theorem tL8 {α:Type}(l:List α)(i:Nat)(hi:i<l.length):InB (i:Int) (len l):=⟨by omega,by simp only[len];omega⟩
theorem rS6 {α:Type}{l:List α}{i:Nat}(h:decide ((i:Int)<len l)=true):i<l.length:=by
 have:=of_decide_eq_true h;simp only[len] at this;omega
theorem uI0 (l:List Int)(h:∀ v∈l,I64 v)(hl:l.length≤1000):wY2 l∧f33 l=uB8 l:=by
 have:=tL7 l 0 intB 11 wV3 (g:=tW (l,len l,())) (next:=uM2 (l,len l,())) (ok:=uT7 (l,len l,())) (fun _ _=>rfl) (fun b i hi=>by
  show (b++f70 (nth l (i:Int) 0),(i:Int)+1,())=_;rw[(qE7 (sV6 h i hi)).2]) (fun b i hb hv=>by
  have hi:i<l.length:=rS6 hv;refine⟨tL8 l i hi,(qE7 (sV6 h i hi)).1,?_,(show InR ((i:Int)+1) from inR (by omega) (by omega))⟩;show ((b.length+(f70 (nth l (i:Int) 0)).length:Nat):Int)≤4294967296;have:=wV3 (nth l (i:Int) 0);have:=hb hi;rw[(qE7 (sV6 h i hi)).2];omega) [] (by omega) (by simp only[List.length_nil];omega)
 exact⟨this.1,this.2⟩
theorem uV3 (l:List Int):(uB8 l).length≤11*l.length:=by
 induction l with
 |nil=>simp[uB8]
 |cons x r ih =>
  have:=wV3 x;simp only[uB8,List.map_cons,List.flatten_cons,List.length_append,List.length_cons] at ih ⊢;omega
def qS5 (l:List Bool):List UInt8:=(l.map tU3).flatten
theorem pR8 (l:List Bool)(hl:l.length≤1000):sO6 l∧f35 l=qS5 l:=by
 have hb0:∀ b:Bool,f38 (bif b then (1:Int) else 0)=tU3 b:=fun b=>(vA6 _).2;have:=tL7 l false tU3 11 (fun b=>wV4 _) (g:=tW0 (l,len l,())) (next:=uM4 (l,len l,())) (ok:=uT8 (l,len l,())) (fun _ _=>rfl) (fun b i hi=>by
  show (b++f38 (bif nth l (i:Int) false then (1:Int) else 0),(i:Int)+1,())=_;rw[hb0]) (fun b i hb hv=>by
  have hi:i<l.length:=rS6 hv;refine⟨tL8 l i hi,(vA6 _).1,?_,(show InR ((i:Int)+1) from inR (by omega) (by omega))⟩;show ((b.length+(f38 (bif nth l (i:Int) false then (1:Int) else 0)).length:Nat):Int)≤4294967296;have:=wV4 (bif nth l (i:Int) false then (1:Int) else 0);have:=hb hi;rw[(vA6 _).2];omega) [] (by omega) (by simp only[List.length_nil];omega)
 exact⟨this.1,this.2⟩
theorem qS6 (l:List Int)(n:Nat)(hn:n<18446744073709551616)(hl:l.length≤4294960000):vN0 l (n:Int)∧xC3 (uH2 l (n:Int))=xC3 l++vlq n∧(uH2 l (n:Int)).length≤l.length+11:=by
 obtain⟨k,e,h1,h2,h3,h4⟩:=rL0 10 n l (pR3 hn) hn (by omega) (Nat.le_refl _);have h5:=h2.fix (by omega);refine⟨⟨h2.ends (by omega),?_⟩,?_,?_⟩
 ·show ((List.length (zC4 (wX ()) (wW1 ()) (l,(n:Int),())).1+List.length [_]:Nat):Int)≤4294967296;rw[h5];simp only[List.length_cons,List.length_nil];omega
 ·show xC3 ((zC4 (wX ()) (wW1 ()) (l,(n:Int),())).1++[IntKind.wrap .u8 (zC4 (wX ()) (wW1 ()) (l,(n:Int),())).2.1])=_;rw[h5,h4];rfl
 ·show ((zC4 (wX ()) (wW1 ()) (l,(n:Int),())).1++[IntKind.wrap .u8 (zC4 (wX ()) (wW1 ()) (l,(n:Int),())).2.1]).length≤_;rw[h5,List.length_append];simp only[List.length_cons,List.length_nil];omega
theorem qP1 {v:Int}(h:I64 v):∃ n:Nat,zz v=(n:Int)∧n<18446744073709551616∧intB v=vlq n:=by
 obtain⟨n,e,hn⟩:=qS4 h;refine⟨n,e,hn,?_⟩;unfold intB wV5;rw[e,show ((n:Int) % 18446744073709551616).toNat=n by omega]
theorem qE9 (t:List Int)(h:∀ v∈t,I64 v)(ht:t.length≤300000000):∀ (n i:Nat) (b:List Int),i+n=t.length→b.length+11*n≤4294950000 →
  ∃ b',LT (vU4 (t,len t,())) (vG1 (t,len t,())) (uH4 (t,len t,())) n (b,(i:Int),()) (b',(t.length:Int),())∧xC3 b'=xC3 b++uB8 (t.drop i):=by
 intro n
 induction n with
 |zero =>
  intro i b hi hb;refine⟨b,?_,by rw[List.drop_of_length_le (by omega)];simp[uB8]⟩;have hg:vU4 (t,len t,()) (b,(i:Int),())=false:=decide_eq_false (by show ¬ (i:Int)<len t;simp only[len];omega);rw[show (t.length:Int)=(i:Int) by omega];exact .stop (fun h=>by have:vU4 (t,len t,()) (b,(i:Int),())=true:=h;rw[hg] at this;cases this) hg
 |succ n ih =>
  intro i b hi hb;have hit:i<t.length:=by omega
  have hI:=sV6 h i hit;obtain⟨m,e1,e2,e3⟩:=qP1 hI;obtain⟨a1,a2,a3⟩:=qS6 b m e2 (by omega);have hf:f73 (nth t (i:Int) 0)=(m:Int):=(qE6 hI).trans e1;obtain⟨b',q1,q2⟩:=ih (i+1) (uH2 b (m:Int)) (by omega) (by omega);have hn:vG1 (t,len t,()) (b,(i:Int),())=(uH2 b (m:Int),((i+1:Nat):Int),()):=by
   show (uH2 b (f73 (nth t (i:Int) 0)),IntKind.wrap .i64 ((i:Int)+1),())=_;rw[hf,sK3 (by omega) (by omega)];rfl
  rw[← hn] at q1;refine⟨b',.step (fun _=>⟨tL8 t i hit,trivial,?_⟩) (decide_eq_true (by show (i:Int)<len t;simp only[len];omega)) q1,?_⟩
  ·show vN0 b (f73 (nth t (i:Int) 0));rw[hf];exact a1
  ·rw[q2,a2,List.drop_eq_getElem_cons hit,← uC9 t i hit 0,← e3];simp only[uB8,List.map_cons,List.flatten_cons,List.append_assoc]
theorem qF (t:List Int)(h:∀ v∈t,I64 v)(ht:t.length≤300000000):rA8 t∧f36 t=wV5 (len t)++uB8 t:=by
 have hu:IntKind.wrap .u64 (len t)=((t.length:Nat):Int):=by rw[IntKind.wrap_u64];simp only[len];omega
 obtain⟨a1,a2,a3⟩:=qS6 [] t.length (by omega) (by simp);simp only[List.length_nil] at a3;obtain⟨b',q1,q2⟩:=qE9 t h ht t.length 0 (uH2 [] ((t.length:Nat):Int)) (by omega) (by omega);have hb:wV5 (len t)=vlq t.length:=by
  unfold wV5;rw[show (len t % 18446744073709551616).toNat=t.length by simp only[len];omega]
 refine⟨⟨?_,?_⟩,?_⟩
 ·show vN0 [] (IntKind.wrap .u64 (len t));rw[hu];exact a1
 ·show xQ5 (vU4 (t,len t,())) (vG1 (t,len t,())) (uH4 (t,len t,())) (uH2 [] (IntKind.wrap .u64 (len t)),0,());rw[hu];exact q1.ends (by omega)
 ·show xC3 (zC4 (vU4 (t,len t,())) (vG1 (t,len t,())) (uH2 [] (IntKind.wrap .u64 (len t)),0,())).1=_;rw[hu,show zC4 (vU4 (t,len t,())) (vG1 (t,len t,())) (uH2 [] ((t.length:Nat):Int),0,())=_ from q1.fix (by omega),hb];show xC3 b'=_;rw[q2,a2];rfl
def colB (c:D45):List UInt8:=intB c.1++(intB c.2.1++(intB c.2.2.1++intB c.2.2.2.1))
def IC (c:D45):Prop:=I64 c.1∧I64 c.2.1∧I64 c.2.2.1∧I64 c.2.2.2.1
theorem sV7 (c:D45):(colB c).length≤44:=by
 have h1:=wV3 c.1;have h2:=wV3 c.2.1;have h3:=wV3 c.2.2.1;have h4:=wV3 c.2.2.2.1;simp only[colB,List.length_append];omega
def sV8 (s:D127):List UInt8:=intB s.1++colB s.2.1
def IS (s:D127):Prop:=I64 s.1∧IC s.2.1
theorem uV4 (s:D127):(sV8 s).length≤55:=by
 have:=wV3 s.1;have:=sV7 s.2.1;simp only[sV8,List.length_append];omega
def ptB (p:D99):List UInt8:=intB p.1++intB p.2.1
def IP (p:D99):Prop:=I64 p.1∧I64 p.2.1
theorem tE2 (p:D99):(ptB p).length≤22:=by
 have:=wV3 p.1;have:=wV3 p.2.1;simp only[ptB,List.length_append];omega
def segB (s:D130):List UInt8:=intB s.1++(s.2.1.map ptB).flatten
def IG (s:D130):Prop:=I64 s.1∧s.2.1.length=3∧∀ p∈s.2.1,IP p
theorem qF0 (l:List D99):((l.map ptB).flatten).length≤22*l.length:=by
 induction l with
 |nil=>simp
 |cons x r ih =>
  have:=tE2 x;simp only[List.map_cons,List.flatten_cons,List.length_append,List.length_cons];omega
theorem rL7 {s:D127}(h:IS s):wY2 [s.1,s.2.1.1,s.2.1.2.1,s.2.1.2.2.1,s.2.1.2.2.2.1]∧f33 [s.1,s.2.1.1,s.2.1.2.1,s.2.1.2.2.1,s.2.1.2.2.2.1]=sV8 s:=by
 obtain⟨h1,h2,h3,h4,h5⟩:=h;have:=uI0 [s.1,s.2.1.1,s.2.1.2.1,s.2.1.2.2.1,s.2.1.2.2.2.1] (by simp[h1,h2,h3,h4,h5]) (by simp);refine⟨this.1,this.2.trans ?_⟩;simp[uB8,sV8,colB]
theorem rL8 {p:D99}(h:IP p):wY2 [p.1,p.2.1]∧f33 [p.1,p.2.1]=ptB p:=by
 have:=uI0 [p.1,p.2.1] (by simp[h.1,h.2]) (by simp);refine⟨this.1,this.2.trans ?_⟩;simp[uB8,ptB]
theorem sV9 {v:Int}(h:I64 v):wY2 [v]∧f33 [v]=intB v:=by
 have:=uI0 [v] (by simp[h]) (by simp);refine⟨this.1,this.2.trans ?_⟩;simp[uB8]
end Go.Proofs.YtmbjipigimohbaaGreatDoor.Am
set_option linter.unusedVariables false
namespace Go.Proofs.YtmbjipigimohbaaGreatDoor.Am
open Go Go.Am Go.Proofs
theorem vQ5 {α:Type}{l:List α}{q:α→Prop}(h:∀ x∈l,q x)(i:Nat)(hi:i<l.length)(z:α):q (nth l (i:Int) z):=by
 rw[uC9 l i hi];exact h _ (List.getElem_mem hi)
abbrev wW5 (N:D52):List D127:=N.2.2.2.2.2.2.2.2.2.2.2.2.2.2.2.2.2.1
abbrev vK9 (N:D52):List D130:=N.2.2.2.2.2.2.2.2.2.2.2.2.2.2.2.2.2.2.1
abbrev nPts (N:D52):List D99:=N.2.2.2.2.2.2.2.2.2.2.2.2.2.2.2.2.2.2.2.2.2.2.2.2.2.2.2.1.2.2.2.1
abbrev sP6 (l:List D127):List UInt8:=(l.map sV8).flatten
abbrev rS7 (l:List D130):List UInt8:=(l.map segB).flatten
abbrev ptsB (l:List D99):List UInt8:=(l.map ptB).flatten
theorem tL9 {α:Type}(e:α→List UInt8)(E:Nat)(he:∀ x,(e x).length≤E)(l:List α):((l.map e).flatten).length≤E*l.length:=by
 induction l with
 |nil=>simp
 |cons x r ih =>
  have:=he x;simp only[List.map_cons,List.flatten_cons,List.length_append,List.length_cons,Nat.mul_succ];omega
theorem qF1 (N:D52)(t:List D127)(h:∀ s∈t,IS s)(b:List UInt8)(ht:t.length≤1048576)(hb:b.length≤1000000000) :
  xQ5 (vU5 (N,t,len t,())) (vD0 (N,t,len t,())) (uH5 (N,t,len t,())) (b,0,())∧(zC4 (vU5 (N,t,len t,())) (vD0 (N,t,len t,())) (b,0,())).1=b++sP6 t:=
 tL7 t Z127 sV8 55 uV4 (fun _ _=>rfl) (fun b i hi=>by
  show (b++f33 [(nth t (i:Int) Z127).1,(nth t (i:Int) Z127).2.1.1,(nth t (i:Int) Z127).2.1.2.1,(nth t (i:Int) Z127).2.1.2.2.1,(nth t (i:Int) Z127).2.1.2.2.2.1],(i:Int)+1,())=_;rw[(rL7 (vQ5 h i hi Z127)).2]) (fun b i hb hv=>by
  have hi:i<t.length:=rS6 hv;have hf:=rL7 (vQ5 h i hi Z127);refine⟨tL8 t i hi,hf.1,?_,(show InR ((i:Int)+1) from inR (by omega) (by omega))⟩;show ((b.length+(f33 [(nth t (i:Int) Z127).1,(nth t (i:Int) Z127).2.1.1,(nth t (i:Int) Z127).2.1.2.1,(nth t (i:Int) Z127).2.1.2.2.1,(nth t (i:Int) Z127).2.1.2.2.2.1]).length:Nat):Int)≤4294967296;have:=uV4 (nth t (i:Int) Z127);have:=hb hi;rw[hf.2];omega) b (by omega) (by omega)
theorem pL0 (t:List D130)(n k:Int)(l:List D99)(hl:l.length=3)(h:∀ p∈l,IP p)(b:List UInt8)(hb:b.length≤4000000000) :
  xQ5 (uA6 (t,n,k,l,())) (vG2 (t,n,k,l,())) (vW3 (t,n,k,l,())) (b,0,())∧(zC4 (uA6 (t,n,k,l,())) (vG2 (t,n,k,l,())) (b,0,())).1=b++ptsB l:=by
 have h3:len l=3:=by simp only[len];omega
 refine tL7 l Z99 ptB 22 tE2 (fun b i=>by rw[h3];rfl) (fun b i hi=>?_) (fun b i hb hv=>?_) b (by omega) (by omega)
 ·show (b++f33 [(nth l (i:Int) Z99).1,(nth l (i:Int) Z99).2.1],(i:Int)+1,())=_;rw[(rL8 (vQ5 h i hi Z99)).2]
 ·have hv:decide ((i:Int)<3)=true:=hv;have hi:i<l.length:=by have:=of_decide_eq_true hv;omega
  have hf:=rL8 (vQ5 h i hi Z99);refine⟨⟨by show 0≤(i:Int);omega,of_decide_eq_true hv⟩,hf.1,?_,(show InR ((i:Int)+1) from inR (by omega) (by omega))⟩;show ((b.length+(f33 [(nth l (i:Int) Z99).1,(nth l (i:Int) Z99).2.1]).length:Nat):Int)≤4294967296;have:=tE2 (nth l (i:Int) Z99);have:=hb hi;rw[hf.2];omega
theorem rL9 (t:List D130)(h:∀ s∈t,IG s):(rS7 t).length≤77*t.length:=by
 induction t with
 |nil=>simp
 |cons x r ih =>
  have h1:=wV3 x.1;have h2:=qF0 x.2.1;have h3:=(h x (List.mem_cons_self ..)).2.1;have:=ih (fun s hs=>h s (List.mem_cons_of_mem _ hs));simp only[rS7,segB,List.map_cons,List.flatten_cons,List.length_append,List.length_cons] at this ⊢;omega
def segC (s:D130):List UInt8:=intB s.1++((s.2.1.take 3).map ptB).flatten
theorem qP2 (s:D130):(segC s).length≤77:=by
 have h1:=wV3 s.1;have h2:=qF0 (s.2.1.take 3);have:(s.2.1.take 3).length≤3:=by simp;omega
 simp only[segC,List.length_append];omega
theorem qF2 {s:D130}(h:IG s):segC s=segB s:=by
 unfold segC segB;rw[List.take_of_length_le (by rw[h.2.1];omega)]
theorem qP3 {t:List D130}(h:∀ s∈t,IG s):(t.map segC).flatten=rS7 t:=by
 show _=(t.map segB).flatten;rw[List.map_congr_left (fun s hs=>qF2 (h s hs))]
theorem qP4 (t:List D130)(h:∀ s∈t,IG s)(b:List UInt8)(ht:t.length≤1048576)(hb:b.length≤1000000000) :
  xQ5 (vJ5 (t,len t,())) (vA4 (t,len t,())) (vP8 (t,len t,())) (b,0,())∧(zC4 (vJ5 (t,len t,())) (vA4 (t,len t,())) (b,0,())).1=b++rS7 t:=by
 rw[← qP3 h];have round:∀ (b:List UInt8) (i:Nat),i<t.length→b.length≤3900000000→xQ5 (uA6 (t,len t,(i:Int),(nth t (i:Int) Z130).2.1,())) (vG2 (t,len t,(i:Int),(nth t (i:Int) Z130).2.1,())) (vW3 (t,len t,(i:Int),(nth t (i:Int) Z130).2.1,())) (b++f33 [(nth t (i:Int) Z130).1],0,()) ∧
   (zC4 (uA6 (t,len t,(i:Int),(nth t (i:Int) Z130).2.1,())) (vG2 (t,len t,(i:Int),(nth t (i:Int) Z130).2.1,())) (b++f33 [(nth t (i:Int) Z130).1],0,())).1=b++segC (nth t (i:Int) Z130):=fun b i hi hb=>by
  have hg:=vQ5 h i hi Z130;have hl:=wV3 (nth t (i:Int) Z130).1;have:=pL0 t (len t) (i:Int) _ hg.2.1 hg.2.2 (b++f33 [(nth t (i:Int) Z130).1]) (by rw[(sV9 hg.1).2,List.length_append];omega);refine⟨this.1,this.2.trans ?_⟩;rw[qF2 hg,(sV9 hg.1).2,List.append_assoc];rfl
 have key:∀ (n i:Nat) (b:List UInt8),i+n=t.length→b.length+77*n≤3900000000→LT (vJ5 (t,len t,())) (vA4 (t,len t,())) (vP8 (t,len t,())) n (b,(i:Int),()) (b++((t.drop i).map segC).flatten,(t.length:Int),()):=by
  intro n
  induction n with
  |zero =>
   intro i b hi hb;have h1:(b++((t.drop i).map segC).flatten,(t.length:Int),())=(b,(i:Int),()):=by
    rw[List.drop_of_length_le (by omega),show t.length=i by omega];simp
   have hg:vJ5 (t,len t,()) (b,(i:Int),())=false:=decide_eq_false (by show ¬ (i:Int)<len t;simp only[len];omega);rw[h1];exact .stop (fun h=>by have:vJ5 (t,len t,()) (b,(i:Int),())=true:=h;rw[hg] at this;cases this) hg
  |succ n ih =>
   intro i b hi hb;have hit:i<t.length:=by omega
   rw[Nat.mul_succ] at hb;obtain⟨r1,r2⟩:=round b i hit (by omega);have hgi:=vQ5 h i hit Z130;have hs:=qP2 (nth t (i:Int) Z130);have hl:=wV3 (nth t (i:Int) Z130).1;have q:=ih (i+1) (b++segC (nth t (i:Int) Z130)) (by omega) (by rw[List.length_append];omega);have hn:vA4 (t,len t,()) (b,(i:Int),())=(b++segC (nth t (i:Int) Z130),((i+1:Nat):Int),()):=by
    rw[← r2];rfl
   rw[← hn] at q;rw[List.drop_eq_getElem_cons hit,List.map_cons,List.flatten_cons,← List.append_assoc,← uC9 t i hit Z130];refine .step (fun _=>⟨tL8 t i hit,(sV9 hgi.1).1,?_,r1,(show InR ((i:Int)+1) from inR (by omega) (by omega))⟩) (decide_eq_true (by show (i:Int)<len t;simp only[len];omega)) q;show ((b.length+(f33 [(nth t (i:Int) Z130).1]).length:Nat):Int)≤4294967296;rw[(sV9 hgi.1).2];omega
 have k:=key t.length 0 b (by omega) (by omega);exact⟨k.ends (by omega),congrArg (·.1) (k.fix (by omega))⟩
def tP6 (N:D52):List UInt8:=wV5 (len (wW5 N))++(sP6 (wW5 N)++(wV5 (len (vK9 N))++rS7 (vK9 N)))
theorem qS7 (N:D52)(h1:∀ s∈wW5 N,IS s)(h2:∀ s∈vK9 N,IG s)(l1:(wW5 N).length≤1048576)(l2:(vK9 N).length≤1048576):rB N∧f37 N=tP6 N:=by
 have b1:=wV4 (len (wW5 N));have b2:=wV4 (len (vK9 N));have s1:(sP6 (wW5 N)).length≤55*(wW5 N).length:=tL9 sV8 55 uV4 (wW5 N);obtain⟨e1,e2⟩:=qF1 N (wW5 N) h1 ([]++wV5 (len (wW5 N))) l1 (by simp only[List.nil_append];omega);obtain⟨e3,e4⟩:=qP4 (vK9 N) h2 ([]++wV5 (len (wW5 N))++sP6 (wW5 N)++wV5 (len (vK9 N))) l2 (by simp only[List.nil_append,List.length_append];omega);have f1:=vA6 (len (wW5 N));have f2:=vA6 (len (vK9 N));constructor
 ·refine⟨f1.1,?_,?_,f2.1,?_,?_⟩
  ·show ((0+(f38 (len (wW5 N))).length:Nat):Int)≤4294967296;rw[f1.2];omega
  ·show xQ5 (vU5 (N,wW5 N,len (wW5 N),())) (vD0 (N,wW5 N,len (wW5 N),())) (uH5 (N,wW5 N,len (wW5 N),())) ([]++f38 (len (wW5 N)),0,());rw[f1.2];exact e1
  ·show (((zC4 (vU5 (N,wW5 N,len (wW5 N),())) (vD0 (N,wW5 N,len (wW5 N),())) ([]++f38 (len (wW5 N)),0,())).1.length+(f38 (len (vK9 N))).length:Nat):Int)≤4294967296;rw[f1.2,f2.2,e2,List.length_append,List.nil_append];omega
  ·show xQ5 (vJ5 (vK9 N,len (vK9 N),())) (vA4 (vK9 N,len (vK9 N),())) (vP8 (vK9 N,len (vK9 N),())) ((zC4 (vU5 (N,wW5 N,len (wW5 N),())) (vD0 (N,wW5 N,len (wW5 N),())) ([]++f38 (len (wW5 N)),0,())).1++f38 (len (vK9 N)),0,());rw[f1.2,f2.2,e2];exact e3
 ·show (zC4 (vJ5 (vK9 N,len (vK9 N),())) (vA4 (vK9 N,len (vK9 N),())) ((zC4 (vU5 (N,wW5 N,len (wW5 N),())) (vD0 (N,wW5 N,len (wW5 N),())) ([]++f38 (len (wW5 N)),0,())).1++f38 (len (vK9 N)),0,())).1=_;rw[f1.2,f2.2,e2,e4];simp only[tP6,List.nil_append,List.append_assoc]
end Go.Proofs.YtmbjipigimohbaaGreatDoor.Am
set_option linter.unusedVariables false
namespace Go.Proofs.YtmbjipigimohbaaGreatDoor.Am
open Go Go.Am Go.Proofs
theorem qP5 (t:List D99)(h:∀ p∈t,IP p)(b:List UInt8)(ht:t.length≤1048576)(hb:b.length≤1000000000) :
  xQ5 (uU1 (t,len t,())) (vR9 (t,len t,())) (uH6 (t,len t,())) (b,0,())∧(zC4 (uU1 (t,len t,())) (vR9 (t,len t,())) (b,0,())).1=b++ptsB t:=
 tL7 t Z99 ptB 22 tE2 (fun _ _=>rfl) (fun b i hi=>by
  show (b++f33 [(nth t (i:Int) Z99).1,(nth t (i:Int) Z99).2.1],(i:Int)+1,())=_;rw[(rL8 (vQ5 h i hi Z99)).2]) (fun b i hb hv=>by
  have hi:i<t.length:=rS6 hv;have hf:=rL8 (vQ5 h i hi Z99);have:=tE2 (nth t (i:Int) Z99);have:=hb hi;refine⟨tL8 t i hi,hf.1,?_,(show InR ((i:Int)+1) from inR (by omega) (by omega))⟩;show ((b.length+(f33 [(nth t (i:Int) Z99).1,(nth t (i:Int) Z99).2.1]).length:Nat):Int)≤4294967296;rw[hf.2];omega) b (by omega) (by omega)
structure NW (N:D52):Prop where
 h0:I64 N.1
 h1:I64 N.2.1
 h2:I64 N.2.2.1
 h3:N.2.2.2.1.length≤1048576
 h7:I64 N.2.2.2.2.2.2.2.1
 h8:I64 N.2.2.2.2.2.2.2.2.1
 h9:len N.2.2.2.2.2.2.2.2.2.1.2.2.1<9223372036854775808
 h10_0:I64 N.2.2.2.2.2.2.2.2.2.2.1.1
 h10_1:I64 N.2.2.2.2.2.2.2.2.2.2.1.2.1
 h10_2:I64 N.2.2.2.2.2.2.2.2.2.2.1.2.2.1
 h10_3:I64 N.2.2.2.2.2.2.2.2.2.2.1.2.2.2.1
 h10_4:I64 N.2.2.2.2.2.2.2.2.2.2.1.2.2.2.2.1
 h10_5:I64 N.2.2.2.2.2.2.2.2.2.2.1.2.2.2.2.2.1
 h11:I64 N.2.2.2.2.2.2.2.2.2.2.2.1
 h12:len N.2.2.2.2.2.2.2.2.2.2.2.2.1.2.2.1<9223372036854775808
 h13:IC N.2.2.2.2.2.2.2.2.2.2.2.2.2.1
 h14:I64 N.2.2.2.2.2.2.2.2.2.2.2.2.2.2.1
 h15:∀ v∈N.2.2.2.2.2.2.2.2.2.2.2.2.2.2.2.1,I64 v
 l15:N.2.2.2.2.2.2.2.2.2.2.2.2.2.2.2.1.length≤1048576
 h16:I64 N.2.2.2.2.2.2.2.2.2.2.2.2.2.2.2.2.1
 h17:∀ s∈wW5 N,IS s
 l17:(wW5 N).length≤1048576
 h18:∀ s∈vK9 N,IG s
 l18:(vK9 N).length≤1048576
 h19:I64 N.2.2.2.2.2.2.2.2.2.2.2.2.2.2.2.2.2.2.2.1
 h20:I64 N.2.2.2.2.2.2.2.2.2.2.2.2.2.2.2.2.2.2.2.2.1
 h21:I64 N.2.2.2.2.2.2.2.2.2.2.2.2.2.2.2.2.2.2.2.2.2.1
 h22:I64 N.2.2.2.2.2.2.2.2.2.2.2.2.2.2.2.2.2.2.2.2.2.2.1
 h23:N.2.2.2.2.2.2.2.2.2.2.2.2.2.2.2.2.2.2.2.2.2.2.2.1.length≤1048576
 h24:I64 N.2.2.2.2.2.2.2.2.2.2.2.2.2.2.2.2.2.2.2.2.2.2.2.2.1
 h25:I64 N.2.2.2.2.2.2.2.2.2.2.2.2.2.2.2.2.2.2.2.2.2.2.2.2.2.1
 h26:I64 N.2.2.2.2.2.2.2.2.2.2.2.2.2.2.2.2.2.2.2.2.2.2.2.2.2.2.1
 h27_0:I64 N.2.2.2.2.2.2.2.2.2.2.2.2.2.2.2.2.2.2.2.2.2.2.2.2.2.2.2.1.1
 h27_1:I64 N.2.2.2.2.2.2.2.2.2.2.2.2.2.2.2.2.2.2.2.2.2.2.2.2.2.2.2.1.2.1
 h27_2:I64 N.2.2.2.2.2.2.2.2.2.2.2.2.2.2.2.2.2.2.2.2.2.2.2.2.2.2.2.1.2.2.1
 h27:∀ p∈nPts N,IP p
 l27:(nPts N).length≤1048576
def pL1 (N:D52):List UInt8:=intB N.1++(intB N.2.1++(intB N.2.2.1++(sJ6 N.2.2.2.1++(tU3 N.2.2.2.2.1++(tU3 N.2.2.2.2.2.1++(tU3 N.2.2.2.2.2.2.1++(intB N.2.2.2.2.2.2.2.1++(intB N.2.2.2.2.2.2.2.2.1++(f12 N.2.2.2.2.2.2.2.2.2.1++(intB N.2.2.2.2.2.2.2.2.2.2.1.1++(intB N.2.2.2.2.2.2.2.2.2.2.1.2.1++(intB N.2.2.2.2.2.2.2.2.2.2.1.2.2.1++(intB N.2.2.2.2.2.2.2.2.2.2.1.2.2.2.1++(intB N.2.2.2.2.2.2.2.2.2.2.1.2.2.2.2.1++(intB N.2.2.2.2.2.2.2.2.2.2.1.2.2.2.2.2.1++(intB N.2.2.2.2.2.2.2.2.2.2.2.1++(f22 N.2.2.2.2.2.2.2.2.2.2.2.2.1++(colB N.2.2.2.2.2.2.2.2.2.2.2.2.2.1++(intB N.2.2.2.2.2.2.2.2.2.2.2.2.2.2.1++((wV5 (len N.2.2.2.2.2.2.2.2.2.2.2.2.2.2.2.1)++uB8 N.2.2.2.2.2.2.2.2.2.2.2.2.2.2.2.1)++(intB N.2.2.2.2.2.2.2.2.2.2.2.2.2.2.2.2.1++((wV5 (len (wW5 N))++sP6 (wW5 N))++((wV5 (len (vK9 N))++rS7 (vK9 N))++(intB N.2.2.2.2.2.2.2.2.2.2.2.2.2.2.2.2.2.2.2.1++(intB N.2.2.2.2.2.2.2.2.2.2.2.2.2.2.2.2.2.2.2.2.1++(intB N.2.2.2.2.2.2.2.2.2.2.2.2.2.2.2.2.2.2.2.2.2.1++(intB N.2.2.2.2.2.2.2.2.2.2.2.2.2.2.2.2.2.2.2.2.2.2.1++(sJ6 N.2.2.2.2.2.2.2.2.2.2.2.2.2.2.2.2.2.2.2.2.2.2.2.1++(intB N.2.2.2.2.2.2.2.2.2.2.2.2.2.2.2.2.2.2.2.2.2.2.2.2.1++(intB N.2.2.2.2.2.2.2.2.2.2.2.2.2.2.2.2.2.2.2.2.2.2.2.2.2.1++(intB N.2.2.2.2.2.2.2.2.2.2.2.2.2.2.2.2.2.2.2.2.2.2.2.2.2.2.1++(intB N.2.2.2.2.2.2.2.2.2.2.2.2.2.2.2.2.2.2.2.2.2.2.2.2.2.2.2.1.1++(intB N.2.2.2.2.2.2.2.2.2.2.2.2.2.2.2.2.2.2.2.2.2.2.2.2.2.2.2.1.2.1++(intB N.2.2.2.2.2.2.2.2.2.2.2.2.2.2.2.2.2.2.2.2.2.2.2.2.2.2.2.1.2.2.1++((wV5 (len (nPts N))++ptsB (nPts N)))))))))))))))))))))))))))))))))))))
end Go.Proofs.YtmbjipigimohbaaGreatDoor.Am
set_option linter.unusedVariables false
namespace Go.Proofs.YtmbjipigimohbaaGreatDoor.Am
open Go Go.Am Go.Proofs
set_option maxHeartbeats 4000000 in
set_option maxRecDepth 20000 in
theorem qS8 {N:D52}(h:NW N):tC N∧f11 N=pL1 N:=by
 have n0:=wV3 N.1;have n1:=wV3 N.2.1;have n2:=wV3 N.2.2.1;have n3:=wV4 (len N.2.2.2.1);have n4:=h.h3;have n5:=wV4 (bif N.2.2.2.2.1 then 1 else 0);have n6:=wV4 (bif N.2.2.2.2.2.1 then 1 else 0);have n7:=wV4 (bif N.2.2.2.2.2.2.1 then 1 else 0);have n8:=wV3 N.2.2.2.2.2.2.2.1;have n9:=wV3 N.2.2.2.2.2.2.2.2.1;have n10:=sV5 _ h.h9;have n11:=wV3 N.2.2.2.2.2.2.2.2.2.2.1.1;have n12:=wV3 N.2.2.2.2.2.2.2.2.2.2.1.2.1;have n13:=wV3 N.2.2.2.2.2.2.2.2.2.2.1.2.2.1;have n14:=wV3 N.2.2.2.2.2.2.2.2.2.2.1.2.2.2.1;have n15:=wV3 N.2.2.2.2.2.2.2.2.2.2.1.2.2.2.2.1;have n16:=wV3 N.2.2.2.2.2.2.2.2.2.2.1.2.2.2.2.2.1;have n17:=wV3 N.2.2.2.2.2.2.2.2.2.2.2.1;have n18:=rH5 _ h.h12;have n19:=sV7 N.2.2.2.2.2.2.2.2.2.2.2.2.2.1;have n20:=wV3 N.2.2.2.2.2.2.2.2.2.2.2.2.2.2.1;have n21:=wV4 (len N.2.2.2.2.2.2.2.2.2.2.2.2.2.2.2.1);have n22:=uV3 N.2.2.2.2.2.2.2.2.2.2.2.2.2.2.2.1;have n23:=h.l15;have n24:=wV3 N.2.2.2.2.2.2.2.2.2.2.2.2.2.2.2.2.1;have n25:=wV4 (len (wW5 N));have n26:(sP6 (wW5 N)).length≤55*(wW5 N).length:=tL9 sV8 55 uV4 (wW5 N);have n27:=h.l17;have n28:=wV4 (len (vK9 N));have n29:=rL9 (vK9 N) h.h18;have n30:=h.l18;have n31:=wV3 N.2.2.2.2.2.2.2.2.2.2.2.2.2.2.2.2.2.2.2.1;have n32:=wV3 N.2.2.2.2.2.2.2.2.2.2.2.2.2.2.2.2.2.2.2.2.1;have n33:=wV3 N.2.2.2.2.2.2.2.2.2.2.2.2.2.2.2.2.2.2.2.2.2.1;have n34:=wV3 N.2.2.2.2.2.2.2.2.2.2.2.2.2.2.2.2.2.2.2.2.2.2.1;have n35:=wV4 (len N.2.2.2.2.2.2.2.2.2.2.2.2.2.2.2.2.2.2.2.2.2.2.2.1);have n36:=h.h23;have n37:=wV3 N.2.2.2.2.2.2.2.2.2.2.2.2.2.2.2.2.2.2.2.2.2.2.2.2.1;have n38:=wV3 N.2.2.2.2.2.2.2.2.2.2.2.2.2.2.2.2.2.2.2.2.2.2.2.2.2.1;have n39:=wV3 N.2.2.2.2.2.2.2.2.2.2.2.2.2.2.2.2.2.2.2.2.2.2.2.2.2.2.1;have n40:=wV3 N.2.2.2.2.2.2.2.2.2.2.2.2.2.2.2.2.2.2.2.2.2.2.2.2.2.2.2.1.1;have n41:=wV3 N.2.2.2.2.2.2.2.2.2.2.2.2.2.2.2.2.2.2.2.2.2.2.2.2.2.2.2.1.2.1;have n42:=wV3 N.2.2.2.2.2.2.2.2.2.2.2.2.2.2.2.2.2.2.2.2.2.2.2.2.2.2.2.1.2.2.1;have n43:=wV4 (len (nPts N));have n44:(ptsB (nPts N)).length≤22*(nPts N).length:=tL9 ptB 22 tE2 (nPts N);have n45:=h.l27;have c0:=wV3 N.2.2.2.2.2.2.2.2.2.2.2.2.2.1.1;have c1:=wV3 N.2.2.2.2.2.2.2.2.2.2.2.2.2.1.2.1;have c2:=wV3 N.2.2.2.2.2.2.2.2.2.2.2.2.2.1.2.2.1;have c3:=wV3 N.2.2.2.2.2.2.2.2.2.2.2.2.2.1.2.2.2.1;have g0:wY2 [N.1,N.2.1,N.2.2.1]∧f33 [N.1,N.2.1,N.2.2.1]=intB N.1++(intB N.2.1++(intB N.2.2.1)):=by
  have q:=uI0 [N.1,N.2.1,N.2.2.1] (by simp[h.h0,h.h1,h.h2]) (by simp);exact⟨q.1,q.2.trans (by simp[uB8])⟩
 have g1:wY2 [N.2.2.2.2.2.2.2.1,N.2.2.2.2.2.2.2.2.1]∧f33 [N.2.2.2.2.2.2.2.1,N.2.2.2.2.2.2.2.2.1]=intB N.2.2.2.2.2.2.2.1++(intB N.2.2.2.2.2.2.2.2.1):=by
  have q:=uI0 [N.2.2.2.2.2.2.2.1,N.2.2.2.2.2.2.2.2.1] (by simp[h.h7,h.h8]) (by simp);exact⟨q.1,q.2.trans (by simp[uB8])⟩
 have g2:wY2 [N.2.2.2.2.2.2.2.2.2.2.1.1,N.2.2.2.2.2.2.2.2.2.2.1.2.1,N.2.2.2.2.2.2.2.2.2.2.1.2.2.1,N.2.2.2.2.2.2.2.2.2.2.1.2.2.2.1,N.2.2.2.2.2.2.2.2.2.2.1.2.2.2.2.1,N.2.2.2.2.2.2.2.2.2.2.1.2.2.2.2.2.1,N.2.2.2.2.2.2.2.2.2.2.2.1]∧f33 [N.2.2.2.2.2.2.2.2.2.2.1.1,N.2.2.2.2.2.2.2.2.2.2.1.2.1,N.2.2.2.2.2.2.2.2.2.2.1.2.2.1,N.2.2.2.2.2.2.2.2.2.2.1.2.2.2.1,N.2.2.2.2.2.2.2.2.2.2.1.2.2.2.2.1,N.2.2.2.2.2.2.2.2.2.2.1.2.2.2.2.2.1,N.2.2.2.2.2.2.2.2.2.2.2.1]=intB N.2.2.2.2.2.2.2.2.2.2.1.1++(intB N.2.2.2.2.2.2.2.2.2.2.1.2.1++(intB N.2.2.2.2.2.2.2.2.2.2.1.2.2.1++(intB N.2.2.2.2.2.2.2.2.2.2.1.2.2.2.1++(intB N.2.2.2.2.2.2.2.2.2.2.1.2.2.2.2.1++(intB N.2.2.2.2.2.2.2.2.2.2.1.2.2.2.2.2.1++(intB N.2.2.2.2.2.2.2.2.2.2.2.1)))))):=by
  have q:=uI0 [N.2.2.2.2.2.2.2.2.2.2.1.1,N.2.2.2.2.2.2.2.2.2.2.1.2.1,N.2.2.2.2.2.2.2.2.2.2.1.2.2.1,N.2.2.2.2.2.2.2.2.2.2.1.2.2.2.1,N.2.2.2.2.2.2.2.2.2.2.1.2.2.2.2.1,N.2.2.2.2.2.2.2.2.2.2.1.2.2.2.2.2.1,N.2.2.2.2.2.2.2.2.2.2.2.1] (by simp[h.h10_0,h.h10_1,h.h10_2,h.h10_3,h.h10_4,h.h10_5,h.h11]) (by simp);exact⟨q.1,q.2.trans (by simp[uB8])⟩
 have g3:wY2 [N.2.2.2.2.2.2.2.2.2.2.2.2.2.1.1,N.2.2.2.2.2.2.2.2.2.2.2.2.2.1.2.1,N.2.2.2.2.2.2.2.2.2.2.2.2.2.1.2.2.1,N.2.2.2.2.2.2.2.2.2.2.2.2.2.1.2.2.2.1,N.2.2.2.2.2.2.2.2.2.2.2.2.2.2.1]∧f33 [N.2.2.2.2.2.2.2.2.2.2.2.2.2.1.1,N.2.2.2.2.2.2.2.2.2.2.2.2.2.1.2.1,N.2.2.2.2.2.2.2.2.2.2.2.2.2.1.2.2.1,N.2.2.2.2.2.2.2.2.2.2.2.2.2.1.2.2.2.1,N.2.2.2.2.2.2.2.2.2.2.2.2.2.2.1]=intB N.2.2.2.2.2.2.2.2.2.2.2.2.2.1.1++(intB N.2.2.2.2.2.2.2.2.2.2.2.2.2.1.2.1++(intB N.2.2.2.2.2.2.2.2.2.2.2.2.2.1.2.2.1++(intB N.2.2.2.2.2.2.2.2.2.2.2.2.2.1.2.2.2.1++(intB N.2.2.2.2.2.2.2.2.2.2.2.2.2.2.1)))):=by
  have q:=uI0 [N.2.2.2.2.2.2.2.2.2.2.2.2.2.1.1,N.2.2.2.2.2.2.2.2.2.2.2.2.2.1.2.1,N.2.2.2.2.2.2.2.2.2.2.2.2.2.1.2.2.1,N.2.2.2.2.2.2.2.2.2.2.2.2.2.1.2.2.2.1,N.2.2.2.2.2.2.2.2.2.2.2.2.2.2.1] (by simp[h.h13.1,h.h13.2.1,h.h13.2.2.1,h.h13.2.2.2,h.h14]) (by simp);exact⟨q.1,q.2.trans (by simp[uB8])⟩
 have g4:wY2 [N.2.2.2.2.2.2.2.2.2.2.2.2.2.2.2.2.1]∧f33 [N.2.2.2.2.2.2.2.2.2.2.2.2.2.2.2.2.1]=intB N.2.2.2.2.2.2.2.2.2.2.2.2.2.2.2.2.1:=by
  have q:=uI0 [N.2.2.2.2.2.2.2.2.2.2.2.2.2.2.2.2.1] (by simp[h.h16]) (by simp);exact⟨q.1,q.2.trans (by simp[uB8])⟩
 have g5:wY2 [N.2.2.2.2.2.2.2.2.2.2.2.2.2.2.2.2.2.2.2.1,N.2.2.2.2.2.2.2.2.2.2.2.2.2.2.2.2.2.2.2.2.1,N.2.2.2.2.2.2.2.2.2.2.2.2.2.2.2.2.2.2.2.2.2.1,N.2.2.2.2.2.2.2.2.2.2.2.2.2.2.2.2.2.2.2.2.2.2.1]∧f33 [N.2.2.2.2.2.2.2.2.2.2.2.2.2.2.2.2.2.2.2.1,N.2.2.2.2.2.2.2.2.2.2.2.2.2.2.2.2.2.2.2.2.1,N.2.2.2.2.2.2.2.2.2.2.2.2.2.2.2.2.2.2.2.2.2.1,N.2.2.2.2.2.2.2.2.2.2.2.2.2.2.2.2.2.2.2.2.2.2.1]=intB N.2.2.2.2.2.2.2.2.2.2.2.2.2.2.2.2.2.2.2.1++(intB N.2.2.2.2.2.2.2.2.2.2.2.2.2.2.2.2.2.2.2.2.1++(intB N.2.2.2.2.2.2.2.2.2.2.2.2.2.2.2.2.2.2.2.2.2.1++(intB N.2.2.2.2.2.2.2.2.2.2.2.2.2.2.2.2.2.2.2.2.2.2.1))):=by
  have q:=uI0 [N.2.2.2.2.2.2.2.2.2.2.2.2.2.2.2.2.2.2.2.1,N.2.2.2.2.2.2.2.2.2.2.2.2.2.2.2.2.2.2.2.2.1,N.2.2.2.2.2.2.2.2.2.2.2.2.2.2.2.2.2.2.2.2.2.1,N.2.2.2.2.2.2.2.2.2.2.2.2.2.2.2.2.2.2.2.2.2.2.1] (by simp[h.h19,h.h20,h.h21,h.h22]) (by simp);exact⟨q.1,q.2.trans (by simp[uB8])⟩
 have g6:wY2 [N.2.2.2.2.2.2.2.2.2.2.2.2.2.2.2.2.2.2.2.2.2.2.2.2.1,N.2.2.2.2.2.2.2.2.2.2.2.2.2.2.2.2.2.2.2.2.2.2.2.2.2.1,N.2.2.2.2.2.2.2.2.2.2.2.2.2.2.2.2.2.2.2.2.2.2.2.2.2.2.1,N.2.2.2.2.2.2.2.2.2.2.2.2.2.2.2.2.2.2.2.2.2.2.2.2.2.2.2.1.1,N.2.2.2.2.2.2.2.2.2.2.2.2.2.2.2.2.2.2.2.2.2.2.2.2.2.2.2.1.2.1,N.2.2.2.2.2.2.2.2.2.2.2.2.2.2.2.2.2.2.2.2.2.2.2.2.2.2.2.1.2.2.1]∧f33 [N.2.2.2.2.2.2.2.2.2.2.2.2.2.2.2.2.2.2.2.2.2.2.2.2.1,N.2.2.2.2.2.2.2.2.2.2.2.2.2.2.2.2.2.2.2.2.2.2.2.2.2.1,N.2.2.2.2.2.2.2.2.2.2.2.2.2.2.2.2.2.2.2.2.2.2.2.2.2.2.1,N.2.2.2.2.2.2.2.2.2.2.2.2.2.2.2.2.2.2.2.2.2.2.2.2.2.2.2.1.1,N.2.2.2.2.2.2.2.2.2.2.2.2.2.2.2.2.2.2.2.2.2.2.2.2.2.2.2.1.2.1,N.2.2.2.2.2.2.2.2.2.2.2.2.2.2.2.2.2.2.2.2.2.2.2.2.2.2.2.1.2.2.1]=intB N.2.2.2.2.2.2.2.2.2.2.2.2.2.2.2.2.2.2.2.2.2.2.2.2.1++(intB N.2.2.2.2.2.2.2.2.2.2.2.2.2.2.2.2.2.2.2.2.2.2.2.2.2.1++(intB N.2.2.2.2.2.2.2.2.2.2.2.2.2.2.2.2.2.2.2.2.2.2.2.2.2.2.1++(intB N.2.2.2.2.2.2.2.2.2.2.2.2.2.2.2.2.2.2.2.2.2.2.2.2.2.2.2.1.1++(intB N.2.2.2.2.2.2.2.2.2.2.2.2.2.2.2.2.2.2.2.2.2.2.2.2.2.2.2.1.2.1++(intB N.2.2.2.2.2.2.2.2.2.2.2.2.2.2.2.2.2.2.2.2.2.2.2.2.2.2.2.1.2.2.1))))):=by
  have q:=uI0 [N.2.2.2.2.2.2.2.2.2.2.2.2.2.2.2.2.2.2.2.2.2.2.2.2.1,N.2.2.2.2.2.2.2.2.2.2.2.2.2.2.2.2.2.2.2.2.2.2.2.2.2.1,N.2.2.2.2.2.2.2.2.2.2.2.2.2.2.2.2.2.2.2.2.2.2.2.2.2.2.1,N.2.2.2.2.2.2.2.2.2.2.2.2.2.2.2.2.2.2.2.2.2.2.2.2.2.2.2.1.1,N.2.2.2.2.2.2.2.2.2.2.2.2.2.2.2.2.2.2.2.2.2.2.2.2.2.2.2.1.2.1,N.2.2.2.2.2.2.2.2.2.2.2.2.2.2.2.2.2.2.2.2.2.2.2.2.2.2.2.1.2.2.1] (by simp[h.h24,h.h25,h.h26,h.h27_0,h.h27_1,h.h27_2]) (by simp);exact⟨q.1,q.2.trans (by simp[uB8])⟩
 have gb:sO6 [N.2.2.2.2.1,N.2.2.2.2.2.1,N.2.2.2.2.2.2.1]∧f35 [N.2.2.2.2.1,N.2.2.2.2.2.1,N.2.2.2.2.2.2.1]=tU3 N.2.2.2.2.1++(tU3 N.2.2.2.2.2.1++tU3 N.2.2.2.2.2.2.1):=by
  have q:=pR8 [N.2.2.2.2.1,N.2.2.2.2.2.1,N.2.2.2.2.2.2.1] (by simp);exact⟨q.1,q.2.trans (by simp[qS5])⟩
 have e0:=g0.2;have e1:=g1.2;have e2:=g2.2;have e3:=g3.2;have e4:=g4.2;have e5:=g5.2;have e6:=g6.2;have e7:=gb.2;have e8:=(uV2 N.2.2.2.1 (by have:=h.h3;omega)).2;have e9:=(uV2 N.2.2.2.2.2.2.2.2.2.2.2.2.2.2.2.2.2.2.2.2.2.2.2.1 (by have:=h.h23;omega)).2;have e12:=(qF _ h.h15 (by have:=h.l15;omega)).2;have e13:=(qS7 N h.h17 h.h18 h.l17 h.l18).2;have e14:=(vA6 (len (nPts N))).2;have o0:=g0.1;have o1:=g1.1;have o2:=g2.1;have o3:=g3.1;have o4:=g4.1;have o5:=g5.1;have o6:=g6.1;have o7:=gb.1;have o8:=(uV2 N.2.2.2.1 (by have:=h.h3;omega)).1;have o9:=(uV2 N.2.2.2.2.2.2.2.2.2.2.2.2.2.2.2.2.2.2.2.2.2.2.2.1 (by have:=h.h23;omega)).1;have o10:=(sV4 _ h.h9).1;have o11:=(rH4 _ h.h12).1;have o12:=(qF _ h.h15 (by have:=h.l15;omega)).1;have o13:=(qS7 N h.h17 h.h18 h.l17 h.l18).1;have o14:=(vA6 (len (nPts N))).1;have hW:=fun b hb=>qP5 (nPts N) h.h27 b h.l27 hb;have hW1:=fun b hb=>(hW b hb).1;have hW2:=fun b hb=>(hW b hb).2;clear hW;constructor
 ·simp only[tC,f11t,e0,e1,e2,e3,e4,e5,e6,e7,e8,e9,e12,e13,e14]
  repeat' (first|assumption|apply And.intro)
  all_goals first
   |assumption
   |((try simp only[List.length_append,List.length_nil,List.nil_append,sJ6,tU3,tP6])<;>omega)
   |(apply hW1;(try simp only[List.length_append,List.nil_append,sJ6,tU3,tP6])<;>omega)
 ·simp (disch:=((try simp only[List.length_append,List.length_nil,List.nil_append,sJ6,tU3,tP6])<;>omega)) only[f11,f11t,uU2,e0,e1,e2,e3,e4,e5,e6,e7,e8,e9,e12,e13,e14,hW2]
  simp only[pL1,tP6,List.nil_append,List.append_assoc,colB]
end Go.Proofs.YtmbjipigimohbaaGreatDoor.Am
set_option linter.unusedVariables false
namespace Go.Proofs.YtmbjipigimohbaaGreatDoor.Am
open Go Go.Am Go.Proofs
theorem vU8 {α:Type}(f:α→Nat)(hf:∀ x,1≤f x)(l:List α):l.length≤(l.map f).sum:=by
 induction l with
 |nil=>simp
 |cons a l ih=>simp only[List.length_cons,List.map_cons,List.sum_cons];have:=hf a;omega
theorem i64 {v:Int}(h:IntKind.min .i64≤v∧v≤IntKind.max .i64):I64 v:=h
theorem nw (N:D52)(hw:T52.wf N)(hb:T52.bulk N≤1048576):NW N:=by
 have hb:(Ty.bulk (Ty.int .i64) N.1+(Ty.bulk (Ty.int .i64) N.2.1+(Ty.bulk (Ty.int .i64) N.2.2.1+(Ty.bulk (Ty.str) N.2.2.2.1+(Ty.bulk (Ty.bool) N.2.2.2.2.1+(Ty.bulk (Ty.bool) N.2.2.2.2.2.1+(Ty.bulk (Ty.bool) N.2.2.2.2.2.2.1+(Ty.bulk (Ty.int .i64) N.2.2.2.2.2.2.2.1+(Ty.bulk (Ty.int .i64) N.2.2.2.2.2.2.2.2.1+(Ty.bulk (T24) N.2.2.2.2.2.2.2.2.2.1+(Ty.bulk (T40) N.2.2.2.2.2.2.2.2.2.2.1+(Ty.bulk (Ty.int .i64) N.2.2.2.2.2.2.2.2.2.2.2.1+(Ty.bulk (T43) N.2.2.2.2.2.2.2.2.2.2.2.2.1+(Ty.bulk (T45) N.2.2.2.2.2.2.2.2.2.2.2.2.2.1+(Ty.bulk (Ty.int .i64) N.2.2.2.2.2.2.2.2.2.2.2.2.2.2.1+(Ty.bulk (Ty.sl (.int .i64)) N.2.2.2.2.2.2.2.2.2.2.2.2.2.2.2.1+(Ty.bulk (Ty.int .i64) N.2.2.2.2.2.2.2.2.2.2.2.2.2.2.2.2.1+(Ty.bulk (Ty.sl T127) N.2.2.2.2.2.2.2.2.2.2.2.2.2.2.2.2.2.1+(Ty.bulk (Ty.sl T130) N.2.2.2.2.2.2.2.2.2.2.2.2.2.2.2.2.2.2.1+(Ty.bulk (Ty.int .i64) N.2.2.2.2.2.2.2.2.2.2.2.2.2.2.2.2.2.2.2.1+(Ty.bulk (Ty.int .i64) N.2.2.2.2.2.2.2.2.2.2.2.2.2.2.2.2.2.2.2.2.1+(Ty.bulk (Ty.int .i64) N.2.2.2.2.2.2.2.2.2.2.2.2.2.2.2.2.2.2.2.2.2.1+(Ty.bulk (Ty.int .i64) N.2.2.2.2.2.2.2.2.2.2.2.2.2.2.2.2.2.2.2.2.2.2.1+(Ty.bulk (Ty.str) N.2.2.2.2.2.2.2.2.2.2.2.2.2.2.2.2.2.2.2.2.2.2.2.1+(Ty.bulk (Ty.int .i64) N.2.2.2.2.2.2.2.2.2.2.2.2.2.2.2.2.2.2.2.2.2.2.2.2.1+(Ty.bulk (Ty.int .i64) N.2.2.2.2.2.2.2.2.2.2.2.2.2.2.2.2.2.2.2.2.2.2.2.2.2.1+(Ty.bulk (Ty.int .i64) N.2.2.2.2.2.2.2.2.2.2.2.2.2.2.2.2.2.2.2.2.2.2.2.2.2.2.1+(Ty.bulk (T50) N.2.2.2.2.2.2.2.2.2.2.2.2.2.2.2.2.2.2.2.2.2.2.2.2.2.2.2.1+0))))))))))))))))))))))))))))+1≤1048576:=hb;have z3:Ty.bulk Ty.str N.2.2.2.1=List.length (α:=UInt8) N.2.2.2.1+1:=rfl;have z15:List.length (α:=Int) N.2.2.2.2.2.2.2.2.2.2.2.2.2.2.2.1≤Ty.bulk (Ty.sl (.int .i64)) N.2.2.2.2.2.2.2.2.2.2.2.2.2.2.2.1:=Nat.le_succ_of_le (vU8 (α:=Int) (Ty.bulk (.int .i64)) (fun _=>Nat.le_refl 1) N.2.2.2.2.2.2.2.2.2.2.2.2.2.2.2.1);have z17:List.length (α:=D127) N.2.2.2.2.2.2.2.2.2.2.2.2.2.2.2.2.2.1≤Ty.bulk (Ty.sl T127) N.2.2.2.2.2.2.2.2.2.2.2.2.2.2.2.2.2.1:=Nat.le_succ_of_le (vU8 (α:=D127) (Ty.bulk T127) (fun _=>Nat.le_add_left 1 _) N.2.2.2.2.2.2.2.2.2.2.2.2.2.2.2.2.2.1);have z18:List.length (α:=D130) N.2.2.2.2.2.2.2.2.2.2.2.2.2.2.2.2.2.2.1≤Ty.bulk (Ty.sl T130) N.2.2.2.2.2.2.2.2.2.2.2.2.2.2.2.2.2.2.1:=Nat.le_succ_of_le (vU8 (α:=D130) (Ty.bulk T130) (fun _=>Nat.le_add_left 1 _) N.2.2.2.2.2.2.2.2.2.2.2.2.2.2.2.2.2.2.1);have z23:Ty.bulk Ty.str N.2.2.2.2.2.2.2.2.2.2.2.2.2.2.2.2.2.2.2.2.2.2.2.1=List.length (α:=UInt8) N.2.2.2.2.2.2.2.2.2.2.2.2.2.2.2.2.2.2.2.2.2.2.2.1+1:=rfl;have z27:List.length (α:=D99) N.2.2.2.2.2.2.2.2.2.2.2.2.2.2.2.2.2.2.2.2.2.2.2.2.2.2.2.1.2.2.2.1≤Ty.bulk T50 N.2.2.2.2.2.2.2.2.2.2.2.2.2.2.2.2.2.2.2.2.2.2.2.2.2.2.2.1:=by
  have a:=vU8 (α:=D99) (Ty.bulk T99) (fun _=>Nat.le_add_left 1 _) N.2.2.2.2.2.2.2.2.2.2.2.2.2.2.2.2.2.2.2.2.2.2.2.2.2.2.2.1.2.2.2.1;have b:Ty.bulk T50 N.2.2.2.2.2.2.2.2.2.2.2.2.2.2.2.2.2.2.2.2.2.2.2.2.2.2.2.1=Ty.bulk (.int .i64) N.2.2.2.2.2.2.2.2.2.2.2.2.2.2.2.2.2.2.2.2.2.2.2.2.2.2.2.1.1+(Ty.bulk (.int .i64) N.2.2.2.2.2.2.2.2.2.2.2.2.2.2.2.2.2.2.2.2.2.2.2.2.2.2.2.1.2.1+(Ty.bulk (.int .i64) N.2.2.2.2.2.2.2.2.2.2.2.2.2.2.2.2.2.2.2.2.2.2.2.2.2.2.2.1.2.2.1+((List.map (Ty.bulk T99) N.2.2.2.2.2.2.2.2.2.2.2.2.2.2.2.2.2.2.2.2.2.2.2.2.2.2.2.1.2.2.2.1).sum+1+0)))+1:=rfl;rw[b];omega
 generalize Ty.bulk Ty.str N.2.2.2.1=u3 at hb z3;generalize Ty.bulk (Ty.sl (.int .i64)) N.2.2.2.2.2.2.2.2.2.2.2.2.2.2.2.1=u15 at hb z15;generalize Ty.bulk (Ty.sl T127) N.2.2.2.2.2.2.2.2.2.2.2.2.2.2.2.2.2.1=u17 at hb z17;generalize Ty.bulk (Ty.sl T130) N.2.2.2.2.2.2.2.2.2.2.2.2.2.2.2.2.2.2.1=u18 at hb z18;generalize Ty.bulk Ty.str N.2.2.2.2.2.2.2.2.2.2.2.2.2.2.2.2.2.2.2.2.2.2.2.1=u23 at hb z23;generalize Ty.bulk T50 N.2.2.2.2.2.2.2.2.2.2.2.2.2.2.2.2.2.2.2.2.2.2.2.2.2.2.2.1=u27 at hb z27;obtain⟨w0,w1,w2,_,_,_,_,w7,w8,⟨_,_,⟨w9,_⟩,_⟩,⟨w10_0,w10_1,w10_2,w10_3,w10_4,w10_5,_⟩,w11,⟨_,_,⟨w12,_⟩,_⟩,⟨w13_0,w13_1,w13_2,w13_3,_⟩,w14,⟨_,w15⟩,w16,⟨_,w17⟩,⟨_,w18⟩,w19,w20,w21,w22,_,w24,w25,w26,⟨w27_0,w27_1,w27_2,⟨_,w27⟩,_⟩,_⟩:=hw;exact { h0:=w0,h1:=w1,h2:=w2,h3:=by omega,h7:=w7,h8:=w8,h9:=by simp only[len];unfold maxLen at *;omega,h10_0:=w10_0,h10_1:=w10_1,h10_2:=w10_2,h10_3:=w10_3,h10_4:=w10_4,h10_5:=w10_5,h11:=w11,h12:=by simp only[len];unfold maxLen at *;omega,h13:=⟨w13_0,w13_1,w13_2,w13_3⟩,h14:=w14,h15:=w15,l15:=Nat.le_trans z15 (by omega),h16:=w16,h17:=fun s hs=>⟨(w17 s hs).1,(w17 s hs).2.1.1,(w17 s hs).2.1.2.1,(w17 s hs).2.1.2.2.1,(w17 s hs).2.1.2.2.2.1⟩,l17:=Nat.le_trans z17 (by omega),h18:=fun s hs=>⟨(w18 s hs).1,(w18 s hs).2.1.1,fun q hq=>⟨((w18 s hs).2.1.2 q hq).1,((w18 s hs).2.1.2 q hq).2.1⟩⟩,l18:=Nat.le_trans z18 (by omega),h19:=w19,h20:=w20,h21:=w21,h22:=w22,h23:=by omega,h24:=w24,h25:=w25,h26:=w26,h27_0:=w27_0,h27_1:=w27_1,h27_2:=w27_2,h27:=fun q hq=>⟨(w27 q hq).1,(w27 q hq).2.1⟩,l27:=Nat.le_trans z27 (by omega) }
theorem la {x y:List UInt8}{m n:Nat}(h1:x.length≤m)(h2:y.length≤n):(x++y).length≤m+n:=by rw[List.length_append];omega
theorem yI9 (a b c d e f:Nat):(11+(11+(11+((11+a)+(11+(11+(11+(11+(11+(4000000+(11+(11+(11+(11+(11+(11+(11+(4000000+(44+(11+((11+11*b)+(11+((11+55*c)+((11+77*d)+(11+(11+(11+(11+((11+e)+(11+(11+(11+(11+(11+(11+(11+22*f))))))))))))))))))))))))))))))))))))≤8002000+77*(a+b+c+d+e+f):=by omega
theorem qF3 {N:D52}(h:NW N):(pL1 N).length≤8002000+77*(N.2.2.2.1.length+N.2.2.2.2.2.2.2.2.2.2.2.2.2.2.2.1.length+(wW5 N).length+(vK9 N).length+N.2.2.2.2.2.2.2.2.2.2.2.2.2.2.2.2.2.2.2.2.2.2.2.1.length+(nPts N).length):=Nat.le_trans (la (wV3 _) (la (wV3 _) (la (wV3 _) (la (la (wV4 _) (Nat.le_refl _)) (la (wV4 _) (la (wV4 _) (la (wV4 _) (la (wV3 _) (la (wV3 _) (la (sV5 _ h.h9) (la (wV3 _) (la (wV3 _) (la (wV3 _) (la (wV3 _) (la (wV3 _) (la (wV3 _) (la (wV3 _) (la (rH5 _ h.h12) (la (sV7 _) (la (wV3 _) (la (la (wV4 _) (uV3 _)) (la (wV3 _) (la (la (wV4 _) (tL9 sV8 55 uV4 _)) (la (la (wV4 _) (rL9 _ h.h18)) (la (wV3 _) (la (wV3 _) (la (wV3 _) (la (wV3 _) (la (la (wV4 _) (Nat.le_refl _)) (la (wV3 _) (la (wV3 _) (la (wV3 _) (la (wV3 _) (la (wV3 _) (la (wV3 _) (la (wV4 _) (tL9 ptB 22 tE2 _))))))))))))))))))))))))))))))))))))) (yI9 _ _ _ _ _ _)
theorem qP6 (N:D52):(N.2.2.2.1.length+N.2.2.2.2.2.2.2.2.2.2.2.2.2.2.2.1.length+(wW5 N).length+(vK9 N).length+N.2.2.2.2.2.2.2.2.2.2.2.2.2.2.2.2.2.2.2.2.2.2.2.1.length+(nPts N).length)≤T52.bulk N:=by
 have z3:Ty.bulk Ty.str N.2.2.2.1=List.length (α:=UInt8) N.2.2.2.1+1:=rfl;have z15:List.length (α:=Int) N.2.2.2.2.2.2.2.2.2.2.2.2.2.2.2.1≤Ty.bulk (Ty.sl (.int .i64)) N.2.2.2.2.2.2.2.2.2.2.2.2.2.2.2.1:=Nat.le_succ_of_le (vU8 (α:=Int) (Ty.bulk (.int .i64)) (fun _=>Nat.le_refl 1) N.2.2.2.2.2.2.2.2.2.2.2.2.2.2.2.1);have z17:List.length (α:=D127) N.2.2.2.2.2.2.2.2.2.2.2.2.2.2.2.2.2.1≤Ty.bulk (Ty.sl T127) N.2.2.2.2.2.2.2.2.2.2.2.2.2.2.2.2.2.1:=Nat.le_succ_of_le (vU8 (α:=D127) (Ty.bulk T127) (fun _=>Nat.le_add_left 1 _) N.2.2.2.2.2.2.2.2.2.2.2.2.2.2.2.2.2.1);have z18:List.length (α:=D130) N.2.2.2.2.2.2.2.2.2.2.2.2.2.2.2.2.2.2.1≤Ty.bulk (Ty.sl T130) N.2.2.2.2.2.2.2.2.2.2.2.2.2.2.2.2.2.2.1:=Nat.le_succ_of_le (vU8 (α:=D130) (Ty.bulk T130) (fun _=>Nat.le_add_left 1 _) N.2.2.2.2.2.2.2.2.2.2.2.2.2.2.2.2.2.2.1);have z23:Ty.bulk Ty.str N.2.2.2.2.2.2.2.2.2.2.2.2.2.2.2.2.2.2.2.2.2.2.2.1=List.length (α:=UInt8) N.2.2.2.2.2.2.2.2.2.2.2.2.2.2.2.2.2.2.2.2.2.2.2.1+1:=rfl;have z27:List.length (α:=D99) N.2.2.2.2.2.2.2.2.2.2.2.2.2.2.2.2.2.2.2.2.2.2.2.2.2.2.2.1.2.2.2.1≤Ty.bulk T50 N.2.2.2.2.2.2.2.2.2.2.2.2.2.2.2.2.2.2.2.2.2.2.2.2.2.2.2.1:=by
  have a:=vU8 (α:=D99) (Ty.bulk T99) (fun _=>Nat.le_add_left 1 _) N.2.2.2.2.2.2.2.2.2.2.2.2.2.2.2.2.2.2.2.2.2.2.2.2.2.2.2.1.2.2.2.1;have b:Ty.bulk T50 N.2.2.2.2.2.2.2.2.2.2.2.2.2.2.2.2.2.2.2.2.2.2.2.2.2.2.2.1=Ty.bulk (.int .i64) N.2.2.2.2.2.2.2.2.2.2.2.2.2.2.2.2.2.2.2.2.2.2.2.2.2.2.2.1.1+(Ty.bulk (.int .i64) N.2.2.2.2.2.2.2.2.2.2.2.2.2.2.2.2.2.2.2.2.2.2.2.2.2.2.2.1.2.1+(Ty.bulk (.int .i64) N.2.2.2.2.2.2.2.2.2.2.2.2.2.2.2.2.2.2.2.2.2.2.2.2.2.2.2.1.2.2.1+((List.map (Ty.bulk T99) N.2.2.2.2.2.2.2.2.2.2.2.2.2.2.2.2.2.2.2.2.2.2.2.2.2.2.2.1.2.2.2.1).sum+1+0)))+1:=rfl;rw[b];omega
 have hB:T52.bulk N=(Ty.bulk (Ty.int .i64) N.1+(Ty.bulk (Ty.int .i64) N.2.1+(Ty.bulk (Ty.int .i64) N.2.2.1+(Ty.bulk (Ty.str) N.2.2.2.1+(Ty.bulk (Ty.bool) N.2.2.2.2.1+(Ty.bulk (Ty.bool) N.2.2.2.2.2.1+(Ty.bulk (Ty.bool) N.2.2.2.2.2.2.1+(Ty.bulk (Ty.int .i64) N.2.2.2.2.2.2.2.1+(Ty.bulk (Ty.int .i64) N.2.2.2.2.2.2.2.2.1+(Ty.bulk (T24) N.2.2.2.2.2.2.2.2.2.1+(Ty.bulk (T40) N.2.2.2.2.2.2.2.2.2.2.1+(Ty.bulk (Ty.int .i64) N.2.2.2.2.2.2.2.2.2.2.2.1+(Ty.bulk (T43) N.2.2.2.2.2.2.2.2.2.2.2.2.1+(Ty.bulk (T45) N.2.2.2.2.2.2.2.2.2.2.2.2.2.1+(Ty.bulk (Ty.int .i64) N.2.2.2.2.2.2.2.2.2.2.2.2.2.2.1+(Ty.bulk (Ty.sl (.int .i64)) N.2.2.2.2.2.2.2.2.2.2.2.2.2.2.2.1+(Ty.bulk (Ty.int .i64) N.2.2.2.2.2.2.2.2.2.2.2.2.2.2.2.2.1+(Ty.bulk (Ty.sl T127) N.2.2.2.2.2.2.2.2.2.2.2.2.2.2.2.2.2.1+(Ty.bulk (Ty.sl T130) N.2.2.2.2.2.2.2.2.2.2.2.2.2.2.2.2.2.2.1+(Ty.bulk (Ty.int .i64) N.2.2.2.2.2.2.2.2.2.2.2.2.2.2.2.2.2.2.2.1+(Ty.bulk (Ty.int .i64) N.2.2.2.2.2.2.2.2.2.2.2.2.2.2.2.2.2.2.2.2.1+(Ty.bulk (Ty.int .i64) N.2.2.2.2.2.2.2.2.2.2.2.2.2.2.2.2.2.2.2.2.2.1+(Ty.bulk (Ty.int .i64) N.2.2.2.2.2.2.2.2.2.2.2.2.2.2.2.2.2.2.2.2.2.2.1+(Ty.bulk (Ty.str) N.2.2.2.2.2.2.2.2.2.2.2.2.2.2.2.2.2.2.2.2.2.2.2.1+(Ty.bulk (Ty.int .i64) N.2.2.2.2.2.2.2.2.2.2.2.2.2.2.2.2.2.2.2.2.2.2.2.2.1+(Ty.bulk (Ty.int .i64) N.2.2.2.2.2.2.2.2.2.2.2.2.2.2.2.2.2.2.2.2.2.2.2.2.2.1+(Ty.bulk (Ty.int .i64) N.2.2.2.2.2.2.2.2.2.2.2.2.2.2.2.2.2.2.2.2.2.2.2.2.2.2.1+(Ty.bulk (T50) N.2.2.2.2.2.2.2.2.2.2.2.2.2.2.2.2.2.2.2.2.2.2.2.2.2.2.2.1+0))))))))))))))))))))))))))))+1:=rfl;change (wW5 N).length≤_ at z17;change (vK9 N).length≤_ at z18;change (nPts N).length≤_ at z27;rw[hB];generalize Ty.bulk Ty.str N.2.2.2.1=u3 at z3 ⊢;generalize Ty.bulk (Ty.sl (.int .i64)) N.2.2.2.2.2.2.2.2.2.2.2.2.2.2.2.1=u15 at z15 ⊢;generalize Ty.bulk (Ty.sl T127) N.2.2.2.2.2.2.2.2.2.2.2.2.2.2.2.2.2.1=u17 at z17 ⊢;generalize Ty.bulk (Ty.sl T130) N.2.2.2.2.2.2.2.2.2.2.2.2.2.2.2.2.2.2.1=u18 at z18 ⊢;generalize Ty.bulk Ty.str N.2.2.2.2.2.2.2.2.2.2.2.2.2.2.2.2.2.2.2.2.2.2.2.1=u23 at z23 ⊢;generalize Ty.bulk T50 N.2.2.2.2.2.2.2.2.2.2.2.2.2.2.2.2.2.2.2.2.2.2.2.2.2.2.2.1=u27 at z27 ⊢;clear hB;omega
theorem qP7 (N:D52)(hw:T52.wf N)(hb:T52.bulk N≤1048576):tC N∧(f11 N).length≤8002000+77*T52.bulk N:=by
 have h:=nw N hw hb;have h1:=qF3 h;have h2:=qP6 N;refine⟨(qS8 h).1,?_⟩;rw[(qS8 h).2];exact Nat.le_trans h1 (Nat.add_le_add_left (Nat.mul_le_mul_left 77 h2) _)
theorem sJ7 {α:Type}(f k:α→Nat)(A B:Nat):∀ (l:List α),(∀ x∈l,f x≤A+B*k x)→(l.map f).sum≤A*l.length+B*(l.map k).sum:=by
 intro l
 induction l with
 |nil=>intro _;simp
 |cons a l ih =>
  intro h;have h1:=ih fun x hx=>h x (List.mem_cons_of_mem _ hx);have h2:=h a (List.mem_cons_self ..);simp only[List.map_cons,List.sum_cons,List.length_cons,Nat.mul_add,Nat.mul_one];omega
theorem rH6 {α:Type}(k:α→Nat){l:List α}{x:α}(h:x∈l):k x≤(l.map k).sum:=by
 induction l with
 |nil=>cases h
 |cons a l ih =>
  simp only[List.map_cons,List.sum_cons];rcases List.mem_cons.1 h with rfl|h
  ·omega
  ·have:=ih h;omega
theorem qF4 {α:Type}(t:List α)(z:α)(e:α→List UInt8){g:List UInt8×Int×Unit→Bool}{next:List UInt8×Int×Unit→List UInt8×Int×Unit}{ok:List UInt8×Int×Unit→Prop}
  (hg:∀ b i,g (b,i,())=decide (i<len t)) (hx:∀ b (i:Nat),i<t.length→next (b,(i:Int),())=(b++e (nth t (i:Int) z),(i:Int)+1,())) (ht:t.length≤4000000000)
  (hok:∀ b (i:Nat),(i<t.length→b.length+(e (nth t (i:Int) z)).length≤4294967296)→ok (b,(i:Int),())) :
  ∀ (n i:Nat) (b:List UInt8),i+n=t.length→b.length+((t.drop i).map fun x=>(e x).length).sum≤4294967296→LT g next ok n (b,(i:Int),()) (b++((t.drop i).map e).flatten,(t.length:Int),()):=by
 intro n
 induction n with
 |zero =>
  intro i b hi hb;have h1:(b++((t.drop i).map e).flatten,(t.length:Int),())=(b,(i:Int),()):=by
   rw[List.drop_of_length_le (by omega),show t.length=i by omega];simp
  rw[h1];refine .stop (hok _ _ fun h=>by omega) ?_;rw[hg];exact decide_eq_false (by simp only[len];omega)
 |succ n ih =>
  intro i b hi hb;have hit:i<t.length:=by omega
  rw[List.drop_eq_getElem_cons hit,List.map_cons,List.sum_cons] at hb;refine .step (hok _ _ fun _=>by rw[uC9 t i hit];omega) (by rw[hg];exact decide_eq_true (by simp only[len];omega)) ?_;rw[hx _ _ hit,uC9 t i hit,List.drop_eq_getElem_cons hit,List.map_cons,List.flatten_cons,← List.append_assoc,show ((i:Int)+1)=((i+1:Nat):Int) by omega];refine ih (i+1) _ (by omega) ?_;rw[List.length_append];omega
theorem sW {α:Type}(e:α→List UInt8)(t:List α):((t.map e).flatten).length=(t.map fun x=>(e x).length).sum:=by
 induction t with
 |nil=>rfl
 |cons a t ih=>simp only[List.map_cons,List.flatten_cons,List.length_append,List.sum_cons,ih]
theorem sW0 {α:Type}(t:List α)(z:α)(e:α→List UInt8){g:List UInt8×Int×Unit→Bool}{next:List UInt8×Int×Unit→List UInt8×Int×Unit}{ok:List UInt8×Int×Unit→Prop}
  (hg:∀ b i,g (b,i,())=decide (i<len t)) (hx:∀ b (i:Nat),i<t.length→next (b,(i:Int),())=(b++e (nth t (i:Int) z),(i:Int)+1,()))
  (hok:∀ b (i:Nat),(i<t.length→b.length+(e (nth t (i:Int) z)).length≤4294967296)→ok (b,(i:Int),())) (b:List UInt8) (ht:t.length≤4000000000) (hb:b.length+(t.map fun x=>(e x).length).sum≤4294967296) :
  xQ5 g next ok (b,0,())∧(zC4 g next (b,0,())).1=b++(t.map e).flatten:=by
 have h:=qF4 t z e hg hx ht hok t.length 0 b (by omega) hb;exact⟨h.ends (by omega),congrArg (·.1) (h.fix (by omega))⟩
end Go.Proofs.YtmbjipigimohbaaGreatDoor.Am
set_option linter.unusedVariables false
namespace Go.Proofs.YtmbjipigimohbaaGreatDoor.Am
open Go Go.Am Go.Proofs
set_option maxRecDepth 20000 in
theorem pR9:∀ b:Fin 256,((BitVec.ofNat 8 b.val) &&& 127#8).toNat=b.val % 128:=by decide
theorem pL2 (c:Nat)(hc:c<256):wU8 .u8 (c:Int) 127=((c % 128:Nat):Int):=by
 have h:=pR9 ⟨c,hc⟩;show IntKind.wrap .u8 ((BitVec.ofInt 8 (c:Int) &&& BitVec.ofInt 8 127).toNat)=_;rw[BitVec.ofInt_natCast,IntKind.wrap_u8];have e2:(BitVec.ofNat 8 c &&& BitVec.ofInt 8 127).toNat=c % 128:=h;rw[e2];omega
theorem pL3 (a x k:Nat)(ha:a<2 ^ (7*k))(h:a+x*2 ^ (7*k)<18446744073709551616):ior .u64 (a:Int) (((x*2 ^ (7*k):Nat)):Int)=((a+x*2 ^ (7*k):Nat):Int):=by
 show IntKind.wrap .u64 ((BitVec.ofInt 64 (a:Int) ||| BitVec.ofInt 64 ((x*2 ^ (7*k):Nat):Int)).toNat)=_;have q:=Nat.two_pow_add_eq_or_of_lt (i:=7*k) (b:=a) ha x;rw[BitVec.toNat_or,BitVec.ofInt_natCast,BitVec.ofInt_natCast,BitVec.toNat_ofNat,BitVec.toNat_ofNat,Nat.mod_eq_of_lt (by omega:a<2 ^ 64),Nat.mod_eq_of_lt (by omega:x*2 ^ (7*k)<2 ^ 64),Nat.or_comm,Nat.mul_comm x,← q,IntKind.wrap_u64];rw[Nat.mul_comm x] at h;omega
theorem qF5 (a c k:Nat)(hk:k≤9)(hc:c<256)(ha:a<2 ^ (7*k))(h:a+(c % 128)*2 ^ (7*k)<18446744073709551616) :
  ior .u64 (a:Int) (IntKind.wrap .u64 (wV0 (IntKind.wrap .u64 (wU8 .u8 (c:Int) 127)) (7*(k:Int)) 64))=((a+(c % 128)*2 ^ (7*k):Nat):Int):=by
 have e:wV0 (IntKind.wrap .u64 (wU8 .u8 (c:Int) 127)) (7*(k:Int)) 64=(((c % 128)*2 ^ (7*k):Nat):Int):=by
  rw[pL2 c hc,IntKind.wrap_u64];show ((c % 128:Nat):Int) % 18446744073709551616*2 ^ (min (7*(k:Int)).toNat 64)=_;rw[show (min (7*(k:Int)).toNat 64)=7*k by omega,show ((c % 128:Nat):Int) % 18446744073709551616=((c % 128:Nat):Int) by omega]
  push_cast
  rfl
 rw[e,IntKind.wrap_u64];rw[show ((((c % 128)*2 ^ (7*k):Nat):Int) % 18446744073709551616)=(((c % 128)*2 ^ (7*k):Nat):Int) by omega];exact pL3 a (c % 128) k ha h
def rdU:Nat→Nat→Nat→List UInt8→Option (Nat×List UInt8)
 |0,_,_,_=>none
 |_+1,_,_,[]=>none
 |j+1,i,acc,c::t=>if (i=9∧1<c.toNat)∨(0<i∧c.toNat=0) then none else if c.toNat<128 then some (acc+c.toNat*2 ^ (7*i),t) else rdU j (i+1) (acc+c.toNat % 128*2 ^ (7*i)) t
theorem vQ1 {n:Nat}(h:n<256):(UInt8.ofNat n).toNat=n:=by simp[UInt8.toNat_ofNat'];omega
theorem toNat_ofNat (c:UInt8):UInt8.ofNat c.toNat=c:=by simp
theorem pL4:∀ (j i acc:Nat) (t t':List UInt8) (v:Nat),i+(j+1)=10→(rdU (j+1) i acc t=some (v,t')↔∃ n,n<2*128 ^ j∧(0<i→0<n)∧t=vlqF (j+1) n++t'∧v=acc+n*2 ^ (7*i)):=by
 intro j
 induction j with
 |zero =>
  intro i acc t t' v hi;have hi:i=9:=by omega
  subst hi;cases t with
  |nil =>
   simp only[rdU];refine⟨fun h=>(by cases h),fun ⟨n,h1,_,h3,_⟩=>?_⟩;have:n<128:=by omega
   simp[vlqF,this] at h3
  |cons c t =>
   rw[rdU];constructor
   ·intro h;split at h
    ·cases h
    ·rename_i hb;have hb1:¬ 1<c.toNat:=fun x=>hb (.inl ⟨rfl,x⟩);have hb2:¬ c.toNat=0:=fun x=>hb (.inr ⟨by omega,x⟩);split at h
     ·simp only[Option.some.injEq,Prod.mk.injEq] at h;refine⟨c.toNat,by omega,fun _=>by omega,?_,h.1.symm⟩;have:c.toNat<128:=by omega
      simp only[vlqF,this,if_true,toNat_ofNat,h.2];rfl
     ·omega
   ·rintro⟨n,h1,h2,h3,rfl⟩;have hn:n=1:=by have:=h2 (by omega);omega
    subst hn;have:(1:Nat)<128:=by omega
    simp only[vlqF,this,if_true,List.cons_append,List.nil_append,List.cons.injEq] at h3;obtain⟨rfl,rfl⟩:=h3;rw[vQ1 (by omega)];simp
 |succ j ih =>
  intro i acc t t' v hi;have hp:128 ^ (j+1)=128*128 ^ j:=by rw[Nat.pow_succ,Nat.mul_comm]
  have hp2:2 ^ (7*(i+1))=128*2 ^ (7*i):=by rw[show 7*(i+1)=7+7*i by omega,Nat.pow_add]
  cases t with
  |nil =>
   simp only[rdU];refine⟨fun h=>(by cases h),fun ⟨n,h1,_,h3,_⟩=>?_⟩;simp only[vlqF] at h3;split at h3<;>simp at h3
  |cons c t =>
   have hc:c.toNat<256:=UInt8.toNat_lt c;rw[rdU];constructor
   ·intro h;split at h
    ·cases h
    ·rename_i hb;split at h
     ·rename_i hlt;simp only[Option.some.injEq,Prod.mk.injEq] at h;have hpos:0<128 ^ j:=Nat.pow_pos (by omega);refine⟨c.toNat,by omega,fun _=>by omega,?_,h.1.symm⟩;rw[vlqF,if_pos hlt,toNat_ofNat,h.2];rfl
     ·rename_i hge;obtain⟨n,h1,h2,h3,h4⟩:=(ih (i+1) _ t t' v (by omega)).1 h;refine⟨c.toNat % 128+128*n,by rw[hp];omega,fun _=>by have:=h2 (by omega);omega,?_,?_⟩
      ·have hn0:=h2 (by omega);rw[vlqF,if_neg (by omega),h3,show (c.toNat % 128+128*n) % 128+128=c.toNat by omega,show (c.toNat % 128+128*n) / 128=n by omega,toNat_ofNat];rfl
      ·rw[h4,hp2,Nat.add_mul,Nat.add_assoc,show 128*n*2 ^ (7*i)=n*(128*2 ^ (7*i)) by rw[Nat.mul_comm 128 n,Nat.mul_assoc]]
   ·rintro⟨n,h1,h2,h3,rfl⟩;rw[vlqF] at h3;split at h3
    ·rename_i hn;simp only[List.cons_append,List.nil_append,List.cons.injEq] at h3;obtain⟨rfl,rfl⟩:=h3;rw[vQ1 (by omega)];have hnb:¬ ((i=9∧1<n)∨(0<i∧n=0)):=by
      rintro (⟨a,b⟩ | ⟨a,b⟩)
      ·omega
      ·have:=h2 a;omega
     rw[if_neg hnb,if_pos hn]
    ·rename_i hn;simp only[List.cons_append,List.cons.injEq] at h3;obtain⟨rfl,rfl⟩:=h3;have e:(UInt8.ofNat (n % 128+128)).toNat=n % 128+128:=vQ1 (by omega);rw[e,if_neg (by omega),if_neg (by omega)];rw[ih (i+1) _ _ t' _ (by omega)];refine⟨n / 128,by rw[hp] at h1;omega,fun _=>by omega,rfl,?_⟩;rw[hp2,show (n % 128+128) % 128=n % 128 by omega,Nat.add_assoc,show n / 128*(128*2 ^ (7*i))=128*(n / 128)*2 ^ (7*i) by rw[← Nat.mul_assoc,Nat.mul_comm (n / 128)],← Nat.add_mul,Nat.mod_add_div]
theorem tX2 (t t':List UInt8)(v:Nat):rdU 10 0 0 t=some (v,t')↔v<18446744073709551616∧t=vlq v++t':=by
 rw[pL4 9 0 0 t t' v rfl];constructor
 ·rintro⟨n,h1,_,h3,rfl⟩;simp only[Nat.mul_zero,Nat.pow_zero,Nat.mul_one,Nat.zero_add];exact⟨by omega,h3⟩
 ·rintro⟨h1,h2⟩;exact⟨v,by omega,fun h=>absurd h (by omega),h2,by simp⟩
theorem sW1 {n m:Nat}{a b:List UInt8}(hn:n<18446744073709551616)(hm:m<18446744073709551616)(h:vlq n++a=vlq m++b):n=m∧a=b:=by
 have h1:=(tX2 (vlq n++a) a n).2 ⟨hn,rfl⟩;have h2:=(tX2 (vlq n++a) b m).2 ⟨hm,h⟩;rw[h1] at h2;simp only[Option.some.injEq,Prod.mk.injEq] at h2;exact h2
theorem uN1 {s t:List UInt8}{c:UInt8}{q:Nat}(h:s.drop q=c::t):wT5 s (q:Int)=(c.toNat:Int):=by
 unfold wT5;have hq:q<s.length:=by
  rcases Nat.lt_or_ge q s.length with h' | h'
  ·exact h'
  ·rw[List.drop_eq_nil_of_le h'] at h;cases h
 rw[Int.toNat_natCast];have e:=List.drop_eq_getElem_cons hq;rw[h] at e;injection e with e1 e2
 rw[List.getD_eq_getElem?_getD,List.getElem?_eq_getElem hq,Option.getD_some,e1]
theorem qF6 {s t:List UInt8}{c:UInt8}{q:Nat}(h:s.drop q=c::t):s.drop (q+1)=t:=by
 rw[← List.drop_drop,h];rfl
theorem qF7 {s t:List UInt8}{c:UInt8}{q:Nat}(h:s.drop q=c::t):q<s.length:=by
 rcases Nat.lt_or_ge q s.length with h' | h'
 ·exact h'
 ·rw[List.drop_eq_nil_of_le h'] at h;cases h
theorem qP8 (s:List UInt8)(q0:Nat)(hs:len s<9223372036854775808):∀ (j k acc:Nat),k+(j+1)=10→q0+k≤s.length→acc<2 ^ (7*k) →
  ∃ (m k' acc':Nat),m≤j∧k'≤9∧q0+k'≤s.length∧acc'<2 ^ (7*k')∧rdU (j+1) k acc (s.drop (q0+k))=rdU (10-k') k' acc' (s.drop (q0+k'))∧vK3 () ((true,s,((q0+k':Nat):Int),0,()),(acc':Int),(k':Int),())=false ∧
   LT (vK3 ()) (vD7 ()) (vK8 ()) m ((true,s,((q0+k:Nat):Int),0,()),(acc:Int),(k:Int),()) ((true,s,((q0+k':Nat):Int),0,()),(acc':Int),(k':Int),()):=by
 intro j
 induction j with
 |zero =>
  intro k acc hk hl ha;have hk:k=9:=by omega
  subst hk;have h7:IntKind.wrap .i64 (7*9)=63:=by decide
  have hg:vK3 () ((true,s,((q0+9:Nat):Int),0,()),(acc:Int),9,())=false:=by
   show (!(decide (((q0+9:Nat):Int)≥len s))&&(!(bif (bif ((9:Int)==9) then (decide (wT5 s ((q0+9:Nat):Int)>1)) else false) then true else (bif (decide ((9:Int)>0)) then (wT5 s ((q0+9:Nat):Int)==0) else false))&&!(decide (wT5 s ((q0+9:Nat):Int)<128))))=false;generalize wT5 s ((q0+9:Nat):Int)=b;generalize decide (((q0+9:Nat):Int)≥len s)=d;by_cases h:b>1
   ·simp[h]
   ·have:b<128:=by omega
    simp[this]
  refine⟨0,9,acc,Nat.le_refl _,Nat.le_refl _,hl,ha,rfl,hg,.stop (fun h=>?_) hg⟩;have h:(!decide (((q0+9:Nat):Int)≥len s))=true:=h;simp only[Bool.not_eq_true',decide_eq_false_iff_not] at h;exact⟨⟨by show (0:Int)≤((q0+9:Nat):Int);omega,by show ((q0+9:Nat):Int)<len s;omega⟩,fun _=>by show 0≤IntKind.wrap .i64 (7*9);rw[h7];decide⟩
 |succ j ih =>
  intro k acc hk hl ha;have h7:IntKind.wrap .i64 (7*(k:Int))=7*(k:Int):=sK3 (by omega) (by omega);have okP:vK8 () ((true,s,((q0+k:Nat):Int),0,()),(acc:Int),(k:Int),()):=fun h=>by
   have h:(!decide (((q0+k:Nat):Int)≥len s))=true:=h;simp only[Bool.not_eq_true',decide_eq_false_iff_not] at h;exact⟨⟨by show (0:Int)≤((q0+k:Nat):Int);omega,by show ((q0+k:Nat):Int)<len s;omega⟩,fun _=>by show 0≤IntKind.wrap .i64 (7*(k:Int));rw[h7];omega⟩
  cases hg:vK3 () ((true,s,((q0+k:Nat):Int),0,()),(acc:Int),(k:Int),()) with
  |false=>exact⟨0,k,acc,Nat.zero_le _,by omega,hl,ha,by rw[show 10-k=j+1+1 by omega],hg,.stop okP hg⟩
  |true =>
   have hG:(!(decide (((q0+k:Nat):Int)≥len s))&&(!(bif (bif ((k:Int)==9) then (decide (wT5 s ((q0+k:Nat):Int)>1)) else false) then true else (bif (decide ((k:Int)>0)) then (wT5 s ((q0+k:Nat):Int)==0) else false))&&!(decide (wT5 s ((q0+k:Nat):Int)<128))))=true:=hg;cases hd:s.drop (q0+k) with
   |nil =>
    have:s.length≤q0+k:=List.drop_eq_nil_iff.1 hd;have hge:decide (((q0+k:Nat):Int)≥len s)=true:=decide_eq_true (by simp only[len];omega);rw[hge] at hG;cases hG
   |cons c t =>
    have hq:=qF7 hd;have hb:=uN1 hd;have hc:c.toNat<256:=UInt8.toNat_lt c;rw[hb] at hG;simp only[Bool.and_eq_true,Bool.not_eq_true',decide_eq_false_iff_not,Bool.cond_eq_ite] at hG;obtain⟨g1,g2,g3⟩:=hG;have hbad:¬ ((k=9∧1<c.toNat)∨(0<k∧c.toNat=0)):=by
     rintro (⟨a,b⟩ | ⟨a,b⟩)
     ·omega
     ·omega
    have hacc2:acc+c.toNat % 128*2 ^ (7*k)<2 ^ (7*(k+1)):=by
     rw[show 7*(k+1)=7+7*k by omega,Nat.pow_add];have:c.toNat % 128≤127:=by omega
     have:=Nat.mul_le_mul_right (2 ^ (7*k)) this;omega
    have hle:2 ^ (7*(k+1))≤2 ^ 63:=Nat.pow_le_pow_right (by omega) (by omega);obtain⟨m,k',acc',q1,q2,q3,q4,q5,q6,q7⟩:=ih (k+1) (acc+c.toNat % 128*2 ^ (7*k)) (by omega) (by omega) hacc2;have nP:vD7 () ((true,s,((q0+k:Nat):Int),0,()),(acc:Int),(k:Int),())=((true,s,((q0+(k+1):Nat):Int),0,()),((acc+c.toNat % 128*2 ^ (7*k):Nat):Int),((k+1:Nat):Int),()):=by
     simp only[len] at hs;rw[← qF5 acc c.toNat k (by omega) hc ha (by omega)];simp only[vD7,uH9,h7,hb,sK3 (x:=((q0+k:Nat):Int)+1) (by omega) (by omega),sK3 (x:=(k:Int)+1) (by omega) (by omega)];rfl
    rw[← nP] at q7;refine⟨m+1,k',acc',by omega,q2,q3,q4,?_,q6,.step okP hg q7⟩;rw[← q5,rdU,if_neg hbad,if_neg (by omega),show q0+(k+1)=q0+k+1 from rfl,qF6 (q:=q0+k) hd]
end Go.Proofs.YtmbjipigimohbaaGreatDoor.Am
set_option linter.unusedVariables false
namespace Go.Proofs.YtmbjipigimohbaaGreatDoor.Am
open Go Go.Am Go.Proofs
def rdr (s:List UInt8)(q:Nat)(e:Int):D85:=(true,s,(q:Int),e,())
def Num (s:List UInt8)(q v:Nat):Prop:=v<18446744073709551616∧∃ t,s.drop q=vlq v++t
theorem qS9 (k c:Nat):(bif (bif ((k:Int)==9) then (decide ((c:Int)>1)) else false) then true else (bif (decide ((k:Int)>0)) then ((c:Int)==0) else false))=decide ((k=9∧1<c)∨(0<k∧c=0)):=by
 have e1:((k:Int)==9)=decide (k=9):=by rw[Bool.eq_iff_iff,beq_iff_eq,decide_eq_true_eq];omega
 have e2:decide ((c:Int)>1)=decide (1<c):=decide_eq_decide.2 (by omega);have e3:decide ((k:Int)>0)=decide (0<k):=decide_eq_decide.2 (by omega);have e4:((c:Int)==0)=decide (c=0):=by rw[Bool.eq_iff_iff,beq_iff_eq,decide_eq_true_eq];omega
 rw[e1,e2,e3,e4,Bool.decide_or,Bool.decide_and,Bool.decide_and];cases decide (k=9)<;>cases decide (1<c)<;>cases decide (0<k)<;>cases decide (c=0)<;>rfl
theorem pL5 (s:List UInt8)(q:Nat)(hs:len s<9223372036854775808)(hq:q≤s.length):uI (rdr s q 0) ∧
  ((∃ v,Num s q v∧rB3 (rdr s q 0)=(v:Int)∧tK8 (rdr s q 0)=(rdr s (q+(vlq v).length) 0,())∧q+(vlq v).length≤s.length) ∨
   ((∀ v,¬ Num s q v)∧rB3 (rdr s q 0)=0∧∃ q' e,tK8 (rdr s q 0)=(rdr s q' e,())∧e≠0∧q'≤s.length)):=by
 obtain⟨m,k,acc,q1,q2,q3,q4,q5,q6,q7⟩:=qP8 s q hs 9 0 0 rfl (by omega) (by simp);have eP:=q7.ends (by omega);have fP:=q7.fix (by omega);simp only[Nat.add_zero] at eP fP q5;have vP:sI4 (rdr s q 0)=(uI (rdr s q 0),vQ4 () ((true,s,((q+k:Nat):Int),0,()),(acc:Int),(k:Int),()),(vQ3 () ((true,s,((q+k:Nat):Int),0,()),(acc:Int),(k:Int),()),())):=by
  rw[← fP];rfl
 refine⟨⟨trivial,fun _=>eP⟩,?_⟩;have none_not:rdU 10 0 0 (s.drop q)=none→∀ v,¬ Num s q v:=fun h v ⟨h1,t,h2⟩=>by
  have:=(tX2 (s.drop q) t v).2 ⟨h1,h2⟩;rw[h] at this;cases this
 simp only[rB3,tK8,vP];simp only[vQ4,vQ3];have hr:10-k=(9-k)+1:=by omega
 cases hd:s.drop (q+k) with
 |nil =>
  have:s.length≤q+k:=List.drop_eq_nil_iff.1 hd;have hge:decide (((q+k:Nat):Int)≥len s)=true:=decide_eq_true (by simp only[len];omega);refine .inr ⟨none_not (by rw[q5,hd,hr,rdU]),?_⟩;rw[hge];simp only[cond_true];exact⟨trivial,q+k,5,rfl,by decide,q3⟩
 |cons c t =>
  have hlt:=qF7 hd;have hb:=uN1 hd;have hc:c.toNat<256:=UInt8.toNat_lt c;have hge:decide (((q+k:Nat):Int)≥len s)=false:=decide_eq_false (by simp only[len];omega);have hG:(!(decide (((q+k:Nat):Int)≥len s))&&(!(bif (bif ((k:Int)==9) then (decide (wT5 s ((q+k:Nat):Int)>1)) else false) then true else (bif (decide ((k:Int)>0)) then (wT5 s ((q+k:Nat):Int)==0) else false))&&!(decide (wT5 s ((q+k:Nat):Int)<128))))=false:=q6;rw[hge,hb];rw[hge,hb] at hG;simp only[cond_false];rw[hd,hr,rdU] at q5;by_cases hbad:(k=9∧1<c.toNat)∨(0<k∧c.toNat=0)
  ·have hB:(bif (bif ((k:Int)==9) then (decide ((c.toNat:Int)>1)) else false) then true else (bif (decide ((k:Int)>0)) then ((c.toNat:Int)==0) else false))=true:=(qS9 k c.toNat).trans (decide_eq_true hbad);refine .inr ⟨none_not (by rw[q5,if_pos hbad]),?_⟩;rw[hB];simp only[cond_true];exact⟨trivial,q+k,4,rfl,by decide,q3⟩
  ·have hB:(bif (bif ((k:Int)==9) then (decide ((c.toNat:Int)>1)) else false) then true else (bif (decide ((k:Int)>0)) then ((c.toNat:Int)==0) else false))=false:=(qS9 k c.toNat).trans (decide_eq_false hbad);rw[hB] at hG ⊢;simp only[Bool.not_false,Bool.true_and,Bool.not_eq_false',decide_eq_true_eq] at hG;simp only[cond_false];rw[if_neg hbad,if_pos (by omega)] at q5;obtain⟨hv,ht⟩:=(tX2 (s.drop q) t _).1 q5;have hlen:=congrArg List.length ht;have hlen2:=congrArg List.length hd;simp only[List.length_append,List.length_cons,List.length_drop] at hlen hlen2;have hk:(vlq (acc+c.toNat*2 ^ (7*k))).length=k+1:=by omega
   have h7:IntKind.wrap .i64 (7*(k:Int))=7*(k:Int):=sK3 (by omega) (by omega);have hm:c.toNat % 128=c.toNat:=by omega
   have hs':=qF5 acc c.toNat k q2 hc q4 (by rw[hm];exact hv);rw[hm] at hs';refine .inl ⟨acc+c.toNat*2 ^ (7*k),⟨hv,t,ht⟩,by rw[h7,hs'],?_,by rw[hk];omega⟩;rw[hk];simp only[len] at hs;show ((true,s,IntKind.wrap .i64 (((q+k:Nat):Int)+1),(0:Int),()),())=_;rw[sK3 (by omega) (by omega)];rfl
theorem Num.uniq {s:List UInt8}{q v w:Nat}(h1:Num s q v)(h2:Num s q w):v=w:=by
 obtain⟨a,t,b⟩:=h1;obtain⟨c,u,d⟩:=h2;exact (sW1 a c (b.symm.trans d)).1
theorem qP9 (s:List UInt8)(q n:Nat)(hs:len s<9223372036854775808)(hq:q≤s.length)(hn:n<9223372036854775808):wY7 (rdr s q 0) (n:Int) ∧
  ((∃ v,Num s q v∧v≤n∧vS3 (rdr s q 0) (n:Int)=(v:Int)∧wY9 (rdr s q 0) (n:Int)=(rdr s (q+(vlq v).length) 0,())∧q+(vlq v).length≤s.length) ∨
   ((∀ v,v≤n→¬ Num s q v)∧vS3 (rdr s q 0) (n:Int)=0∧∃ q' e,wY9 (rdr s q 0) (n:Int)=(rdr s q' e,())∧e≠0∧q'≤s.length)):=by
 obtain⟨u1,u2⟩:=pL5 s q hs hq;refine⟨⟨u1,trivial⟩,?_⟩;have hm:IntKind.wrap .u64 (wS1 (n:Int) 0)=(n:Int):=by rw[IntKind.wrap_u64];unfold wS1;split<;>omega
 rcases u2 with ⟨v,h1,h2,h3,h4⟩ | ⟨h1,h2,q',e,h3,h4,h5⟩
 ·have v8:(!(uU5 (rdr s (q+(vlq v).length) 0)))=false:=rfl;have o1:vN1 (rdr s (q+(vlq v).length) 0)=(rdr s (q+(vlq v).length) 0,()):=rfl;simp only[vS3,wY9,tP2,h2,h3,o1,v8,hm,cond_false];by_cases hv:v≤n
  ·have hd:decide ((v:Int)>(n:Int))=false:=decide_eq_false (by omega);rw[hd];simp only[cond_false];exact .inl ⟨v,h1,hv,sK3 (by omega) (by omega),rfl,h4⟩
  ·have hd:decide ((v:Int)>(n:Int))=true:=decide_eq_true (by omega);rw[hd];simp only[cond_true];exact .inr ⟨fun w hw h=>hv (by rw[h1.uniq h];exact hw),trivial,q+(vlq v).length,3,rfl,by decide,h4⟩
 ·have hb:(e==0)=false:=by simpa using h4
  have v8:(!(uU5 (rdr s q' e)))=true:=by show (!(bif (bif (!false) then true else false) then (e==0) else false))=true;rw[hb];rfl
  have o1:vN1 (rdr s q' e)=(rdr s q' e,()):=rfl;simp only[vS3,wY9,tP2,h2,h3,o1,v8,cond_true];exact .inr ⟨fun w _ h=>h1 w h,trivial,q',e,rfl,h4,h5⟩
theorem qF8 (s:List UInt8)(q:Nat)(e:Int)(hs:len s<9223372036854775808)(hq:q≤s.length):vS2 (rdr s q e)∧tC0 (rdr s q e)=(bif e==0 then ((s.length-q:Nat):Int) else 0)∧tA3 (rdr s q e)=(rdr s q e,()):=by
 have r1:uU5 (rdr s q e)=(e==0):=rfl;have o1:vN1 (rdr s q e)=(rdr s q e,()):=rfl;refine⟨trivial,?_⟩;simp only[tC0,tA3,sI3,r1,o1];cases (e==0) with
 |true =>
  refine⟨?_,rfl⟩;show IntKind.wrap .i64 (len s-(q:Int))=_;simp only[len] at hs ⊢;rw[sK3 (by omega) (by omega)];show _=((s.length-q:Nat):Int);omega
 |false=>exact⟨rfl,rfl⟩
def Txt (s:List UInt8)(q:Nat)(w:List UInt8):Prop:=∃ t,s.drop q=vlq w.length++(w++t)
theorem pL6 (s:List UInt8)(q n:Nat)(hs:len s<9223372036854775808)(hq:q≤s.length)(hn:n<9223372036854775808):uU8 (rdr s q 0) (n:Int) ∧
  ((∃ w,Txt s q w∧w.length≤n∧sI5 (rdr s q 0) (n:Int)=w∧uC6 (rdr s q 0) (n:Int)=(rdr s (q+((vlq w.length).length+w.length)) 0,())∧q+((vlq w.length).length+w.length)≤s.length) ∨
   ((∀ w,w.length≤n→¬ Txt s q w)∧sI5 (rdr s q 0) (n:Int)=[]∧∃ q' e,uC6 (rdr s q 0) (n:Int)=(rdr s q' e,())∧e≠0∧q'≤s.length)):=by
 obtain⟨c1,c2⟩:=qP9 s q n hs hq hn;rcases c2 with ⟨v,h1,h2,h3,h4,h5⟩ | ⟨h1,h2,q',e,h3,h4,h5⟩
 ·have v8:(!(uU5 (rdr s (q+(vlq v).length) 0)))=false:=rfl;have o1:vN1 (rdr s (q+(vlq v).length) 0)=(rdr s (q+(vlq v).length) 0,()):=rfl;obtain⟨l1,l2,l3⟩:=qF8 s (q+(vlq v).length) 0 hs h5;have l2:tC0 (rdr s (q+(vlq v).length) 0)=((s.length-(q+(vlq v).length):Nat):Int):=l2;obtain⟨hv,t,ht⟩:=h1;have hdr:s.drop (q+(vlq v).length)=t:=by rw[← List.drop_drop,ht,List.drop_left]
  simp only[len] at hs;by_cases hle:v≤s.length-(q+(vlq v).length)
  ·have hd:decide ((v:Int)>((s.length-(q+(vlq v).length):Nat):Int))=false:=decide_eq_false (by omega);have hw:IntKind.wrap .i64 (((q+(vlq v).length:Nat):Int)+(v:Int))=((q+(vlq v).length+v:Nat):Int):=by rw[sK3 (by omega) (by omega)];omega
   have hlen2:=congrArg List.length hdr;simp only[List.length_drop] at hlen2;have htk:(t.take v).length=v:=by rw[List.length_take];omega
   have hval:List.drop (((q+(vlq v).length:Nat):Int)).toNat (List.take (((q+(vlq v).length+v:Nat):Int)).toNat s)=t.take v:=by
    rw[Int.toNat_natCast,Int.toNat_natCast,List.drop_take,hdr];congr 1;omega
   constructor
   ·refine⟨c1,by rw[h4];trivial,fun _=>?_⟩;rw[h4,o1];refine⟨l1,fun _=>?_⟩;rw[l3,h3];show (0:Int)≤((q+(vlq v).length:Nat):Int)∧((q+(vlq v).length:Nat):Int)≤IntKind.wrap .i64 (((q+(vlq v).length:Nat):Int)+(v:Int))∧IntKind.wrap .i64 (((q+(vlq v).length:Nat):Int)+(v:Int))≤len s;rw[hw];simp only[len];omega
   ·simp only[sI5,uC6,tD8,h3,h4,o1,v8,l2,l3,hd,cond_false];refine .inl ⟨t.take v,⟨t.drop v,by rw[htk,List.take_append_drop];exact ht⟩,by rw[htk];exact h2,?_,?_,by rw[htk];omega⟩
    ·show List.drop (((q+(vlq v).length:Nat):Int)).toNat (List.take (IntKind.wrap .i64 (((q+(vlq v).length:Nat):Int)+(v:Int))).toNat s)=t.take v;rw[hw];exact hval
    ·show ((true,s,IntKind.wrap .i64 (((q+(vlq v).length:Nat):Int)+(v:Int)),(0:Int),()),())=_;rw[hw,htk];show (rdr s (q+(vlq v).length+v) 0,())=_;rw[Nat.add_assoc]
  ·have hd:decide ((v:Int)>((s.length-(q+(vlq v).length):Nat):Int))=true:=decide_eq_true (by omega);constructor
   ·refine⟨c1,by rw[h4];trivial,fun _=>?_⟩;rw[h4,o1];refine⟨l1,fun h=>?_⟩;rw[l2,h3,hd] at h;cases h
   ·simp only[sI5,uC6,tD8,h3,h4,o1,v8,l2,l3,hd,cond_false,cond_true];refine .inr ⟨fun w hw ⟨u,hu⟩=>?_,trivial,q+(vlq v).length,5,rfl,by decide,h5⟩;have:=sW1 (by omega) hv (hu.symm.trans ht);obtain⟨e1,e2⟩:=this;have hlen:=congrArg List.length e2;have hlen2:=congrArg List.length hdr;simp only[List.length_append,List.length_drop] at hlen hlen2;omega
 ·have hb:(e==0)=false:=by simpa using h4
  have v8:(!(uU5 (rdr s q' e)))=true:=by show (!(bif (bif (!false) then true else false) then (e==0) else false))=true;rw[hb];rfl
  have o1:vN1 (rdr s q' e)=(rdr s q' e,()):=rfl;constructor
  ·refine⟨c1,by rw[h3];trivial,fun h=>?_⟩;rw[h3,v8] at h;cases h
  ·simp only[sI5,uC6,tD8,h2,h3,o1,v8,cond_true];refine .inr ⟨fun w hw ⟨u,hu⟩=>h1 w.length hw ⟨by omega,w++u,hu⟩,trivial,q',e,rfl,h4,h5⟩
end Go.Proofs.YtmbjipigimohbaaGreatDoor.Am
