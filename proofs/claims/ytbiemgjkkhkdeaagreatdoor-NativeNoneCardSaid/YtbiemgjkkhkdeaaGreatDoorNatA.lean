/- Loops by their rounds; numbers as bytes: the program's encoding of a number is the reference's. No condition. -/
import Derived.Test.YtbiemgjkkhkdeaaGreatDoorNatP4
import Derived.Test.YtbiemgjkkhkdeaaGreatDoorMach5
import Derived.Laws.BitsLemmas
import Derived.Laws.Bits64
set_option linter.unusedVariables false
namespace Go.Proofs.YtbiemgjkkhkdeaaGreatDoor.Am
open Go Go.Am Go.Proofs
inductive LT {X:Type}(g:X→Bool) (next:X→X) (ok:X→Prop):Nat→X→X→Prop
 |stop {x:X}:ok x→g x=false→LT g next ok 0 x x
 |step {n:Nat}{x e:X}:ok x→g x=true→LT g next ok n (next x) e→LT g next ok (n+1) x e
variable {X:Type}{g:X→Bool}{next:X→X}{ok:X→Prop}{n:Nat}{x e:X}
theorem LT.runs (h:LT g next ok n x e):Runs g next ok n x:=by
 induction h with
 |stop h1 h2=>exact⟨h1,h2⟩
 |step h1 h2 _ ih=>exact⟨h1,h2,ih⟩
theorem LT.fin (h:LT g next ok n x e):∀ F,n≤F→loopN g next F x=e:=by
 induction h with
 |stop _ h=>exact fun F _=>wP6 h F
 |step _ h2 _ ih =>
  intro F hF;cases F with
  |zero=>omega
  |succ F=>simp only[loopN,h2,cond_true];exact ih F (by omega)
theorem LT.ends (h:LT g next ok n x e)(hn:n<18446744073709551616):xQ6 g next ok x:=⟨n,hn,h.runs⟩
theorem LT.fix (h:LT g next ok n x e)(hn:n<18446744073709551616):zC5 g next x=e:=h.fin _ (Nat.le_of_lt hn)
def vlqF:Nat→Nat→List UInt8
 |0,n=>[UInt8.ofNat n]
 |m+1,n=>if n<128 then [UInt8.ofNat n] else UInt8.ofNat (n % 128+128)::vlqF m (n / 128)
def vlq (n:Nat):List UInt8:=vlqF 10 n
theorem tQ6:∀ {m n:Nat},(vlqF m n).length≤m+1:=by
 intro m
 induction m with
 |zero=>intro n;simp[vlqF]
 |succ m ih =>
  intro n;have:=ih (n:=n / 128);simp only[vlqF];split<;>simp<;>omega
theorem tJ5 (n:Nat):(vlq n).length≤11:=tQ6
set_option maxRecDepth 20000 in
theorem sD:∀ b:Fin 256,((BitVec.ofNat 8 b.val) ||| 128#8).toNat=b.val % 128+128:=by decide
theorem sC2 (n:Nat):ior .u8 (IntKind.wrap .u8 (n:Int)) 128=((n % 128+128:Nat):Int):=by
 have h:=sD ⟨n % 256,Nat.mod_lt _ (by decide)⟩;have e1:BitVec.ofInt 8 (IntKind.wrap .u8 (n:Int))=BitVec.ofNat 8 (n % 256):=by
  rw[IntKind.wrap_u8,show ((n:Int) % 256)=((n % 256:Nat):Int) by omega,BitVec.ofInt_natCast]
 show IntKind.wrap .u8 ((BitVec.ofInt 8 (IntKind.wrap .u8 (n:Int)) ||| BitVec.ofInt 8 128).toNat)=_;rw[e1,IntKind.wrap_u8];have e2:(BitVec.ofNat 8 (n % 256) ||| BitVec.ofInt 8 128).toNat=n % 256 % 128+128:=h;rw[e2];omega
theorem tW5 (n:Nat)(hn:n<18446744073709551616):IntKind.wrap .u8 (ior .u64 (wT2 .u64 (n:Int) 127) 128)=((n % 128+128:Nat):Int):=by
 have e1:wT2 .u64 (n:Int) 127=((n % 128:Nat):Int):=by
  show IntKind.wrap .u64 ((BitVec.ofInt 64 (n:Int) &&& BitVec.ofInt 64 127).toNat)=_;rw[BitVec.toNat_and,BitVec.ofInt_natCast,BitVec.toNat_ofNat,show (BitVec.ofInt 64 127).toNat=2 ^ 7-1 by decide,Nat.and_two_pow_sub_one_eq_mod,IntKind.wrap_u64];omega
 have e2:ior .u64 ((n % 128:Nat):Int) 128=((n % 128+128:Nat):Int):=by
  show IntKind.wrap .u64 ((BitVec.ofInt 64 ((n % 128:Nat):Int) ||| BitVec.ofInt 64 128).toNat)=_;have h:=Nat.two_pow_add_eq_or_of_lt (i:=7) (b:=n % 128) (by omega) 1;rw[BitVec.toNat_or,BitVec.ofInt_natCast,BitVec.toNat_ofNat,show (BitVec.ofInt 64 128).toNat=2 ^ 7*1 by decide,Nat.mod_eq_of_lt (by omega:n % 128<2 ^ 64),Nat.or_comm,← h,IntKind.wrap_u64];omega
 rw[e1,e2,IntKind.wrap_u8];omega
theorem sC3 (n:Nat):wT5 (n:Int) 7 64=((n / 128:Nat):Int):=by
 show ((n:Int)).fdiv (2 ^ (min (7:Int).toNat 64))=_;rw[show (2:Int) ^ (min (7:Int).toNat 64)=128 by decide,Int.fdiv_eq_ediv_of_nonneg _ (by decide)];omega
theorem vP1 (n:Nat):UInt8.ofNat (n % 256)=UInt8.ofNat n:=by
 apply UInt8.toNat_inj.1;simp[UInt8.toNat_ofNat']
theorem uX7:∀ (m n:Nat) (l:List Int),n<128 ^ (m+1)→n<18446744073709551616→l.length≤4294967000-m→m≤10 →
  ∃ k e,k≤m∧LT (wU9 ()) (wU4 ()) (vB3 ()) k (l,(n:Int),()) e∧e.1.length≤l.length+m∧xC9 (e.1++[IntKind.wrap .u8 e.2.1])=xC9 l++vlqF m n:=by
 intro m
 induction m with
 |zero =>
  intro n l hn _ hl _;have hn:n<128:=by simpa using hn
  have hg:wU9 () (l,(n:Int),())=false:=by
   show decide ((n:Int)≥128)=false;exact decide_eq_false (by omega)
  refine⟨0,_,Nat.le_refl _,.stop ?_ hg,by simp,?_⟩
  ·intro h;rw[show decide ((n:Int)≥128)=false from hg] at h;cases h
  ·simp only[xC9,List.map_append,List.map_cons,List.map_nil,vlqF,IntKind.wrap_u8];rw[show ((n:Int) % 256).toNat=n % 256 by omega,vP1]
 |succ m ih =>
  intro n l hn hn2 hl hm;by_cases hlt:n<128
  ·have hg:wU9 () (l,(n:Int),())=false:=by
    show decide ((n:Int)≥128)=false;exact decide_eq_false (by omega)
   refine⟨0,_,Nat.zero_le _,.stop ?_ hg,by simp,?_⟩
   ·intro h;rw[show decide ((n:Int)≥128)=false from hg] at h;cases h
   ·simp only[xC9,List.map_append,List.map_cons,List.map_nil,vlqF,IntKind.wrap_u8,hlt,if_true];rw[show ((n:Int) % 256).toNat=n % 256 by omega,vP1]
  ·have hg:wU9 () (l,(n:Int),())=true:=by
    show decide ((n:Int)≥128)=true;exact decide_eq_true (by omega)
   have hx:wU4 () (l,(n:Int),())=(l++[((n % 128+128:Nat):Int)],((n / 128:Nat):Int),()):=by
    show (l++[ior .u8 (IntKind.wrap .u8 (n:Int)) 128],wT5 (n:Int) 7 64,())=_;rw[sC2,sC3]
   obtain⟨k,e,h1,h2,h3,h4⟩:=ih (n / 128) (l++[((n % 128+128:Nat):Int)]) (by rw[Nat.pow_succ] at hn;omega) (by omega) (by simp;omega) (by omega);rw[← hx] at h2;refine⟨k+1,e,by omega,.step (fun _=>?_) hg h2,?_,?_⟩
   ·show ((List.length l+List.length [_]:Nat):Int)≤4294967296;simp;omega
   ·simp at h3;omega
   ·rw[h4];simp only[xC9,List.map_append,List.map_cons,List.map_nil,vlqF,hlt,if_false,List.append_assoc,List.cons_append,List.nil_append,Int.toNat_natCast]
theorem tJ6:∀ (m n:Nat) (l:List UInt8),n<128 ^ (m+1)→n<18446744073709551616→l.length≤4294967000-m→m≤10 →
  ∃ k e,k≤m∧LT (vA9 ()) (wX7 ()) (vM1 ()) k ((n:Int),l,()) e∧e.2.1.length≤l.length+m∧e.2.1++xC9 [IntKind.wrap .u8 e.1]=l++vlqF m n:=by
 intro m
 induction m with
 |zero =>
  intro n l hn _ hl _;have hn:n<128:=by simpa using hn
  have hg:vA9 () ((n:Int),l,())=false:=by
   show decide ((n:Int)≥128)=false;exact decide_eq_false (by omega)
  refine⟨0,_,Nat.le_refl _,.stop ?_ hg,by simp,?_⟩
  ·intro h;rw[show decide ((n:Int)≥128)=false from hg] at h;cases h
  ·simp only[xC9,List.map_cons,List.map_nil,vlqF,IntKind.wrap_u8];rw[show ((n:Int) % 256).toNat=n % 256 by omega,vP1]
 |succ m ih =>
  intro n l hn hn2 hl hm;by_cases hlt:n<128
  ·have hg:vA9 () ((n:Int),l,())=false:=by
    show decide ((n:Int)≥128)=false;exact decide_eq_false (by omega)
   refine⟨0,_,Nat.zero_le _,.stop ?_ hg,by simp,?_⟩
   ·intro h;rw[show decide ((n:Int)≥128)=false from hg] at h;cases h
   ·simp only[xC9,List.map_cons,List.map_nil,vlqF,IntKind.wrap_u8,hlt,if_true];rw[show ((n:Int) % 256).toNat=n % 256 by omega,vP1]
  ·have hg:vA9 () ((n:Int),l,())=true:=by
    show decide ((n:Int)≥128)=true;exact decide_eq_true (by omega)
   have hx:wX7 () ((n:Int),l,())=(((n / 128:Nat):Int),l++[UInt8.ofNat (n % 128+128)],()):=by
    show (wT5 (n:Int) 7 64,l++xC9 [IntKind.wrap .u8 (ior .u64 (wT2 .u64 (n:Int) 127) 128)],())=_;rw[tW5 n hn2,sC3];rfl
   obtain⟨k,e,h1,h2,h3,h4⟩:=ih (n / 128) (l++[UInt8.ofNat (n % 128+128)]) (by rw[Nat.pow_succ] at hn;omega) (by omega) (by simp;omega) (by omega);rw[← hx] at h2;refine⟨k+1,e,by omega,.step (fun _=>?_) hg h2,?_,?_⟩
   ·show ((List.length l+List.length (xC9 [_]):Nat):Int)≤9223372036854775807;simp[xC9];omega
   ·simp at h3;omega
   ·rw[h4];simp only[vlqF,hlt,if_false,List.append_assoc,List.cons_append,List.nil_append]
theorem tW6 {n:Nat}(h:n<18446744073709551616):n<128 ^ 11:=Nat.lt_of_lt_of_le h (by decide)
theorem uV4 (n:Nat)(hn:n<18446744073709551616):vT (n:Int)∧f93 (n:Int)=vlq n:=by
 obtain⟨k,e,h1,h2,h3,h4⟩:=uX7 10 n [] (tW6 hn) hn (by simp) (Nat.le_refl _);have h5:=h2.fix (by omega);constructor
 ·refine⟨h2.ends (by omega),?_⟩;show ((List.length (zC5 (wU9 ()) (wU4 ()) ([],(n:Int),())).1+List.length [_]:Nat):Int)≤4294967296;rw[h5];simp at h3 ⊢;omega
 ·show xC9 ((zC5 (wU9 ()) (wU4 ()) ([],(n:Int),())).1++[IntKind.wrap .u8 (zC5 (wU9 ()) (wU4 ()) ([],(n:Int),())).2.1])=_;rw[h5,h4];rfl
theorem uM9 (n:Nat)(hn:n<18446744073709551616):vI5 (n:Int)∧f80 (n:Int)=vlq n:=by
 obtain⟨k,e,h1,h2,h3,h4⟩:=tJ6 10 n [] (tW6 hn) hn (by simp) (Nat.le_refl _);have h5:=h2.fix (by omega);constructor
 ·refine⟨h2.ends (by omega),?_⟩;show ((List.length (zC5 (vA9 ()) (wX7 ()) ((n:Int),[],())).2.1+List.length (xC9 [_]):Nat):Int)≤9223372036854775807;rw[h5];simp[xC9] at h3 ⊢;omega
 ·show (zC5 (vA9 ()) (wX7 ()) ((n:Int),[],())).2.1++xC9 [IntKind.wrap .u8 (zC5 (vA9 ()) (wX7 ()) ((n:Int),[],())).1]=_;rw[h5,h4];rfl
def wT9 (v:Int):List UInt8:=vlq (v % 18446744073709551616).toNat
theorem wT7 (v:Int):(wT9 v).length≤11:=tJ5 _
theorem wW1 (v:Int):vA v∧f56 v=wT9 v:=by
 have h:IntKind.wrap .u64 v=((v % 18446744073709551616).toNat:Int):=by rw[IntKind.wrap_u64];omega
 have:=uV4 (v % 18446744073709551616).toNat (by omega);rw[← h] at this;exact this
theorem wY6 (v:Int):wW7 v∧f29 v=wT9 v:=by
 have h:IntKind.wrap .u64 v=((v % 18446744073709551616).toNat:Int):=by rw[IntKind.wrap_u64];omega
 have:=uM9 (v % 18446744073709551616).toNat (by omega);rw[← h] at this;exact this
end Go.Proofs.YtbiemgjkkhkdeaaGreatDoor.Am
