/- Signed numbers, texts, truth values and lists of numbers are written alike. Condition: numbers are those of Go. -/
import Derived.Test.YtbiemgjkkhkdeaaGreatDoorNatE
set_option linter.unusedVariables false
namespace Go.Proofs.YtbiemgjkkhkdeaaGreatDoor.Am
open Go Go.Am Go.Proofs
def I64 (v:Int):Prop:=-9223372036854775808≤v∧v≤9223372036854775807
def zz (v:Int):Int:=if 0≤v then 2*v else -2*v-1
def intB (v:Int):List UInt8:=wT9 (zz v)
theorem wT6 (v:Int):(intB v).length≤11:=wT7 _
theorem shl1 (x:Int):IntKind.wrap .u64 (wT4 x 1 64)=(2*x) % 18446744073709551616:=by
 show IntKind.wrap .u64 (x*2 ^ (min (1:Int).toNat 64))=_;rw[show (2:Int) ^ (min (1:Int).toNat 64)=2 by decide,IntKind.wrap_u64,Int.mul_comm]
theorem sD4 (x:Int)(h0:0≤x)(h1:x<18446744073709551616):wT3 .u64 x=18446744073709551615-x:=by
 obtain⟨n,rfl⟩:∃ n:Nat,x=(n:Int):=⟨x.toNat,by omega⟩;have e:wT3 .u64 (n:Int)=IntKind.wrap .u64 ((BitVec.ofInt 64 (IntKind.max .u64) ^^^ BitVec.ofInt 64 (n:Int)).toNat):=rfl;have hm:BitVec.ofInt 64 (IntKind.max .u64)=BitVec.allOnes 64:=by decide
 rw[e,hm,BitVec.allOnes_xor,BitVec.toNat_not,BitVec.ofInt_natCast,BitVec.toNat_ofNat,IntKind.wrap_u64,Nat.mod_eq_of_lt (by omega:n<2 ^ 64)];omega
theorem tK4 {v:Int}(h:I64 v):f95 v=zz v:=by
 obtain⟨h1,h2⟩:=h;show (bif decide (v<0) then wT3 .u64 (IntKind.wrap .u64 (wT4 (IntKind.wrap .u64 v) 1 64)) else IntKind.wrap .u64 (wT4 (IntKind.wrap .u64 v) 1 64))=_;rw[shl1,IntKind.wrap_u64];unfold zz;by_cases hv:v<0
 ·rw[decide_eq_true hv,if_neg (by omega),cond_true,sD4 _ (by omega) (by omega)];omega
 ·rw[decide_eq_false hv,if_pos (by omega),cond_false];omega
theorem tS9 {v:Int}(h:I64 v):∃ n:Nat,zz v=(n:Int)∧n<18446744073709551616:=by
 obtain⟨h1,h2⟩:=h;have:0≤zz v∧zz v<18446744073709551616:=by unfold zz;split<;>omega
 exact⟨(zz v).toNat,by omega,by omega⟩
theorem tK5 {v:Int}(h:I64 v):vT (zz v)∧vI5 (zz v)∧f93 (zz v)=intB v∧f80 (zz v)=intB v:=by
 obtain⟨n,e,hn⟩:=tS9 h;have hb:intB v=vlq n:=by
  unfold intB wT9;rw[e,show ((n:Int) % 18446744073709551616).toNat=n by omega]
 rw[hb,e];exact⟨(uV4 n hn).1,(uM9 n hn).1,(uV4 n hn).2,(uM9 n hn).2⟩
theorem tK6 {v:Int}(h:I64 v):uP3 v∧f92 v=intB v:=by
 obtain⟨h1,_,h2,_⟩:=tK5 h;constructor
 ·exact⟨trivial,by show vT (f95 v);rw[tK4 h];exact h1⟩
 ·show f93 (f95 v)=_;rw[tK4 h];exact h2
theorem wU {v:Int}(h:I64 v):wV v∧f58 v=intB v:=by
 obtain⟨_,h1,_,h2⟩:=tK5 h;obtain⟨h3,h4⟩:=h;by_cases hv:v≥0
 ·have e:IntKind.wrap .u64 (IntKind.wrap .u64 v*2)=zz v:=by
   rw[IntKind.wrap_u64,IntKind.wrap_u64];unfold zz;rw[if_pos hv];omega
  constructor
  ·refine⟨fun _=>by show vI5 (IntKind.wrap .u64 (IntKind.wrap .u64 v*2));rw[e];exact h1,fun hn=>?_⟩;have hn:(!decide (v≥0))=true:=hn;rw[decide_eq_true hv] at hn;cases hn
  ·show (bif decide (v≥0) then f80 (IntKind.wrap .u64 (IntKind.wrap .u64 v*2)) else _)=_;rw[decide_eq_true hv,e];exact h2
 ·have e:IntKind.wrap .u64 (IntKind.wrap .u64 (IntKind.wrap .u64 (IntKind.wrap .i64 (Int.sub 0 (IntKind.wrap .i64 (v+1))))*2)+1)=zz v:=by
   rw[tQ7 (x:=v+1) (by omega) (by omega),show Int.sub 0 (v+1)=-(v+1) from Int.zero_sub _,tQ7 (x:=-(v+1)) (by omega) (by omega)];simp only[IntKind.wrap_u64];unfold zz;rw[if_neg hv];omega
  constructor
  ·refine⟨fun hn=>?_,fun _=>by show vI5 (IntKind.wrap .u64 (IntKind.wrap .u64 (IntKind.wrap .u64 (IntKind.wrap .i64 (Int.sub 0 (IntKind.wrap .i64 (v+1))))*2)+1));rw[e];exact h1⟩;have hn:decide (v≥0)=true:=hn;rw[decide_eq_false hv] at hn;cases hn
  ·show (bif decide (v≥0) then _ else f80 (IntKind.wrap .u64 (IntKind.wrap .u64 (IntKind.wrap .u64 (IntKind.wrap .i64 (Int.sub 0 (IntKind.wrap .i64 (v+1))))*2)+1)))=_;rw[decide_eq_false hv,e];exact h2
def vL1 (b:Bool):List UInt8:=wT9 (bif b then 1 else 0)
theorem uJ1 (b:Bool):uB1 b∧f60 b=vL1 b:=by
 cases b with
 |true=>exact⟨⟨fun _=>(wY6 1).1,fun h=>(by cases h)⟩,(wY6 1).2⟩
 |false=>exact⟨⟨fun h=>(by cases h),fun _=>(wY6 0).1⟩,(wY6 0).2⟩
def vW9 (s:List UInt8):List UInt8:=wT9 (len s)++s
theorem vN8 (s:List UInt8)(hs:s.length≤4000000000):uG2 s∧uG7 s∧f52 s=vW9 s∧f59 s=vW9 s:=by
 have h:=wW1 (len s);have h':=wY6 (len s);have hb:=wT7 (len s);have e1:f93 (IntKind.wrap .u64 (len s))=wT9 (len s):=h.2;have e2:f80 (IntKind.wrap .u64 (len s))=wT9 (len s):=h'.2;refine⟨⟨h.1,?_⟩,⟨h'.1,?_⟩,?_,?_⟩
 ·show ((List.length (f93 (IntKind.wrap .u64 (len s)))+List.length s:Nat):Int)≤9223372036854775807;rw[e1];omega
 ·show ((List.length (f80 (IntKind.wrap .u64 (len s)))+List.length s:Nat):Int)≤9223372036854775807;rw[e2];omega
 ·show f93 (IntKind.wrap .u64 (len s))++s=_;rw[e1];rfl
 ·show f80 (IntKind.wrap .u64 (len s))++s=_;rw[e2];rfl
theorem tK7 {α:Type}(t:List α)(z:α)(e:α→List UInt8)(E:Nat)(he:∀ x,(e x).length≤E){g:List UInt8×Int×Unit→Bool}{next:List UInt8×Int×Unit→List UInt8×Int×Unit}{ok:List UInt8×Int×Unit→Prop}
  (hg:∀ b i,g (b,i,())=decide (i<len t)) (hx:∀ b (i:Nat),i<t.length→next (b,(i:Int),())=(b++e (nth t (i:Int) z),(i:Int)+1,())) (ht:t.length≤4000000000)
  (hok:∀ b (i:Nat),(i<t.length→b.length+E≤4294967296)→ok (b,(i:Int),())) :
  ∀ (n i:Nat) (b:List UInt8),i+n=t.length→b.length+E*n≤4294967296→LT g next ok n (b,(i:Int),()) (b++((t.drop i).map e).flatten,(t.length:Int),()):=by
 intro n
 induction n with
 |zero =>
  intro i b hi hb;have h1:(b++((t.drop i).map e).flatten,(t.length:Int),())=(b,(i:Int),()):=by
   rw[List.drop_of_length_le (by omega),show t.length=i by omega];simp
  rw[h1];refine .stop (hok _ _ fun h=>by omega) ?_;rw[hg];exact decide_eq_false (by simp only[len];omega)
 |succ n ih =>
  intro i b hi hb;have hit:i<t.length:=by omega
  rw[Nat.mul_succ] at hb;refine .step (hok _ _ fun _=>by omega) (by rw[hg];exact decide_eq_true (by simp only[len];omega)) ?_;rw[hx _ _ hit,vG8 t i hit,List.drop_eq_getElem_cons hit,List.map_cons,List.flatten_cons,← List.append_assoc,show ((i:Int)+1)=((i+1:Nat):Int) by omega];refine ih (i+1) _ (by omega) ?_;have:=he t[i];rw[List.length_append];omega
theorem vD6 {α:Type}(t:List α)(z:α)(e:α→List UInt8)(E:Nat)(he:∀ x,(e x).length≤E){g:List UInt8×Int×Unit→Bool}{next:List UInt8×Int×Unit→List UInt8×Int×Unit}{ok:List UInt8×Int×Unit→Prop}
  (hg:∀ b i,g (b,i,())=decide (i<len t)) (hx:∀ b (i:Nat),i<t.length→next (b,(i:Int),())=(b++e (nth t (i:Int) z),(i:Int)+1,()))
  (hok:∀ b (i:Nat),(i<t.length→b.length+E≤4294967296)→ok (b,(i:Int),())) (b:List UInt8) (ht:t.length≤4000000000) (hb:b.length+E*t.length≤4294967296) :
  xQ6 g next ok (b,0,())∧(zC5 g next (b,0,())).1=b++(t.map e).flatten:=by
 have h:=tK7 t z e E he hg hx ht hok t.length 0 b (by omega) hb;exact⟨h.ends (by omega),congrArg (·.1) (h.fix (by omega))⟩
end Go.Proofs.YtbiemgjkkhkdeaaGreatDoor.Am
