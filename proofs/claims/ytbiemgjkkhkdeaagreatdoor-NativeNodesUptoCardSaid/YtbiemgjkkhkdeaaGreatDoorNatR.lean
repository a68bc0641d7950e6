/- Readers: signed numbers, texts, truth values, colors, points are read alike. Condition: readers that were made. -/
import Derived.Test.YtbiemgjkkhkdeaaGreatDoorNatQ
set_option linter.unusedVariables false
namespace Go.Proofs.YtbiemgjkkhkdeaaGreatDoor.Am
open Go Go.Am Go.Proofs
theorem sU7 (x:Int)(h0:0≤x)(h1:x<9223372036854775808):wT .i64 x=-x-1:=by
 obtain⟨n,rfl⟩:∃ n:Nat,x=(n:Int):=⟨x.toNat,by omega⟩;have e:wT .i64 (n:Int)=IntKind.wrap .i64 ((BitVec.ofInt 64 (-1) ^^^ BitVec.ofInt 64 (n:Int)).toNat):=rfl;have hm:BitVec.ofInt 64 (-1)=BitVec.allOnes 64:=by decide
 rw[e,hm,BitVec.allOnes_xor,BitVec.toNat_not,BitVec.ofInt_natCast,BitVec.toNat_ofNat,IntKind.wrap_i64,Nat.mod_eq_of_lt (by omega:n<2 ^ 64)];omega
theorem sW2 (x:Int):wT1 x 1 64=x / 2:=by
 show x.fdiv (2 ^ (min (1:Int).toNat 64))=_;rw[show (2:Int) ^ (min (1:Int).toNat 64)=2 by decide,Int.fdiv_eq_ediv_of_nonneg _ (by decide)]
theorem wX6 {p:D60}{r:D71}(h:RR p r):wT2 p∧wT5 r∧wU0 r=wT4 p∧RR (wU1 p).1 (wT9 r).1:=by
 obtain⟨h1,h2,h3,h4,⟨h5,h6⟩,_⟩:=tP5 h;refine⟨h1,h2,?_,h4⟩;show (bif ((Int.tmod (uA9 r) (2:Int))==0) then (IntKind.wrap .i64 (IntKind.wrap .u64 (Int.tdiv (uA9 r) (2:Int)))) else (IntKind.wrap .i64 ((IntKind.wrap .i64 (Int.sub 0 (IntKind.wrap .i64 (IntKind.wrap .u64 (Int.tdiv (uA9 r) (2:Int))))))-1))) =
  (bif ((Int.tmod (wV2 p) (2:Int))==1) then (wT .i64 (IntKind.wrap .i64 (wT1 (wV2 p) (1:Int) 64))) else (IntKind.wrap .i64 (wT1 (wV2 p) (1:Int) 64)))
 rw[h3];generalize wV2 p=v at h5 h6;rw[Int.tmod_eq_emod_of_nonneg h5,Int.tdiv_eq_ediv_of_nonneg h5,sW2,vL5 (x:=v / 2) (by omega) (by omega),IntKind.wrap_u64,show v / 2 % 18446744073709551616=v / 2 by omega,vL5 (x:=v / 2) (by omega) (by omega)];rcases Int.emod_two_eq v with e|e
 ·rw[e];rfl
 ·rw[e,sU7 _ (by omega) (by omega),show Int.sub 0 (v / 2)=-(v / 2) from Int.zero_sub _,vL5 (x:=-(v / 2)) (by omega) (by omega)];show IntKind.wrap .i64 (-(v / 2)-1)=_;exact vL5 (by omega) (by omega)
theorem sF {p:D60}{r:D71}(h:RR p r)(n:Int)(hn:n<9223372036854775808):wV8 p n∧vB4 r n∧uE0 r n=vH0 p n∧RR (wV5 p n).1 (vZ8 r n).1:=by
 obtain⟨c1,c2,c3,c4,c5,c6⟩:=vH h n hn;obtain⟨g1,g2⟩:=vL3 c4;obtain⟨l1,l2,l3,l4,l5,l6⟩:=tP6 c4;obtain⟨s,a1,a2,e,hp,hr,hs,hat⟩:=c4.out;have o1:vN5 (wT3 p n).1=((wT3 p n).1,()):=rfl;have o2:vK6 (wT7 r n).1=((wT7 r n).1,()):=rfl;rw[hp] at g1 g2 l1 l6 o1 l4;rw[hr] at g2 o2;simp only at g1 g2 l6;simp only[wV8,vH0,wV5,uU2,vB4,uE0,vZ8,uZ,o1,o2,l4,hp,hr,g1,g2,c3,l6];cases he:(e==0) with
 |false =>
  refine⟨⟨c1,trivial,fun h=>(by cases h)⟩,⟨c2,trivial,fun h=>(by cases h)⟩,rfl,RR.mk hs hat⟩
 |true =>
  have he0:=beq_iff_eq.1 he;obtain⟨rfl,q1,q2⟩:=hat he0;simp only[cond_true,cond_false,Bool.not_true];rw[vL5 (x:=len s-a2) (by omega) (by omega)];cases hd:decide (wT6 p n>len s-a2) with
  |true =>
   refine⟨⟨c1,trivial,fun _=>⟨l1,fun h=>(by cases h)⟩⟩,⟨c2,trivial,fun _ h=>(by cases h)⟩,rfl,RR.mk hs (fun h=>by cases h)⟩
  |false =>
   have hle:=of_decide_eq_false hd;have hw:=vL5 (x:=a2+wT6 p n) (by omega) (by omega);rw[hw];refine⟨⟨c1,trivial,fun _=>⟨l1,fun _=>⟨q1,by omega,by omega⟩⟩⟩,⟨c2,trivial,fun _ _=>⟨q1,by omega,by omega⟩⟩,rfl,RR.mk hs (fun _=>⟨rfl,by omega,by omega⟩)⟩
def tQ (p:D60):D60:=bif decide (wV2 p>1) then (wW8 (vC p).1 4).1 else (vC p).1
theorem tQ0 {p:D60}{r:D71}(h:RR p r):wW3 p∧wX5 r∧vV1 r=(wV2 p==1)∧RR (tQ p) (vV2 r).1:=by
 obtain⟨h1,h2,h3,h4,_,_⟩:=tP5 h;refine⟨h1,⟨h2,fun _=>trivial⟩,?_,?_⟩
 ·show (uA9 r==1)=_;rw[h3]
 ·show RR (bif decide (wV2 p>1) then (wW8 (vC p).1 4).1 else (vC p).1) (bif decide (uA9 r>1) then (vC6 (vQ8 r).1 4).1 else (vQ8 r).1);rw[h3];cases decide (wV2 p>1) with
  |true=>exact (uP7 h4 4 (by decide)).2.2.1
  |false=>exact h4
def intP (p:D60):D60:=(wU1 p).1
theorem sL4 {p:D60}{r:D71}(h:RR p r):(wT2 p∧wT2 (intP p)∧wT2 (intP (intP p))∧wT2 (intP (intP (intP p))))∧vL1 r∧uN2 r=(wT4 p,wT4 (intP p),wT4 (intP (intP p)),wT4 (intP (intP (intP p))),())∧RR (intP (intP (intP (intP p)))) (vV3 r).1:=by
 obtain⟨a1,a2,a3,a4⟩:=wX6 h;obtain⟨b1,b2,b3,b4⟩:=wX6 a4;obtain⟨c1,c2,c3,c4⟩:=wX6 b4;obtain⟨d1,d2,d3,d4⟩:=wX6 c4;refine⟨⟨a1,b1,c1,d1⟩,⟨a2,b2,c2,d2⟩,?_,d4⟩;simp only[uN2,uZ0,a3,b3,c3,d3];rfl
theorem sU8 {p:D60}{r:D71}(h:RR p r):(wT2 p∧wT2 (intP p))∧vX4 r∧tC0 r=(wT4 p,wT4 (intP p),())∧RR (intP (intP p)) (vZ9 r).1:=by
 obtain⟨a1,a2,a3,a4⟩:=wX6 h;obtain⟨b1,b2,b3,b4⟩:=wX6 a4;refine⟨⟨a1,b1⟩,⟨a2,b2⟩,?_,b4⟩;simp only[tC0,uZ2,a3,b3];rfl
end Go.Proofs.YtbiemgjkkhkdeaaGreatDoor.Am
