/- A node is written alike. Condition: numbers are those of Go, lists are not too long. -/
import Derived.Test.YtbiemgjkkhkdeaaGreatDoorNatN
set_option linter.unusedVariables false
namespace Go.Proofs.YtbiemgjkkhkdeaaGreatDoor.Am
open Go Go.Am Go.Proofs
theorem uF8 (p:D26)(hl:len p.2.2.1<9223372036854775808):(f9 p).length≤4000000:=by
 obtain⟨c1,c2,c3,c4⟩:=uX8 p hl;rw[← (uN2 p hl).2.2];show (uP1 (bif (f30 p !=0) then ((0:Int),(0:Int),([]:List Int),()) else p).1 (bif (f30 p !=0) then ((0:Int),(0:Int),([]:List Int),()) else p).2.1 (bif (f30 p !=0) then ((0:Int),(0:Int),([]:List Int),()) else p).2.2.1 ()).length≤_;generalize hq:(bif (f30 p !=0) then ((0:Int),(0:Int),([]:List Int),()) else p)=q;have hs:q.2.2.1.length≤65536:=by
  by_cases h:f30 p=0
  ·rw[h] at hq;have hq:p=q:=hq;have:=(c4 h).2.2.2.2.2;rw[← hq];simp only[len] at this;omega
  ·have:(f30 p !=0)=true:=by simpa using h
   rw[this] at hq;have hq:((0:Int),(0:Int),([]:List Int),())=q:=hq;rw[← hq];simp
 have h1:=wT7 q.1;have h2:=wT7 q.2.1;have h3:=uY eInt 44 uN1 q.2.2.1 0;rw[(uY1 q.1 q.2.1 q.2.2.1 hs).2,List.length_append,List.length_append];omega
theorem vY7 (p:D23)(hl:len p.2.2.1<9223372036854775808):(f7 p).length≤4000000:=by
 obtain⟨c1,c2,c3,c4⟩:=tJ8 p hl;rw[← (vZ5 p hl).2.2];show (uO6 (bif (f25 p !=0) then ((0:Int),(0:Int),([]:List D45),()) else p).1 (bif (f25 p !=0) then ((0:Int),(0:Int),([]:List D45),()) else p).2.1 (bif (f25 p !=0) then ((0:Int),(0:Int),([]:List D45),()) else p).2.2.1 ()).length≤_;generalize hq:(bif (f25 p !=0) then ((0:Int),(0:Int),([]:List D45),()) else p)=q;have hs:q.2.2.1.length≤65536:=by
  by_cases h:f25 p=0
  ·rw[h] at hq;have hq:p=q:=hq;have:=(c4 h).2.2.2.2.2;rw[← hq];simp only[len] at this;omega
  ·have:(f25 p !=0)=true:=by simpa using h
   rw[this] at hq;have hq:((0:Int),(0:Int),([]:List D45),())=q:=hq;rw[← hq];simp
 have h1:=wT7 q.1;have h2:=wT7 q.2.1;have h3:=uY ePix 44 uN0 q.2.2.1 0;rw[(uY0 q.1 q.2.1 q.2.2.1 hs).2,List.length_append,List.length_append];omega
structure NW (N:D52):Prop where
 h0:I64 N.1
 h1:I64 N.2.1
 h2:I64 N.2.2.1
 h3:N.2.2.2.1.length≤1048576
 h7:I64 N.2.2.2.2.2.2.2.1
 h8:I64 N.2.2.2.2.2.2.2.2.1
 h9:len N.2.2.2.2.2.2.2.2.2.1.2.2.1<9223372036854775808
 h10_0:I64 N.2.2.2.2.2.2.2.2.2.2.1.1
 h10_1:I64 N.2.2.2.2.2.2.2.2.2.2.1.2.1
 h10_2:I64 N.2.2.2.2.2.2.2.2.2.2.1.2.2.1
 h10_3:I64 N.2.2.2.2.2.2.2.2.2.2.1.2.2.2.1
 h10_4:I64 N.2.2.2.2.2.2.2.2.2.2.1.2.2.2.2.1
 h10_5:I64 N.2.2.2.2.2.2.2.2.2.2.1.2.2.2.2.2.1
 h11:I64 N.2.2.2.2.2.2.2.2.2.2.2.1
 h12:len N.2.2.2.2.2.2.2.2.2.2.2.2.1.2.2.1<9223372036854775808
 h13:IC N.2.2.2.2.2.2.2.2.2.2.2.2.2.1
 h14:I64 N.2.2.2.2.2.2.2.2.2.2.2.2.2.2.1
 h15:∀ v∈N.2.2.2.2.2.2.2.2.2.2.2.2.2.2.2.1,I64 v
 l15:N.2.2.2.2.2.2.2.2.2.2.2.2.2.2.2.1.length≤1048576
 h16:I64 N.2.2.2.2.2.2.2.2.2.2.2.2.2.2.2.2.1
 h17:∀ s∈wU1 N,IS s
 l17:(wU1 N).length≤1048576
 h18:∀ s∈wU8 N,IG s
 l18:(wU8 N).length≤1048576
 h19:I64 N.2.2.2.2.2.2.2.2.2.2.2.2.2.2.2.2.2.2.2.1
 h20:I64 N.2.2.2.2.2.2.2.2.2.2.2.2.2.2.2.2.2.2.2.2.1
 h21:I64 N.2.2.2.2.2.2.2.2.2.2.2.2.2.2.2.2.2.2.2.2.2.1
 h22:I64 N.2.2.2.2.2.2.2.2.2.2.2.2.2.2.2.2.2.2.2.2.2.2.1
 h23:N.2.2.2.2.2.2.2.2.2.2.2.2.2.2.2.2.2.2.2.2.2.2.2.1.length≤1048576
 h24:I64 N.2.2.2.2.2.2.2.2.2.2.2.2.2.2.2.2.2.2.2.2.2.2.2.2.1
 h25:I64 N.2.2.2.2.2.2.2.2.2.2.2.2.2.2.2.2.2.2.2.2.2.2.2.2.2.1
 h26:I64 N.2.2.2.2.2.2.2.2.2.2.2.2.2.2.2.2.2.2.2.2.2.2.2.2.2.2.1
 h27_0:I64 N.2.2.2.2.2.2.2.2.2.2.2.2.2.2.2.2.2.2.2.2.2.2.2.2.2.2.2.1.1
 h27_1:I64 N.2.2.2.2.2.2.2.2.2.2.2.2.2.2.2.2.2.2.2.2.2.2.2.2.2.2.2.1.2.1
 h27_2:I64 N.2.2.2.2.2.2.2.2.2.2.2.2.2.2.2.2.2.2.2.2.2.2.2.2.2.2.2.1.2.2.1
 h27:∀ p∈nPts N,IP p
 l27:(nPts N).length≤1048576
def tR2 (N:D52):List UInt8:=intB N.1++(intB N.2.1++(intB N.2.2.1++(vW9 N.2.2.2.1++(vL1 N.2.2.2.2.1++(vL1 N.2.2.2.2.2.1++(vL1 N.2.2.2.2.2.2.1++(intB N.2.2.2.2.2.2.2.1++(intB N.2.2.2.2.2.2.2.2.1++(f9 N.2.2.2.2.2.2.2.2.2.1++(intB N.2.2.2.2.2.2.2.2.2.2.1.1++(intB N.2.2.2.2.2.2.2.2.2.2.1.2.1++(intB N.2.2.2.2.2.2.2.2.2.2.1.2.2.1++(intB N.2.2.2.2.2.2.2.2.2.2.1.2.2.2.1++(intB N.2.2.2.2.2.2.2.2.2.2.1.2.2.2.2.1++(intB N.2.2.2.2.2.2.2.2.2.2.1.2.2.2.2.2.1++(intB N.2.2.2.2.2.2.2.2.2.2.2.1++(f7 N.2.2.2.2.2.2.2.2.2.2.2.2.1++(colB N.2.2.2.2.2.2.2.2.2.2.2.2.2.1++(intB N.2.2.2.2.2.2.2.2.2.2.2.2.2.2.1++((wT9 (len N.2.2.2.2.2.2.2.2.2.2.2.2.2.2.2.1)++vI9 N.2.2.2.2.2.2.2.2.2.2.2.2.2.2.2.1)++(intB N.2.2.2.2.2.2.2.2.2.2.2.2.2.2.2.2.1++((wT9 (len (wU1 N))++vY6 (wU1 N))++((wT9 (len (wU8 N))++uV6 (wU8 N))++(intB N.2.2.2.2.2.2.2.2.2.2.2.2.2.2.2.2.2.2.2.1++(intB N.2.2.2.2.2.2.2.2.2.2.2.2.2.2.2.2.2.2.2.2.1++(intB N.2.2.2.2.2.2.2.2.2.2.2.2.2.2.2.2.2.2.2.2.2.1++(intB N.2.2.2.2.2.2.2.2.2.2.2.2.2.2.2.2.2.2.2.2.2.2.1++(vW9 N.2.2.2.2.2.2.2.2.2.2.2.2.2.2.2.2.2.2.2.2.2.2.2.1++(intB N.2.2.2.2.2.2.2.2.2.2.2.2.2.2.2.2.2.2.2.2.2.2.2.2.1++(intB N.2.2.2.2.2.2.2.2.2.2.2.2.2.2.2.2.2.2.2.2.2.2.2.2.2.1++(intB N.2.2.2.2.2.2.2.2.2.2.2.2.2.2.2.2.2.2.2.2.2.2.2.2.2.2.1++(intB N.2.2.2.2.2.2.2.2.2.2.2.2.2.2.2.2.2.2.2.2.2.2.2.2.2.2.2.1.1++(intB N.2.2.2.2.2.2.2.2.2.2.2.2.2.2.2.2.2.2.2.2.2.2.2.2.2.2.2.1.2.1++(intB N.2.2.2.2.2.2.2.2.2.2.2.2.2.2.2.2.2.2.2.2.2.2.2.2.2.2.2.1.2.2.1++((wT9 (len (nPts N))++ptsB (nPts N)))))))))))))))))))))))))))))))))))))
set_option maxHeartbeats 4000000 in
set_option maxRecDepth 20000 in
theorem tT2 {N:D52}(h:NW N):vX9 N∧f21 N=tR2 N:=by
 have n0:=wT6 N.1;have n1:=wT6 N.2.1;have n2:=wT6 N.2.2.1;have n3:=wT7 (len N.2.2.2.1);have n4:=h.h3;have n5:=wT7 (bif N.2.2.2.2.1 then 1 else 0);have n6:=wT7 (bif N.2.2.2.2.2.1 then 1 else 0);have n7:=wT7 (bif N.2.2.2.2.2.2.1 then 1 else 0);have n8:=wT6 N.2.2.2.2.2.2.2.1;have n9:=wT6 N.2.2.2.2.2.2.2.2.1;have n10:=uF8 _ h.h9;have n11:=wT6 N.2.2.2.2.2.2.2.2.2.2.1.1;have n12:=wT6 N.2.2.2.2.2.2.2.2.2.2.1.2.1;have n13:=wT6 N.2.2.2.2.2.2.2.2.2.2.1.2.2.1;have n14:=wT6 N.2.2.2.2.2.2.2.2.2.2.1.2.2.2.1;have n15:=wT6 N.2.2.2.2.2.2.2.2.2.2.1.2.2.2.2.1;have n16:=wT6 N.2.2.2.2.2.2.2.2.2.2.1.2.2.2.2.2.1;have n17:=wT6 N.2.2.2.2.2.2.2.2.2.2.2.1;have n18:=vY7 _ h.h12;have n19:=vZ6 N.2.2.2.2.2.2.2.2.2.2.2.2.2.1;have n20:=wT6 N.2.2.2.2.2.2.2.2.2.2.2.2.2.2.1;have n21:=wT7 (len N.2.2.2.2.2.2.2.2.2.2.2.2.2.2.2.1);have n22:=uS9 N.2.2.2.2.2.2.2.2.2.2.2.2.2.2.2.1;have n23:=h.l15;have n24:=wT6 N.2.2.2.2.2.2.2.2.2.2.2.2.2.2.2.2.1;have n25:=wT7 (len (wU1 N));have n26:(vY6 (wU1 N)).length≤55*(wU1 N).length:=vV6 uG0 55 vJ (wU1 N);have n27:=h.l17;have n28:=wT7 (len (wU8 N));have n29:=uY5 (wU8 N) h.h18;have n30:=h.l18;have n31:=wT6 N.2.2.2.2.2.2.2.2.2.2.2.2.2.2.2.2.2.2.2.1;have n32:=wT6 N.2.2.2.2.2.2.2.2.2.2.2.2.2.2.2.2.2.2.2.2.1;have n33:=wT6 N.2.2.2.2.2.2.2.2.2.2.2.2.2.2.2.2.2.2.2.2.2.1;have n34:=wT6 N.2.2.2.2.2.2.2.2.2.2.2.2.2.2.2.2.2.2.2.2.2.2.1;have n35:=wT7 (len N.2.2.2.2.2.2.2.2.2.2.2.2.2.2.2.2.2.2.2.2.2.2.2.1);have n36:=h.h23;have n37:=wT6 N.2.2.2.2.2.2.2.2.2.2.2.2.2.2.2.2.2.2.2.2.2.2.2.2.1;have n38:=wT6 N.2.2.2.2.2.2.2.2.2.2.2.2.2.2.2.2.2.2.2.2.2.2.2.2.2.1;have n39:=wT6 N.2.2.2.2.2.2.2.2.2.2.2.2.2.2.2.2.2.2.2.2.2.2.2.2.2.2.1;have n40:=wT6 N.2.2.2.2.2.2.2.2.2.2.2.2.2.2.2.2.2.2.2.2.2.2.2.2.2.2.2.1.1;have n41:=wT6 N.2.2.2.2.2.2.2.2.2.2.2.2.2.2.2.2.2.2.2.2.2.2.2.2.2.2.2.1.2.1;have n42:=wT6 N.2.2.2.2.2.2.2.2.2.2.2.2.2.2.2.2.2.2.2.2.2.2.2.2.2.2.2.1.2.2.1;have n43:=wT7 (len (nPts N));have n44:(ptsB (nPts N)).length≤22*(nPts N).length:=vV6 ptB 22 vL2 (nPts N);have n45:=h.l27;have e0:=(wU h.h0).2;have e1:=(wU h.h1).2;have e2:=(wU h.h2).2;have e3:=(vN8 N.2.2.2.1 (by have:=h.h3;omega)).2.2.2;have e4:=(uJ1 N.2.2.2.2.1).2;have e5:=(uJ1 N.2.2.2.2.2.1).2;have e6:=(uJ1 N.2.2.2.2.2.2.1).2;have e7:=(wU h.h7).2;have e8:=(wU h.h8).2;have e9:=(wU h.h10_0).2;have e10:=(wU h.h10_1).2;have e11:=(wU h.h10_2).2;have e12:=(wU h.h10_3).2;have e13:=(wU h.h10_4).2;have e14:=(wU h.h10_5).2;have e15:=(wU h.h11).2;have e16:=(uT h.h13).2;have e17:=(wU h.h14).2;have e18:=(uN3 _ h.h15 (by have:=h.l15;omega)).2.2.2;have e19:=(wU h.h16).2;have e20:=(wY6 (len (wU1 N))).2;have e21:=(wY6 (len (wU8 N))).2;have e22:=(wU h.h19).2;have e23:=(wU h.h20).2;have e24:=(wU h.h21).2;have e25:=(wU h.h22).2;have e26:=(vN8 N.2.2.2.2.2.2.2.2.2.2.2.2.2.2.2.2.2.2.2.2.2.2.2.1 (by have:=h.h23;omega)).2.2.2;have e27:=(wU h.h24).2;have e28:=(wU h.h25).2;have e29:=(wU h.h26).2;have e30:=(wU h.h27_0).2;have e31:=(wU h.h27_1).2;have e32:=(wU h.h27_2).2;have e33:=(wY6 (len (nPts N))).2;have o0:=(wU h.h0).1;have o1:=(wU h.h1).1;have o2:=(wU h.h2).1;have o3:=(vN8 N.2.2.2.1 (by have:=h.h3;omega)).2.1;have o4:=(uJ1 N.2.2.2.2.1).1;have o5:=(uJ1 N.2.2.2.2.2.1).1;have o6:=(uJ1 N.2.2.2.2.2.2.1).1;have o7:=(wU h.h7).1;have o8:=(wU h.h8).1;have o9:=(uN2 _ h.h9).2.1;have o10:=(wU h.h10_0).1;have o11:=(wU h.h10_1).1;have o12:=(wU h.h10_2).1;have o13:=(wU h.h10_3).1;have o14:=(wU h.h10_4).1;have o15:=(wU h.h10_5).1;have o16:=(wU h.h11).1;have o17:=(vZ5 _ h.h12).2.1;have o18:=(uT h.h13).1;have o19:=(wU h.h14).1;have o20:=(uN3 _ h.h15 (by have:=h.l15;omega)).2.1;have o21:=(wU h.h16).1;have o22:=(wY6 (len (wU1 N))).1;have o23:=(wY6 (len (wU8 N))).1;have o24:=(wU h.h19).1;have o25:=(wU h.h20).1;have o26:=(wU h.h21).1;have o27:=(wU h.h22).1;have o28:=(vN8 N.2.2.2.2.2.2.2.2.2.2.2.2.2.2.2.2.2.2.2.2.2.2.2.1 (by have:=h.h23;omega)).2.1;have o29:=(wU h.h24).1;have o30:=(wU h.h25).1;have o31:=(wU h.h26).1;have o32:=(wU h.h27_0).1;have o33:=(wU h.h27_1).1;have o34:=(wU h.h27_2).1;have o35:=(wY6 (len (nPts N))).1;have hS:=fun b hb=>tL0 N h.h17 b h.l17 hb;have hG:=fun b hb=>tR N h.h18 b h.l18 hb;have hW:=fun b hb=>tR0 N h.h27 b h.l27 hb;have hS1:=fun b hb=>(hS b hb).1;have hG1:=fun b hb=>(hG b hb).1;have hW1:=fun b hb=>(hW b hb).1;have hS2:=fun b hb=>(hS b hb).2;have hG2:=fun b hb=>(hG b hb).2;have hW2:=fun b hb=>(hW b hb).2;clear hS hG hW;constructor
 ·simp (disch:=((try simp only[List.length_append,vW9,vL1])<;>omega)) only[vX9,f21t,vK3,vG2,e0,e1,e2,e3,e4,e5,e6,e7,e8,e9,e10,e11,e12,e13,e14,e15,e16,e17,e18,e19,e20,e21,e22,e23,e24,e25,e26,e27,e28,e29,e30,e31,e32,e33,hS2,hG2]
  repeat' (first|assumption|apply And.intro)
  all_goals first
   |assumption
   |((try simp only[List.length_append,vW9,vL1])<;>omega)
   |(apply hS1;(try simp only[List.length_append,vW9,vL1])<;>omega)
   |(apply hG1;(try simp only[List.length_append,vW9,vL1])<;>omega)
   |(apply hW1;(try simp only[List.length_append,vW9,vL1])<;>omega)
 ·simp (disch:=((try simp only[List.length_append,vW9,vL1])<;>omega)) only[f21,f21t,vK3,vG2,vM9,e0,e1,e2,e3,e4,e5,e6,e7,e8,e9,e10,e11,e12,e13,e14,e15,e16,e17,e18,e19,e20,e21,e22,e23,e24,e25,e26,e27,e28,e29,e30,e31,e32,e33,hS2,hG2,hW2]
  simp only[tR2,List.append_assoc]
end Go.Proofs.YtbiemgjkkhkdeaaGreatDoor.Am
