/- A node is written alike. Condition: numbers are those of Go, lists are not too long. -/
import Derived.Test.YtbiemgjkkhkdeaaGreatDoorNatN
set_option linter.unusedVariables false
namespace Go.Proofs.YtbiemgjkkhkdeaaGreatDoor.Am
open Go Go.Am Go.Proofs
theorem tA6 (p:D26)(hl:len p.2.2.1<9223372036854775808):(f9 p).length≤4000000:=by
 obtain⟨c1,c2,c3,c4⟩:=tS p hl;rw[← (tG3 p hl).2.2];show (tI7 (bif (f30 p !=0) then ((0:Int),(0:Int),([]:List Int),()) else p).1 (bif (f30 p !=0) then ((0:Int),(0:Int),([]:List Int),()) else p).2.1 (bif (f30 p !=0) then ((0:Int),(0:Int),([]:List Int),()) else p).2.2.1 ()).length≤_;generalize hq:(bif (f30 p !=0) then ((0:Int),(0:Int),([]:List Int),()) else p)=q;have hs:q.2.2.1.length≤65536:=by
  by_cases h:f30 p=0
  ·rw[h] at hq;have hq:p=q:=hq;have:=(c4 h).2.2.2.2.2;rw[← hq];simp only[len] at this;omega
  ·have:(f30 p !=0)=true:=by simpa using h
   rw[this] at hq;have hq:((0:Int),(0:Int),([]:List Int),())=q:=hq;rw[← hq];simp
 have h1:=wU q.1;have h2:=wU q.2.1;have h3:=tS1 eInt 44 tG2 q.2.2.1 0;rw[(tS3 q.1 q.2.1 q.2.2.1 hs).2,List.length_append,List.length_append];omega
theorem uS2 (p:D23)(hl:len p.2.2.1<9223372036854775808):(f7 p).length≤4000000:=by
 obtain⟨c1,c2,c3,c4⟩:=sD0 p hl;rw[← (uT7 p hl).2.2];show (tI1 (bif (f25 p !=0) then ((0:Int),(0:Int),([]:List D45),()) else p).1 (bif (f25 p !=0) then ((0:Int),(0:Int),([]:List D45),()) else p).2.1 (bif (f25 p !=0) then ((0:Int),(0:Int),([]:List D45),()) else p).2.2.1 ()).length≤_;generalize hq:(bif (f25 p !=0) then ((0:Int),(0:Int),([]:List D45),()) else p)=q;have hs:q.2.2.1.length≤65536:=by
  by_cases h:f25 p=0
  ·rw[h] at hq;have hq:p=q:=hq;have:=(c4 h).2.2.2.2.2;rw[← hq];simp only[len] at this;omega
  ·have:(f25 p !=0)=true:=by simpa using h
   rw[this] at hq;have hq:((0:Int),(0:Int),([]:List D45),())=q:=hq;rw[← hq];simp
 have h1:=wU q.1;have h2:=wU q.2.1;have h3:=tS1 ePix 44 tG1 q.2.2.1 0;rw[(tS2 q.1 q.2.1 q.2.2.1 hs).2,List.length_append,List.length_append];omega
structure NW (N:D52):Prop where
 h0:I64 N.1
 h1:I64 N.2.1
 h2:I64 N.2.2.1
 h3:N.2.2.2.1.length≤1048576
 h7:I64 N.2.2.2.2.2.2.2.1
 h8:I64 N.2.2.2.2.2.2.2.2.1
 h9:len N.2.2.2.2.2.2.2.2.2.1.2.2.1<9223372036854775808
 h10_0:I64 N.2.2.2.2.2.2.2.2.2.2.1.1
 h10_1:I64 N.2.2.2.2.2.2.2.2.2.2.1.2.1
 h10_2:I64 N.2.2.2.2.2.2.2.2.2.2.1.2.2.1
 h10_3:I64 N.2.2.2.2.2.2.2.2.2.2.1.2.2.2.1
 h10_4:I64 N.2.2.2.2.2.2.2.2.2.2.1.2.2.2.2.1
 h10_5:I64 N.2.2.2.2.2.2.2.2.2.2.1.2.2.2.2.2.1
 h11:I64 N.2.2.2.2.2.2.2.2.2.2.2.1
 h12:len N.2.2.2.2.2.2.2.2.2.2.2.2.1.2.2.1<9223372036854775808
 h13:IC N.2.2.2.2.2.2.2.2.2.2.2.2.2.1
 h14:I64 N.2.2.2.2.2.2.2.2.2.2.2.2.2.2.1
 h15:∀ v∈N.2.2.2.2.2.2.2.2.2.2.2.2.2.2.2.1,I64 v
 l15:N.2.2.2.2.2.2.2.2.2.2.2.2.2.2.2.1.length≤1048576
 h16:I64 N.2.2.2.2.2.2.2.2.2.2.2.2.2.2.2.2.1
 h17:∀ s∈wU6 N,IS s
 l17:(wU6 N).length≤1048576
 h18:∀ s∈wV4 N,IG s
 l18:(wV4 N).length≤1048576
 h19:I64 N.2.2.2.2.2.2.2.2.2.2.2.2.2.2.2.2.2.2.2.1
 h20:I64 N.2.2.2.2.2.2.2.2.2.2.2.2.2.2.2.2.2.2.2.2.1
 h21:I64 N.2.2.2.2.2.2.2.2.2.2.2.2.2.2.2.2.2.2.2.2.2.1
 h22:I64 N.2.2.2.2.2.2.2.2.2.2.2.2.2.2.2.2.2.2.2.2.2.2.1
 h23:N.2.2.2.2.2.2.2.2.2.2.2.2.2.2.2.2.2.2.2.2.2.2.2.1.length≤1048576
 h24:I64 N.2.2.2.2.2.2.2.2.2.2.2.2.2.2.2.2.2.2.2.2.2.2.2.2.1
 h25:I64 N.2.2.2.2.2.2.2.2.2.2.2.2.2.2.2.2.2.2.2.2.2.2.2.2.2.1
 h26:I64 N.2.2.2.2.2.2.2.2.2.2.2.2.2.2.2.2.2.2.2.2.2.2.2.2.2.2.1
 h27_0:I64 N.2.2.2.2.2.2.2.2.2.2.2.2.2.2.2.2.2.2.2.2.2.2.2.2.2.2.2.1.1
 h27_1:I64 N.2.2.2.2.2.2.2.2.2.2.2.2.2.2.2.2.2.2.2.2.2.2.2.2.2.2.2.1.2.1
 h27_2:I64 N.2.2.2.2.2.2.2.2.2.2.2.2.2.2.2.2.2.2.2.2.2.2.2.2.2.2.2.1.2.2.1
 h27:∀ p∈nPts N,IP p
 l27:(nPts N).length≤1048576
def sJ (N:D52):List UInt8:=intB N.1++(intB N.2.1++(intB N.2.2.1++(uP8 N.2.2.2.1++(uA7 N.2.2.2.2.1++(uA7 N.2.2.2.2.2.1++(uA7 N.2.2.2.2.2.2.1++(intB N.2.2.2.2.2.2.2.1++(intB N.2.2.2.2.2.2.2.2.1++(f9 N.2.2.2.2.2.2.2.2.2.1++(intB N.2.2.2.2.2.2.2.2.2.2.1.1++(intB N.2.2.2.2.2.2.2.2.2.2.1.2.1++(intB N.2.2.2.2.2.2.2.2.2.2.1.2.2.1++(intB N.2.2.2.2.2.2.2.2.2.2.1.2.2.2.1++(intB N.2.2.2.2.2.2.2.2.2.2.1.2.2.2.2.1++(intB N.2.2.2.2.2.2.2.2.2.2.1.2.2.2.2.2.1++(intB N.2.2.2.2.2.2.2.2.2.2.2.1++(f7 N.2.2.2.2.2.2.2.2.2.2.2.2.1++(colB N.2.2.2.2.2.2.2.2.2.2.2.2.2.1++(intB N.2.2.2.2.2.2.2.2.2.2.2.2.2.2.1++((wU4 (len N.2.2.2.2.2.2.2.2.2.2.2.2.2.2.2.1)++vX8 N.2.2.2.2.2.2.2.2.2.2.2.2.2.2.2.1)++(intB N.2.2.2.2.2.2.2.2.2.2.2.2.2.2.2.2.1++((wU4 (len (wU6 N))++uS1 (wU6 N))++((wU4 (len (wV4 N))++tP8 (wV4 N))++(intB N.2.2.2.2.2.2.2.2.2.2.2.2.2.2.2.2.2.2.2.1++(intB N.2.2.2.2.2.2.2.2.2.2.2.2.2.2.2.2.2.2.2.2.1++(intB N.2.2.2.2.2.2.2.2.2.2.2.2.2.2.2.2.2.2.2.2.2.1++(intB N.2.2.2.2.2.2.2.2.2.2.2.2.2.2.2.2.2.2.2.2.2.2.1++(uP8 N.2.2.2.2.2.2.2.2.2.2.2.2.2.2.2.2.2.2.2.2.2.2.2.1++(intB N.2.2.2.2.2.2.2.2.2.2.2.2.2.2.2.2.2.2.2.2.2.2.2.2.1++(intB N.2.2.2.2.2.2.2.2.2.2.2.2.2.2.2.2.2.2.2.2.2.2.2.2.2.1++(intB N.2.2.2.2.2.2.2.2.2.2.2.2.2.2.2.2.2.2.2.2.2.2.2.2.2.2.1++(intB N.2.2.2.2.2.2.2.2.2.2.2.2.2.2.2.2.2.2.2.2.2.2.2.2.2.2.2.1.1++(intB N.2.2.2.2.2.2.2.2.2.2.2.2.2.2.2.2.2.2.2.2.2.2.2.2.2.2.2.1.2.1++(intB N.2.2.2.2.2.2.2.2.2.2.2.2.2.2.2.2.2.2.2.2.2.2.2.2.2.2.2.1.2.2.1++((wU4 (len (nPts N))++ptsB (nPts N)))))))))))))))))))))))))))))))))))))
set_option maxHeartbeats 4000000 in
set_option maxRecDepth 20000 in
theorem sL2 {N:D52}(h:NW N):uQ9 N∧f21 N=sJ N:=by
 have n0:=wT8 N.1;have n1:=wT8 N.2.1;have n2:=wT8 N.2.2.1;have n3:=wU (len N.2.2.2.1);have n4:=h.h3;have n5:=wU (bif N.2.2.2.2.1 then 1 else 0);have n6:=wU (bif N.2.2.2.2.2.1 then 1 else 0);have n7:=wU (bif N.2.2.2.2.2.2.1 then 1 else 0);have n8:=wT8 N.2.2.2.2.2.2.2.1;have n9:=wT8 N.2.2.2.2.2.2.2.2.1;have n10:=tA6 _ h.h9;have n11:=wT8 N.2.2.2.2.2.2.2.2.2.2.1.1;have n12:=wT8 N.2.2.2.2.2.2.2.2.2.2.1.2.1;have n13:=wT8 N.2.2.2.2.2.2.2.2.2.2.1.2.2.1;have n14:=wT8 N.2.2.2.2.2.2.2.2.2.2.1.2.2.2.1;have n15:=wT8 N.2.2.2.2.2.2.2.2.2.2.1.2.2.2.2.1;have n16:=wT8 N.2.2.2.2.2.2.2.2.2.2.1.2.2.2.2.2.1;have n17:=wT8 N.2.2.2.2.2.2.2.2.2.2.2.1;have n18:=uS2 _ h.h12;have n19:=uT8 N.2.2.2.2.2.2.2.2.2.2.2.2.2.1;have n20:=wT8 N.2.2.2.2.2.2.2.2.2.2.2.2.2.2.1;have n21:=wU (len N.2.2.2.2.2.2.2.2.2.2.2.2.2.2.2.1);have n22:=tN6 N.2.2.2.2.2.2.2.2.2.2.2.2.2.2.2.1;have n23:=h.l15;have n24:=wT8 N.2.2.2.2.2.2.2.2.2.2.2.2.2.2.2.2.1;have n25:=wU (len (wU6 N));have n26:(uS1 (wU6 N)).length≤55*(wU6 N).length:=uN9 tB0 55 vX9 (wU6 N);have n27:=h.l17;have n28:=wU (len (wV4 N));have n29:=tS7 (wV4 N) h.h18;have n30:=h.l18;have n31:=wT8 N.2.2.2.2.2.2.2.2.2.2.2.2.2.2.2.2.2.2.2.1;have n32:=wT8 N.2.2.2.2.2.2.2.2.2.2.2.2.2.2.2.2.2.2.2.2.1;have n33:=wT8 N.2.2.2.2.2.2.2.2.2.2.2.2.2.2.2.2.2.2.2.2.2.1;have n34:=wT8 N.2.2.2.2.2.2.2.2.2.2.2.2.2.2.2.2.2.2.2.2.2.2.1;have n35:=wU (len N.2.2.2.2.2.2.2.2.2.2.2.2.2.2.2.2.2.2.2.2.2.2.2.1);have n36:=h.h23;have n37:=wT8 N.2.2.2.2.2.2.2.2.2.2.2.2.2.2.2.2.2.2.2.2.2.2.2.2.1;have n38:=wT8 N.2.2.2.2.2.2.2.2.2.2.2.2.2.2.2.2.2.2.2.2.2.2.2.2.2.1;have n39:=wT8 N.2.2.2.2.2.2.2.2.2.2.2.2.2.2.2.2.2.2.2.2.2.2.2.2.2.2.1;have n40:=wT8 N.2.2.2.2.2.2.2.2.2.2.2.2.2.2.2.2.2.2.2.2.2.2.2.2.2.2.2.1.1;have n41:=wT8 N.2.2.2.2.2.2.2.2.2.2.2.2.2.2.2.2.2.2.2.2.2.2.2.2.2.2.2.1.2.1;have n42:=wT8 N.2.2.2.2.2.2.2.2.2.2.2.2.2.2.2.2.2.2.2.2.2.2.2.2.2.2.2.1.2.2.1;have n43:=wU (len (nPts N));have n44:(ptsB (nPts N)).length≤22*(nPts N).length:=uN9 ptB 22 uA8 (nPts N);have n45:=h.l27;have e0:=(wU5 h.h0).2;have e1:=(wU5 h.h1).2;have e2:=(wU5 h.h2).2;have e3:=(uF N.2.2.2.1 (by have:=h.h3;omega)).2.2.2;have e4:=(tC5 N.2.2.2.2.1).2;have e5:=(tC5 N.2.2.2.2.2.1).2;have e6:=(tC5 N.2.2.2.2.2.2.1).2;have e7:=(wU5 h.h7).2;have e8:=(wU5 h.h8).2;have e9:=(wU5 h.h10_0).2;have e10:=(wU5 h.h10_1).2;have e11:=(wU5 h.h10_2).2;have e12:=(wU5 h.h10_3).2;have e13:=(wU5 h.h10_4).2;have e14:=(wU5 h.h10_5).2;have e15:=(wU5 h.h11).2;have e16:=(tN7 h.h13).2;have e17:=(wU5 h.h14).2;have e18:=(tG4 _ h.h15 (by have:=h.l15;omega)).2.2.2;have e19:=(wU5 h.h16).2;have e20:=(vG8 (len (wU6 N))).2;have e21:=(vG8 (len (wV4 N))).2;have e22:=(wU5 h.h19).2;have e23:=(wU5 h.h20).2;have e24:=(wU5 h.h21).2;have e25:=(wU5 h.h22).2;have e26:=(uF N.2.2.2.2.2.2.2.2.2.2.2.2.2.2.2.2.2.2.2.2.2.2.2.1 (by have:=h.h23;omega)).2.2.2;have e27:=(wU5 h.h24).2;have e28:=(wU5 h.h25).2;have e29:=(wU5 h.h26).2;have e30:=(wU5 h.h27_0).2;have e31:=(wU5 h.h27_1).2;have e32:=(wU5 h.h27_2).2;have e33:=(vG8 (len (nPts N))).2;have o0:=(wU5 h.h0).1;have o1:=(wU5 h.h1).1;have o2:=(wU5 h.h2).1;have o3:=(uF N.2.2.2.1 (by have:=h.h3;omega)).2.1;have o4:=(tC5 N.2.2.2.2.1).1;have o5:=(tC5 N.2.2.2.2.2.1).1;have o6:=(tC5 N.2.2.2.2.2.2.1).1;have o7:=(wU5 h.h7).1;have o8:=(wU5 h.h8).1;have o9:=(tG3 _ h.h9).2.1;have o10:=(wU5 h.h10_0).1;have o11:=(wU5 h.h10_1).1;have o12:=(wU5 h.h10_2).1;have o13:=(wU5 h.h10_3).1;have o14:=(wU5 h.h10_4).1;have o15:=(wU5 h.h10_5).1;have o16:=(wU5 h.h11).1;have o17:=(uT7 _ h.h12).2.1;have o18:=(tN7 h.h13).1;have o19:=(wU5 h.h14).1;have o20:=(tG4 _ h.h15 (by have:=h.l15;omega)).2.1;have o21:=(wU5 h.h16).1;have o22:=(vG8 (len (wU6 N))).1;have o23:=(vG8 (len (wV4 N))).1;have o24:=(wU5 h.h19).1;have o25:=(wU5 h.h20).1;have o26:=(wU5 h.h21).1;have o27:=(wU5 h.h22).1;have o28:=(uF N.2.2.2.2.2.2.2.2.2.2.2.2.2.2.2.2.2.2.2.2.2.2.2.1 (by have:=h.h23;omega)).2.1;have o29:=(wU5 h.h24).1;have o30:=(wU5 h.h25).1;have o31:=(wU5 h.h26).1;have o32:=(wU5 h.h27_0).1;have o33:=(wU5 h.h27_1).1;have o34:=(wU5 h.h27_2).1;have o35:=(vG8 (len (nPts N))).1;have hS:=fun b hb=>sE9 N h.h17 b h.l17 hb;have hG:=fun b hb=>sI7 N h.h18 b h.l18 hb;have hW:=fun b hb=>sI8 N h.h27 b h.l27 hb;have hS1:=fun b hb=>(hS b hb).1;have hG1:=fun b hb=>(hG b hb).1;have hW1:=fun b hb=>(hW b hb).1;have hS2:=fun b hb=>(hS b hb).2;have hG2:=fun b hb=>(hG b hb).2;have hW2:=fun b hb=>(hW b hb).2;clear hS hG hW;constructor
 ·simp (disch:=((try simp only[List.length_append,uP8,uA7])<;>omega)) only[uQ9,f21t,vZ4,vV0,e0,e1,e2,e3,e4,e5,e6,e7,e8,e9,e10,e11,e12,e13,e14,e15,e16,e17,e18,e19,e20,e21,e22,e23,e24,e25,e26,e27,e28,e29,e30,e31,e32,e33,hS2,hG2]
  repeat' (first|assumption|apply And.intro)
  all_goals first
   |assumption
   |((try simp only[List.length_append,uP8,uA7])<;>omega)
   |(apply hS1;(try simp only[List.length_append,uP8,uA7])<;>omega)
   |(apply hG1;(try simp only[List.length_append,uP8,uA7])<;>omega)
   |(apply hW1;(try simp only[List.length_append,uP8,uA7])<;>omega)
 ·simp (disch:=((try simp only[List.length_append,uP8,uA7])<;>omega)) only[f21,f21t,vZ4,vV0,uD4,e0,e1,e2,e3,e4,e5,e6,e7,e8,e9,e10,e11,e12,e13,e14,e15,e16,e17,e18,e19,e20,e21,e22,e23,e24,e25,e26,e27,e28,e29,e30,e31,e32,e33,hS2,hG2,hW2]
  simp only[sJ,List.append_assoc]
end Go.Proofs.YtbiemgjkkhkdeaaGreatDoor.Am
