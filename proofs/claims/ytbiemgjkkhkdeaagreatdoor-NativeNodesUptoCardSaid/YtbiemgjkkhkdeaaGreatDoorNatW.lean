/- A node is read alike. Condition: readers that were made. -/
import Derived.Test.YtbiemgjkkhkdeaaGreatDoorNatV
set_option linter.unusedVariables false
namespace Go.Proofs.YtbiemgjkkhkdeaaGreatDoor.Am
open Go Go.Am Go.Proofs
def sF5 (N:D52):Prop:=len N.2.2.2.2.2.2.2.2.2.1.2.2.1≤65536∧len N.2.2.2.2.2.2.2.2.2.2.2.2.1.2.2.1≤65536∧len N.2.2.2.2.2.2.2.2.2.2.2.2.2.2.2.1≤100000∧len (wU6 N)≤100000∧len (wV4 N)≤100000∧len (nPts N)≤100000
theorem sW3 {q:D60}{N:D52}(a0:wT2 q)(a1:wT2 (intP q))(a2:wT2 (intP (intP q))):vH4 q () N:=by
 show yW6 [_,_,_,_,_,_];exact⟨⟨by decide,by decide⟩,a0,⟨by decide,by decide⟩,a1,⟨by decide,by decide⟩,a2⟩
theorem sW4 {q:D60}{N:D52}(a0:wT2 q)(a1:wT2 (intP q)):vH6 q () N:=by
 show yW6 [_,_,_,_];exact⟨⟨by decide,by decide⟩,a0,⟨by decide,by decide⟩,a1⟩
theorem sW5 {q:D60}{N:D52}(a0:wT2 q)(a1:wT2 (intP q))(a2:wT2 (intP (intP q)))(a3:wT2 (intP (intP (intP q))))(a4:wT2 (intP (intP (intP (intP q)))))(a5:wT2 (intP (intP (intP (intP (intP q))))))(a6:wT2 (intP (intP (intP (intP (intP (intP q))))))):vH7 q () N:=by
 show yW6 [_,_,_,_,_,_,_,_,_,_,_,_,_,_];exact⟨⟨by decide,by decide⟩,a0,⟨by decide,by decide⟩,a1,⟨by decide,by decide⟩,a2,⟨by decide,by decide⟩,a3,⟨by decide,by decide⟩,a4,⟨by decide,by decide⟩,a5,⟨by decide,by decide⟩,a6⟩
theorem sW6 {q:D60}{N:D52}(a0:wT2 q)(a1:wT2 (intP q))(a2:wT2 (intP (intP q)))(a3:wT2 (intP (intP (intP q))))(a4:wT2 (intP (intP (intP (intP q))))):vH8 q () N:=by
 show yW6 [_,_,_,_,_,_,_,_,_,_];exact⟨⟨by decide,by decide⟩,a0,⟨by decide,by decide⟩,a1,⟨by decide,by decide⟩,a2,⟨by decide,by decide⟩,a3,⟨by decide,by decide⟩,a4⟩
theorem sW7 {q:D60}{N:D52}(a0:wT2 q):vH9 q () N:=by
 show yW6 [_,_];exact⟨⟨by decide,by decide⟩,a0⟩
theorem sW8 {q:D60}{N:D52}(a0:wT2 q)(a1:wT2 (intP q))(a2:wT2 (intP (intP q)))(a3:wT2 (intP (intP (intP q)))):vI0 q () N:=by
 show yW6 [_,_,_,_,_,_,_,_];exact⟨⟨by decide,by decide⟩,a0,⟨by decide,by decide⟩,a1,⟨by decide,by decide⟩,a2,⟨by decide,by decide⟩,a3⟩
theorem sV {q:D60}{N:D52}(a0:wT2 q)(a1:wT2 (intP q))(a2:wT2 (intP (intP q)))(a3:wT2 (intP (intP (intP q))))(a4:wT2 (intP (intP (intP (intP q)))))(a5:wT2 (intP (intP (intP (intP (intP q)))))):vD4 q () N:=by
 show yW6 [_,_,_,_,_,_,_,_,_,_,_,_];exact⟨⟨by decide,by decide⟩,a0,⟨by decide,by decide⟩,a1,⟨by decide,by decide⟩,a2,⟨by decide,by decide⟩,a3,⟨by decide,by decide⟩,a4,⟨by decide,by decide⟩,a5⟩
theorem q65 {q:D60}{N:D52}(a0:wW3 q)(a1:wW3 (tQ q))(a2:wW3 (tQ (tQ q))):vH5 q () N:=by
 show yW6 [_,_,_,_,_,_,_,_,_];exact⟨⟨by decide,by decide⟩,a0,fun _=>trivial,⟨by decide,by decide⟩,a1,fun _=>trivial,⟨by decide,by decide⟩,a2,fun _=>trivial⟩
structure Lock (p:D60) (r:D71):Prop where
 a0:wT2 (K0 p)
 b0:wT5 (J0 r)
 e0:wU0 (J0 r)=wT4 (K0 p)
 h1:RR (K1 p) (J1 r)
 a1:wT2 (K1 p)
 b1:wT5 (J1 r)
 e1:wU0 (J1 r)=wT4 (K1 p)
 h2:RR (K2 p) (J2 r)
 a2:wT2 (K2 p)
 b2:wT5 (J2 r)
 e2:wU0 (J2 r)=wT4 (K2 p)
 h3:RR (K3 p) (J3 r)
 a3:wV8 (K3 p) 256
 b3:vB4 (J3 r) 256
 e3:uE0 (J3 r) 256=vH0 (K3 p) 256
 h4:RR (K4 p) (J4 r)
 a4:wW3 (K4 p)
 b4:wX5 (J4 r)
 e4:vV1 (J4 r)=(wV2 (K4 p)==1)
 h5:RR (K5 p) (J5 r)
 a5:wW3 (K5 p)
 b5:wX5 (J5 r)
 e5:vV1 (J5 r)=(wV2 (K5 p)==1)
 h6:RR (K6 p) (J6 r)
 a6:wW3 (K6 p)
 b6:wX5 (J6 r)
 e6:vV1 (J6 r)=(wV2 (K6 p)==1)
 h7:RR (K7 p) (J7 r)
 a7:wT2 (K7 p)
 b7:wT5 (J7 r)
 e7:wU0 (J7 r)=wT4 (K7 p)
 h8:RR (K8 p) (J8 r)
 a8:wT2 (K8 p)
 b8:wT5 (J8 r)
 e8:wU0 (J8 r)=wT4 (K8 p)
 h9:RR (K9 p) (J9 r)
 a9:vD (K9 p)
 b9:vG1 (J9 r)
 e9:uY9 (J9 r)=vP0 (K9 p)
 h10:RR (K10 p) (J10 r)
 lm:len (vP0 (K9 p)).2.2.1≤65536
 a10:wT2 (K10 p)
 b10:wT5 (J10 r)
 e10:wU0 (J10 r)=wT4 (K10 p)
 h11:RR (K11 p) (J11 r)
 a11:wT2 (K11 p)
 b11:wT5 (J11 r)
 e11:wU0 (J11 r)=wT4 (K11 p)
 h12:RR (K12 p) (J12 r)
 a12:wT2 (K12 p)
 b12:wT5 (J12 r)
 e12:wU0 (J12 r)=wT4 (K12 p)
 h13:RR (K13 p) (J13 r)
 a13:wT2 (K13 p)
 b13:wT5 (J13 r)
 e13:wU0 (J13 r)=wT4 (K13 p)
 h14:RR (K14 p) (J14 r)
 a14:wT2 (K14 p)
 b14:wT5 (J14 r)
 e14:wU0 (J14 r)=wT4 (K14 p)
 h15:RR (K15 p) (J15 r)
 a15:wT2 (K15 p)
 b15:wT5 (J15 r)
 e15:wU0 (J15 r)=wT4 (K15 p)
 h16:RR (K16 p) (J16 r)
 a16:wT2 (K16 p)
 b16:wT5 (J16 r)
 e16:wU0 (J16 r)=wT4 (K16 p)
 h17:RR (K17 p) (J17 r)
 a17:vC9 (K17 p)
 b17:vG0 (J17 r)
 e17:uY8 (J17 r)=vT1 (K17 p)
 h18:RR (K18 p) (J18 r)
 lg:len (vT1 (K17 p)).2.2.1≤65536
 c0:wT2 (K18 p)
 c1:wT2 (K19 p)
 c2:wT2 (K20 p)
 c3:wT2 (K21 p)
 b18:vL1 (J18 r)
 e18:uN2 (J18 r)=(wT4 (K18 p),wT4 (K19 p),wT4 (K20 p),wT4 (K21 p),())
 h19:RR (K22 p) (J19 r)
 a19:wT2 (K22 p)
 b19:wT5 (J19 r)
 e19:wU0 (J19 r)=wT4 (K22 p)
 h20:RR (K23 p) (J20 r)
 a20:vD2 (K23 p) 16
 b20:vP7 (J20 r) 16
 e20:uR8 (J20 r) 16=vQ1 (K23 p) 16
 h21:RR (K24 p) (J21 r)
 ll:(vQ1 (K23 p) 16).length≤100000
 a21:wT2 (K24 p)
 b21:wT5 (J21 r)
 e21:wU0 (J21 r)=wT4 (K24 p)
 h22:RR (K25 p) (J22 r)
 a22:vB2 (K25 p) (n1 p)
 bs:vI2 (J22 r)
 bq:vI3 (J23 r)
 es:m23 p=vL4 (wZ7 (n1 p) (uB (J22 r))) (uB0 (J23 r))
 h23:RR (K26 p) (J24 r)
 ls1:(uB (J22 r)).length≤16
 ls2:(uB0 (J23 r)).length≤128
 a23:wT2 (K26 p)
 b23:wT5 (J24 r)
 e23:wU0 (J24 r)=wT4 (K26 p)
 h24:RR (K27 p) (J25 r)
 a24:wT2 (K27 p)
 b24:wT5 (J25 r)
 e24:wU0 (J25 r)=wT4 (K27 p)
 h25:RR (K28 p) (J26 r)
 a25:wT2 (K28 p)
 b25:wT5 (J26 r)
 e25:wU0 (J26 r)=wT4 (K28 p)
 h26:RR (K29 p) (J27 r)
 a26:wT2 (K29 p)
 b26:wT5 (J27 r)
 e26:wU0 (J27 r)=wT4 (K29 p)
 h27:RR (K30 p) (J28 r)
 a27:wV8 (K30 p) 256
 b27:vB4 (J28 r) 256
 e27:uE0 (J28 r) 256=vH0 (K30 p) 256
 h28:RR (K31 p) (J29 r)
 a28:wT2 (K31 p)
 b28:wT5 (J29 r)
 e28:wU0 (J29 r)=wT4 (K31 p)
 h29:RR (K32 p) (J30 r)
 a29:wT2 (K32 p)
 b29:wT5 (J30 r)
 e29:wU0 (J30 r)=wT4 (K32 p)
 h30:RR (K33 p) (J31 r)
 a30:wT2 (K33 p)
 b30:wT5 (J31 r)
 e30:wU0 (J31 r)=wT4 (K33 p)
 h31:RR (K34 p) (J32 r)
 a31:wT2 (K34 p)
 b31:wT5 (J32 r)
 e31:wU0 (J32 r)=wT4 (K34 p)
 h32:RR (K35 p) (J33 r)
 a32:wT2 (K35 p)
 b32:wT5 (J33 r)
 e32:wU0 (J33 r)=wT4 (K35 p)
 h33:RR (K36 p) (J34 r)
 a33:wT2 (K36 p)
 b33:wT5 (J34 r)
 e33:wU0 (J34 r)=wT4 (K36 p)
 h34:RR (K37 p) (J35 r)
theorem lock {p:D60}{r:D71}(h:RR p r):Lock p r:=by
 have h0:RR (K0 p) (J0 r):=h;obtain⟨a0,b0,e0,h1⟩:wT2 (K0 p)∧wT5 (J0 r)∧wU0 (J0 r)=wT4 (K0 p)∧RR (K1 p) (J1 r):=wX6 h0;obtain⟨a1,b1,e1,h2⟩:wT2 (K1 p)∧wT5 (J1 r)∧wU0 (J1 r)=wT4 (K1 p)∧RR (K2 p) (J2 r):=wX6 h1;obtain⟨a2,b2,e2,h3⟩:wT2 (K2 p)∧wT5 (J2 r)∧wU0 (J2 r)=wT4 (K2 p)∧RR (K3 p) (J3 r):=wX6 h2;obtain⟨a3,b3,e3,h4⟩:wV8 (K3 p) 256∧vB4 (J3 r) 256∧uE0 (J3 r) 256=vH0 (K3 p) 256∧RR (K4 p) (J4 r):=sF h3 256 (by decide);obtain⟨a4,b4,e4,h5⟩:wW3 (K4 p)∧wX5 (J4 r)∧vV1 (J4 r)=(wV2 (K4 p)==1)∧RR (K5 p) (J5 r):=tQ0 h4;obtain⟨a5,b5,e5,h6⟩:wW3 (K5 p)∧wX5 (J5 r)∧vV1 (J5 r)=(wV2 (K5 p)==1)∧RR (K6 p) (J6 r):=tQ0 h5;obtain⟨a6,b6,e6,h7⟩:wW3 (K6 p)∧wX5 (J6 r)∧vV1 (J6 r)=(wV2 (K6 p)==1)∧RR (K7 p) (J7 r):=tQ0 h6;obtain⟨a7,b7,e7,h8⟩:wT2 (K7 p)∧wT5 (J7 r)∧wU0 (J7 r)=wT4 (K7 p)∧RR (K8 p) (J8 r):=wX6 h7;obtain⟨a8,b8,e8,h9⟩:wT2 (K8 p)∧wT5 (J8 r)∧wU0 (J8 r)=wT4 (K8 p)∧RR (K9 p) (J9 r):=wX6 h8;obtain⟨a9,b9,e9,h10,lm⟩:vD (K9 p)∧vG1 (J9 r)∧uY9 (J9 r)=vP0 (K9 p)∧RR (K10 p) (J10 r)∧len (vP0 (K9 p)).2.2.1≤65536:=sI2 h9;obtain⟨a10,b10,e10,h11⟩:wT2 (K10 p)∧wT5 (J10 r)∧wU0 (J10 r)=wT4 (K10 p)∧RR (K11 p) (J11 r):=wX6 h10;obtain⟨a11,b11,e11,h12⟩:wT2 (K11 p)∧wT5 (J11 r)∧wU0 (J11 r)=wT4 (K11 p)∧RR (K12 p) (J12 r):=wX6 h11;obtain⟨a12,b12,e12,h13⟩:wT2 (K12 p)∧wT5 (J12 r)∧wU0 (J12 r)=wT4 (K12 p)∧RR (K13 p) (J13 r):=wX6 h12;obtain⟨a13,b13,e13,h14⟩:wT2 (K13 p)∧wT5 (J13 r)∧wU0 (J13 r)=wT4 (K13 p)∧RR (K14 p) (J14 r):=wX6 h13;obtain⟨a14,b14,e14,h15⟩:wT2 (K14 p)∧wT5 (J14 r)∧wU0 (J14 r)=wT4 (K14 p)∧RR (K15 p) (J15 r):=wX6 h14;obtain⟨a15,b15,e15,h16⟩:wT2 (K15 p)∧wT5 (J15 r)∧wU0 (J15 r)=wT4 (K15 p)∧RR (K16 p) (J16 r):=wX6 h15;obtain⟨a16,b16,e16,h17⟩:wT2 (K16 p)∧wT5 (J16 r)∧wU0 (J16 r)=wT4 (K16 p)∧RR (K17 p) (J17 r):=wX6 h16;obtain⟨a17,b17,e17,h18,lg⟩:vC9 (K17 p)∧vG0 (J17 r)∧uY8 (J17 r)=vT1 (K17 p)∧RR (K18 p) (J18 r)∧len (vT1 (K17 p)).2.2.1≤65536:=sH9 h17;obtain⟨⟨c0,c1,c2,c3⟩,b18,e18,h19⟩:(wT2 (K18 p)∧wT2 (K19 p)∧wT2 (K20 p)∧wT2 (K21 p))∧vL1 (J18 r)∧uN2 (J18 r)=(wT4 (K18 p),wT4 (K19 p),wT4 (K20 p),wT4 (K21 p),())∧RR (K22 p) (J19 r):=sL4 h18;obtain⟨a19,b19,e19,h20⟩:wT2 (K22 p)∧wT5 (J19 r)∧wU0 (J19 r)=wT4 (K22 p)∧RR (K23 p) (J20 r):=wX6 h19;obtain⟨a20,b20,e20,h21,ll⟩:vD2 (K23 p) 16∧vP7 (J20 r) 16∧uR8 (J20 r) 16=vQ1 (K23 p) 16∧RR (K24 p) (J21 r)∧(vQ1 (K23 p) 16).length≤100000:=sP4 h20 16 (by decide);obtain⟨a21,b21,e21,h22⟩:wT2 (K24 p)∧wT5 (J21 r)∧wU0 (J21 r)=wT4 (K24 p)∧RR (K25 p) (J22 r):=wX6 h21;obtain⟨a22,bs,bq,es,h23,ls1,ls2⟩:vB2 (K25 p) (n1 p)∧vI2 (J22 r)∧vI3 (J23 r)∧m23 p=vL4 (wZ7 (n1 p) (uB (J22 r))) (uB0 (J23 r))∧RR (K26 p) (J24 r)∧(uB (J22 r)).length≤16∧(uB0 (J23 r)).length≤128:=sF2 h22 (n1 p) rfl rfl;obtain⟨a23,b23,e23,h24⟩:wT2 (K26 p)∧wT5 (J24 r)∧wU0 (J24 r)=wT4 (K26 p)∧RR (K27 p) (J25 r):=wX6 h23;obtain⟨a24,b24,e24,h25⟩:wT2 (K27 p)∧wT5 (J25 r)∧wU0 (J25 r)=wT4 (K27 p)∧RR (K28 p) (J26 r):=wX6 h24;obtain⟨a25,b25,e25,h26⟩:wT2 (K28 p)∧wT5 (J26 r)∧wU0 (J26 r)=wT4 (K28 p)∧RR (K29 p) (J27 r):=wX6 h25;obtain⟨a26,b26,e26,h27⟩:wT2 (K29 p)∧wT5 (J27 r)∧wU0 (J27 r)=wT4 (K29 p)∧RR (K30 p) (J28 r):=wX6 h26;obtain⟨a27,b27,e27,h28⟩:wV8 (K30 p) 256∧vB4 (J28 r) 256∧uE0 (J28 r) 256=vH0 (K30 p) 256∧RR (K31 p) (J29 r):=sF h27 256 (by decide);obtain⟨a28,b28,e28,h29⟩:wT2 (K31 p)∧wT5 (J29 r)∧wU0 (J29 r)=wT4 (K31 p)∧RR (K32 p) (J30 r):=wX6 h28;obtain⟨a29,b29,e29,h30⟩:wT2 (K32 p)∧wT5 (J30 r)∧wU0 (J30 r)=wT4 (K32 p)∧RR (K33 p) (J31 r):=wX6 h29;obtain⟨a30,b30,e30,h31⟩:wT2 (K33 p)∧wT5 (J31 r)∧wU0 (J31 r)=wT4 (K33 p)∧RR (K34 p) (J32 r):=wX6 h30;obtain⟨a31,b31,e31,h32⟩:wT2 (K34 p)∧wT5 (J32 r)∧wU0 (J32 r)=wT4 (K34 p)∧RR (K35 p) (J33 r):=wX6 h31;obtain⟨a32,b32,e32,h33⟩:wT2 (K35 p)∧wT5 (J33 r)∧wU0 (J33 r)=wT4 (K35 p)∧RR (K36 p) (J34 r):=wX6 h32;obtain⟨a33,b33,e33,h34⟩:wT2 (K36 p)∧wT5 (J34 r)∧wU0 (J34 r)=wT4 (K36 p)∧RR (K37 p) (J35 r):=wX6 h33;exact { a0:=a0,b0:=b0,e0:=e0,h1:=h1,a1:=a1,b1:=b1,e1:=e1,h2:=h2,a2:=a2,b2:=b2,e2:=e2,h3:=h3,a3:=a3,b3:=b3,e3:=e3,h4:=h4,a4:=a4,b4:=b4,e4:=e4,h5:=h5,a5:=a5,b5:=b5,e5:=e5,h6:=h6,a6:=a6,b6:=b6,e6:=e6,h7:=h7,a7:=a7,b7:=b7,e7:=e7,h8:=h8,a8:=a8,b8:=b8,e8:=e8,h9:=h9,a9:=a9,b9:=b9,e9:=e9,h10:=h10,lm:=lm,a10:=a10,b10:=b10,e10:=e10,h11:=h11,a11:=a11,b11:=b11,e11:=e11,h12:=h12,a12:=a12,b12:=b12,e12:=e12,h13:=h13,a13:=a13,b13:=b13,e13:=e13,h14:=h14,a14:=a14,b14:=b14,e14:=e14,h15:=h15,a15:=a15,b15:=b15,e15:=e15,h16:=h16,a16:=a16,b16:=b16,e16:=e16,h17:=h17,a17:=a17,b17:=b17,e17:=e17,h18:=h18,lg:=lg,c0:=c0,c1:=c1,c2:=c2,c3:=c3,b18:=b18,e18:=e18,h19:=h19,a19:=a19,b19:=b19,e19:=e19,h20:=h20,a20:=a20,b20:=b20,e20:=e20,h21:=h21,ll:=ll,a21:=a21,b21:=b21,e21:=e21,h22:=h22,a22:=a22,bs:=bs,bq:=bq,es:=es,h23:=h23,ls1:=ls1,ls2:=ls2,a23:=a23,b23:=b23,e23:=e23,h24:=h24,a24:=a24,b24:=b24,e24:=e24,h25:=h25,a25:=a25,b25:=b25,e25:=e25,h26:=h26,a26:=a26,b26:=b26,e26:=e26,h27:=h27,a27:=a27,b27:=b27,e27:=e27,h28:=h28,a28:=a28,b28:=b28,e28:=e28,h29:=h29,a29:=a29,b29:=b29,e29:=e29,h30:=h30,a30:=a30,b30:=b30,e30:=e30,h31:=h31,a31:=a31,b31:=b31,e31:=e31,h32:=h32,a32:=a32,b32:=b32,e32:=e32,h33:=h33,a33:=a33,b33:=b33,e33:=e33,h34:=h34 }
theorem sW9 {p:D60}{r:D71}(L:Lock p r):n2 p=n2R r:=by
 simp only[n2,L.es,n2g,n2R,L.e0,L.e1,L.e2,L.e3,L.e4,L.e5,L.e6,L.e7,L.e8,L.e9,L.e10,L.e11,L.e12,L.e13,L.e14,L.e15,L.e16,L.e17,L.e18,L.e19,L.e20,L.e21,L.e23,L.e24,L.e25,L.e26,L.e27,L.e28,L.e29,L.e30,L.e31,L.e32,L.e33];kernel_rfl
theorem n2_9 {p:D60}{r:D71}(L:Lock p r):(n2 p).2.2.2.2.2.2.2.2.2.1=vP0 (K9 p):=by simp only[n2,L.es];kernel_rfl
theorem sX {p:D60}{r:D71}(L:Lock p r):(n2 p).2.2.2.2.2.2.2.2.2.2.2.2.1=vT1 (K17 p):=by simp only[n2,L.es];kernel_rfl
theorem sX0 {p:D60}{r:D71}(L:Lock p r):(n2 p).2.2.2.2.2.2.2.2.2.2.2.2.2.2.2.1=vQ1 (K23 p) 16:=by simp only[n2,L.es];kernel_rfl
theorem sX1 {p:D60}{r:D71}(L:Lock p r):wU6 (n2 p)=uB (J22 r):=by simp only[n2,L.es];kernel_rfl
theorem sX2 {p:D60}{r:D71}(L:Lock p r):wV4 (n2 p)=uB0 (J23 r):=by simp only[n2,L.es];kernel_rfl
theorem sX3 {p:D60}{r:D71}(L:Lock p r):nPts (n2 p)=[]:=by simp only[n2,L.es];kernel_rfl
theorem askP {p:D60}{r:D71}(L:Lock p r)(k1:wV (K37 p) 64)(eE:xQ5 (wW7 (zN,wT6 (K37 p) 64,())) (wV0 (zN,wT6 (K37 p) 64,())) (wX7 (zN,wT6 (K37 p) 64,())) ((wT3 (K37 p) 64).1,n2 p,0,())):vX2 p:=by
 rw[sF3];exact⟨sW3 L.a0 L.a1 L.a2,L.a3,q65 L.a4 L.a5 L.a6,sW4 L.a7 L.a8,L.a9,sW5 L.a10 L.a11 L.a12 L.a13 L.a14 L.a15 L.a16,L.a17,sW6 L.c0 L.c1 L.c2 L.c3 L.a19,L.a20,sW7 L.a21,L.a22,sW8 L.a23 L.a24 L.a25 L.a26,L.a27,sV L.a28 L.a29 L.a30 L.a31 L.a32 L.a33,k1,eE,trivial⟩
theorem askR {p:D60}{r:D71}(L:Lock p r)(k2:wV1 (J35 r) 64)(eF:xQ5 (vG7 (wU7 (J35 r) 64,())) (wX3 (wU7 (J35 r) 64,())) (vL2 (wU7 (J35 r) 64,())) ((wT7 (J35 r) 64).1,zN,n2R r,0,())):vX5 r:=by
 rw[sF4];exact⟨L.b0,L.b1,L.b2,L.b3,L.b4,L.b5,L.b6,L.b7,L.b8,L.b9,L.b10,L.b11,L.b12,L.b13,L.b14,L.b15,L.b16,L.b17,L.b18,L.b19,L.b20,L.b21,L.bs,L.bq,L.b23,L.b24,L.b25,L.b26,L.b27,L.b28,L.b29,L.b30,L.b31,L.b32,L.b33,k2,eF,trivial⟩
theorem sF6 (b:Bool)(N:D52)(ls:List D106)(h1:len N.2.2.2.2.2.2.2.2.2.1.2.2.1≤65536)(h2:len N.2.2.2.2.2.2.2.2.2.2.2.2.1.2.2.1≤65536)(h3:len N.2.2.2.2.2.2.2.2.2.2.2.2.2.2.2.1≤100000)(h4:len (wU6 N)≤100000)(h5:len (wV4 N)≤100000)(h6:len (nPts N++ls)≤100000):sF5 (finT b (vQ0 N ls)):=by
 cases b with
 |true =>
  have z1:len ([]:List Int)≤65536:=by decide
  have z2:len ([]:List D45)≤65536:=by decide
  have z3:len ([]:List Int)≤100000:=by decide
  have z4:len ([]:List D111)≤100000:=by decide
  have z5:len ([]:List D114)≤100000:=by decide
  have z6:len ([]:List D106)≤100000:=by decide
  exact⟨z1,z2,z3,z4,z5,z6⟩
 |false=>exact⟨h1,h2,h3,h4,h5,h6⟩
theorem sJ6 {p:D60}{r:D71}(h:RR p r):vX2 p∧vX5 r∧tC1 r=uY4 p∧RR (uG1 p).1 (uG8 r).1∧sF5 (uY4 p):=by
 have L:=lock h;obtain⟨k1,k2,k3,k4,k5,_⟩:=vH L.h34 64 (by decide);have hN:=sW9 L;have s27:=sX3 L;obtain⟨n,hn⟩:∃ n:Nat,wT6 (K37 p) 64=(n:Int):=⟨(wT6 (K37 p) 64).toNat,by omega⟩;obtain⟨p',r',ls,u1,u2,u3,u4⟩:=sJ0 zN zN n (by omega) n 0 _ _ (n2 p) k4 (by omega) (by rw[s27];simp);have fP:=u1.fix (by omega);have fR:=u2.fix (by omega);have eE:=u1.ends (by omega);have eF:=u2.ends (by omega);rw[← hn] at fP eE;rw[← hn,← k3,hN] at fR eF;have q1:=askP L k1 eE;have q2:=askR L k2 eF;have E1:eT p=(p',vQ0 (n2 p) ls,wT6 (K37 p) 64,()):=fP;have E2:eR r=(r',zN,vQ0 (n2R r) ls,wU7 (J35 r) 64,()):=fR;obtain⟨w1,w2⟩:=vX7 u3;have v1:uY4 p=finT (p'.2.2.2.1 !=0) (vQ0 (n2 p) ls):=by rw[sJ2,E1];simp only;rw[w1]
 have v2:tC1 r=finT (p'.2.2.2.1 !=0) (vQ0 (n2R r) ls):=by rw[sJ4,E2];simp only;rw[w2]
 have o1:uG1 p=(p',()):=by rw[sJ3,E1];simp only;cases (wW0 p' !=0)<;>rfl
 have o2:uG8 r=(r',()):=by rw[sJ5,E2];simp only;cases (wZ1 r' !=0)<;>rfl
 have l9:=n2_9 L;have l12:=sX L;have l15:=sX0 L;have l17:=sX1 L;have l18:=sX2 L;have g1:=L.lm;have g2:=L.lg;have g3:=L.ll;have g4:=L.ls1;have g5:=L.ls2;refine⟨q1,q2,by rw[v1,v2,hN],by rw[o1,o2];exact u3,?_⟩;rw[v1];refine sF6 _ _ _ (by rw[l9];exact g1) (by rw[l12];exact g2) (by rw[l15];simp only[len];omega) (by rw[l17];simp only[len];omega) (by rw[l18];simp only[len];omega) (by rw[s27];simp only[len,List.nil_append];omega)
end Go.Proofs.YtbiemgjkkhkdeaaGreatDoor.Am
