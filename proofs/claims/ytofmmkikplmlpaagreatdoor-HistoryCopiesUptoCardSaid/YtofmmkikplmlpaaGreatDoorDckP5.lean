/- Printed by program, part 4. No condition. -/
import Derived.Test.YtofmmkikplmlpaaGreatDoorDckP4
import Derived.Test.YtofmmkikplmlpaaGreatDoorMach4
set_option linter.unusedVariables false
set_option synthInstance.maxSize 4000
set_option synthInstance.maxHeartbeats 400000
namespace Go.Proofs.YtofmmkikplmlpaaGreatDoor.Am
open Go Go.Am Go.Proofs
def tB1:Prop:=True
def f8:Bool:=true
noncomputable def kd {n:Nat}{ps:List (Nat×Sh)}{rs:Sh}{os:List (Nat×Sh)}{ok:zB2 ps→Prop}[DecidablePred ok]{F:zB2 ps→rs.den}{o:zB2 ps→zX2 os}(h:SpecOk Tryz.prog n (fnSpec ps rs os ok F o)):Fb Tryz.prog:=⟨n,xU4 ps rs os ok F o,wJ7 h⟩
noncomputable def pT2:List (Fb Tryz.prog):=[kd rH5,kd tB0,kd tX7,kd sW1,kd tX8,kd tX9,kd rH6,kd tZ3,kd qQ1,kd tY,kd rZ,kd rW8,kd qP9,kd pT1,kd sU3]
noncomputable def qQ2:Ctx:={ Cx tys (Fb.l pT2) [] [(3,[(4,0,13,90405600)]),(8,[(8,1,0,0),(7,900056,0,0)]),(33,[(4,0,143,1008)]),(35,[(4,0,148,1009)])] false 203 [] [] with wants:=[(11,[]),(12,[]),(14,[]),(15,[]),(17,[]),(20,[]),(25,[]),(27,[])],closed:=true }
theorem pT3:CtxOk Tryz.prog qQ2:=wI tO2 (by kernel_rfl) (Fb.all pT2) rfl (by kernel_rfl) rfl
def pW2:List (Nat×List Nat):=[(0,[]),(1,[1,2]),(2,[1,21]),(3,[0]),(4,[1,2,3]),(5,[1,2,3,4,5]),(6,[1,47]),(7,[0]),(8,[1,75]),(9,[0]),(10,[1,2,6]),(11,[1,2,5,6,7]),(12,[1,110]),(13,[0]),(14,[1,140]),(15,[0]),(16,[1,2,8]),(17,[1,2,5,8,9]),(18,[1,175]),(19,[0]),(20,[1,2,10]),(21,[1,2,5,10]),(22,[0])]
def sN:Am.Spec:=fnSpec [] vB [] (fun x=>tB1 ) (fun x=>f8 ) (fun _=>())
theorem pT4:wJ6 qQ2 pW2 Tryz.f8 vB=some ([(false=false),(true=true)],f8):=by kernel_rfl
theorem qI0:SK 8 (fnSpec [] vB [] (fun x=>tB1 ) (fun x=>f8 ) (fun _=>())):=wG6 pT3 mixed Tryz.func8 (by kernel_rfl) pT4 ⟨rfl,rfl⟩
def f3t (p0:D28)(p1:List D50)(p2:D28):Prop×Bool:=
 let v15:=(f7 p0 p1)
 let v15o:=(f7_o p0 p1)
 let v23:=(bif (!f8) then true else (v15.2.1 !=0))
 let s:=(v15o.1.2.1,v15o.1.2.2.1,v15o.1.2.2.2.1,v15o.1.2.2.2.2.1,())
 let v34:=(f10 s)
 let s_2:=(v15o.1.2.1,v15o.1.2.2.1,v15o.1.2.2.2.1,v15o.1.2.2.2.2.1,())
 let v36:=(wO6 s_2)
 let v36o:=(vF s_2)
 let s_4:=(v36o.1.1,v36o.1.2.1,v36o.1.2.2.1,v36o.1.2.2.2.1,())
 let v40:=(vB2 s_4 ([110,101,120,116]:List UInt8) p2)
 let v40o:=(wW7 s_4 ([110,101,120,116]:List UInt8) p2)
 let v44:=(v40.2.1 !=0)
 let v46:=(v40.1==0)
 let s_5:=(v40o.1.1,v40o.1.2.1,v40o.1.2.2.1,v40o.1.2.2.2.1,())
 let v52:=(bif v46 then ((f10 s_5)==v34) else false)
 let s_7:=(v40o.1.1,v40o.1.2.1,v40o.1.2.2.1,v40o.1.2.2.2.1,())
 let v55:=(wO6 s_7)
 let v58:=(bif v52 then (f13 v55 v36) else false)
 let v75:=(decide (v40.1≤v34))
 let s_8:=(v40o.1.1,v40o.1.2.1,v40o.1.2.2.1,v40o.1.2.2.2.1,())
 let v81:=(bif v75 then true else ((f10 s_8)!=v40.1))
 let g82_1:=(!v81)
 let s_10:=(v40o.1.1,v40o.1.2.1,v40o.1.2.2.1,v40o.1.2.2.2.1,())
 let v84:=(wO6 s_10)
 let v84o:=(vF s_10)
 let g900064_4:=(bif g82_1 then v84o.1.1 else v40o.1.1)
 let g900064_5:=(bif g82_1 then v84o.1.2.1 else v40o.1.2.1)
 let g900064_6:=(bif g82_1 then v84o.1.2.2.1 else v40o.1.2.2.1)
 let g900064_7:=(bif g82_1 then v84o.1.2.2.2.1 else v40o.1.2.2.2.1)
 let v88:=(bif v81 then true else (!(f13 v84 p2)))
 let g89_1:=(!v88)
 let s_12:=(g900064_4,g900064_5,g900064_6,g900064_7,())
 let v91o:=(wX6 s_12)
 let g900064_8:=(bif g89_1 then v91o.1.1 else g900064_4)
 let g900064_9:=(bif g89_1 then v91o.1.2.1 else g900064_5)
 let g900064_10:=(bif g89_1 then v91o.1.2.2.1 else g900064_6)
 let g900064_11:=(bif g89_1 then v91o.1.2.2.2.1 else g900064_7)
 let v93:=(bif v88 then true else ((uP3 s_12)!=0))
 let s_13:=(g900064_8,g900064_9,g900064_10,g900064_11,())
 let v99:=(bif v93 then true else ((f10 s_13)!=v34))
 let g100_1:=(!v99)
 let s_15:=(g900064_8,g900064_9,g900064_10,g900064_11,())
 let v102:=(wO6 s_15)
 let v102o:=(vF s_15)
 let v106:=(bif v99 then true else (!(f13 v102 v36)))
 let s_17:=((bif g100_1 then v102o.1.1 else g900064_8),(bif g100_1 then v102o.1.2.1 else g900064_9),(bif g100_1 then v102o.1.2.2.1 else g900064_10),(bif g100_1 then v102o.1.2.2.2.1 else g900064_11),())
 let v108o:=(wX7 s_17)
 let v109:=((uP4 s_17)==0)
 let s_18:=(v108o.1.1,v108o.1.2.1,v108o.1.2.2.1,v108o.1.2.2.2.1,())
 let v115:=(bif v109 then ((f10 s_18)==v40.1) else false)
 let s_20:=(v108o.1.1,v108o.1.2.1,v108o.1.2.2.1,v108o.1.2.2.2.1,())
 let v118:=(wO6 s_20)
 let m6_1:=(bif v44 then (bif v58 then (bif (bif ((f9 p2)==v40.2.1) then true else (v40.2.1==22)) then true else (v40.2.1==3)) else false) else (bif v106 then false else (bif v115 then (f13 v118 p2) else false)))
 (((sM4 p0 p1)∧(tB1∧((v23=true→(tB1∧(f8=true→(sC6 p0))))∧((!v23)=true→((!v15.1)=true→(v15.1=false∧(v15o.1.1=true∧((vG9 s)∧((wN6 s_2)∧((vP1 s_4 ([110,101,120,116]:List UInt8) p2)∧((v44=true→((v46=true→(vG9 s_5))∧((v52=true→(wN6 s_7))∧((v52=true→(vS5 v55 v36))∧(v58=true→(sC6 p2))))))∧((!v44)=true→(((!v75)=true→(vG9 s_8))∧((g82_1=true→(wN6 s_10))∧(((!v81)=true→(vS5 v84 p2))∧((g89_1=true→(vP2 s_12))∧(((!v93)=true→(vG9 s_13))∧((g100_1=true→(wN6 s_15))∧(((!v99)=true→(vS5 v102 v36))∧((!v106)=true→((vP4 s_17)∧((v109=true→(vG9 s_18))∧((v115=true→(wN6 s_20))∧(v115=true→(vS5 v118 p2))))))))))))))))))))))))),(bif v23 then (bif f8 then ((f9 p0)==v15.2.1) else false) else (bif v15.1 then false else m6_1)))
def f3_ok p0 p1 p2:=(f3t p0 p1 p2).1
def f3 p0 p1 p2:=(f3t p0 p1 p2).2
def pI2:=sp3 (.val T28) (.val (.sl T50)) (.val T28) vB f3_ok f3
def pT5:Ctx:={ Cx tys [(7,sM5),(8,sN),(9,pE2),(10,sM6),(11,uS),(12,rE4),(13,sM7),(14,rE5),(15,rE6)] [] [(3,[(4,0,15,90406400)]),(12,[(8,7,0,0),(7,900064,0,0)])] false 122 [] [] with wants:=[(7,[]),(11,[]),(12,[]),(14,[]),(15,[])] }
theorem f3_is:SK 3 pI2:=fq (c:=pT5) Tryz.func3 ⟨qH9,qI0,pE3,rH5,tB0,tX7,sW1,tX8,tX9,trivial⟩
abbrev vU3:Type:=((List D50)×Unit×(List Int)×Int×Unit)
abbrev vB5:Type:=((List D50)×Int×Int×((List D73)×Int×Int×Int×Unit)×Unit)
def sW3 (y:vU3)(x:vB5):Prop×Bool×vB5×Bool×Bool:=
 let a40:=y.2.2.1
 let a9:=x.1
 let a42:=x.2.2.1
 let a910007:=x.2.2.2.1
 let v43:=(decide (a42<y.2.2.2.1))
 let v44:=(nth a40 a42 (0:Int))
 let s_1:=(a910007.1,a910007.2.1,a910007.2.2.1,a910007.2.2.2.1,())
 let v49:=(wM0 s_1 v44)
 let v49o:=(wM5 s_1 v44)
 let v53:=(v49.2.1 !=0)
 let v56:=([v49.1]:List D50)
 ((v43=true→(InB a42 (len a40)∧((wP8 s_1 v44)∧(((!v53)=true→((List.length a9+List.length v56:Nat):Int)≤4294967296)∧((!v53)=true→InR (a42+1)))))),(v43&&(!v53)),((a9++v56),(wI5 x.2.1 v44),(a42+1),(v49o.1.1,v49o.1.2.1,v49o.1.2.2.1,v49o.1.2.2.2.1,()),()),(v43&&v53),(!v43))
def tN0 y x:=(sW3 y x).1
def uJ8 y x:=(sW3 y x).2.1
def wZ1 y x:=(sW3 y x).2.2.1
def sN0 y x:=(sW3 y x).2.2.2.1
def rH8 y x:=(sW3 y x).2.2.2.2
def sI5 (y:vU3)(x:vB5):Bool:=
 false
def tG1 (y:vU3)(x:vB5):(List D50):=
 x.1
def tG2 (y:vU3)(x:vB5):Int:=
 x.2.1
def tG3 (y:vU3)(x:vB5):((List D73)×Int×Int×Int×Unit):=
 let a910007:=x.2.2.2.1
 (a910007.1,a910007.2.1,a910007.2.2.1,a910007.2.2.2.1,())
def rH9:List (Nat×Sh):=[(2,(.val (.sl T50))),(7,(.ref 910007 T70)),(9,(.own T50 1009 false)),(10,vI),(910007,(.box T70 (.agg (.cons (.sl T73) (.cons (.int .i64) (.cons (.int .i64) (.cons (.int .i64) .nl)))) (.cons (.own T73 91400700 true) (.cons vI (.cons vI (.cons vI .nl)))))))]
def sI6:St→Option Out:=xT8 [(2,(.val (.sl T50))),(7,(.ref 910007 T70)),(40,(.own (.int .i64) 40 false)),(41,vI)] [(9,(.own T50 1009 false)),(10,vI),(42,vI),(910007,(.box T70 (.agg (.cons (.sl T73) (.cons (.int .i64) (.cons (.int .i64) (.cons (.int .i64) .nl)))) (.cons (.own T73 91400700 true) (.cons vI (.cons vI (.cons vI .nl)))))))] uJ8 wZ1 tN0 fun y x=>[ex 1 (some (sN0 y x)) [(6,vB)] ((sI5 y x),()),ex 2 (some (rH8 y x)) rH9 (y.1,y.2.1,(tG1 y x),(tG2 y x),(tG3 y x),())]
abbrev vJ7:Type:=((List D50)×Int×(List D50)×Int×Unit)
abbrev vB6:Type:=(Bool×Int×(Bool×((List D73)×Int×Int×Int×Unit))×Unit)
def tZ5 (y:vJ7)(x:vB6):Prop×Bool×vB6×Bool×Bool:=
 let a62:=y.2.2.1
 let a64:=x.2.1
 let a910007:=x.2.2.1
 let v65:=(decide (a64<y.2.2.2.1))
 let v66:=(nth a62 a64 Z50)
 let s_1:=(a910007.2.1,a910007.2.2.1,a910007.2.2.2.1,a910007.2.2.2.2.1,())
 let v71:=(vG8 s_1 v66)
 let v71o:=(wR4 s_1 v66)
 ((v65=true→(InB a64 (len a62)∧(x.1=false∧(a910007.1=true∧((wX3 s_1 v66)∧((!v71.1)=true→InR (a64+1))))))),(v65&&(!v71.1)),(v71.1,(a64+1),(v71o.1.1,(v71o.1.2.1,v71o.1.2.2.1,v71o.1.2.2.2.1,v71o.1.2.2.2.2.1,())),()),(v65&&v71.1),(!v65))
def tZ6 y x:=(tZ5 y x).1
def tN1 y x:=(tZ5 y x).2.1
def uC2 y x:=(tZ5 y x).2.2.1
def tZ7 y x:=(tZ5 y x).2.2.2.1
def sW4 y x:=(tZ5 y x).2.2.2.2
def tZ8 (y:vJ7)(x:vB6):Bool:=
 false
def uS0 (y:vJ7)(x:vB6):Bool:=
 x.1
def uS1 (y:vJ7)(x:vB6):(Bool×((List D73)×Int×Int×Int×Unit)):=
 let a910007:=x.2.2.1
 (a910007.1,(a910007.2.1,a910007.2.2.1,a910007.2.2.2.1,a910007.2.2.2.2.1,()))
def sW5:List (Nat×Sh):=[(7,(.pn 910007 T70)),(9,(.own T50 1009 false)),(10,vI),(910007,(.may T70 (.agg (.cons (.sl T73) (.cons (.int .i64) (.cons (.int .i64) (.cons (.int .i64) .nl)))) (.cons (.own T73 91400700 true) (.cons vI (.cons vI (.cons vI .nl)))))))]
def tZ9:St→Option Out:=xT8 [(9,(.own T50 1009 false)),(10,vI),(62,(.val (.sl T50))),(63,vI)] [(7,(.pn 910007 T70)),(64,vI),(910007,(.may T70 (.agg (.cons (.sl T73) (.cons (.int .i64) (.cons (.int .i64) (.cons (.int .i64) .nl)))) (.cons (.own T73 91400700 true) (.cons vI (.cons vI (.cons vI .nl)))))))] tN1 uC2 tZ6 fun y x=>[ex 1 (some (tZ7 y x)) [(6,vB)] ((tZ8 y x),()),ex 4 (some (sW4 y x)) sW5 ((uS0 y x),y.1,y.2.1,(uS1 y x),())]
abbrev vF0:Type:=(Int×(List D50)×Int×Unit)
abbrev wS6:Type:=(Bool×Int×Int×(Bool×((List D73)×Int×Int×Int×Unit))×Unit)
def sA (y:vF0)(x:wS6):Prop×Bool×wS6×Bool×Bool:=
 let a79:=y.2.1
 let a17:=x.2.1
 let a81:=x.2.2.1
 let a910007:=x.2.2.2.1
 let v82:=(decide (a81<y.2.2.1))
 let v83:=(nth a79 a81 Z50)
 let s_1:=(a910007.2.1,a910007.2.2.1,a910007.2.2.2.1,a910007.2.2.2.2.1,())
 let v89:=(wM0 s_1 v83.1)
 let v89o:=(wM5 s_1 v83.1)
 let v93:=(v89.2.1 !=0)
 let m20:=(bif (v89.1.2.1==0) then (v89.1.1,v83.2.1,v89.1.2.2.1,v89.1.2.2.2.1,()) else v89.1)
 let v105:=(!(f19 m20 v83))
 let c_2:=(v93||((!v93)&&(!v105)))
 ((v82=true→(InB a81 (len a79)∧(x.1=false∧(a910007.1=true∧((wP8 s_1 v83.1)∧(((!v93)=true→(InR (a17+1)∧(tZ m20 v83)))∧(c_2=true→InR (a81+1)))))))),(v82&&c_2),(false,(bif v93 then a17 else (a17+1)),(a81+1),(true,((bif v93 then v89o.1.1 else v89o.1.1),(bif v93 then v89o.1.2.1 else v89o.1.2.1),(bif v93 then v89o.1.2.2.1 else v89o.1.2.2.1),(bif v93 then v89o.1.2.2.2.1 else v89o.1.2.2.2.1),())),()),(v82&&((!v93)&&v105)),(!v82))
def tB2 y x:=(sA y x).1
def vS7 y x:=(sA y x).2.1
def wU5 y x:=(sA y x).2.2.1
def sA0 y x:=(sA y x).2.2.2.1
def sW6 y x:=(sA y x).2.2.2.2
def sA1 (y:vF0)(x:wS6):Bool:=
 false
def uS2 (y:vF0)(x:wS6):Bool:=
 x.1
def uS3 (y:vF0)(x:wS6):Int:=
 x.2.1
def uS4 (y:vF0)(x:wS6):(Bool×((List D73)×Int×Int×Int×Unit)):=
 let a910007:=x.2.2.2.1
 (a910007.1,(a910007.2.1,a910007.2.2.1,a910007.2.2.2.1,a910007.2.2.2.2.1,()))
def sW7:List (Nat×Sh):=[(7,(.pn 910007 T70)),(10,vI),(17,vI),(910007,(.may T70 (.agg (.cons (.sl T73) (.cons (.int .i64) (.cons (.int .i64) (.cons (.int .i64) .nl)))) (.cons (.own T73 91400700 true) (.cons vI (.cons vI (.cons vI .nl)))))))]
def sA2:St→Option Out:=xT8 [(10,vI),(79,(.own T50 1009 false)),(80,vI)] [(7,(.pn 910007 T70)),(17,vI),(81,vI),(910007,(.may T70 (.agg (.cons (.sl T73) (.cons (.int .i64) (.cons (.int .i64) (.cons (.int .i64) .nl)))) (.cons (.own T73 91400700 true) (.cons vI (.cons vI (.cons vI .nl)))))))] vS7 wU5 tB2 fun y x=>[ex 1 (some (sA0 y x)) [(6,vB)] ((sA1 y x),()),ex 6 (some (sW6 y x)) sW7 ((uS2 y x),y.1,(uS3 y x),(uS4 y x),())]
abbrev tB3:Type:=(Int×(List Int)×Int×Unit)
abbrev vJ8:Type:=(Int×Int×Unit)
def rF0 (y:tB3)(x:vJ8):Prop×Bool×vJ8:=
 let a108:=y.2.1
 let a17:=x.1
 let a110:=x.2.1
 let v111:=(decide (a110<y.2.2.1))
 let v116:=(decide ((nth a108 a110 (0:Int))≤y.1))
 ((v111=true→(InB a110 (len a108)∧((v116=true→InR (a17-1))∧InR (a110+1)))),v111,((bif v116 then (a17-1) else a17),(a110+1),()))
def tB4 y x:=(rF0 y x).1
def vS8 y x:=(rF0 y x).2.1
def wU6 y x:=(rF0 y x).2.2
def uS5 (y:tB3)(x:vJ8):Int:=
 x.1
def sA3:St→Option Out:=xT8 [(10,vI),(108,(.own (.int .i64) 108 false)),(109,vI)] [(17,vI),(110,vI)] vS8 wU6 tB4 fun y x=>[ex 8 none [(17,vI)] ((uS5 y x),())]
def f4t (p0:D28)(p1:List D50)(p2:List D50):Prop×Bool:=
 let v27:=(f7 p0 p1)
 let v27o:=(f7_o p0 p1)
 let v35:=(bif (!f8) then true else (v27.2.1 !=0))
 let s:=(v27o.1.2.1,v27o.1.2.2.1,v27o.1.2.2.2.1,v27o.1.2.2.2.2.1,())
 let v40:=(f16 s)
 let y9:=(p2,(),v40,(len v40),())
 let x9:=(([]:List D50),(0:Int),(0:Int),(v27o.1.2.1,v27o.1.2.2.1,v27o.1.2.2.2.1,v27o.1.2.2.2.2.1,()),())
 let e9:=(zB9 (uJ8 y9) (wZ1 y9) x9)
 let r9_2_0:=(tG1 y9 e9)
 let r9_2_1:=(tG2 y9 e9)
 let r9_2_2:=(tG3 y9 e9)
 let y17:=(r9_2_0,r9_2_1,p2,(len p2),())
 let x17:=(false,(0:Int),(true,(r9_2_2.1,r9_2_2.2.1,r9_2_2.2.2.1,r9_2_2.2.2.2.1,())),())
 let e17:=(zB9 (tN1 y17) (uC2 y17) x17)
 let r17_4_1:=(uS1 y17 e17)
 let y25:=(r9_2_1,r9_2_0,(len r9_2_0),())
 let x25:=((uS0 y17 e17),(0:Int),(0:Int),(r17_4_1.1,(r17_4_1.2.1,r17_4_1.2.2.1,r17_4_1.2.2.2.1,r17_4_1.2.2.2.2.1,())),())
 let e25:=(zB9 (vS7 y25) (wU5 y25) x25)
 let r25_6_2:=(uS4 y25 e25)
 let s_4:=(r25_6_2.2.1,r25_6_2.2.2.1,r25_6_2.2.2.2.1,r25_6_2.2.2.2.2.1,())
 let v108:=(f16 s_4)
 let y36:=(r9_2_1,v108,(len v108),())
 let x36:=((uS3 y25 e25),(0:Int),())
 let m6_2:=(bif (sN0 y9 e9) then (sI5 y9 e9) else (bif (tZ7 y17 e17) then (tZ8 y17 e17) else (bif (sA0 y25 e25) then (sA1 y25 e25) else ((uS5 y36 (zB9 (vS8 y36) (wU6 y36) x36))==0))))
 (((sM4 p0 p1)∧(tB1∧((v35=true→tB1)∧((!v35)=true→((!v27.1)=true→(v27.1=false∧(v27o.1.1=true∧((vS6 s)∧((xB7 (uJ8 y9) (wZ1 y9) (tN0 y9) x9)∧((rH8 y9 e9)=true→((xB7 (tN1 y17) (uC2 y17) (tZ6 y17) x17)∧((sW4 y17 e17)=true→((xB7 (vS7 y25) (wU5 y25) (tB2 y25) x25)∧((sW6 y25 e25)=true→((uS2 y25 e25)=false∧(r25_6_2.1=true∧((vS6 s_4)∧(xB7 (vS8 y36) (wU6 y36) (tB4 y36) x36)))))))))))))))))),(bif v35 then f8 else (bif v27.1 then false else m6_2)))
def f4_ok p0 p1 p2:=(f4t p0 p1 p2).1
def f4 p0 p1 p2:=(f4t p0 p1 p2).2
def pI3:=sp3 (.val T28) (.val (.sl T50)) (.val (.sl T50)) vB f4_ok f4
def sW8:Ctx:={ Cx tys [(7,sM5),(8,sN),(16,sM9),(17,tZ2),(18,tY0),(19,qI)] [(9,sI6),(17,tZ9),(25,sA2),(36,sA3)] [(3,[(6,900112,0,910007),(4,0,27,91400700)]),(16,[(8,7,0,0),(7,910007,0,0)]),(29,[(4,0,57,1009)]),(38,[(8,7,0,0),(7,910007,0,0)]),(39,[(9,910007,0,0),(6,900288,0,910007),(4,0,71,91400700)]),(54,[(8,7,0,0),(7,910007,0,0)]),(70,[(8,7,0,0),(7,910007,0,0)])] false 122 [] [] with wants:=[(7,[]),(17,[]),(18,[])] }
theorem sW9:CtxOk Tryz.prog sW8:=cq ⟨qH9,qI0,rH6,tZ3,tY1,qQ1,trivial⟩
noncomputable def sN1:Code:=Tryz.f4.body.getD .skip
noncomputable def pT6:Code:=wI9 sN1 0
theorem qI1:xC1 Tryz.prog sW8 pT6:=lq sW9 (sp:=sI6) rfl [[(6,vB)],rH9]
noncomputable def qQ3:Code:=wI9 sN1 1
theorem rZ1:xC1 Tryz.prog sW8 qQ3:=lq sW9 (sp:=tZ9) rfl [[(6,vB)],sW5]
noncomputable def qQ4:Code:=wI9 sN1 2
theorem rZ2:xC1 Tryz.prog sW8 qQ4:=lq sW9 (sp:=sA2) rfl [[(6,vB)],sW7]
noncomputable def qQ5:Code:=wI9 sN1 3
theorem rZ3:xC1 Tryz.prog sW8 qQ5:=lq sW9 (sp:=sA3) rfl [[(17,vI)]]
theorem f4_is:SK 4 pI3:=fl sW9 Tryz.func4 (bs:=[pT6,qQ3,qQ4,qQ5]) ⟨qI1,rZ1,rZ2,rZ3,trivial⟩
abbrev uC3:Type:=((List Int)×Int×Int×Unit)
abbrev vJ9:Type:=(Int×Unit)
def tG4 (y:uC3)(x:vJ9):Prop×Bool×vJ9×Bool×Bool:=
 let a0:=y.1
 let a8:=x.1
 let v9:=(decide (a8<y.2.2.1))
 let v16:=(y.2.1==(nth a0 a8 (0:Int)))
 ((v9=true→(InB a8 (len a0)∧((!v16)=true→InR (a8+1)))),(v9&&(!v16)),((a8+1),()),(v9&&v16),(!v9))
def tB5 y x:=(tG4 y x).1
def tN2 y x:=(tG4 y x).2.1
def uC4 y x:=(tG4 y x).2.2.1
def sA4 y x:=(tG4 y x).2.2.2.1
def rZ4 y x:=(tG4 y x).2.2.2.2
instance (y x):Decidable (tB5 y x):=by unfold tB5 tG4;dsimp only;infer_instance
def uS6 (y:uC3)(x:vJ9):Int:=
 x.1
def rZ5:=li [(0,(.val (.sl (.int .i64)))),(1,vI),(7,vI)] [(8,vI)] tN2 uC4 tB5 (fun y x=>[ex 1 (some (sA4 y x)) [(4,vI)] ((uS6 y x),()),ex 2 (some (rZ4 y x)) [] ()]) [[(4,vI)],[]]
def f50t (p0:List Int)(p1:Int):Prop×Int:=
 let y2:=(p0,p1,(len p0),())
 let x2:=((0:Int),())
 let e2:=(zB9 (tN2 y2) (uC4 y2) x2)
 ((xB7 (tN2 y2) (uC4 y2) (tB5 y2) x2),(bif (sA4 y2 e2) then (uS6 y2 e2) else (-1:Int)))
def rI p0 p1:=(f50t p0 p1).1
def f50 p0 p1:=(f50t p0 p1).2
instance (p0 p1):Decidable (rI p0 p1):=by unfold rI f50t;dsimp only;infer_instance
theorem pT7:SK 50 (sp2 (.val (.sl (.int .i64))) vI vI rI f50):=fb Tryz.func50 19 [] [(2,rZ5)]
def f22t (p0:List Int)(p1:Int):Prop×Bool:=
 ((rI p0 p1),(decide ((f50 p0 p1)≥0)))
def uJ9 p0 p1:=(f22t p0 p1).1
def f22 p0 p1:=(f22t p0 p1).2
instance (p0 p1):Decidable (uJ9 p0 p1):=by unfold uJ9 f22t;dsimp only;infer_instance
def qI2:=sp2 (.val (.sl (.int .i64))) vI vB uJ9 f22
theorem pT8:SK 22 (sp2 (.val (.sl (.int .i64))) vI vB uJ9 f22):=fb Tryz.func22 9 [kb pT7]
abbrev vS9:Type:=(Unit×(List Int)×(List Int)×(List Int)×Int×Unit)
abbrev wX8:Type:=(Int×((List D73)×Int×Int×Int×Unit)×Unit)
def sA5 (y:vS9)(x:wX8):Prop×Bool×wX8×Bool×Bool:=
 let a11:=y.2.1
 let a100:=y.2.2.2.1
 let a102:=x.1
 let a900108:=x.2.1
 let v103:=(decide (a102<y.2.2.2.2.1))
 let v104:=(nth a100 a102 (0:Int))
 let s_1:=(a900108.1,a900108.2.1,a900108.2.2.1,a900108.2.2.2.1,())
 let v109o:=(wM5 s_1 v104)
 let v113:=((wM0 s_1 v104).2.1 !=9)
 let v119:=(bif v113 then true else (!(f22 a11 v104)))
 ((v103=true→(InB a102 (len a100)∧((wP8 s_1 v104)∧(((!v113)=true→(uJ9 a11 v104))∧((!v119)=true→InR (a102+1)))))),(v103&&(!v119)),((a102+1),(v109o.1.1,v109o.1.2.1,v109o.1.2.2.1,v109o.1.2.2.2.1,()),()),(v103&&v119),(!v103))
def tB6 y x:=(sA5 y x).1
def vT y x:=(sA5 y x).2.1
def wU7 y x:=(sA5 y x).2.2.1
def sA6 y x:=(sA5 y x).2.2.2.1
def sX y x:=(sA5 y x).2.2.2.2
def sA7 (y:vS9)(x:wX8):Bool:=
 false
def uS7 (y:vS9)(x:wX8):((List D73)×Int×Int×Int×Unit):=
 let a900108:=x.2.1
 (a900108.1,a900108.2.1,a900108.2.2.1,a900108.2.2.2.1,())
def sX0:List (Nat×Sh):=[(7,(.ref 900108 T70)),(13,(.own (.int .i64) 1013 false)),(900108,(.box T70 (.agg (.cons (.sl T73) (.cons (.int .i64) (.cons (.int .i64) (.cons (.int .i64) .nl)))) (.cons (.own T73 90410800 true) (.cons vI (.cons vI (.cons vI .nl)))))))]
def sA8:St→Option Out:=xT8 [(7,(.ref 900108 T70)),(11,(.own (.int .i64) 1011 false)),(13,(.own (.int .i64) 1013 false)),(100,(.own (.int .i64) 1012 false)),(101,vI)] [(102,vI),(900108,(.box T70 (.agg (.cons (.sl T73) (.cons (.int .i64) (.cons (.int .i64) (.cons (.int .i64) .nl)))) (.cons (.own T73 90410800 true) (.cons vI (.cons vI (.cons vI .nl)))))))] vT wU7 tB6 fun y x=>[ex 1 (some (sA6 y x)) [(6,vB)] ((sA7 y x),()),ex 2 (some (sX y x)) sX0 (y.1,y.2.2.1,(uS7 y x),())]
abbrev vT0:Type:=(Unit×(List Int)×(List Int)×Int×Unit)
abbrev wX9:Type:=(Int×Int×((List D73)×Int×Int×Int×Unit)×Unit)
def sA9 (y:vT0)(x:wX9):Prop×Bool×wX9×Bool×Bool:=
 let a13:=y.2.1
 let a121:=y.2.2.1
 let a18:=x.1
 let a123:=x.2.1
 let a900108:=x.2.2.1
 let v124:=(decide (a123<y.2.2.2.1))
 let v125:=(nth a121 a123 (0:Int))
 let s_1:=(a900108.1,a900108.2.1,a900108.2.2.1,a900108.2.2.2.1,())
 let v130:=(wM0 s_1 v125)
 let v130o:=(wM5 s_1 v125)
 let v134:=(v130.2.1 !=0)
 let v137:=(v130.1.2.1==0)
 let v144:=(!(f22 a13 v130.1.2.1))
 let s_2:=(v130o.1.1,v130o.1.2.1,v130o.1.2.2.1,v130o.1.2.2.2.1,())
 let v149:=(f23 s_2 v130.1.2.1)
 let v153:=(bif v144 then true else (!(f22 v149 v125)))
 let c_2:=((!v134)&&(bif v137 then true else (!v153)))
 ((v124=true→(InB a123 (len a121)∧((wP8 s_1 v125)∧(((!v134)=true→((v137=true→InR (a18+1))∧(v137=false→((uJ9 a13 v130.1.2.1)∧(((!v144)=true→(tK7 s_2 v130.1.2.1))∧((!v144)=true→(uJ9 v149 v125)))))))∧(c_2=true→InR (a123+1)))))),(v124&&c_2),((bif v137 then (a18+1) else a18),(a123+1),(v130o.1.1,v130o.1.2.1,v130o.1.2.2.1,v130o.1.2.2.2.1,()),()),(v124&&(v134||((!v134)&&(v153&&(!v137))))),(!v124))
def tB7 y x:=(sA9 y x).1
def vT1 y x:=(sA9 y x).2.1
def wU8 y x:=(sA9 y x).2.2.1
def sB y x:=(sA9 y x).2.2.2.1
def rZ6 y x:=(sA9 y x).2.2.2.2
def sB0 (y:vT0)(x:wX9):Bool:=
 let a900108:=x.2.2.1
 (bif ((wM0 (a900108.1,a900108.2.1,a900108.2.2.1,a900108.2.2.2.1,()) (nth y.2.2.1 x.2.1 (0:Int))).2.1 !=0) then false else false)
def uS8 (y:vT0)(x:wX9):Int:=
 x.1
def sB1:St→Option Out:=xT8 [(7,(.ref 900108 T70)),(13,(.own (.int .i64) 1013 false)),(121,(.own (.int .i64) 1013 false)),(122,vI)] [(18,vI),(123,vI),(900108,(.box T70 (.agg (.cons (.sl T73) (.cons (.int .i64) (.cons (.int .i64) (.cons (.int .i64) .nl)))) (.cons (.own T73 90410800 true) (.cons vI (.cons vI (.cons vI .nl)))))))] vT1 wU8 tB7 fun y x=>[ex 1 (some (sB y x)) [(6,vB)] ((sB0 y x),()),ex 4 (some (rZ6 y x)) [(18,vI)] ((uS8 y x),())]
def f5t (p0:D28)(p1:List D50)(p2:Int):Prop×Bool:=
 let v26:=(f7 p0 p1)
 let v26o:=(f7_o p0 p1)
 let v34:=(bif (!f8) then true else (v26.2.1 !=0))
 let s:=(v26o.1.2.1,v26o.1.2.2.1,v26o.1.2.2.2.1,v26o.1.2.2.2.2.1,())
 let s_2:=(v26o.1.2.1,v26o.1.2.2.1,v26o.1.2.2.2.1,v26o.1.2.2.2.2.1,())
 let v41:=(wO6 s_2)
 let v41o:=(vF s_2)
 let s_3:=(v41o.1.1,v41o.1.2.1,v41o.1.2.2.1,v41o.1.2.2.2.1,())
 let v43:=(f16 s_3)
 let s_5:=(v41o.1.1,v41o.1.2.1,v41o.1.2.2.1,v41o.1.2.2.2.1,())
 let v47:=(tL s_5 p2)
 let v47o:=(vE9 s_5 p2)
 let s_6:=(v47o.1.1,v47o.1.2.1,v47o.1.2.2.1,v47o.1.2.2.2.1,())
 let v51:=(f16 s_6)
 let v53:=(decide (p2<1))
 let v60:=(bif (v47.2.1==1) then ((len v47.1)==0) else false)
 let v67:=(v47.2.1 !=0)
 let s_7:=(v47o.1.1,v47o.1.2.1,v47o.1.2.2.1,v47o.1.2.2.2.1,())
 let v73:=(bif v67 then true else ((f10 s_7)!=(f10 s)))
 let g74_1:=(!v73)
 let s_9:=(v47o.1.1,v47o.1.2.1,v47o.1.2.2.1,v47o.1.2.2.2.1,())
 let v76:=(wO6 s_9)
 let v76o:=(vF s_9)
 let v89:=(bif (bif v73 then true else (!(f13 v76 v41))) then true else ((len v51)!=(wI6 p2 (len v43))))
 let v94:=(len v43)
 let v96:=(len v51)
 let v99:=(bif v89 then true else ((len v47.1)!=(v94-v96)))
 let y14:=((),v43,v51,v47.1,(len v47.1),())
 let x14:=((0:Int),((bif g74_1 then v76o.1.1 else v47o.1.1),(bif g74_1 then v76o.1.2.1 else v47o.1.2.1),(bif g74_1 then v76o.1.2.2.1 else v47o.1.2.2.1),(bif g74_1 then v76o.1.2.2.2.1 else v47o.1.2.2.2.1),()),())
 let e14:=(zB9 (vT y14) (wU7 y14) x14)
 let r14_2_0:=(uS7 y14 e14)
 let y22:=((),v51,v51,(len v51),())
 let x22:=((0:Int),(0:Int),(r14_2_0.1,r14_2_0.2.1,r14_2_0.2.2.1,r14_2_0.2.2.2.1,()),())
 let e22:=(zB9 (vT1 y22) (wU8 y22) x22)
 let m6_3:=(bif v53 then (bif v60 then (f21 v43 v51) else false) else (bif v99 then false else (bif (sA6 y14 e14) then (sA7 y14 e14) else (bif (sB y22 e22) then (sB0 y22 e22) else ((uS8 y22 e22)==1)))))
 (((sM4 p0 p1)∧(tB1∧((v34=true→tB1)∧((!v34)=true→((!v26.1)=true→(v26.1=false∧(v26o.1.1=true∧((vG9 s)∧((wN6 s_2)∧((vS6 s_3)∧((vP5 s_5 p2)∧((vS6 s_6)∧((v53=true→(v60=true→(tB v43 v51)))∧((!v53)=true→(((!v67)=true→(vG9 s_7))∧((g74_1=true→(wN6 s_9))∧(((!v73)=true→(vS5 v76 v41))∧(((!v89)=true→InR (v94-v96))∧((!v99)=true→((xB7 (vT y14) (wU7 y14) (tB6 y14) x14)∧((sX y14 e14)=true→(xB7 (vT1 y22) (wU8 y22) (tB7 y22) x22)))))))))))))))))))))),(bif v34 then f8 else (bif v26.1 then false else m6_3)))
def f5_ok p0 p1 p2:=(f5t p0 p1 p2).1
def f5 p0 p1 p2:=(f5t p0 p1 p2).2
def pI4:=sp3 (.val T28) (.val (.sl T50)) vI vB f5_ok f5
def rZ7:Ctx:={ Cx tys [(7,sM5),(8,sN),(10,sM6),(11,uS),(13,sM7),(16,sM9),(17,tZ2),(20,rE7),(21,rH7),(22,qI2),(23,qH4)] [(14,sA8),(22,sB1)] [(3,[(4,0,26,90410800)]),(12,[(8,7,0,0),(7,900108,0,0)]),(13,[(4,0,43,1011)]),(15,[(4,0,47,1012)]),(17,[(4,0,51,1013)])] false 157 [] [] with wants:=[(7,[]),(11,[]),(17,[]),(20,[])] }
theorem rZ8:CtxOk Tryz.prog rZ7:=cq ⟨qH9,qI0,rH5,tB0,sW1,rH6,tZ3,tY,rZ,pT8,rW8,trivial⟩
noncomputable def rZ9:Code:=Tryz.f5.body.getD .skip
noncomputable def qQ6:Code:=wI9 rZ9 0
theorem qA:xC1 Tryz.prog rZ7 qQ6:=lq rZ8 (sp:=sA8) rfl [[(6,vB)],sX0]
noncomputable def qQ7:Code:=wI9 rZ9 1
theorem qA0:xC1 Tryz.prog rZ7 qQ7:=lq rZ8 (sp:=sB1) rfl [[(6,vB)],[(18,vI)]]
theorem f5_is:SK 5 pI4:=fl rZ8 Tryz.func5 (bs:=[qQ6,qQ7]) ⟨qA,qA0,trivial⟩
end Go.Proofs.YtofmmkikplmlpaaGreatDoor.Am
