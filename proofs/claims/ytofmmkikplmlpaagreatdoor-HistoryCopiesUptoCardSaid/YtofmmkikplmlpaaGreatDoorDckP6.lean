/- Printed by program, part 5. No condition. -/
import Derived.Test.YtofmmkikplmlpaaGreatDoorDckP5
set_option linter.unusedVariables false
set_option synthInstance.maxSize 4000
set_option synthInstance.maxHeartbeats 400000
namespace Go.Proofs.YtofmmkikplmlpaaGreatDoor.Am
open Go Go.Am Go.Proofs
abbrev vF1:Type:=((List D50)×Unit×Bool×Int×(List Int)×D28×(List D50)×Int×((List D73)×Int×Int×Int×Unit)×(Bool×((List D73)×Int×Int×Int×Unit))×Unit)
abbrev vB7:Type:=(Bool×Int×(Bool×((List D73)×Int×Int×Int×Unit))×Unit)
def sB2 (y:vF1)(x:vB7):Prop×Bool×vB7×Bool×Bool:=
 let a49:=y.2.2.2.2.2.2.1
 let a51:=x.2.1
 let a910009:=x.2.2.1
 let v52:=(decide (a51<y.2.2.2.2.2.2.2.1))
 let v53:=(nth a49 a51 Z50)
 let s_1:=(a910009.2.1,a910009.2.2.1,a910009.2.2.2.1,a910009.2.2.2.2.1,())
 let v58:=(vG8 s_1 v53)
 let v58o:=(wR4 s_1 v53)
 ((v52=true→(InB a51 (len a49)∧(x.1=false∧(a910009.1=true∧((wX3 s_1 v53)∧((!v58.1)=true→InR (a51+1))))))),(v52&&(!v58.1)),(v58.1,(a51+1),(v58o.1.1,(v58o.1.2.1,v58o.1.2.2.1,v58o.1.2.2.2.1,v58o.1.2.2.2.2.1,())),()),(v52&&v58.1),(!v52))
def tB8 y x:=(sB2 y x).1
def tB9 y x:=(sB2 y x).2.1
def vQ4 y x:=(sB2 y x).2.2.1
def sB3 y x:=(sB2 y x).2.2.2.1
def sX1 y x:=(sB2 y x).2.2.2.2
def sB4 (y:vF1)(x:vB7):Bool:=
 false
def uS9 (y:vF1)(x:vB7):Bool:=
 x.1
def uT (y:vF1)(x:vB7):(Bool×((List D73)×Int×Int×Int×Unit)):=
 let a910009:=x.2.2.1
 (a910009.1,(a910009.2.1,a910009.2.2.1,a910009.2.2.2.1,a910009.2.2.2.2.1,()))
def sX2:List (Nat×Sh):=[(2,(.val (.sl T50))),(7,(.ref 910007 T70)),(9,(.pn 910009 T70)),(10,(.pn 910010 T70)),(11,vI),(12,(.val (.sl (.int .i64)))),(13,(.box T28 (.val T28))),(910007,(.box T70 (.agg (.cons (.sl T73) (.cons (.int .i64) (.cons (.int .i64) (.cons (.int .i64) .nl)))) (.cons (.own T73 91400700 true) (.cons vI (.cons vI (.cons vI .nl))))))),(910009,(.may T70 (.agg (.cons (.sl T73) (.cons (.int .i64) (.cons (.int .i64) (.cons (.int .i64) .nl)))) (.cons (.own T73 91400900 true) (.cons vI (.cons vI (.cons vI .nl))))))),(910010,(.may T70 (.agg (.cons (.sl T73) (.cons (.int .i64) (.cons (.int .i64) (.cons (.int .i64) .nl)))) (.cons (.own T73 91401000 true) (.cons vI (.cons vI (.cons vI .nl)))))))]
def sB5:St→Option Out:=xT8 [(2,(.val (.sl T50))),(7,(.ref 910007 T70)),(10,(.pn 910010 T70)),(11,vI),(12,(.val (.sl (.int .i64)))),(13,(.box T28 (.val T28))),(49,(.val (.sl T50))),(50,vI),(910007,(.box T70 (.agg (.cons (.sl T73) (.cons (.int .i64) (.cons (.int .i64) (.cons (.int .i64) .nl)))) (.cons (.own T73 91400700 true) (.cons vI (.cons vI (.cons vI .nl))))))),(910010,(.may T70 (.agg (.cons (.sl T73) (.cons (.int .i64) (.cons (.int .i64) (.cons (.int .i64) .nl)))) (.cons (.own T73 91401000 true) (.cons vI (.cons vI (.cons vI .nl)))))))] [(9,(.pn 910009 T70)),(51,vI),(910009,(.may T70 (.agg (.cons (.sl T73) (.cons (.int .i64) (.cons (.int .i64) (.cons (.int .i64) .nl)))) (.cons (.own T73 91400900 true) (.cons vI (.cons vI (.cons vI .nl)))))))] tB9 vQ4 tB8 fun y x=>[ex 1 (some (sB3 y x)) [(6,vB)] ((sB4 y x),()),ex 2 (some (sX1 y x)) sX2 (y.1,y.2.1,(uS9 y x),y.2.2.1,y.2.2.2.1,y.2.2.2.2.1,y.2.2.2.2.2.1,y.2.2.2.2.2.2.2.2.1,(uT y x),y.2.2.2.2.2.2.2.2.2.1,())]
abbrev vF2:Type:=(Bool×Bool×Int×(List Int)×D28×(List D50)×Int×(Bool×((List D73)×Int×Int×Int×Unit))×(Bool×((List D73)×Int×Int×Int×Unit))×Unit)
abbrev vB8:Type:=(Bool×Int×(Bool×((List D73)×Int×Int×Int×Unit))×Unit)
def sB6 (y:vF2)(x:vB8):Prop×Bool×vB8×Bool×Bool:=
 let a84:=y.2.2.2.2.2.1
 let a86:=x.2.1
 let a910007:=x.2.2.1
 let v87:=(decide (a86<y.2.2.2.2.2.2.1))
 let v88:=(nth a84 a86 Z50)
 let s_1:=(a910007.2.1,a910007.2.2.1,a910007.2.2.2.1,a910007.2.2.2.2.1,())
 let v93:=(vG8 s_1 v88)
 let v93o:=(wR4 s_1 v88)
 ((v87=true→(InB a86 (len a84)∧(x.1=false∧(a910007.1=true∧((wX3 s_1 v88)∧((!v93.1)=true→InR (a86+1))))))),(v87&&(!v93.1)),(v93.1,(a86+1),(v93o.1.1,(v93o.1.2.1,v93o.1.2.2.1,v93o.1.2.2.2.1,v93o.1.2.2.2.2.1,())),()),(v87&&v93.1),(!v87))
def tC y x:=(sB6 y x).1
def uO3 y x:=(sB6 y x).2.1
def vE5 y x:=(sB6 y x).2.2.1
def sB7 y x:=(sB6 y x).2.2.2.1
def sX3 y x:=(sB6 y x).2.2.2.2
def sB8 (y:vF2)(x:vB8):Bool:=
 false
def uT0 (y:vF2)(x:vB8):Bool:=
 x.1
def uT1 (y:vF2)(x:vB8):(Bool×((List D73)×Int×Int×Int×Unit)):=
 let a910007:=x.2.2.1
 (a910007.1,(a910007.2.1,a910007.2.2.1,a910007.2.2.2.1,a910007.2.2.2.2.1,()))
def sX4:List (Nat×Sh):=[(7,(.pn 910007 T70)),(9,(.pn 910009 T70)),(10,(.pn 910010 T70)),(11,vI),(12,(.val (.sl (.int .i64)))),(13,(.box T28 (.val T28))),(910007,(.may T70 (.agg (.cons (.sl T73) (.cons (.int .i64) (.cons (.int .i64) (.cons (.int .i64) .nl)))) (.cons (.own T73 91400700 true) (.cons vI (.cons vI (.cons vI .nl))))))),(910009,(.may T70 (.agg (.cons (.sl T73) (.cons (.int .i64) (.cons (.int .i64) (.cons (.int .i64) .nl)))) (.cons (.own T73 91400900 true) (.cons vI (.cons vI (.cons vI .nl))))))),(910010,(.may T70 (.agg (.cons (.sl T73) (.cons (.int .i64) (.cons (.int .i64) (.cons (.int .i64) .nl)))) (.cons (.own T73 91401000 true) (.cons vI (.cons vI (.cons vI .nl)))))))]
def sB9:St→Option Out:=xT8 [(9,(.pn 910009 T70)),(10,(.pn 910010 T70)),(11,vI),(12,(.val (.sl (.int .i64)))),(13,(.box T28 (.val T28))),(84,(.val (.sl T50))),(85,vI),(910009,(.may T70 (.agg (.cons (.sl T73) (.cons (.int .i64) (.cons (.int .i64) (.cons (.int .i64) .nl)))) (.cons (.own T73 91400900 true) (.cons vI (.cons vI (.cons vI .nl))))))),(910010,(.may T70 (.agg (.cons (.sl T73) (.cons (.int .i64) (.cons (.int .i64) (.cons (.int .i64) .nl)))) (.cons (.own T73 91401000 true) (.cons vI (.cons vI (.cons vI .nl)))))))] [(7,(.pn 910007 T70)),(86,vI),(910007,(.may T70 (.agg (.cons (.sl T73) (.cons (.int .i64) (.cons (.int .i64) (.cons (.int .i64) .nl)))) (.cons (.own T73 91400700 true) (.cons vI (.cons vI (.cons vI .nl)))))))] uO3 vE5 tC fun y x=>[ex 1 (some (sB7 y x)) [(6,vB)] ((sB8 y x),()),ex 4 (some (sX3 y x)) sX4 ((uT0 y x),y.1,y.2.1,y.2.2.1,y.2.2.2.1,y.2.2.2.2.1,(uT1 y x),y.2.2.2.2.2.2.2.1,y.2.2.2.2.2.2.2.2.1,())]
def f6t (p0:D28)(p1:List D50)(p2:List D50):Prop×Bool:=
 let v21:=(f7 p0 p1)
 let v21o:=(f7_o p0 p1)
 let v29:=(bif (!f8) then true else (v21.2.1 !=0))
 let s_1:=(v21o.1.2.1,v21o.1.2.2.1,v21o.1.2.2.2.1,v21o.1.2.2.2.2.1,())
 let v34:=(tL0 s_1)
 let v34o:=(vS2 s_1)
 let s_3:=(v34o.1.1,v34o.1.2.1,v34o.1.2.2.1,v34o.1.2.2.2.1,())
 let v36:=(tL0 s_3)
 let v36o:=(vS2 s_3)
 let v42:=(bif v34 then true else v36)
 let s_4:=(v36o.1.1,v36o.1.2.1,v36o.1.2.2.1,v36o.1.2.2.2.1,())
 let v44:=(f10 s_4)
 let s_5:=(v36o.1.1,v36o.1.2.1,v36o.1.2.2.1,v36o.1.2.2.2.1,())
 let v46:=(f16 s_5)
 let s_7:=(v36o.1.1,v36o.1.2.1,v36o.1.2.2.1,v36o.1.2.2.2.1,())
 let v48:=(wO6 s_7)
 let v48o:=(vF s_7)
 let y11:=(p2,(),v36,v44,v46,v48,p2,(len p2),(v48o.1.1,v48o.1.2.1,v48o.1.2.2.1,v48o.1.2.2.2.1,()),(v36o.2.1.1,(v36o.2.1.2.1,v36o.2.1.2.2.1,v36o.2.1.2.2.2.1,v36o.2.1.2.2.2.2.1,())),())
 let x11:=(v34,(0:Int),(v34o.2.1.1,(v34o.2.1.2.1,v34o.2.1.2.2.1,v34o.2.1.2.2.2.1,v34o.2.1.2.2.2.2.1,())),())
 let e11:=(zB9 (tB9 y11) (vQ4 y11) x11)
 let r11_2_0:=(uS9 y11 e11)
 let r11_2_1:=(uT y11 e11)
 let s_11:=(v48o.1.1,v48o.1.2.1,v48o.1.2.2.1,v48o.1.2.2.2.1,())
 let v69:=((f10 s_11)!=v44)
 let s_12:=(v48o.1.1,v48o.1.2.1,v48o.1.2.2.1,v48o.1.2.2.2.1,())
 let v72:=(f16 s_12)
 let v76:=(bif v69 then true else (!(f21 v72 v46)))
 let g77_1:=(!v76)
 let s_14:=(v48o.1.1,v48o.1.2.1,v48o.1.2.2.1,v48o.1.2.2.2.1,())
 let v79:=(wO6 s_14)
 let v79o:=(vF s_14)
 let v83:=(bif v76 then true else (!(f13 v79 v48)))
 let y20:=(r11_2_0,v36,v44,v46,v48,p2,(len p2),(r11_2_1.1,(r11_2_1.2.1,r11_2_1.2.2.1,r11_2_1.2.2.2.1,r11_2_1.2.2.2.2.1,())),(v36o.2.1.1,(v36o.2.1.2.1,v36o.2.1.2.2.1,v36o.2.1.2.2.2.1,v36o.2.1.2.2.2.2.1,())),())
 let x20:=(false,(0:Int),(true,((bif g77_1 then v79o.1.1 else v48o.1.1),(bif g77_1 then v79o.1.2.1 else v48o.1.2.1),(bif g77_1 then v79o.1.2.2.1 else v48o.1.2.2.1),(bif g77_1 then v79o.1.2.2.2.1 else v48o.1.2.2.2.1),())),())
 let e20:=(zB9 (uO3 y20) (vE5 y20) x20)
 let r20_4_1:=(uT1 y20 e20)
 let s_18:=(r11_2_1.2.1,r11_2_1.2.2.1,r11_2_1.2.2.2.1,r11_2_1.2.2.2.2.1,())
 let s_19:=(r20_4_1.2.1,r20_4_1.2.2.1,r20_4_1.2.2.2.1,r20_4_1.2.2.2.2.1,())
 let v105:=((f10 s_18)==(f10 s_19))
 let s_20:=(r11_2_1.2.1,r11_2_1.2.2.1,r11_2_1.2.2.2.1,r11_2_1.2.2.2.2.1,())
 let v108:=(f16 s_20)
 let s_21:=(r20_4_1.2.1,r20_4_1.2.2.1,r20_4_1.2.2.2.1,r20_4_1.2.2.2.2.1,())
 let v110:=(f16 s_21)
 let v112:=(bif v105 then (f21 v108 v110) else false)
 let s_23:=(r11_2_1.2.1,r11_2_1.2.2.1,r11_2_1.2.2.2.1,r11_2_1.2.2.2.2.1,())
 let v115:=(wO6 s_23)
 let s_25:=(r20_4_1.2.1,r20_4_1.2.2.1,r20_4_1.2.2.2.1,r20_4_1.2.2.2.2.1,())
 let v117:=(wO6 s_25)
 let v119:=(bif v112 then (f13 v115 v117) else false)
 let s_26:=(v36o.2.1.2.1,v36o.2.1.2.2.1,v36o.2.1.2.2.2.1,v36o.2.1.2.2.2.2.1,())
 let v125:=(bif v119 then ((f10 s_26)==v44) else false)
 let s_27:=(v36o.2.1.2.1,v36o.2.1.2.2.1,v36o.2.1.2.2.2.1,v36o.2.1.2.2.2.2.1,())
 let v128:=(f16 s_27)
 let v131:=(bif v125 then (f21 v128 v46) else false)
 let s_29:=(v36o.2.1.2.1,v36o.2.1.2.2.1,v36o.2.1.2.2.2.1,v36o.2.1.2.2.2.2.1,())
 let v134:=(wO6 s_29)
 let m6_3:=(bif v42 then false else (bif (sB3 y11 e11) then (sB4 y11 e11) else (bif v83 then false else (bif (sB7 y20 e20) then (sB8 y20 e20) else (bif v131 then (f13 v134 v48) else false)))))
 (((sM4 p0 p1)∧(tB1∧((v29=true→tB1)∧((!v29)=true→((!v21.1)=true→(v21.1=false∧(v21o.1.1=true∧((vG7 s_1)∧((vG7 s_3)∧((!v42)=true→((vG9 s_4)∧((vS6 s_5)∧((wN6 s_7)∧((xB7 (tB9 y11) (vQ4 y11) (tB8 y11) x11)∧((sX1 y11 e11)=true→((vG9 s_11)∧(((!v69)=true→(vS6 s_12))∧(((!v69)=true→(tB v72 v46))∧((g77_1=true→(wN6 s_14))∧(((!v76)=true→(vS5 v79 v48))∧((!v83)=true→((xB7 (uO3 y20) (vE5 y20) (tC y20) x20)∧((sX3 y20 e20)=true→(r11_2_0=false∧(r11_2_1.1=true∧((uT0 y20 e20)=false∧(r20_4_1.1=true∧(v36=false∧(v36o.2.1.1=true∧((vG9 s_18)∧((vG9 s_19)∧((v105=true→(vS6 s_20))∧((v105=true→(vS6 s_21))∧((v105=true→(tB v108 v110))∧((v112=true→(wN6 s_23))∧((v112=true→(wN6 s_25))∧((v112=true→(vS5 v115 v117))∧((v119=true→(vG9 s_26))∧((v125=true→(vS6 s_27))∧((v125=true→(tB v128 v46))∧((v131=true→(wN6 s_29))∧(v131=true→(vS5 v134 v48))))))))))))))))))))))))))))))))))))))))))),(bif v29 then f8 else (bif v21.1 then false else m6_3)))
def f6_ok p0 p1 p2:=(f6t p0 p1 p2).1
def f6 p0 p1 p2:=(f6t p0 p1 p2).2
def pI5:=sp3 (.val T28) (.val (.sl T50)) (.val (.sl T50)) vB f6_ok f6
def qA1:Ctx:={ Cx tys [(7,sM5),(8,sN),(10,sM6),(11,uS),(13,sM7),(16,sM9),(18,tY0),(21,rH7),(24,rE8)] [(11,sB5),(20,sB9)] [(3,[(6,900088,0,910007),(4,0,21,91400700)]),(12,[(8,7,0,0),(7,910007,0,0)]),(13,[(6,900140,0,910009),(6,900148,0,910010),(4,0,34,91400900),(4,0,36,91401000)]),(19,[(4,0,46,1012)]),(20,[(2,12,0,0)]),(26,[(8,9,0,0),(7,910009,0,0)]),(27,[(9,910009,0,0),(6,900236,0,910009),(4,0,58,91400900)]),(44,[(8,7,0,0),(7,910007,0,0)]),(45,[(9,910007,0,0),(6,900376,0,910007),(4,0,93,91400700)]),(52,[(8,9,0,0),(7,910009,0,0),(8,7,0,0),(7,910007,0,0),(8,10,0,0),(7,910010,0,0)])] false 138 [] [] with wants:=[(7,[]),(11,[]),(18,[]),(24,[])] }
theorem qA2:CtxOk Tryz.prog qA1:=cq ⟨qH9,qI0,rH5,tB0,sW1,rH6,tY1,rZ,sU5,trivial⟩
noncomputable def qA3:Code:=Tryz.f6.body.getD .skip
noncomputable def qQ8:Code:=wI9 qA3 0
theorem qA4:xC1 Tryz.prog qA1 qQ8:=lq qA2 (sp:=sB5) rfl [[(6,vB)],sX2]
noncomputable def qQ9:Code:=wI9 qA3 1
theorem qA5:xC1 Tryz.prog qA1 qQ9:=lq qA2 (sp:=sB9) rfl [[(6,vB)],sX4]
theorem f6_is:SK 6 pI5:=fl qA2 Tryz.func6 (bs:=[qQ8,qQ9]) ⟨qA4,qA5,trivial⟩
end Go.Proofs.YtofmmkikplmlpaaGreatDoor.Am
