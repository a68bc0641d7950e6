/- Printed by program, part 3. No condition. -/
import Derived.Test.YtofmmkikplmlpaaGreatDoorDckP2
set_option linter.unusedVariables false
set_option synthInstance.maxSize 4000
set_option synthInstance.maxHeartbeats 400000
namespace Go.Proofs.YtofmmkikplmlpaaGreatDoor.Am
open Go Go.Am Go.Proofs
abbrev vL0:Type:=(Int×D175×D225×(List (List D140))×Int×Int×D140×(List (List UInt8))×Int×Int×(List D140)×Int×Int×(List (List D140))×Int×Int×(List D140)×Int×Unit)
abbrev vD1:Type:=((List D140)×Int×Unit)
def uW6 (y:vL0)(x:vD1):Prop×Bool×vD1:=
 let a2:=y.1
 let a4:=y.2.1
 let a89:=y.2.2.2.2.2.2.2.2.2.2.2.2.2.2.2.2.1
 let a24:=x.1
 let a91:=x.2.1
 let v92:=(decide (a91<y.2.2.2.2.2.2.2.2.2.2.2.2.2.2.2.2.2.1))
 let v94:=(nth a89 a91 Z140)
 let v104:=(IntKind.wrap .i64 ((IntKind.wrap .i64 (y.2.2.2.2.2.2.1.2.1+v94.1))*a2))
 let v119:=(IntKind.wrap .i64 ((IntKind.wrap .i64 ((IntKind.wrap .i64 (a4.2.1+(IntKind.wrap .i64 (y.2.2.2.2.2.1*a4.2.2.1))))-v94.2.1))*a2))
 ((v92=true→(InB a91 (len a89)∧((wN1 v104 a4.1)∧((wN1 v119 a4.1)∧(InB a91 (len a24)∧a91<len a24))))),v92,((List.set a24 (Int.toNat a91) ((f103 v104 a4.1),(f103 v119 a4.1),())),(IntKind.wrap .i64 (a91+1)),()))
def vD2 y x:=(uW6 y x).1
def vL1 y x:=(uW6 y x).2.1
def wW3 y x:=(uW6 y x).2.2
instance (y x):Decidable (vD2 y x):=by unfold vD2 uW6;dsimp only;infer_instance
def uW7 (y:vL0)(x:vD1):(List D140):=
 x.1
def tT2:List (Nat×Sh):=[(2,vI),(4,(.box T175 (.val T175))),(11,(.val (.ptr T225))),(12,(.own (.sl T140) 1012 false)),(13,vI),(14,vI),(19,(.box T140 (.val T140))),(24,(.own T140 1024 true)),(41,(.val (.sl .str))),(42,vI),(43,vI),(54,(.own T140 1016 false)),(55,vI),(56,vI),(74,(.own (.sl T140) 1020 false)),(75,vI),(76,vI)]
def rA7:=li [(2,vI),(4,(.box T175 (.val T175))),(11,(.val (.ptr T225))),(12,(.own (.sl T140) 1012 false)),(13,vI),(14,vI),(19,(.box T140 (.val T140))),(41,(.val (.sl .str))),(42,vI),(43,vI),(54,(.own T140 1016 false)),(55,vI),(56,vI),(74,(.own (.sl T140) 1020 false)),(75,vI),(76,vI),(89,(.val (.sl T140))),(90,vI)] [(24,(.own T140 1024 true)),(91,vI)] vL1 wW3 vD2 (fun y x=>[ex 8 none tT2 (y.1,y.2.1,y.2.2.1,y.2.2.2.1,y.2.2.2.2.1,y.2.2.2.2.2.1,y.2.2.2.2.2.2.1,(uW7 y x),y.2.2.2.2.2.2.2.1,y.2.2.2.2.2.2.2.2.1,y.2.2.2.2.2.2.2.2.2.1,y.2.2.2.2.2.2.2.2.2.2.1,y.2.2.2.2.2.2.2.2.2.2.2.1,y.2.2.2.2.2.2.2.2.2.2.2.2.1,y.2.2.2.2.2.2.2.2.2.2.2.2.2.1,y.2.2.2.2.2.2.2.2.2.2.2.2.2.2.1,y.2.2.2.2.2.2.2.2.2.2.2.2.2.2.2.1,())]) [tT2]
abbrev wO:Type:=(Int×D175×D225×Int×D140×(List (List UInt8))×Int×Int×(List D140)×Int×Int×(List (List D140))×Int×Unit)
abbrev wO8:Type:=((List (List D140))×Int×Int×Unit)
def vN9 (y:wO)(x:wO8):Prop×Bool×wO8×Bool×Bool:=
 let a74:=y.2.2.2.2.2.2.2.2.2.2.2.1
 let a75:=y.2.2.2.2.2.2.2.2.2.2.2.2.1
 let a12:=x.1
 let a76:=x.2.2.1
 let v77:=(decide (a76<a75))
 let v78:=(nth a74 a76 ([]:List D140))
 let v83:=(IntKind.wrap .i64 (x.2.1+(len v78)))
 let v85:=(decide (v83>4096))
 let v87:=(len v78)
 let y25:=(y.1,y.2.1,y.2.2.1,a12,v83,y.2.2.2.1,y.2.2.2.2.1,y.2.2.2.2.2.1,y.2.2.2.2.2.2.1,y.2.2.2.2.2.2.2.1,y.2.2.2.2.2.2.2.2.1,y.2.2.2.2.2.2.2.2.2.1,y.2.2.2.2.2.2.2.2.2.2.1,a74,a75,a76,v78,(len v78),())
 let x25:=((List.replicate (Int.toNat v87) Z140),(0:Int),())
 let v128:=([(uW7 y25 (zB9 (vL1 y25) (wW3 y25) x25))]:List (List D140))
 ((v77=true→(InB a76 (len a74)∧((!v85)=true→((0≤v87∧v87≤v87∧v87≤4294967296)∧((xB7 (vL1 y25) (wW3 y25) (vD2 y25) x25)∧((List.length a12+List.length v128:Nat):Int)≤4294967296))))),(v77&&(!v85)),((a12++v128),v83,(IntKind.wrap .i64 (a76+1)),()),(v77&&v85),(!v77))
def wT7 y x:=(vN9 y x).1
def wM6 y x:=(vN9 y x).2.1
def wL2 y x:=(vN9 y x).2.2.1
def tT3 y x:=(vN9 y x).2.2.2.1
def tT4 y x:=(vN9 y x).2.2.2.2
instance (y x):Decidable (wT7 y x):=by unfold wT7 vN9;dsimp only;infer_instance
def vZ5 (y:wO)(x:wO8):(List (List D140)):=
 ([]:List (List D140))
def uW8 (y:wO)(x:wO8):Int:=
 (3:Int)
def tT5:List (Nat×Sh):=[(8,(.own (.sl T140) 0 false)),(9,vI)]
def uW9 (y:wO)(x:wO8):(List (List D140)):=
 x.1
def uX (y:wO)(x:wO8):Int:=
 x.2.1
def tT6:List (Nat×Sh):=[(2,vI),(4,(.box T175 (.val T175))),(11,(.val (.ptr T225))),(12,(.own (.sl T140) 1012 false)),(13,vI),(14,vI),(41,(.val (.sl .str))),(42,vI),(43,vI),(54,(.own T140 1016 false)),(55,vI),(56,vI)]
def rA8:=li [(2,vI),(4,(.box T175 (.val T175))),(11,(.val (.ptr T225))),(14,vI),(19,(.box T140 (.val T140))),(41,(.val (.sl .str))),(42,vI),(43,vI),(54,(.own T140 1016 false)),(55,vI),(56,vI),(74,(.own (.sl T140) 1020 false)),(75,vI)] [(12,(.own (.sl T140) 1012 false)),(13,vI),(76,vI)] wM6 wL2 wT7 (fun y x=>[ex 1 (some (tT3 y x)) tT5 ((vZ5 y x),(uW8 y x),()),ex 6 (some (tT4 y x)) tT6 (y.1,y.2.1,y.2.2.1,(uW9 y x),(uX y x),y.2.2.2.1,y.2.2.2.2.2.1,y.2.2.2.2.2.2.1,y.2.2.2.2.2.2.2.1,y.2.2.2.2.2.2.2.2.1,y.2.2.2.2.2.2.2.2.2.1,y.2.2.2.2.2.2.2.2.2.2.1,())]) [tT5,tT6]
abbrev wM7:Type:=(Int×D175×D225×Int×(List (List UInt8))×Int×Int×(List D140)×Int×Unit)
abbrev wM8:Type:=((List (List D140))×Int×Int×Unit)
def vW5 (y:wM7)(x:wM8):Prop×Bool×wM8×Bool×Bool:=
 let a4:=y.2.1
 let a54:=y.2.2.2.2.2.2.2.1
 let a55:=y.2.2.2.2.2.2.2.2.1
 let a56:=x.2.2.1
 let v57:=(decide (a56<a55))
 let v58:=(nth a54 a56 Z140)
 let v65:=(nth a4.2.2.2.1 v58.1 Z204)
 let v68:=(f120 v65.2.2.1)
 let v72:=(v68.2.1 !=0)
 let y18:=(y.1,a4,y.2.2.1,y.2.2.2.1,v58,y.2.2.2.2.1,y.2.2.2.2.2.1,y.2.2.2.2.2.2.1,a54,a55,a56,v68.1,(len v68.1),())
 let x18:=(x.1,x.2.1,(0:Int),())
 let e18:=(zB9 (wM6 y18) (wL2 y18) x18)
 ((v57=true→(InB a56 (len a54)∧(InB v58.1 (len a4.2.2.2.1)∧((uE3 v65.2.2.1)∧((!v72)=true→(xB7 (wM6 y18) (wL2 y18) (wT7 y18) x18)))))),(v57&&((!v72)&&(tT4 y18 e18))),((uW9 y18 e18),(uX y18 e18),(IntKind.wrap .i64 (a56+1)),()),(v57&&(v72||((!v72)&&(tT3 y18 e18)))),(!v57))
def wQ9 y x:=(vW5 y x).1
def wN3 y x:=(vW5 y x).2.1
def wL1 y x:=(vW5 y x).2.2.1
def tT7 y x:=(vW5 y x).2.2.2.1
def tT8 y x:=(vW5 y x).2.2.2.2
instance (y x):Decidable (wQ9 y x):=by unfold wQ9 vW5;dsimp only;infer_instance
def vZ6 (y:wM7)(x:wM8):(List (List D140)):=
 let a4:=y.2.1
 let a54:=y.2.2.2.2.2.2.2.1
 let a56:=x.2.2.1
 let v58:=(nth a54 a56 Z140)
 let v68:=(f120 (nth a4.2.2.2.1 v58.1 Z204).2.2.1)
 let y18:=(y.1,a4,y.2.2.1,y.2.2.2.1,v58,y.2.2.2.2.1,y.2.2.2.2.2.1,y.2.2.2.2.2.2.1,a54,y.2.2.2.2.2.2.2.2.1,a56,v68.1,(len v68.1),())
 (bif (v68.2.1 !=0) then [] else (vZ5 y18 (zB9 (wM6 y18) (wL2 y18) (x.1,x.2.1,(0:Int),()))))
def uX0 (y:wM7)(x:wM8):Int:=
 let a4:=y.2.1
 let a54:=y.2.2.2.2.2.2.2.1
 let a56:=x.2.2.1
 let v58:=(nth a54 a56 Z140)
 let v68:=(f120 (nth a4.2.2.2.1 v58.1 Z204).2.2.1)
 let y18:=(y.1,a4,y.2.2.1,y.2.2.2.1,v58,y.2.2.2.2.1,y.2.2.2.2.2.1,y.2.2.2.2.2.2.1,a54,y.2.2.2.2.2.2.2.2.1,a56,v68.1,(len v68.1),())
 (bif (v68.2.1 !=0) then v68.2.1 else (uW8 y18 (zB9 (wM6 y18) (wL2 y18) (x.1,x.2.1,(0:Int),()))))
def tT9:List (Nat×Sh):=[(8,(.own (.sl T140) 0 false)),(9,vI)]
def uX1 (y:wM7)(x:wM8):(List (List D140)):=
 x.1
def uX2 (y:wM7)(x:wM8):Int:=
 x.2.1
def tU:List (Nat×Sh):=[(2,vI),(4,(.box T175 (.val T175))),(11,(.val (.ptr T225))),(12,(.own (.sl T140) 1012 false)),(13,vI),(41,(.val (.sl .str))),(42,vI),(43,vI)]
def rA9:=li [(2,vI),(4,(.box T175 (.val T175))),(11,(.val (.ptr T225))),(14,vI),(41,(.val (.sl .str))),(42,vI),(43,vI),(54,(.own T140 1016 false)),(55,vI)] [(12,(.own (.sl T140) 1012 false)),(13,vI),(56,vI)] wN3 wL1 wQ9 (fun y x=>[ex 1 (some (tT7 y x)) tT9 ((vZ6 y x),(uX0 y x),()),ex 4 (some (tT8 y x)) tU (y.1,y.2.1,y.2.2.1,(uX1 y x),(uX2 y x),y.2.2.2.2.1,y.2.2.2.2.2.1,y.2.2.2.2.2.2.1,())]) [tT9,tU]
abbrev wR9:Type:=(Int×D175×D225×(List (List UInt8))×Int×Unit)
abbrev wO4:Type:=((List (List D140))×Int×Int×Unit)
def uM (y:wR9)(x:wO4):Prop×Bool×wO4×Bool×Bool:=
 let a11:=y.2.2.1
 let a41:=y.2.2.2.1
 let a42:=y.2.2.2.2.1
 let a43:=x.2.2.1
 let v44:=(decide (a43<a42))
 let v46:=(nth a41 a43 ([]:List UInt8))
 let v51:=(f144 a11 v46)
 let y12:=(y.1,y.2.1,a11,a43,a41,a42,a43,v51.1,(len v51.1),())
 let x12:=(x.1,x.2.1,(0:Int),())
 let e12:=(zB9 (wN3 y12) (wL1 y12) x12)
 ((v44=true→(InB a43 (len a41)∧((uC8 a11 v46)∧(xB7 (wN3 y12) (wL1 y12) (wQ9 y12) x12)))),(v44&&(tT8 y12 e12)),((uX1 y12 e12),(uX2 y12 e12),(IntKind.wrap .i64 (a43+1)),()),(v44&&(tT7 y12 e12)),(!v44))
def vD3 y x:=(uM y x).1
def vO y x:=(uM y x).2.1
def wQ4 y x:=(uM y x).2.2.1
def tD9 y x:=(uM y x).2.2.2.1
def rN7 y x:=(uM y x).2.2.2.2
instance (y x):Decidable (vD3 y x):=by unfold vD3 uM;dsimp only;infer_instance
def uG1 (y:wR9)(x:wO4):(List (List D140)):=
 let a11:=y.2.2.1
 let a41:=y.2.2.2.1
 let a43:=x.2.2.1
 let v51:=(f144 a11 (nth a41 a43 ([]:List UInt8)))
 let y12:=(y.1,y.2.1,a11,a43,a41,y.2.2.2.2.1,a43,v51.1,(len v51.1),())
 (vZ6 y12 (zB9 (wN3 y12) (wL1 y12) (x.1,x.2.1,(0:Int),())))
def tI8 (y:wR9)(x:wO4):Int:=
 let a11:=y.2.2.1
 let a41:=y.2.2.2.1
 let a43:=x.2.2.1
 let v51:=(f144 a11 (nth a41 a43 ([]:List UInt8)))
 let y12:=(y.1,y.2.1,a11,a43,a41,y.2.2.2.2.1,a43,v51.1,(len v51.1),())
 (uX0 y12 (zB9 (wN3 y12) (wL1 y12) (x.1,x.2.1,(0:Int),())))
def sF0:List (Nat×Sh):=[(8,(.own (.sl T140) 0 false)),(9,vI)]
def uG2 (y:wR9)(x:wO4):(List (List D140)):=
 x.1
def sF1:List (Nat×Sh):=[(12,(.own (.sl T140) 1012 false))]
def rN8:=li [(2,vI),(4,(.box T175 (.val T175))),(11,(.val (.ptr T225))),(41,(.val (.sl .str))),(42,vI)] [(12,(.own (.sl T140) 1012 false)),(13,vI),(43,vI)] vO wQ4 vD3 (fun y x=>[ex 1 (some (tD9 y x)) sF0 ((uG1 y x),(tI8 y x),()),ex 2 (some (rN7 y x)) sF1 ((uG2 y x),())]) [sF0,sF1]
def qG3 (p0:D175)(p1:List UInt8)(p2:Int)(p3:Int):Prop×((List (List D140))×Int×Unit):=
 let v31:=(f141 p0 p1 p2 p3)
 let v33:=(v31 !=0)
 let v36:=(f142 p0)
 let v41:=(f143 v36 p1 p2 p3)
 let y8:=(p2,p0,v36,v41,(len v41),())
 let x8:=(([]:List (List D140)),(0:Int),(0:Int),())
 let e8:=(zB9 (vO y8) (wQ4 y8) x8)
 let q8_1:=(tD9 y8 e8)
 (((tS8 p0 p1 p2 p3)∧((!v33)=true→((tT1 p0)∧((vX8 v36 p1 p2 p3)∧(xB7 (vO y8) (wQ4 y8) (vD3 y8) x8))))),((bif v33 then [] else (bif q8_1 then (uG1 y8 e8) else (uG2 y8 e8))),(bif v33 then v31 else (bif q8_1 then (tI8 y8 e8) else (0:Int))),()))
def tE p0 p1 p2 p3:=(qG3 p0 p1 p2 p3).1
def f124 p0 p1 p2 p3:=(qG3 p0 p1 p2 p3).2
instance (p0 p1 p2 p3):Decidable (tE p0 p1 p2 p3):=by unfold tE qG3;dsimp only;infer_instance
def rT3:=sp4 (.val T175) vS vI vI (.tup (.cons (.own (.sl T140) 0 false) (.cons vI .nl))) tE f124
theorem pB3:SK 124 (sp4 (.val T175) vS vI vI (.tup (.cons (.own (.sl T140) 0 false) (.cons vI .nl))) tE f124):=fb Tryz.func124 134 [kb vM0,kb rS5,kb pB0,kb pB2,kb qU2,kb rQ8] [(8,rN8),(12,rA9),(18,rA8),(25,rA7)] [(21,[(4,0,51,1016)]),(29,[(4,0,68,1020)]),(47,[(4,0,88,1024)]),(58,[(1,24,0,0)]),(59,[(4,0,129,1012)]),(67,[(4,0,1012,0)])] true [] [88]
def f145 (p0:List UInt8):List (List UInt8):=Lib.fields p0
def tU0 (p0:List UInt8):Prop:=(List.length p0:Int)≤4294967280∧(p0.all fun b=>decide (b.toNat<128))=true
instance (p0:List UInt8):Decidable (tU0 p0):=by
  unfold tU0
  infer_instance
def pB4:List (Nat×Sh):=[(0,(.val .str))]
def pB5:Sh:=(.val (.sl .str))
def pB6:List (Nat×Sh):=[]
def rT4:Am.Spec:=fnSpec pB4 pB5 pB6 (fun x=>tU0 x.1) (fun x=>f145 x.1) (fun _=>())
theorem tab0:G0=Lib.asciiSpaceTab:=by kernel_rfl
theorem pB7:SpecOk Tryz.prog 145 rT4:=wH2 (F:=f145) (e:=9) (ok:=tU0) ⟨_,Tryz.func145,by kernel_rfl,by decide⟩ fun s w χ hok hg =>
  Any.strings_Fields_core Tryz.lays157 (by kernel_rfl) s w (by have h1:=hok.1;rw[Array.length_toList] at h1;have h2:s.data.size=s.size:=rfl;omega)
    (fun j b hj=>by have:=List.all_eq_true.1 hok.2 b (List.mem_of_getElem? hj);simpa using this)
    (fun c hc=>by
      have h1:=wI2 hg (g:=0) (n:=256) (k:=.u8) (l:=G0) (List.mem_cons_self ..) c hc;rw[tab0,Lib.asciiSpaceTab_at c hc] at h1;exact h1)
def pB8 (p0:List UInt8)(p1:Int):Prop×Int:=
 ((sJ7 p0 p1),(f167 p0 p1))
def tU1 p0 p1:=(pB8 p0 p1).1
def f146 p0 p1:=(pB8 p0 p1).2
instance (p0 p1):Decidable (tU1 p0 p1):=by unfold tU1 pB8;dsimp only;infer_instance
theorem pB9:SK 146 (sp2 vS (.val (.int .u8)) vI tU1 f146):=fb Tryz.func146 8 [kb qS]
def pC0 (p0:Int)(p1:Int)(p2:Int)(p3:Int):Prop×(List D143):=
 let v30:=([((1:Int),([(p0,p1,()),Z140,Z140]:List D140),()),((2:Int),([(p2,p1,()),Z140,Z140]:List D140),()),((2:Int),([(p2,p3,()),Z140,Z140]:List D140),()),((2:Int),([(p0,p3,()),Z140,Z140]:List D140),()),((5:Int),(List.replicate 3 Z140),())]:List D143)
 (True,v30)
def sK9 p0 p1 p2 p3:=(pC0 p0 p1 p2 p3).1
def f168 p0 p1 p2 p3:=(pC0 p0 p1 p2 p3).2
instance (p0 p1 p2 p3):Decidable (sK9 p0 p1 p2 p3):=by unfold sK9 pC0;dsimp only;infer_instance
theorem pC1:SK 168 (sp4 vI vI vI vI (.own T143 0 false) sK9 f168):=fb Tryz.func168 31 [] [] [(3,[(4,0,30,0)])]
abbrev uG3:Type:=(Int×Int×(List D143)×Int×Unit)
abbrev vO0:Type:=(Int×Unit)
def tM2 (y:uG3)(x:vO0):Prop×Bool×vO0:=
 let a7:=x.1
 let v20:=(decide ((a7+1)<7))
 let v24:=(a7+1)
 let v28:=(bif v20 then ((wK8 .i64 (wK9 y.2.1 v24 64) (1:Int))==1) else false)
 ((InR (a7+1)∧((v20=true→InR (a7+1))∧((v20=true→0≤v24)∧(v28=true→InR (a7+1))))),v28,((a7+1),()))
def uM0 y x:=(tM2 y x).1
def tU2 y x:=(tM2 y x).2.1
def uG4 y x:=(tM2 y x).2.2
instance (y x):Decidable (uM0 y x):=by unfold uM0 tM2;dsimp only;infer_instance
def tI9 (y:uG3)(x:vO0):Int:=
 x.1
def sF2:List (Nat×Sh):=[(0,vI),(1,vI),(5,(.own T143 1005 false)),(6,vI),(7,vI)]
def rN9:=li [(0,vI),(1,vI),(5,(.own T143 1005 false)),(6,vI)] [(7,vI)] tU2 uG4 uM0 (fun y x=>[ex 4 none sF2 (y.1,y.2.1,y.2.2.1,y.2.2.2.1,(tI9 y x),())]) [sF2]
abbrev uG5:Type:=(Unit)
abbrev vO1:Type:=(Int×Int×(List D143)×Int×Unit)
def tM3 (y:uG5)(x:vO1):Prop×Bool×vO1:=
 let a0:=x.1
 let a1:=x.2.1
 let a5:=x.2.2.1
 let a6:=x.2.2.2.1
 let v9:=(decide (a6<7))
 let v16:=((wK8 .i64 (wK9 a1 a6 64) (1:Int))==0)
 let y7:=(a0,a1,a5,a6,())
 let x7:=(a6,())
 let r7_4_0:=(tI9 y7 (zB9 (tU2 y7) (uG4 y7) x7))
 let v33:=(100*a0)
 let v35:=(100*a6)
 let v36:=(700-v35)
 let v38:=(100*a0)
 let v39:=(v38+100)
 let v41:=(100*r7_4_0)
 let v42:=(600-v41)
 let v43:=(f168 v33 v36 v39 v42)
 let c:=(v16||(!v16))
 let m6:=(bif v16 then a6 else r7_4_0)
 ((v9=true→(0≤a6∧(((!v16)=true→((xB7 (tU2 y7) (uG4 y7) (uM0 y7) x7)∧(InR (100*a0)∧(InR (100*a6)∧(InR (700-v35)∧(InR (100*a0)∧(InR (v38+100)∧(InR (100*r7_4_0)∧(InR (600-v41)∧((sK9 v33 v36 v39 v42)∧((List.length a5+List.length v43:Nat):Int)≤4294967296))))))))))∧(c=true→InR (m6+1))))),(v9&&c),((bif v16 then a0 else a0),(bif v16 then a1 else a1),(bif v16 then a5 else (a5++v43)),(m6+1),()))
def uM1 y x:=(tM3 y x).1
def tU3 y x:=(tM3 y x).2.1
def uG6 y x:=(tM3 y x).2.2
instance (y x):Decidable (uM1 y x):=by unfold uM1 tM3;dsimp only;infer_instance
def tJ (y:uG5)(x:vO1):(List D143):=
 x.2.2.1
def rO:=li [] [(0,vI),(1,vI),(5,(.own T143 1005 false)),(6,vI)] tU3 uG6 uM1 (fun y x=>[ex 2 none [(5,(.own T143 1005 false))] ((tJ y x),())]) [[(5,(.own T143 1005 false))]]
def pC2 (p0:Int)(p1:Int):Prop×(List D143):=
 let x3:=(p0,p1,([]:List D143),(0:Int),())
 ((xB7 (tU3 ()) (uG6 ()) (uM1 ()) x3),(tJ () (zB9 (tU3 ()) (uG6 ()) x3)))
def sL p0 p1:=(pC2 p0 p1).1
def f147 p0 p1:=(pC2 p0 p1).2
instance (p0 p1):Decidable (sL p0 p1):=by unfold sL pC2;dsimp only;infer_instance
theorem pC3:SK 147 (sp2 vI vI (.own T143 0 false) sL f147):=fb Tryz.func147 47 [kb pC1] [(3,rO),(7,rN9)] [(19,[(4,0,44,1005)]),(23,[(4,0,1005,0)])]
abbrev vO2:Type:=((List UInt8)×(List (List UInt8))×Int×Int×Int×Unit)
abbrev vA4:Type:=((Int×Int×Int×(List D204)×(List D209)×Unit)×(Int×Int×Int×(List D204)×(List D209)×Unit)×(Int×Int×(List D143)×Unit)×Int×Unit)
def tM4 (y:vO2)(x:vA4):Prop×Bool×vA4:=
 let a3:=y.1
 let a0:=x.1
 let a1:=x.2.1
 let a4:=x.2.2.1
 let a22:=x.2.2.2.1
 let v23:=(decide (a22<y.2.2.2.2.1))
 let v27:=(2*a22)
 let v28:=(wJ5 a3 v27)
 let v29:=(f146 ([48,49,50,51,52,53,54,55,56,57,97,98,99,100,101,102]:List UInt8) v28)
 let v30:=(16*v29)
 let v33:=(2*a22)
 let v34:=(v33+1)
 let v35:=(wJ5 a3 v34)
 let v36:=(f146 ([48,49,50,51,52,53,54,55,56,57,97,98,99,100,101,102]:List UInt8) v35)
 let v37:=(v30+v36)
 let v42:=(f147 a22 v37)
 ((v23=true→(InR (2*a22)∧(InB v27 (len a3)∧((tU1 ([48,49,50,51,52,53,54,55,56,57,97,98,99,100,101,102]:List UInt8) v28)∧(InR (16*v29)∧(InR (2*a22)∧(InR (v33+1)∧(InB v34 (len a3)∧((tU1 ([48,49,50,51,52,53,54,55,56,57,97,98,99,100,101,102]:List UInt8) v35)∧(InR (v30+v36)∧((sL a22 v37)∧(((List.length a4.2.2.1+List.length v42:Nat):Int)≤4294967296∧InR (a22+1))))))))))))),v23,((a0.1,a0.2.1,a0.2.2.1,a0.2.2.2.1,a0.2.2.2.2.1,()),(a1.1,a1.2.1,a1.2.2.1,a1.2.2.2.1,a1.2.2.2.2.1,()),(a4.1,a4.2.1,(a4.2.2.1++v42),()),(a22+1),()))
def uM2 y x:=(tM4 y x).1
def tU4 y x:=(tM4 y x).2.1
def uG7 y x:=(tM4 y x).2.2
instance (y x):Decidable (uM2 y x):=by unfold uM2 tM4;dsimp only;infer_instance
def tJ0 (y:vO2)(x:vA4):(Int×Int×Int×(List D204)×(List D209)×Unit):=
 let a0:=x.1
 (a0.1,a0.2.1,a0.2.2.1,a0.2.2.2.1,a0.2.2.2.2.1,())
def tJ1 (y:vO2)(x:vA4):(Int×Int×Int×(List D204)×(List D209)×Unit):=
 let a1:=x.2.1
 (a1.1,a1.2.1,a1.2.2.1,a1.2.2.2.1,a1.2.2.2.2.1,())
def tJ2 (y:vO2)(x:vA4):(Int×Int×(List D143)×Unit):=
 let a4:=x.2.2.1
 (a4.1,a4.2.1,a4.2.2.1,())
def sF3:List (Nat×Sh):=[(0,(.box T175 (.agg (.cons (.int .i64) (.cons (.int .i64) (.cons (.int .i64) (.cons (.sl T204) (.cons (.sl T209) .nl))))) (.cons vI (.cons vI (.cons vI (.cons (.own T204 400000 false) (.cons (.own T209 400001 false) .nl)))))))),(1,(.box T175 (.agg (.cons (.int .i64) (.cons (.int .i64) (.cons (.int .i64) (.cons (.sl T204) (.cons (.sl T209) .nl))))) (.cons vI (.cons vI (.cons vI (.cons (.own T204 400100 false) (.cons (.own T209 400101 false) .nl)))))))),(4,(.box T204 (.agg (.cons (.int .u8) (.cons (.int .i64) (.cons (.sl T143) .nl))) (.cons (.val (.int .u8)) (.cons vI (.cons (.own T143 400400 false) .nl)))))),(8,(.val (.sl .str))),(9,vI),(10,vI)]
def rO0:=li [(3,vS),(8,(.val (.sl .str))),(9,vI),(10,vI),(21,vI)] [(0,(.box T175 (.agg (.cons (.int .i64) (.cons (.int .i64) (.cons (.int .i64) (.cons (.sl T204) (.cons (.sl T209) .nl))))) (.cons vI (.cons vI (.cons vI (.cons (.own T204 400000 false) (.cons (.own T209 400001 false) .nl)))))))),(1,(.box T175 (.agg (.cons (.int .i64) (.cons (.int .i64) (.cons (.int .i64) (.cons (.sl T204) (.cons (.sl T209) .nl))))) (.cons vI (.cons vI (.cons vI (.cons (.own T204 400100 false) (.cons (.own T209 400101 false) .nl)))))))),(4,(.box T204 (.agg (.cons (.int .u8) (.cons (.int .i64) (.cons (.sl T143) .nl))) (.cons (.val (.int .u8)) (.cons vI (.cons (.own T143 400400 false) .nl)))))),(22,vI)] tU4 uG7 uM2 (fun y x=>[ex 4 none sF3 ((tJ0 y x),(tJ1 y x),(tJ2 y x),y.2.1,y.2.2.1,y.2.2.2.1,())]) [sF3]
abbrev vW6:Type:=((List (List UInt8))×Int×Unit)
abbrev vF8:Type:=((Int×Int×Int×(List D204)×(List D209)×Unit)×(Int×Int×Int×(List D204)×(List D209)×Unit)×Int×Unit)
def tM5 (y:vW6)(x:vF8):Prop×Bool×vF8:=
 let a8:=y.1
 let a9:=y.2.1
 let a0:=x.1
 let a1:=x.2.1
 let a10:=x.2.2.1
 let v11:=(decide (a10<a9))
 let v13:=(nth a8 a10 ([]:List UInt8))
 let v20:=(len v13)
 let y7:=(v13,a8,a9,a10,(Int.tdiv v20 (2:Int)),())
 let x7:=((a0.1,a0.2.1,a0.2.2.1,a0.2.2.2.1,a0.2.2.2.2.1,()),(a1.1,a1.2.1,a1.2.2.1,a1.2.2.2.1,a1.2.2.2.2.1,()),((IntKind.wrap .u8 (32+a10)),(600:Int),([]:List D143),()),(0:Int),())
 let e7:=(zB9 (tU4 y7) (uG7 y7) x7)
 let r7_4_0:=(tJ0 y7 e7)
 let r7_4_1:=(tJ1 y7 e7)
 let r7_4_2:=(tJ2 y7 e7)
 let v49:=([(r7_4_2.1,r7_4_2.2.1,r7_4_2.2.2.1,())]:List D204)
 ((v11=true→(InB a10 (len a8)∧(InR (32+a10)∧(InR (Int.tdiv v20 (2:Int))∧((xB7 (tU4 y7) (uG7 y7) (uM2 y7) x7)∧(((List.length r7_4_1.2.2.2.1+List.length v49:Nat):Int)≤4294967296∧InR (a10+1))))))),v11,((r7_4_0.1,r7_4_0.2.1,r7_4_0.2.2.1,r7_4_0.2.2.2.1,r7_4_0.2.2.2.2.1,()),(r7_4_1.1,r7_4_1.2.1,r7_4_1.2.2.1,(r7_4_1.2.2.2.1++v49),r7_4_1.2.2.2.2.1,()),(a10+1),()))
def uM3 y x:=(tM5 y x).1
def tU5 y x:=(tM5 y x).2.1
def uG8 y x:=(tM5 y x).2.2
instance (y x):Decidable (uM3 y x):=by unfold uM3 tM5;dsimp only;infer_instance
def sQ5 (y:vW6)(x:vF8):(Int×Int×Int×(List D204)×(List D209)×Unit):=
 let a0:=x.1
 (a0.1,a0.2.1,a0.2.2.1,a0.2.2.2.1,a0.2.2.2.2.1,())
def tJ3 (y:vW6)(x:vF8):(Int×Int×Int×(List D204)×(List D209)×Unit):=
 let a1:=x.2.1
 (a1.1,a1.2.1,a1.2.2.1,a1.2.2.2.1,a1.2.2.2.2.1,())
def sF4:List (Nat×Sh):=[(0,(.box T175 (.agg (.cons (.int .i64) (.cons (.int .i64) (.cons (.int .i64) (.cons (.sl T204) (.cons (.sl T209) .nl))))) (.cons vI (.cons vI (.cons vI (.cons (.own T204 400000 false) (.cons (.own T209 400001 false) .nl)))))))),(1,(.box T175 (.agg (.cons (.int .i64) (.cons (.int .i64) (.cons (.int .i64) (.cons (.sl T204) (.cons (.sl T209) .nl))))) (.cons vI (.cons vI (.cons vI (.cons (.own T204 400100 false) (.cons (.own T209 400101 false) .nl))))))))]
def rO1:=li [(8,(.val (.sl .str))),(9,vI)] [(0,(.box T175 (.agg (.cons (.int .i64) (.cons (.int .i64) (.cons (.int .i64) (.cons (.sl T204) (.cons (.sl T209) .nl))))) (.cons vI (.cons vI (.cons vI (.cons (.own T204 400000 false) (.cons (.own T209 400001 false) .nl)))))))),(1,(.box T175 (.agg (.cons (.int .i64) (.cons (.int .i64) (.cons (.int .i64) (.cons (.sl T204) (.cons (.sl T209) .nl))))) (.cons vI (.cons vI (.cons vI (.cons (.own T204 400100 false) (.cons (.own T209 400101 false) .nl)))))))),(10,vI)] tU5 uG8 uM3 (fun y x=>[ex 2 none sF4 ((sQ5 y x),(tJ3 y x),())]) [sF4]
def pC4 :Prop×D175:=
 let v8:=(f145 lit0)
 let y3:=(v8,(len v8),())
 let x3:=(((0:Int),(0:Int),(0:Int),([]:List D204),([]:List D209),()),((1000:Int),(800:Int),(1200:Int),([]:List D204),([]:List D209),()),(0:Int),())
 let r3_2_1:=(tJ3 y3 (zB9 (tU5 y3) (uG8 y3) x3))
 let s_6:=(r3_2_1.1,r3_2_1.2.1,r3_2_1.2.2.1,r3_2_1.2.2.2.1,([((65:Int),(86:Int),(-100:Int),()),((76:Int),(84:Int),(-100:Int),()),((84:Int),(97:Int),(-100:Int),()),((86:Int),(65:Int),(-100:Int),())]:List D209),())
 (((tU0 lit0)∧(xB7 (tU5 y3) (uG8 y3) (uM3 y3) x3)),s_6)
def tE0 :Prop:=(pC4).1
def f125 :D175:=(pC4).2
instance:Decidable tE0:=by unfold tE0 pC4;dsimp only;infer_instance
def rT5:Am.Spec:=fnSpec [] (.val T175) [] (fun x=>tE0 ) (fun x=>f125 ) (fun _=>())
theorem pC5:SK 125 (fnSpec [] (.val T175) [] (fun x=>tE0 ) (fun x=>f125 ) (fun _=>())):=fb Tryz.func125 60 [kb pB7,kb pB9,kb pC3] [(3,rO1),(7,rO0)] [(21,[(4,0,43,400400)]),(25,[(4,0,50,400100)]),(29,[(4,0,57,400101)]),(31,[(4,0,400100,400000),(4,0,400101,400001)])]
abbrev vF9:Type:=((List (List D140))×D79×(List (List D140))×Int×Unit)
abbrev wX0:Type:=(Int×Int×Unit)
def uM4 (y:vF9)(x:wX0):Prop×Bool×wX0×Bool×Bool:=
 let a21:=y.2.2.1
 let a7:=x.1
 let a23:=x.2.1
 let v24:=(decide (a23<y.2.2.2.1))
 let v29:=(len (nth a21 a23 ([]:List D140)))
 let v30:=(a7+v29)
 let v32:=(decide (v30>4096))
 ((v24=true→(InB a23 (len a21)∧(InR (a7+v29)∧((!v32)=true→InR (a23+1))))),(v24&&(!v32)),(v30,(a23+1),()),(v24&&v32),(!v24))
def vL2 y x:=(uM4 y x).1
def uG9 y x:=(uM4 y x).2.1
def vG y x:=(uM4 y x).2.2.1
def tE1 y x:=(uM4 y x).2.2.2.1
def sF5 y x:=(uM4 y x).2.2.2.2
instance (y x):Decidable (vL2 y x):=by unfold vL2 uM4;dsimp only;infer_instance
def uH (y:vF9)(x:wX0):(List (List D140)):=
 ([]:List (List D140))
def tJ4 (y:vF9)(x:wX0):Int:=
 (3:Int)
def sF6:List (Nat×Sh):=[(4,(.own (.sl T140) 0 false)),(5,vI)]
def sF7:List (Nat×Sh):=[(0,(.val (.sl (.sl T140)))),(3,(.box T79 (.val T79)))]
def rO2:=li [(0,(.val (.sl (.sl T140)))),(3,(.box T79 (.val T79))),(21,(.val (.sl (.sl T140)))),(22,vI)] [(7,vI),(23,vI)] uG9 vG vL2 (fun y x=>[ex 1 (some (tE1 y x)) sF6 ((uH y x),(tJ4 y x),()),ex 2 (some (sF5 y x)) sF7 (y.1,y.2.1,())]) [sF6,sF7]
abbrev wP7:Type:=(D79×Int×(List (List D140))×Int×Int×(List D140)×Int×Unit)
abbrev wO0:Type:=(((List (List D140))×Nat)×Int×Unit)
def vW7 (y:wP7)(x:wO0):Prop×Bool×wO0×Bool×Bool:=
 let a3:=y.1
 let a11:=y.2.1
 let a50:=y.2.2.2.2.2.1
 let a10:=x.1
 let a52:=x.2.1
 let v53:=(decide (a52<y.2.2.2.2.2.2.1))
 let v55:=(nth a50 a52 Z140)
 let v58:=(f137 v55)
 let v61:=(f136 a3 v55)
 let v63:=(f137 v61)
 let v67:=(List.getD a10.1 a10.2 [])
 let c:=((!v58)&&(!v63))
 ((v53=true→(InB a52 (len a50)∧((uD6 v55)∧(((!v58)=true→((tD0 a3 v55)∧((uD6 v61)∧((!v63)=true→(InB a11 (len a10.1)∧((Int.toNat a11=a10.2∧a11<len a10.1)∧(InB a52 (len v67)∧a52<len v67)))))))∧(c=true→InR (a52+1)))))),(v53&&c),(((List.set a10.1 a10.2 (List.set (List.getD a10.1 a10.2 []) (Int.toNat a52) v61)),a10.2),(a52+1),()),(v53&&(v58||((!v58)&&v63))),(!v53))
def wT8 y x:=(vW7 y x).1
def wO1 y x:=(vW7 y x).2.1
def wL7 y x:=(vW7 y x).2.2.1
def tU6 y x:=(vW7 y x).2.2.2.1
def uQ6 y x:=(vW7 y x).2.2.2.2
instance (y x):Decidable (wT8 y x):=by unfold wT8 vW7;dsimp only;infer_instance
def vZ7 (y:wP7)(x:wO0):(List (List D140)):=
 ([]:List (List D140))
def uX3 (y:wP7)(x:wO0):Int:=
 (bif (f137 (nth y.2.2.2.2.2.1 x.2.1 Z140)) then (2:Int) else (2:Int))
def tU7:List (Nat×Sh):=[(4,(.own (.sl T140) 0 false)),(5,vI)]
def uX4 (y:wP7)(x:wO0):((List (List D140))×Nat):=
 let a10:=x.1
 (a10.1,a10.2)
def tU8:List (Nat×Sh):=[(3,(.box T79 (.val T79))),(10,(.ownh T140 1010 48 true)),(37,(.val (.sl (.sl T140)))),(38,vI),(39,vI)]
def rB:=li [(3,(.box T79 (.val T79))),(11,vI),(37,(.val (.sl (.sl T140)))),(38,vI),(39,vI),(50,(.val (.sl T140))),(51,vI)] [(10,(.ownh T140 1010 48 true)),(52,vI)] wO1 wL7 wT8 (fun y x=>[ex 1 (some (tU6 y x)) tU7 ((vZ7 y x),(uX3 y x),()),ex 6 (some (uQ6 y x)) tU8 (y.1,(uX4 y x),y.2.2.1,y.2.2.2.1,y.2.2.2.2.1,())]) [tU7,tU8]
abbrev wO2:Type:=(D79×(List (List D140))×Int×Unit)
abbrev wM9:Type:=((List (List D140))×Int×Unit)
def vW8 (y:wO2)(x:wM9):Prop×Bool×wM9×Bool×Bool:=
 let a37:=y.2.1
 let a38:=y.2.2.1
 let a10:=x.1
 let a39:=x.2.1
 let v40:=(decide (a39<a38))
 let v42:=(nth a37 a39 ([]:List D140))
 let v47:=(len v42)
 let y18:=(y.1,a39,a37,a38,a39,v42,(len v42),())
 let x18:=(((List.set a10 (Int.toNat a39) (List.replicate (Int.toNat v47) Z140)),(Int.toNat a39)),(0:Int),())
 let e18:=(zB9 (wO1 y18) (wL7 y18) x18)
 let q18_6:=(uQ6 y18 e18)
 ((v40=true→(InB a39 (len a37)∧((0≤v47∧v47≤v47∧v47≤4294967296)∧(InB a39 (len a10)∧(a39<len a10∧((xB7 (wO1 y18) (wL7 y18) (wT8 y18) x18)∧(q18_6=true→InR (a39+1)))))))),(v40&&q18_6),((uX4 y18 e18).1,(a39+1),()),(v40&&(tU6 y18 e18)),(!v40))
def wY y x:=(vW8 y x).1
def vD4 y x:=(vW8 y x).2.1
def wP0 y x:=(vW8 y x).2.2.1
def uQ7 y x:=(vW8 y x).2.2.2.1
def rB0 y x:=(vW8 y x).2.2.2.2
instance (y x):Decidable (wY y x):=by unfold wY vW8;dsimp only;infer_instance
def vZ8 (y:wO2)(x:wM9):(List (List D140)):=
 let a37:=y.2.1
 let a39:=x.2.1
 let v42:=(nth a37 a39 ([]:List D140))
 let y18:=(y.1,a39,a37,y.2.2.1,a39,v42,(len v42),())
 (vZ7 y18 (zB9 (wO1 y18) (wL7 y18) (((List.set x.1 (Int.toNat a39) (List.replicate (Int.toNat (len v42)) Z140)),(Int.toNat a39)),(0:Int),())))
def uX5 (y:wO2)(x:wM9):Int:=
 let a37:=y.2.1
 let a39:=x.2.1
 let v42:=(nth a37 a39 ([]:List D140))
 let y18:=(y.1,a39,a37,y.2.2.1,a39,v42,(len v42),())
 (uX3 y18 (zB9 (wO1 y18) (wL7 y18) (((List.set x.1 (Int.toNat a39) (List.replicate (Int.toNat (len v42)) Z140)),(Int.toNat a39)),(0:Int),())))
def tU9:List (Nat×Sh):=[(4,(.own (.sl T140) 0 false)),(5,vI)]
def vZ9 (y:wO2)(x:wM9):(List (List D140)):=
 x.1
def tV:List (Nat×Sh):=[(10,(.own (.sl T140) 1010 true))]
def rB1:=li [(3,(.box T79 (.val T79))),(37,(.val (.sl (.sl T140)))),(38,vI)] [(10,(.own (.sl T140) 1010 true)),(39,vI)] vD4 wP0 wY (fun y x=>[ex 1 (some (uQ7 y x)) tU9 ((vZ8 y x),(uX5 y x),()),ex 4 (some (rB0 y x)) tV ((vZ9 y x),())]) [tU9,tV]
def qG4 (p0:(List (List D140)))(p1:D79):Prop×((List (List D140))×Int×Unit):=
 let v17:=(f76 p1)
 let v19:=(v17 !=0)
 let y6:=(p0,p1,p0,(len p0),())
 let x6:=((0:Int),(0:Int),())
 let e6:=(zB9 (uG9 y6) (vG y6) x6)
 let q6_1:=(tE1 y6 e6)
 let v35:=(len p0)
 let y14:=(p1,p0,(len p0),())
 let x14:=((List.replicate (Int.toNat v35) ([]:List D140)),(0:Int),())
 let e14:=(zB9 (vD4 y14) (wP0 y14) x14)
 let q14_1:=(uQ7 y14 e14)
 (((uO7 p1)∧((!v19)=true→((xB7 (uG9 y6) (vG y6) (vL2 y6) x6)∧((sF5 y6 e6)=true→((0≤v35∧v35≤v35∧v35≤4294967296)∧(xB7 (vD4 y14) (wP0 y14) (wY y14) x14)))))),((bif v19 then [] else (bif q6_1 then (uH y6 e6) else (bif q14_1 then (vZ8 y14 e14) else (vZ9 y14 e14)))),(bif v19 then v17 else (bif q6_1 then (tJ4 y6 e6) else (bif q14_1 then (uX5 y14 e14) else (0:Int)))),()))
def tE2 p0 p1:=(qG4 p0 p1).1
def f126 p0 p1:=(qG4 p0 p1).2
instance (p0 p1):Decidable (tE2 p0 p1):=by unfold tE2 qG4;dsimp only;infer_instance
def rT6:=sp2 (.val (.sl (.sl T140))) (.val T79) (.tup (.cons (.val (.sl (.sl T140))) (.cons vI .nl))) tE2 f126
theorem pC6:SK 126 (sp2 (.val (.sl (.sl T140))) (.val T79) (.tup (.cons (.val (.sl (.sl T140))) (.cons vI .nl))) tE2 f126):=fb Tryz.func126 74 [kb rG7,kb rS4,kb sZ2] [(6,rO2),(14,rB1),(18,rB)] [(25,[(4,0,36,1010)]),(54,[(1,10,0,0)]),(57,[(1,4,0,0),(4,0,1010,0)])] false [] [36,48]
def qG5 (p0:D91):Prop×Int:=
 let v14:=(f124 f125 p0.2.2.2.2.2.2.2.2.2.2.2.2.2.2.2.2.2.2.2.2.2.2.2.1 p0.2.2.2.2.2.2.2.2.2.2.2.2.2.2.2.2.2.2.2.2.2.2.2.2.1 p0.2.2.2.2.2.2.2.2.2.2.2.2.2.2.2.2.2.2.2.2.2.2.2.2.2.1)
 let v18:=(v14.2.1 !=0)
 let v24:=(f126 v14.1 p0.2.2.2.2.2.2.2.2.2.2.1)
 let v28:=(v24.2.1 !=0)
 let v31:=(f123 v24.1 (0:Int))
 let v33:=(v31 !=0)
 ((tE0∧((tE f125 p0.2.2.2.2.2.2.2.2.2.2.2.2.2.2.2.2.2.2.2.2.2.2.2.1 p0.2.2.2.2.2.2.2.2.2.2.2.2.2.2.2.2.2.2.2.2.2.2.2.2.1 p0.2.2.2.2.2.2.2.2.2.2.2.2.2.2.2.2.2.2.2.2.2.2.2.2.2.1)∧((!v18)=true→((tE2 v14.1 p0.2.2.2.2.2.2.2.2.2.2.1)∧((!v28)=true→((uE6 v24.1 (0:Int))∧((!v33)=true→(uD3 p0.2.2.2.2.2.2.2.2.2.2.2.2.2.1)))))))),(bif v18 then v14.2.1 else (bif v28 then v24.2.1 else (bif v33 then v31 else (f105 p0.2.2.2.2.2.2.2.2.2.2.2.2.2.1)))))
def tE3 p0:=(qG5 p0).1
def f108 p0:=(qG5 p0).2
instance (p0):Decidable (tE3 p0):=by unfold tE3 qG5;dsimp only;infer_instance
def rT7:=sp1 (.val T91) vI tE3 f108
def qG6:=Cy [(105,rS2),(123,rS6),(124,rT3),(125,rT5),(126,rT6)] [] [(3,[(4,0,14,1003)])] 38
theorem pC7:SK 108 rT7:=fq (c:=qG6) Tryz.func108 ⟨sZ1,sZ7,pB3,pC5,pC6,trivial⟩
def rO3 (p0:Int)(p1:Int):Prop×Bool:=
 let v7:=(p0==2)
 let v11:=(p0==3)
 let v24:=(p0==4)
 let m23:=(bif v24 then v24 else (p0==11))
 let v29:=(p0==5)
 let m28:=(bif v29 then v29 else (p0==9))
 let v34:=(p0==6)
 let m33:=(bif v34 then v34 else (p0==7))
 let m4_3:=(bif v11 then (bif (bif (decide (p1≥4)) then (decide (p1≤16)) else false) then ((Int.tmod p1 (2:Int))==0) else false) else (bif m23 then (p1==2) else (bif m28 then (p1==3) else (bif m33 then (p1==1) else (p1==9)))))
 (True,(bif (bif v7 then true else (bif v11 then true else (bif m23 then true else (bif m28 then true else (bif m33 then true else (p0==8)))))) then (bif v7 then (p1==5) else m4_3) else (p1==0)))
def tV0 p0 p1:=(rO3 p0 p1).1
def f127 p0 p1:=(rO3 p0 p1).2
instance (p0 p1):Decidable (tV0 p0 p1):=by unfold tV0 rO3;dsimp only;infer_instance
theorem pC8:SK 127 (sp2 vI vI vB tV0 f127):=fb Tryz.func127 44
def pC9 (p0:Int)(p1:Int):Prop×(Int×Int×Unit):=
 let v12:=(bif (p0==2) then (p1==2) else false)
 let v15:=(p0==4)
 let v21:=(bif (p0==5) then (decide (p1>0)) else false)
 let m13_1:=(bif v15 then v15 else (bif v21 then v21 else (bif (p0==11) then (p1==1) else false)))
 let v30:=(p0==5)
 let v33:=(p0==7)
 let v36:=(p0==8)
 let c_8:=(bif v12 then true else (bif m13_1 then true else (bif v30 then true else (bif v33 then true else (bif v36 then true else (p0==11))))))
 let m4_5:=(bif c_8 then (bif v12 then (1:Int) else (bif m13_1 then (-65535:Int) else (bif v30 then (-32768:Int) else (bif v33 then (2:Int) else (bif v36 then (-262140:Int) else (-128:Int)))))) else (0:Int))
 let m5_5:=(bif c_8 then (bif v12 then (256:Int) else (bif m13_1 then (65535:Int) else (bif v30 then (32768:Int) else (bif v33 then (256:Int) else (bif v36 then (262140:Int) else (128:Int)))))) else (65535:Int))
 (True,(m4_5,m5_5,()))
def tV1 p0 p1:=(pC9 p0 p1).1
def f148 p0 p1:=(pC9 p0 p1).2
instance (p0 p1):Decidable (tV1 p0 p1):=by unfold tV1 pC9;dsimp only;infer_instance
theorem pD:SK 148 (sp2 vI vI (.tup (.cons vI (.cons vI .nl))) tV1 f148):=fb Tryz.func148 40
abbrev vO3:Type:=(Int×(List Int)×(List D137)×(List Int)×Int×Unit)
abbrev vA5:Type:=(Int×Unit)
def uM5 (y:vO3)(x:vA5):Prop×Bool×vA5×Bool×Bool:=
 let a0:=y.1
 let a13:=y.2.2.2.1
 let a15:=x.1
 let v16:=(decide (a15<y.2.2.2.2.1))
 let v18:=(nth a13 a15 (0:Int))
 let v23:=(f148 a0 a15)
 let v33:=(bif (decide (v18<v23.1)) then true else (decide (v18>v23.2.1)))
 ((v16=true→(InB a15 (len a13)∧((tV1 a0 a15)∧((!v33)=true→InR (a15+1))))),(v16&&(!v33)),((a15+1),()),(v16&&v33),(!v16))
def uM6 y x:=(uM5 y x).1
def tV2 y x:=(uM5 y x).2.1
def uH0 y x:=(uM5 y x).2.2.1
def sF8 y x:=(uM5 y x).2.2.2.1
def sF9 y x:=(uM5 y x).2.2.2.2
instance (y x):Decidable (uM6 y x):=by unfold uM6 uM5;dsimp only;infer_instance
def tJ5 (y:vO3)(x:vA5):Bool:=
 false
def sG:List (Nat×Sh):=[(0,vI),(1,(.val (.sl (.int .i64)))),(2,(.val (.sl T137)))]
def rO4:=li [(0,vI),(1,(.val (.sl (.int .i64)))),(2,(.val (.sl T137))),(13,(.val (.sl (.int .i64)))),(14,vI)] [(15,vI)] tV2 uH0 uM6 (fun y x=>[ex 1 (some (sF8 y x)) [(6,vB)] ((tJ5 y x),()),ex 2 (some (sF9 y x)) sG (y.1,y.2.1,y.2.2.1,())]) [[(6,vB)],sG]
abbrev vD5:Type:=((List D137)×Int×Unit)
abbrev wW4:Type:=(Int×Unit)
def vW9 (y:vD5)(x:wW4):Prop×Bool×wW4×Bool×Bool:=
 let a55:=y.1
 let a57:=x.1
 let v58:=(decide (a57<y.2.1))
 let v59:=(nth a55 a57 Z137)
 let v68:=(bif (decide (v59.1<0)) then true else (decide (v59.1>65535)))
 let v74:=(bif v68 then true else (!(f84 v59.2.1)))
 ((v58=true→(InB a57 (len a55)∧(((!v68)=true→(tH5 v59.2.1))∧((!v74)=true→InR (a57+1))))),(v58&&(!v74)),((a57+1),()),(v58&&v74),(!v58))
def uA y x:=(vW9 y x).1
def tE4 y x:=(vW9 y x).2.1
def uA0 y x:=(vW9 y x).2.2.1
def tV3 y x:=(vW9 y x).2.2.2.1
def rB2 y x:=(vW9 y x).2.2.2.2
instance (y x):Decidable (uA y x):=by unfold uA vW9;dsimp only;infer_instance
def uX6 (y:vD5)(x:wW4):Bool:=
 false
def rB3:=li [(55,(.val (.sl T137))),(56,vI)] [(57,vI)] tE4 uA0 uA (fun y x=>[ex 1 (some (tV3 y x)) [(6,vB)] ((uX6 y x),()),ex 4 (some (rB2 y x)) [] ()]) [[(6,vB)],[]]
def pD0 (p0:Int)(p1:List Int)(p2:List D137):Prop×Bool:=
 let y2:=(p0,p1,p2,p1,(len p1),())
 let x2:=((0:Int),())
 let e2:=(zB9 (tV2 y2) (uH0 y2) x2)
 let v36:=(p0==9)
 let v42:=(bif v36 then ((nth p1 (0:Int) (0:Int))==0) else false)
 let v48:=(bif v42 then ((nth p1 (1:Int) (0:Int))==0) else false)
 let v54:=(bif v48 then ((nth p1 (2:Int) (0:Int))==0) else false)
 let y11:=(p2,(len p2),())
 let x11:=((0:Int),())
 let e11:=(zB9 (tE4 y11) (uA0 y11) x11)
 (((xB7 (tV2 y2) (uH0 y2) (uM6 y2) x2)∧((sF9 y2 e2)=true→((v36=true→InB (0:Int) (len p1))∧((v42=true→InB (1:Int) (len p1))∧((v48=true→InB (2:Int) (len p1))∧((!v54)=true→(xB7 (tE4 y11) (uA0 y11) (uA y11) x11))))))),(bif (sF8 y2 e2) then (tJ5 y2 e2) else (bif v54 then false else (bif (tV3 y11 e11) then (uX6 y11 e11) else true))))
def tV4 p0 p1 p2:=(pD0 p0 p1 p2).1
def f128 p0 p1 p2:=(pD0 p0 p1 p2).2
instance (p0 p1 p2):Decidable (tV4 p0 p1 p2):=by unfold tV4 pD0;dsimp only;infer_instance
theorem pD1:SK 128 (sp3 vI (.val (.sl (.int .i64))) (.val (.sl T137)) vB tV4 f128):=fb Tryz.func128 76 [kb rG8,kb pD] [(2,rO4),(11,rB3)]
abbrev vO4:Type:=((List Int)×(List D137)×Unit)
abbrev vA6:Type:=(Int×Unit)
def uM7 (y:vO4)(x:vA6):Prop×Bool×vA6×Bool×Bool:=
 let a1:=y.1
 let a7:=x.1
 let v25:=(decide (a7<(len a1)))
 let v34:=(a7-2)
 let v37:=(decide ((nth a1 a7 (0:Int))≤(nth a1 v34 (0:Int))))
 ((v25=true→(InB a7 (len a1)∧(InR (a7-2)∧(InB v34 (len a1)∧((!v37)=true→InR (a7+2)))))),(v25&&(!v37)),((a7+2),()),(v25&&v37),(!v25))
def uM8 y x:=(uM7 y x).1
def tV5 y x:=(uM7 y x).2.1
def uH1 y x:=(uM7 y x).2.2.1
def sG0 y x:=(uM7 y x).2.2.2.1
def sG1 y x:=(uM7 y x).2.2.2.2
instance (y x):Decidable (uM8 y x):=by unfold uM8 uM7;dsimp only;infer_instance
def tJ6 (y:vO4)(x:vA6):Bool:=
 false
def rO5:=li [(1,(.val (.sl (.int .i64)))),(2,(.val (.sl T137)))] [(7,vI)] tV5 uH1 uM8 (fun y x=>[ex 1 (some (sG0 y x)) [(6,vB)] ((tJ6 y x),()),ex 2 (some (sG1 y x)) [(2,(.val (.sl T137)))] (y.2.1,())]) [[(6,vB)],[(2,(.val (.sl T137)))]]
abbrev vD6:Type:=((List D137)×Unit)
abbrev wW5:Type:=(Int×Unit)
def vX (y:vD6)(x:wW5):Prop×Bool×wW5×Bool×Bool:=
 let a2:=y.1
 let a8:=x.1
 let v41:=(decide (a8<(len a2)))
 let v51:=(a8-1)
 let v55:=(decide ((nth a2 a8 Z137).1≤(nth a2 v51 Z137).1))
 ((v41=true→(InB a8 (len a2)∧(InR (a8-1)∧(InB v51 (len a2)∧((!v55)=true→InR (a8+1)))))),(v41&&(!v55)),((a8+1),()),(v41&&v55),(!v41))
def vO5 y x:=(vX y x).1
def uM9 y x:=(vX y x).2.1
def vI2 y x:=(vX y x).2.2.1
def tV6 y x:=(vX y x).2.2.2.1
def rB4 y x:=(vX y x).2.2.2.2
instance (y x):Decidable (vO5 y x):=by unfold vO5 vX;dsimp only;infer_instance
def uX7 (y:vD6)(x:wW5):Bool:=
 false
def rB5:=li [(2,(.val (.sl T137)))] [(8,vI)] uM9 vI2 vO5 (fun y x=>[ex 1 (some (tV6 y x)) [(6,vB)] ((uX7 y x),()),ex 4 (some (rB4 y x)) [] ()]) [[(6,vB)],[]]
def pD2 (p0:Int)(p1:List Int)(p2:List D137):Prop×Bool:=
 let v10:=(p0==2)
 let v19:=(bif v10 then (decide ((nth p1 (1:Int) (0:Int))≤(nth p1 (0:Int) (0:Int)))) else false)
 let v21:=(p0==3)
 let y5:=(p1,p2,())
 let x5:=((2:Int),())
 let e5:=(zB9 (tV5 y5) (uH1 y5) x5)
 let y10:=((bif v21 then p2 else p2),())
 let x10:=((1:Int),())
 let e10:=(zB9 (uM9 y10) (vI2 y10) x10)
 (((v10=true→InB (1:Int) (len p1))∧((v10=true→InB (0:Int) (len p1))∧((!v19)=true→((v21=true→(xB7 (tV5 y5) (uH1 y5) (uM8 y5) x5))∧((bif v21 then (sG1 y5 e5) else true)=true→(xB7 (uM9 y10) (vI2 y10) (vO5 y10) x10)))))),(bif v19 then false else (bif ((sG0 y5 e5)&&v21) then (tJ6 y5 e5) else (bif (tV6 y10 e10) then (uX7 y10 e10) else true))))
def tV7 p0 p1 p2:=(pD2 p0 p1 p2).1
def f129 p0 p1 p2:=(pD2 p0 p1 p2).2
instance (p0 p1 p2):Decidable (tV7 p0 p1 p2):=by unfold tV7 pD2;dsimp only;infer_instance
theorem pD3:SK 129 (sp3 vI (.val (.sl (.int .i64))) (.val (.sl T137)) vB tV7 f129):=fb Tryz.func129 56 [] [(5,rO5),(10,rB5)]
def pD4 (p0:Int)(p1:List Int)(p2:List D137):Prop×Int:=
 let v13:=(bif (decide (p0<1)) then true else (decide (p0>11)))
 let v17:=(len p1)
 let v27:=(bif (!(f127 p0 v17)) then true else (!(Ty.eqb .bool (decide ((len p2)>0)) (p0==10))))
 let v31:=(decide ((len p2)>16))
 let v37:=(!(f128 p0 p1 p2))
 let m6_4:=(bif (bif v13 then true else (bif v27 then true else (bif v31 then true else (bif v37 then true else (!(f129 p0 p1 p2)))))) then (bif v13 then (8:Int) else (bif v27 then (1:Int) else (bif v31 then (3:Int) else (bif v37 then (2:Int) else (24:Int))))) else (0:Int))
 ((v13=false→((tV0 p0 v17)∧(v27=false→(v31=false→((tV4 p0 p1 p2)∧(v37=false→(tV7 p0 p1 p2))))))),m6_4)
def tV8 p0 p1 p2:=(pD4 p0 p1 p2).1
def f109 p0 p1 p2:=(pD4 p0 p1 p2).2
instance (p0 p1 p2):Decidable (tV8 p0 p1 p2):=by unfold tV8 pD4;dsimp only;infer_instance
theorem pD5:SK 109 (sp3 vI (.val (.sl (.int .i64))) (.val (.sl T137)) vI tV8 f109):=fb Tryz.func109 44 [kb pC8,kb pD1,kb pD3]
def pD6 (p0:Int):Prop×(List D140):=
 let v5:=(p0==1)
 let v6:=(p0==7)
 let m4_1:=(bif v5 then v5 else (bif v6 then v6 else (p0==8)))
 let v11:=(p0==2)
 let v15:=(p0==4)
 let v19:=(p0==3)
 let v24:=(p0==9)
 let m2_1:=(bif v19 then ([((0:Int),(16:Int),()),((0:Int),(262140:Int),())]:List D140) else (bif v24 then ([((-16:Int),(16:Int),()),((-16:Int),(16:Int),())]:List D140) else ([((1:Int),(16:Int),())]:List D140)))
 let m2_5:=(bif (bif m4_1 then true else (bif v11 then true else (bif v15 then true else (bif v19 then true else (bif v24 then true else (p0==10)))))) then (bif m4_1 then ([((0:Int),(16:Int),())]:List D140) else (bif v11 then ([((0:Int),(7:Int),())]:List D140) else (bif v15 then ([((0:Int),(4:Int),())]:List D140) else m2_1))) else [])
 (True,m2_5)
def tV9 p0:=(pD6 p0).1
def f130 p0:=(pD6 p0).2
instance (p0):Decidable (tV9 p0):=by unfold tV9 pD6;dsimp only;infer_instance
theorem pD7:SK 130 (sp1 vI (.own T140 0 false) tV9 f130):=fb Tryz.func130 32 [] [] [(11,[(4,0,9,0)]),(15,[(4,0,13,0)]),(19,[(4,0,17,0)]),(23,[(4,0,22,0)]),(27,[(4,0,27,0)]),(31,[(4,0,31,0)])]
abbrev vO6:Type:=((List D140)×(List Int)×Int×Unit)
abbrev vA7:Type:=(Int×Unit)
def uN (y:vO6)(x:vA7):Prop×Bool×vA7×Bool×Bool:=
 let a5:=y.1
 let a21:=y.2.1
 let a23:=x.1
 let v24:=(decide (a23<y.2.2.1))
 let v26:=(nth a21 a23 (0:Int))
 let v34:=(decide (v26<(nth a5 a23 Z140).1))
 let v43:=(bif v34 then true else (decide (v26>(nth a5 a23 Z140).2.1)))
 ((v24=true→(InB a23 (len a21)∧(InB a23 (len a5)∧(((!v34)=true→InB a23 (len a5))∧((!v43)=true→InR (a23+1)))))),(v24&&(!v43)),((a23+1),()),(v24&&v43),(!v24))
def uN0 y x:=(uN y x).1
def tW y x:=(uN y x).2.1
def uH2 y x:=(uN y x).2.2.1
def sG2 y x:=(uN y x).2.2.2.1
def rO6 y x:=(uN y x).2.2.2.2
instance (y x):Decidable (uN0 y x):=by unfold uN0 uN;dsimp only;infer_instance
def tJ7 (y:vO6)(x:vA7):Int:=
 (2:Int)
def rO7:=li [(5,(.own T140 1005 false)),(21,(.val (.sl (.int .i64)))),(22,vI)] [(23,vI)] tW uH2 uN0 (fun y x=>[ex 1 (some (sG2 y x)) [(4,vI)] ((tJ7 y x),()),ex 2 (some (rO6 y x)) [] ()]) [[(4,vI)],[]]
def pD8 (p0:Int)(p1:List Int):Prop×Int:=
 let v13:=(bif (decide (p0<1)) then true else (decide (p0>10)))
 let v15:=(f130 p0)
 let v20:=((len p1)!=(len v15))
 let y7:=(v15,p1,(len p1),())
 let x7:=((0:Int),())
 let e7:=(zB9 (tW y7) (uH2 y7) x7)
 (((!v13)=true→((tV9 p0)∧((!v20)=true→(xB7 (tW y7) (uH2 y7) (uN0 y7) x7)))),(bif v13 then (8:Int) else (bif v20 then (1:Int) else (bif (sG2 y7 e7) then (tJ7 y7 e7) else (0:Int)))))
def tW0 p0 p1:=(pD8 p0 p1).1
def f110 p0 p1:=(pD8 p0 p1).2
instance (p0 p1):Decidable (tW0 p0 p1):=by unfold tW0 pD8;dsimp only;infer_instance
theorem pD9:SK 110 (sp2 vI (.val (.sl (.int .i64))) vI tW0 f110):=fb Tryz.func110 45 [kb pD7] [(7,rO7)] [(7,[(4,0,15,1005)])]
abbrev vO7:Type:=((List D140)×Int×Unit)
abbrev vA8:Type:=(Int×Unit)
def uN1 (y:vO7)(x:vA8):Prop×Bool×vA8×Bool×Bool:=
 let a43:=y.1
 let a45:=x.1
 let v46:=(decide (a45<y.2.1))
 let v47:=(nth a43 a45 Z140)
 let v66:=(bif (bif (bif (decide (v47.1<(-1048576))) then true else (decide (v47.1>1048576))) then true else (decide (v47.2.1<(-1048576)))) then true else (decide (v47.2.1>1048576)))
 ((v46=true→(InB a45 (len a43)∧((!v66)=true→InR (a45+1)))),(v46&&(!v66)),((a45+1),()),(v46&&v66),(!v46))
def uN2 y x:=(uN1 y x).1
def tW1 y x:=(uN1 y x).2.1
def uH3 y x:=(uN1 y x).2.2.1
def sG3 y x:=(uN1 y x).2.2.2.1
def rO8 y x:=(uN1 y x).2.2.2.2
instance (y x):Decidable (uN2 y x):=by unfold uN2 uN1;dsimp only;infer_instance
def tJ8 (y:vO7)(x:vA8):Int:=
 (2:Int)
def rO9:=li [(43,(.val (.sl T140))),(44,vI)] [(45,vI)] tW1 uH3 uN2 (fun y x=>[ex 1 (some (sG3 y x)) [(2,vI)] ((tJ8 y x),()),ex 2 (some (rO8 y x)) [] ()]) [[(2,vI)],[]]
def pE (p0:D89):Prop×Int:=
 let v22:=(bif (bif (bif (decide (p0.1<2)) then true else (decide (p0.1>8))) then true else (decide (p0.2.1<2))) then true else (decide (p0.2.1>8)))
 let v30:=(bif (decide (p0.2.2.1<1)) then true else (decide (p0.2.2.1>256)))
 let v41:=(bif v30 then true else ((len p0.2.2.2.1)!=(p0.1*p0.2.1)))
 let y6:=(p0.2.2.2.1,(len p0.2.2.2.1),())
 let x6:=((0:Int),())
 let e6:=(zB9 (tW1 y6) (uH3 y6) x6)
 (((!v22)=true→(((!v30)=true→InR (p0.1*p0.2.1))∧((!v41)=true→(xB7 (tW1 y6) (uH3 y6) (uN2 y6) x6)))),(bif v22 then (15:Int) else (bif v41 then (15:Int) else (bif (sG3 y6 e6) then (tJ8 y6 e6) else (0:Int)))))
def tW2 p0:=(pE p0).1
def f111 p0:=(pE p0).2
instance (p0):Decidable (tW2 p0):=by unfold tW2 pE;dsimp only;infer_instance
theorem pE0:SK 111 (sp1 (.val T89) vI tW2 f111):=fb Tryz.func111 68 [] [(6,rO9)]
def f80t (p0:D91):Prop×Int:=
 let v6:=(p0.2.1==2)
 let v11:=(p0.2.1==3)
 let v16:=(p0.2.1==4)
 let v27:=(p0.2.1==5)
 let v31:=(p0.2.1==6)
 let v35:=(p0.2.1==7)
 let v44:=(p0.2.1==8)
 let v51:=(p0.2.1==9)
 let m50:=(bif v51 then v51 else (p0.2.1==10))
 let v62:=(p0.2.1==11)
 let c_2:=(bif v44 then true else (bif m50 then (bif (decide (p0.2.2.2.2.2.2.2.2.2.2.2.2.2.2.2.2.2.2.2.2.2.2.2.2.2.2.1<1)) then true else (decide (p0.2.2.2.2.2.2.2.2.2.2.2.2.2.2.2.2.2.2.2.2.2.2.2.2.2.2.1>1073741824))) else v62))
 let m2_2:=(bif v35 then (f109 p0.2.2.2.2.2.2.2.2.2.2.2.2.2.2.1 p0.2.2.2.2.2.2.2.2.2.2.2.2.2.2.2.1 p0.2.2.2.2.2.2.2.2.2.2.2.2.2.2.2.2.2.1) else (bif v44 then (f110 p0.2.2.2.2.2.2.2.2.2.2.2.2.2.2.1 p0.2.2.2.2.2.2.2.2.2.2.2.2.2.2.2.1) else (bif m50 then (2:Int) else (f111 p0.2.2.2.2.2.2.2.2.2.2.2.2.2.2.2.2.2.2.2.2.2.2.2.2.2.2.2.1))))
 let m2_5:=(bif v16 then (f106 p0.2.2.2.2.2.2.2.2.2.2.2.2.2.2.1 p0.2.2.2.2.2.2.2.2.2.2.2.2.2.2.2.1 p0.2.2.2.2.2.2.2.2.2.2.2.2.2.2.2.2.1 p0.2.2.2.2.2.2.2.2.2.2.2.2.2.2.2.2.2.1) else (bif v27 then (f107 p0) else (bif v31 then (f108 p0) else m2_2)))
 let m2_8:=(bif (bif v6 then true else (bif v11 then true else (bif v16 then true else (bif v27 then true else (bif v31 then true else (bif v35 then true else c_2)))))) then (bif v6 then (f57 p0.2.2.2.2.2.2.2.2.2.2.2.2.1) else (bif v11 then (f105 p0.2.2.2.2.2.2.2.2.2.2.2.2.2.1) else m2_5)) else (0:Int))
 (((v6=true→(sD5 p0.2.2.2.2.2.2.2.2.2.2.2.2.1))∧(v6=false→((v11=true→(uD3 p0.2.2.2.2.2.2.2.2.2.2.2.2.2.1))∧(v11=false→((v16=true→(tP8 p0.2.2.2.2.2.2.2.2.2.2.2.2.2.2.1 p0.2.2.2.2.2.2.2.2.2.2.2.2.2.2.2.1 p0.2.2.2.2.2.2.2.2.2.2.2.2.2.2.2.2.1 p0.2.2.2.2.2.2.2.2.2.2.2.2.2.2.2.2.2.1))∧(v16=false→((v27=true→(tS p0))∧(v27=false→((v31=true→(tE3 p0))∧(v31=false→((v35=true→(tV8 p0.2.2.2.2.2.2.2.2.2.2.2.2.2.2.1 p0.2.2.2.2.2.2.2.2.2.2.2.2.2.2.2.1 p0.2.2.2.2.2.2.2.2.2.2.2.2.2.2.2.2.2.1))∧(v35=false→((v44=true→(tW0 p0.2.2.2.2.2.2.2.2.2.2.2.2.2.2.1 p0.2.2.2.2.2.2.2.2.2.2.2.2.2.2.2.1))∧(v44=false→(m50=false→(v62=true→(tW2 p0.2.2.2.2.2.2.2.2.2.2.2.2.2.2.2.2.2.2.2.2.2.2.2.2.2.2.2.1))))))))))))))))),m2_8)
def sQ6 p0:=(f80t p0).1
def f80 p0:=(f80t p0).2
instance (p0):Decidable (sQ6 p0):=by unfold sQ6 f80t;dsimp only;infer_instance
theorem pO5:SK 80 (sp1 (.val T91) vI sQ6 f80):=fb Tryz.func80 66 [kb qO2,kb sZ1,kb qW3,kb pA2,kb pC7,kb pD5,kb pD9,kb pE0]
def f81t (p0:D91):Prop×Bool:=
 let v17:=(bif (bif (!(Ty.eqb T79 p0.2.2.2.2.2.2.2.2.2.2.1 ((0:Int),(0:Int),(0:Int),(0:Int),(0:Int),(0:Int),()))) then true else (p0.2.2.2.2.2.2.2.2.2.2.2.1 !=0)) then true else (!(Ty.eqb T84 p0.2.2.2.2.2.2.2.2.2.2.2.2.2.1 ((0:Int),(0:Int),(0:Int),(0:Int),()))))
 let v54:=(bif (bif (bif (p0.2.2.2.2.2.2.2.2.2.2.2.2.2.2.1 !=0) then true else ((len p0.2.2.2.2.2.2.2.2.2.2.2.2.2.2.2.1)!=0)) then true else (p0.2.2.2.2.2.2.2.2.2.2.2.2.2.2.2.2.1 !=0)) then true else ((len p0.2.2.2.2.2.2.2.2.2.2.2.2.2.2.2.2.2.1)!=0))
 let v73:=(bif (bif (bif ((len p0.2.2.2.2.2.2.2.2.2.2.2.2.2.2.2.2.2.2.1)!=0) then true else (p0.2.2.2.2.2.2.2.2.2.2.2.2.2.2.2.2.2.2.2.1 !=0)) then true else (p0.2.2.2.2.2.2.2.2.2.2.2.2.2.2.2.2.2.2.2.2.1 !=0)) then true else (p0.2.2.2.2.2.2.2.2.2.2.2.2.2.2.2.2.2.2.2.2.2.1 !=0))
 let v91:=(bif (bif (!(p0.2.2.2.2.2.2.2.2.2.2.2.2.2.2.2.2.2.2.2.2.2.2.2.1==([]:List UInt8))) then true else (p0.2.2.2.2.2.2.2.2.2.2.2.2.2.2.2.2.2.2.2.2.2.2.2.2.1 !=0)) then true else (p0.2.2.2.2.2.2.2.2.2.2.2.2.2.2.2.2.2.2.2.2.2.2.2.2.2.1 !=0))
 let v112:=(bif (bif (p0.2.2.2.2.2.2.2.2.2.2.2.2.2.2.2.2.2.2.2.2.2.2.2.2.2.2.2.1.1==0) then (p0.2.2.2.2.2.2.2.2.2.2.2.2.2.2.2.2.2.2.2.2.2.2.2.2.2.2.2.1.2.1==0) else false) then (p0.2.2.2.2.2.2.2.2.2.2.2.2.2.2.2.2.2.2.2.2.2.2.2.2.2.2.2.1.2.2.1==0) else false)
 let m2:=(bif (bif v91 then true else (p0.2.2.2.2.2.2.2.2.2.2.2.2.2.2.2.2.2.2.2.2.2.2.2.2.2.2.1 !=0)) then false else (bif v112 then ((len p0.2.2.2.2.2.2.2.2.2.2.2.2.2.2.2.2.2.2.2.2.2.2.2.2.2.2.2.1.2.2.2.1)==0) else false))
 let m2_3:=(bif (bif (bif (p0.2.2.2.2.2.2.2.2.2.2.2.2.1.1 !=0) then true else (p0.2.2.2.2.2.2.2.2.2.2.2.2.1.2.1 !=0)) then true else ((len p0.2.2.2.2.2.2.2.2.2.2.2.2.1.2.2.1)!=0)) then false else (bif v54 then false else (bif (bif v73 then true else (p0.2.2.2.2.2.2.2.2.2.2.2.2.2.2.2.2.2.2.2.2.2.2.1 !=0)) then false else m2)))
 (True,(bif v17 then false else m2_3))
def sQ7 p0:=(f81t p0).1
def f81 p0:=(f81t p0).2
instance (p0):Decidable (sQ7 p0):=by unfold sQ7 f81t;dsimp only;infer_instance
theorem pO6:SK 81 (sp1 (.val T91) vB sQ7 f81):=fb Tryz.func81 120
def f82t (p0:D91):Prop×D91:=
 let s_1:=(p0.1,p0.2.1,p0.2.2.1,p0.2.2.2.1,p0.2.2.2.2.1,p0.2.2.2.2.2.1,p0.2.2.2.2.2.2.1,p0.2.2.2.2.2.2.2.1,p0.2.2.2.2.2.2.2.2.1,p0.2.2.2.2.2.2.2.2.2.1,((0:Int),(0:Int),(0:Int),(0:Int),(0:Int),(0:Int),()),p0.2.2.2.2.2.2.2.2.2.2.2)
 let m1:=(bif (f75 p0.2.1) then s_1 else p0)
 let s_2:=(m1.1,m1.2.1,m1.2.2.1,m1.2.2.2.1,m1.2.2.2.2.1,m1.2.2.2.2.2.1,m1.2.2.2.2.2.2.1,m1.2.2.2.2.2.2.2.1,m1.2.2.2.2.2.2.2.2.1,m1.2.2.2.2.2.2.2.2.2.1,m1.2.2.2.2.2.2.2.2.2.2.1,(0:Int),m1.2.2.2.2.2.2.2.2.2.2.2.2)
 let m1_1:=(bif (f78 m1.2.1) then s_2 else m1)
 let s_4:=(m1_1.1,m1_1.2.1,m1_1.2.2.1,m1_1.2.2.2.1,m1_1.2.2.2.2.1,m1_1.2.2.2.2.2.1,m1_1.2.2.2.2.2.2.1,m1_1.2.2.2.2.2.2.2.1,m1_1.2.2.2.2.2.2.2.2.1,m1_1.2.2.2.2.2.2.2.2.2.1,m1_1.2.2.2.2.2.2.2.2.2.2.1,m1_1.2.2.2.2.2.2.2.2.2.2.2.1,((0:Int),(0:Int),([]:List D84),()),m1_1.2.2.2.2.2.2.2.2.2.2.2.2.2)
 let s_6:=(m1_1.1,m1_1.2.1,m1_1.2.2.1,m1_1.2.2.2.1,m1_1.2.2.2.2.1,m1_1.2.2.2.2.2.1,m1_1.2.2.2.2.2.2.1,m1_1.2.2.2.2.2.2.2.1,m1_1.2.2.2.2.2.2.2.2.1,m1_1.2.2.2.2.2.2.2.2.2.1,m1_1.2.2.2.2.2.2.2.2.2.2.1,m1_1.2.2.2.2.2.2.2.2.2.2.2.1,m1_1.2.2.2.2.2.2.2.2.2.2.2.2.1,((0:Int),(0:Int),(0:Int),(0:Int),()),m1_1.2.2.2.2.2.2.2.2.2.2.2.2.2.2)
 let s_10:=(m1_1.1,m1_1.2.1,m1_1.2.2.1,m1_1.2.2.2.1,m1_1.2.2.2.2.1,m1_1.2.2.2.2.2.1,m1_1.2.2.2.2.2.2.1,m1_1.2.2.2.2.2.2.2.1,m1_1.2.2.2.2.2.2.2.2.1,m1_1.2.2.2.2.2.2.2.2.2.1,m1_1.2.2.2.2.2.2.2.2.2.2.1,m1_1.2.2.2.2.2.2.2.2.2.2.2.1,m1_1.2.2.2.2.2.2.2.2.2.2.2.2.1,m1_1.2.2.2.2.2.2.2.2.2.2.2.2.2.1,(0:Int),([]:List Int),(0:Int),([]:List D137),m1_1.2.2.2.2.2.2.2.2.2.2.2.2.2.2.2.2.2.2)
 let s_17:=(m1_1.1,m1_1.2.1,m1_1.2.2.1,m1_1.2.2.2.1,m1_1.2.2.2.2.1,m1_1.2.2.2.2.2.1,m1_1.2.2.2.2.2.2.1,m1_1.2.2.2.2.2.2.2.1,m1_1.2.2.2.2.2.2.2.2.1,m1_1.2.2.2.2.2.2.2.2.2.1,m1_1.2.2.2.2.2.2.2.2.2.2.1,m1_1.2.2.2.2.2.2.2.2.2.2.2.1,m1_1.2.2.2.2.2.2.2.2.2.2.2.2.1,((0:Int),(0:Int),(0:Int),(0:Int),()),m1_1.2.2.2.2.2.2.2.2.2.2.2.2.2.2.1,m1_1.2.2.2.2.2.2.2.2.2.2.2.2.2.2.2.1,m1_1.2.2.2.2.2.2.2.2.2.2.2.2.2.2.2.2.1,m1_1.2.2.2.2.2.2.2.2.2.2.2.2.2.2.2.2.2.1,([]:List D143),(0:Int),(0:Int),(0:Int),(0:Int),m1_1.2.2.2.2.2.2.2.2.2.2.2.2.2.2.2.2.2.2.2.2.2.2.2)
 let s_22:=(m1_1.1,m1_1.2.1,m1_1.2.2.1,m1_1.2.2.2.1,m1_1.2.2.2.2.1,m1_1.2.2.2.2.2.1,m1_1.2.2.2.2.2.2.1,m1_1.2.2.2.2.2.2.2.1,m1_1.2.2.2.2.2.2.2.2.1,m1_1.2.2.2.2.2.2.2.2.2.1,m1_1.2.2.2.2.2.2.2.2.2.2.1,m1_1.2.2.2.2.2.2.2.2.2.2.2.1,m1_1.2.2.2.2.2.2.2.2.2.2.2.2.1,((0:Int),(0:Int),(0:Int),(0:Int),()),m1_1.2.2.2.2.2.2.2.2.2.2.2.2.2.2.1,m1_1.2.2.2.2.2.2.2.2.2.2.2.2.2.2.2.1,m1_1.2.2.2.2.2.2.2.2.2.2.2.2.2.2.2.2.1,m1_1.2.2.2.2.2.2.2.2.2.2.2.2.2.2.2.2.2.1,m1_1.2.2.2.2.2.2.2.2.2.2.2.2.2.2.2.2.2.2.1,m1_1.2.2.2.2.2.2.2.2.2.2.2.2.2.2.2.2.2.2.2.1,m1_1.2.2.2.2.2.2.2.2.2.2.2.2.2.2.2.2.2.2.2.2.1,m1_1.2.2.2.2.2.2.2.2.2.2.2.2.2.2.2.2.2.2.2.2.2.1,m1_1.2.2.2.2.2.2.2.2.2.2.2.2.2.2.2.2.2.2.2.2.2.2.1,([]:List UInt8),(0:Int),(0:Int),m1_1.2.2.2.2.2.2.2.2.2.2.2.2.2.2.2.2.2.2.2.2.2.2.2.2.2.2)
 let s_25:=(m1_1.1,m1_1.2.1,m1_1.2.2.1,m1_1.2.2.2.1,m1_1.2.2.2.2.1,m1_1.2.2.2.2.2.1,m1_1.2.2.2.2.2.2.1,m1_1.2.2.2.2.2.2.2.1,m1_1.2.2.2.2.2.2.2.2.1,m1_1.2.2.2.2.2.2.2.2.2.1,m1_1.2.2.2.2.2.2.2.2.2.2.1,m1_1.2.2.2.2.2.2.2.2.2.2.2.1,m1_1.2.2.2.2.2.2.2.2.2.2.2.2.1,m1_1.2.2.2.2.2.2.2.2.2.2.2.2.2.1,(0:Int),([]:List Int),m1_1.2.2.2.2.2.2.2.2.2.2.2.2.2.2.2.2.1,([]:List D137),m1_1.2.2.2.2.2.2.2.2.2.2.2.2.2.2.2.2.2.2)
 let s_27:=(m1_1.1,m1_1.2.1,m1_1.2.2.1,m1_1.2.2.2.1,m1_1.2.2.2.2.1,m1_1.2.2.2.2.2.1,m1_1.2.2.2.2.2.2.1,m1_1.2.2.2.2.2.2.2.1,m1_1.2.2.2.2.2.2.2.2.1,m1_1.2.2.2.2.2.2.2.2.2.1,m1_1.2.2.2.2.2.2.2.2.2.2.1,m1_1.2.2.2.2.2.2.2.2.2.2.2.1,m1_1.2.2.2.2.2.2.2.2.2.2.2.2.1,m1_1.2.2.2.2.2.2.2.2.2.2.2.2.2.1,(0:Int),([]:List Int),m1_1.2.2.2.2.2.2.2.2.2.2.2.2.2.2.2.2)
 let v54:=(m1_1.2.1==9)
 let s_28:=(m1_1.1,m1_1.2.1,m1_1.2.2.1,m1_1.2.2.2.1,m1_1.2.2.2.2.1,m1_1.2.2.2.2.2.1,m1_1.2.2.2.2.2.2.1,m1_1.2.2.2.2.2.2.2.1,m1_1.2.2.2.2.2.2.2.2.1,m1_1.2.2.2.2.2.2.2.2.2.1,m1_1.2.2.2.2.2.2.2.2.2.2.1,m1_1.2.2.2.2.2.2.2.2.2.2.2.1,m1_1.2.2.2.2.2.2.2.2.2.2.2.2.1,m1_1.2.2.2.2.2.2.2.2.2.2.2.2.2.1,m1_1.2.2.2.2.2.2.2.2.2.2.2.2.2.2.1,m1_1.2.2.2.2.2.2.2.2.2.2.2.2.2.2.2.1,m1_1.2.2.2.2.2.2.2.2.2.2.2.2.2.2.2.2.1,m1_1.2.2.2.2.2.2.2.2.2.2.2.2.2.2.2.2.2.1,m1_1.2.2.2.2.2.2.2.2.2.2.2.2.2.2.2.2.2.2.1,m1_1.2.2.2.2.2.2.2.2.2.2.2.2.2.2.2.2.2.2.2.1,m1_1.2.2.2.2.2.2.2.2.2.2.2.2.2.2.2.2.2.2.2.2.1,m1_1.2.2.2.2.2.2.2.2.2.2.2.2.2.2.2.2.2.2.2.2.2.1,m1_1.2.2.2.2.2.2.2.2.2.2.2.2.2.2.2.2.2.2.2.2.2.2.1,m1_1.2.2.2.2.2.2.2.2.2.2.2.2.2.2.2.2.2.2.2.2.2.2.2.1,m1_1.2.2.2.2.2.2.2.2.2.2.2.2.2.2.2.2.2.2.2.2.2.2.2.2.1,m1_1.2.2.2.2.2.2.2.2.2.2.2.2.2.2.2.2.2.2.2.2.2.2.2.2.2.1,(0:Int),m1_1.2.2.2.2.2.2.2.2.2.2.2.2.2.2.2.2.2.2.2.2.2.2.2.2.2.2.2.1,())
 let s_30:=(m1_1.1,m1_1.2.1,m1_1.2.2.1,m1_1.2.2.2.1,m1_1.2.2.2.2.1,m1_1.2.2.2.2.2.1,m1_1.2.2.2.2.2.2.1,m1_1.2.2.2.2.2.2.2.1,m1_1.2.2.2.2.2.2.2.2.1,m1_1.2.2.2.2.2.2.2.2.2.1,m1_1.2.2.2.2.2.2.2.2.2.2.1,m1_1.2.2.2.2.2.2.2.2.2.2.2.1,m1_1.2.2.2.2.2.2.2.2.2.2.2.2.1,m1_1.2.2.2.2.2.2.2.2.2.2.2.2.2.1,m1_1.2.2.2.2.2.2.2.2.2.2.2.2.2.2.1,m1_1.2.2.2.2.2.2.2.2.2.2.2.2.2.2.2.1,m1_1.2.2.2.2.2.2.2.2.2.2.2.2.2.2.2.2.1,m1_1.2.2.2.2.2.2.2.2.2.2.2.2.2.2.2.2.2.1,m1_1.2.2.2.2.2.2.2.2.2.2.2.2.2.2.2.2.2.2.1,m1_1.2.2.2.2.2.2.2.2.2.2.2.2.2.2.2.2.2.2.2.1,m1_1.2.2.2.2.2.2.2.2.2.2.2.2.2.2.2.2.2.2.2.2.1,m1_1.2.2.2.2.2.2.2.2.2.2.2.2.2.2.2.2.2.2.2.2.2.1,m1_1.2.2.2.2.2.2.2.2.2.2.2.2.2.2.2.2.2.2.2.2.2.2.1,m1_1.2.2.2.2.2.2.2.2.2.2.2.2.2.2.2.2.2.2.2.2.2.2.2.1,m1_1.2.2.2.2.2.2.2.2.2.2.2.2.2.2.2.2.2.2.2.2.2.2.2.2.1,m1_1.2.2.2.2.2.2.2.2.2.2.2.2.2.2.2.2.2.2.2.2.2.2.2.2.2.1,m1_1.2.2.2.2.2.2.2.2.2.2.2.2.2.2.2.2.2.2.2.2.2.2.2.2.2.2.1,((0:Int),(0:Int),(0:Int),([]:List D140),()),())
 let m1_6:=(bif (m1_1.2.1==6) then s_22 else (bif (m1_1.2.1==7) then s_25 else (bif (m1_1.2.1==8) then s_27 else (bif (bif v54 then v54 else (m1_1.2.1==10)) then s_28 else (bif (m1_1.2.1==11) then s_30 else m1_1)))))
 (((sD3 p0.2.1)∧(sD4 m1.2.1)),(bif (m1_1.2.1==2) then s_4 else (bif (m1_1.2.1==3) then s_6 else (bif (m1_1.2.1==4) then s_10 else (bif (m1_1.2.1==5) then s_17 else m1_6)))))
def sQ8 p0:=(f82t p0).1
def f82 p0:=(f82t p0).2
instance (p0):Decidable (sQ8 p0):=by unfold sQ8 f82t;dsimp only;infer_instance
theorem pO7:SK 82 (sp1 (.val T91) (.val T91) sQ8 f82):=fb Tryz.func82 62 [kb qO0,kb qO1]
def f53t (p0:D91)(p1:Int)(p2:Int):Prop×Int:=
 let v15:=(f74 p0 p1 p2)
 let v17:=(v15 !=0)
 let v21:=(f75 p0.2.1)
 let v24:=(f76 p0.2.2.2.2.2.2.2.2.2.2.1)
 let v26:=(v24 !=0)
 let v31:=(f77 p0.2.2.2.2.2.2.2.2.2.2.1)
 let v35:=(v31.2.1 !=0)
 let v39:=(f78 p0.2.1)
 let v45:=(bif v39 then (!(f79 p0.2.2.2.2.2.2.2.2.2.2.2.1)) else false)
 let v47:=(f80 p0)
 let v49:=(v47 !=0)
 let v52:=(f82 p0)
 let m6_5:=(bif v17 then v15 else (bif ((v26||((!v26)&&v35))&&v21) then (bif v26 then v24 else v31.2.1) else (bif v45 then (8:Int) else (bif v49 then v47 else (bif (!(f81 v52)) then (1:Int) else (0:Int))))))
 (((sQ0 p0 p1 p2)∧((!v17)=true→((sD3 p0.2.1)∧((v21=true→((uO7 p0.2.2.2.2.2.2.2.2.2.2.1)∧((!v26)=true→(sQ1 p0.2.2.2.2.2.2.2.2.2.2.1))))∧((bif v21 then ((!v26)&&(!v35)) else true)=true→((sD4 p0.2.1)∧((v39=true→(sQ2 p0.2.2.2.2.2.2.2.2.2.2.2.1))∧((!v45)=true→((sQ6 p0)∧((!v49)=true→((sQ8 p0)∧(sQ7 v52)))))))))))),m6_5)
def sQ9 p0 p1 p2:=(f53t p0 p1 p2).1
def f53 p0 p1 p2:=(f53t p0 p1 p2).2
instance (p0 p1 p2):Decidable (sQ9 p0 p1 p2):=by unfold sQ9 f53t;dsimp only;infer_instance
theorem pO8:SK 53 (sp3 (.val T91) vI vI vI sQ9 f53):=fb Tryz.func53 55 [kb pO1,kb qO0,kb rG7,kb pO2,kb qO1,kb pO3,kb pO5,kb pO6,kb pO7]
abbrev wY0:Type:=((List (Int×Int×Unit))×Int×D28×Unit)
abbrev wR:Type:=(Int×Unit)
def vD7 (y:wY0)(x:wR):Prop×Bool×wR×Bool×Bool:=
 let a2:=y.2.1
 let a3:=y.2.2.1
 let a7:=x.1
 let v16:=(a7 !=0)
 let v24:=(a7==(nth a3.2.2.2.1 a2 Z91).2.2.1)
 let v29:=(Option.getD (yN2 (.int .i64) (.int .i64) a7 y.1) (0:Int))
 ((v16=true→(InB a2 (len a3.2.2.2.1)∧((!v24)=true→InB v29 (len a3.2.2.2.1)))),(v16&&(!v24)),((nth a3.2.2.2.1 v29 Z91).2.2.1,()),(v16&&v24),(!v16))
def vG0 y x:=(vD7 y x).1
def vO8 y x:=(vD7 y x).2.1
def wX1 y x:=(vD7 y x).2.2.1
def uH4 y x:=(vD7 y x).2.2.2.1
def sR y x:=(vD7 y x).2.2.2.2
instance (y x):Decidable (vG0 y x):=by unfold vG0 vD7;dsimp only;infer_instance
def uP (y:wY0)(x:wR):Bool:=
 true
def tJ9:List (Nat×Sh):=[(1,(.own (xL8 (.int .i64) (.int .i64)) 400100 true)),(6,vB)]
def tK:List (Nat×Sh):=[(1,(.own (xL8 (.int .i64) (.int .i64)) 400100 true))]
def sR0:=li [(1,(.own (xL8 (.int .i64) (.int .i64)) 400100 true)),(2,vI),(3,(.box T28 (.val T28)))] [(7,vI)] vO8 wX1 vG0 (fun y x=>[ex 1 (some (uH4 y x)) tJ9 (y.1,(uP y x),()),ex 2 (some (sR y x)) tK (y.1,())]) [tJ9,tK]
def tW3 (p0:D28)(p1:(List (Int×Int×Unit)))(p2:Int):Prop×Bool×((List (Int×Int×Unit))×Unit):=
 let v11:=(p2-1)
 let y2:=(p1,p2,p0,())
 let x2:=((nth p0.2.2.2.1 v11 Z91).1,())
 let e2:=(zB9 (vO8 y2) (wX1 y2) x2)
 let q2_1:=(uH4 y2 e2)
 ((InR (p2-1)∧(InB v11 (len p0.2.2.2.1)∧(xB7 (vO8 y2) (wX1 y2) (vG0 y2) x2))),(bif q2_1 then (uP y2 e2) else false),((bif q2_1 then p1 else p1),()))
def uH5 p0 p1 p2:=(tW3 p0 p1 p2).1
def rT8 p0 p1 p2:=(tW3 p0 p1 p2).2.1
def uA1 p0 p1 p2:=(tW3 p0 p1 p2).2.2
instance (p0 p1 p2):Decidable (uH5 p0 p1 p2):=by unfold uH5 tW3;dsimp only;infer_instance
theorem rT9:SK 54 (fnSpec [(0,(.val T28)),(1,(.own (xL8 (.int .i64) (.int .i64)) 400100 true)),(2,vI)] vB [(1,(.own (xL8 (.int .i64) (.int .i64)) 400100 true))] (fun x=>uH5 x.1 x.2.1 x.2.2.1) (fun x=>rT8 x.1 x.2.1 x.2.2.1) (fun x=>uA1 x.1 x.2.1 x.2.2.1)):=fx (fun c=>{ c with maps:=maps }) Tryz.func54 33 [] [(2,sR0)] [] false [1]
abbrev uA2:Type:=(D28×(List D91)×Int×Unit)
abbrev vE6:Type:=((List (Int×Int×Unit))×(List Int)×Int×Unit)
def uQ8 (y:uA2)(x:vE6):Prop×Bool×vE6×Bool×Bool:=
 let a1:=y.1
 let a18:=y.2.1
 let a3:=x.1
 let a4:=x.2.1
 let a20:=x.2.2.1
 let v21:=(decide (a20<y.2.2.1))
 let v23:=(nth a18 a20 Z91)
 let v32:=((f53 v23 a1.1 a1.2.1)!=0)
 let v43:=(bif (decide (v23.1<1)) then true else (decide (v23.1≥a1.2.2.2.2.1)))
 let v50:=(Option.isSome (yN2 (.int .i64) (.int .i64) v23.1 a3))
 let l1004:=(List.set a4 (Int.toNat a20) (1:Int))
 let v57:=(v23.2.2.1 !=0)
 let v63:=(Option.getD (yN2 (.int .i64) (.int .i64) v23.2.2.1 a3) (0:Int))
 let v66:=(!(Option.isSome (yN2 (.int .i64) (.int .i64) v23.2.2.1 a3)))
 let v75:=(bif v66 then true else ((nth a1.2.2.2.1 v63 Z91).2.1 !=1))
 let v80:=(!(rT8 a1 a3 a20))
 let v86:=(nth l1004 v63 (0:Int))
 let c_3:=(bif v57 then ((!v75)&&(!v80)) else true)
 let m4:=(bif v57 then (List.set l1004 (Int.toNat a20) (v86+1)) else l1004)
 let v93:=(decide ((nth m4 a20 (0:Int))>8))
 let c_14:=((!v32)&&((!v43)&&((!v50)&&(c_3&&(!v93)))))
 ((v21=true→(InB a20 (len a18)∧((sQ9 v23 a1.1 a1.2.1)∧(((!v32)=true→((!v43)=true→((!v50)=true→(InB a20 (len a4)∧(a20<len a4∧((v57=true→(((!v66)=true→InB v63 (len a1.2.2.2.1))∧((!v75)=true→((uH5 a1 a3 a20)∧(0<List.length a3∧(List.length a3=List.length a3∧(List.length a3=List.length a3∧(List.length a3=List.length a3∧(List.length a3=List.length a3∧((!v80)=true→(InB v63 (len l1004)∧(v63<len l1004∧(InR (v86+1)∧(InB a20 (len l1004)∧a20<len l1004))))))))))))))∧(c_3=true→(InB a20 (len m4)∧a20<len m4))))))))∧(c_14=true→InR (a20+1)))))),(v21&&c_14),((xV7 (.int .i64) (.int .i64) v23.1 a20 (bif v57 then (uA1 a1 a3 a20).1 else a3)),m4,(a20+1),()),(v21&&(v32||((!v32)&&(v43||((!v43)&&(v50||((!v50)&&(((v75||((!v75)&&v80))&&v57)||(c_3&&v93))))))))),(!v21))
def vX0 y x:=(uQ8 y x).1
def uN3 y x:=(uQ8 y x).2.1
def vD8 y x:=(uQ8 y x).2.2.1
def sR1 y x:=(uQ8 y x).2.2.2.1
def rU y x:=(uQ8 y x).2.2.2.2
instance (y x):Decidable (vX0 y x):=by unfold vX0 uQ8;dsimp only;infer_instance
def tW4 (y:uA2)(x:vE6):Int:=
 let a1:=y.1
 let a3:=x.1
 let a20:=x.2.2.1
 let v23:=(nth y.2.1 a20 Z91)
 let v30:=(f53 v23 a1.1 a1.2.1)
 let v75:=(bif (!(Option.isSome (yN2 (.int .i64) (.int .i64) v23.2.2.1 a3))) then true else ((nth a1.2.2.2.1 (Option.getD (yN2 (.int .i64) (.int .i64) v23.2.2.1 a3) (0:Int)) Z91).2.1 !=1))
 let m2_2:=(bif (Option.isSome (yN2 (.int .i64) (.int .i64) v23.1 a3)) then (10:Int) else (bif ((v75||((!v75)&&(!(rT8 a1 a3 a20))))&&(v23.2.2.1 !=0)) then (bif v75 then (9:Int) else (24:Int)) else (12:Int)))
 (bif (v30 !=0) then v30 else (bif (bif (decide (v23.1<1)) then true else (decide (v23.1≥a1.2.2.2.2.1))) then (2:Int) else m2_2))
def rU0:=li [(1,(.box T28 (.val T28))),(18,(.val (.sl T91))),(19,vI)] [(3,(.own (xL8 (.int .i64) (.int .i64)) 1003 true)),(4,(.own (.int .i64) 1004 true)),(20,vI)] uN3 vD8 vX0 (fun y x=>[ex 1 (some (sR1 y x)) [(2,vI)] ((tW4 y x),()),ex 2 (some (rU y x)) [] ()]) [[(2,vI)],[]]
def f29t (p0:D28):Prop×Int:=
 let v15:=(len p0.2.2.2.1)
 let y4:=(p0,p0.2.2.2.1,(len p0.2.2.2.1),())
 let x4:=(([]:List (Int×Int×Unit)),(List.replicate (Int.toNat v15) (0:Int)),(0:Int),())
 let e4:=(zB9 (uN3 y4) (vD8 y4) x4)
 (((0≤v15∧v15≤v15∧v15≤4294967296)∧(xB7 (uN3 y4) (vD8 y4) (vX0 y4) x4)),(bif (sR1 y4 e4) then (tW4 y4 e4) else (0:Int)))
def sR2 p0:=(f29t p0).1
def f29 p0:=(f29t p0).2
instance (p0):Decidable (sR2 p0):=by unfold sR2 f29t;dsimp only;infer_instance
theorem pO9:SK 29 (sp1 (.val T28) vI sR2 f29):=fx (fun c=>{ c with wants:=[(54,[1])],maps:=maps }) Tryz.func29 99 [kb pO8,kb rT9] [(4,rU0)] [(3,[(4,0,12,1003)]),(5,[(4,0,16,1004)])] false [] [16]
abbrev uN4:Type:=(D28×D91×(List D91)×Int×Int×Unit)
abbrev uA3:Type:=(Int×Unit)
def tW5 (y:uN4)(x:uA3):Prop×Bool×uA3:=
 let a1:=y.1
 let a5:=x.1
 let v20:=(decide (a5≥0))
 let v30:=((nth a1.2.2.2.1 a5 Z91).2.2.1 !=y.2.1.2.2.1)
 let v39:=(bif v20 then (bif v30 then true else (nth a1.2.2.2.1 a5 Z91).2.2.2.2.2.2.1) else false)
 (((v20=true→InB a5 (len a1.2.2.2.1))∧(((v20&&(!v30))=true→InB a5 (len a1.2.2.2.1))∧(v39=true→InR (a5-1)))),v39,((a5-1),()))
def vX1 y x:=(tW5 y x).1
def vI3 y x:=(tW5 y x).2.1
def wT9 y x:=(tW5 y x).2.2
instance (y x):Decidable (vX1 y x):=by unfold vX1 tW5;dsimp only;infer_instance
def uQ9 (y:uN4)(x:uA3):Int:=
 x.1
def sR3:List (Nat×Sh):=[(1,(.box T28 (.val T28))),(5,vI),(7,(.val (.sl T91))),(8,vI),(9,vI)]
def rU1:=li [(1,(.box T28 (.val T28))),(4,(.box T91 (.val T91))),(7,(.val (.sl T91))),(8,vI),(9,vI)] [(5,vI)] vI3 wT9 vX1 (fun y x=>[ex 4 none sR3 (y.1,(uQ9 y x),y.2.2.1,y.2.2.2.1,y.2.2.2.2.1,())]) [sR3]
abbrev uA4:Type:=(Unit)
abbrev vI4:Type:=(D28×(List D91)×Int×Int×Unit)
def uR (y:uA4)(x:vI4):Prop×Bool×vI4×Bool×Bool:=
 let a1:=x.1
 let a7:=x.2.1
 let a8:=x.2.2.1
 let a9:=x.2.2.2.1
 let v10:=(decide (a9<a8))
 let v12:=(nth a7 a9 Z91)
 let v16:=(!v12.2.2.2.2.2.2.1)
 let y6:=(a1,v12,a7,a8,a9,())
 let x6:=((a9-1),())
 let r6_4_0:=(uQ9 y6 (zB9 (vI3 y6) (wT9 y6) x6))
 let v43:=(decide (r6_4_0<0))
 let v47:=(nth a1.2.2.2.1 r6_4_0 Z91)
 let v49:=(f55 v47)
 let c_5:=(v16||((!v16)&&((!v43)&&(!v49))))
 let m9:=(bif v16 then a9 else a9)
 ((v10=true→(InB a9 (len a7)∧(((!v16)=true→(InR (a9-1)∧((xB7 (vI3 y6) (wT9 y6) (vX1 y6) x6)∧((!v43)=true→(InB r6_4_0 (len a1.2.2.2.1)∧(tO8 v47))))))∧(c_5=true→InR (m9+1))))),(v10&&c_5),((bif v16 then a1 else a1),(bif v16 then a7 else a7),(bif v16 then a8 else a8),(m9+1),()),(v10&&((!v16)&&(v43||((!v43)&&v49)))),(!v10))
def uH6 y x:=(uR y x).1
def tM6 y x:=(uR y x).2.1
def vD9 y x:=(uR y x).2.2.1
def sR4 y x:=(uR y x).2.2.2.1
def rU2 y x:=(uR y x).2.2.2.2
instance (y x):Decidable (uH6 y x):=by unfold uH6 uR;dsimp only;infer_instance
def tW6 (y:uA4)(x:vI4):Int:=
 let a7:=x.2.1
 let a9:=x.2.2.2.1
 let y6:=(x.1,(nth a7 a9 Z91),a7,x.2.2.1,a9,())
 (bif (decide ((uQ9 y6 (zB9 (vI3 y6) (wT9 y6) ((a9-1),())))<0)) then (14:Int) else (8:Int))
def rU3:=li [] [(1,(.box T28 (.val T28))),(7,(.val (.sl T91))),(8,vI),(9,vI)] tM6 vD9 uH6 (fun y x=>[ex 1 (some (sR4 y x)) [(2,vI)] ((tW6 y x),()),ex 2 (some (rU2 y x)) [] ()]) [[(2,vI)],[]]
def f30t (p0:D28):Prop×Int:=
 let x2:=(p0,p0.2.2.2.1,(len p0.2.2.2.1),(0:Int),())
 let e2:=(zB9 (tM6 ()) (vD9 ()) x2)
 ((xB7 (tM6 ()) (vD9 ()) (uH6 ()) x2),(bif (sR4 () e2) then (tW6 () e2) else (0:Int)))
def sR5 p0:=(f30t p0).1
def f30 p0:=(f30t p0).2
instance (p0):Decidable (sR5 p0):=by unfold sR5 f30t;dsimp only;infer_instance
theorem pP:SK 30 (sp1 (.val T28) vI sR5 f30):=fb Tryz.func30 51 [kb rR5] [(2,rU3),(6,rU1)]
abbrev uA5:Type:=((List UInt8)×Int×Unit)
abbrev vI5:Type:=(Int×Unit)
def tE5 (y:uA5)(x:vI5):Prop×Bool×vI5×Bool×Bool:=
 let a0:=y.1
 let a14:=x.1
 let v15:=(decide (a14<y.2.1))
 let v20:=(decide ((wJ5 a0 a14)<33))
 let v26:=(bif v20 then true else (decide ((wJ5 a0 a14)>126)))
 ((v15=true→(InB a14 (len a0)∧(((!v20)=true→InB a14 (len a0))∧((!v26)=true→InR (a14+1))))),(v15&&(!v26)),((a14+1),()),(v15&&v26),(!v15))
def uX8 y x:=(tE5 y x).1
def sL0 y x:=(tE5 y x).2.1
def uR0 y x:=(tE5 y x).2.2.1
def sR6 y x:=(tE5 y x).2.2.2.1
def rU4 y x:=(tE5 y x).2.2.2.2
instance (y x):Decidable (uX8 y x):=by unfold uX8 tE5;dsimp only;infer_instance
def tW7 (y:uA5)(x:vI5):Bool:=
 false
def rU5:=li [(0,vS),(13,vI)] [(14,vI)] sL0 uR0 uX8 (fun y x=>[ex 1 (some (sR6 y x)) [(2,vB)] ((tW7 y x),()),ex 2 (some (rU4 y x)) [] ()]) [[(2,vB)],[]]
def f56t (p0:List UInt8):Prop×Bool:=
 let v11:=(bif (decide ((len p0)<1)) then true else (decide ((len p0)>32)))
 let y4:=(p0,(len p0),())
 let x4:=((0:Int),())
 let e4:=(zB9 (sL0 y4) (uR0 y4) x4)
 (((!v11)=true→(xB7 (sL0 y4) (uR0 y4) (uX8 y4) x4)),(bif v11 then false else (bif (sR6 y4 e4) then (tW7 y4 e4) else true)))
def sR7 p0:=(f56t p0).1
def f56 p0:=(f56t p0).2
instance (p0):Decidable (sR7 p0):=by unfold sR7 f56t;dsimp only;infer_instance
theorem pP0:SK 56 (sp1 vS vB sR7 f56):=fb Tryz.func56 28 [] [(4,rU5)]
abbrev uA6:Type:=(D28×D98×(List D98)×Int×Int×(List D98)×Int×Unit)
abbrev vI6:Type:=(Int×Unit)
def tE6 (y:uA6)(x:vI6):Prop×Bool×vI6×Bool×Bool:=
 let a4:=y.2.1
 let a53:=y.2.2.2.2.2.1
 let a55:=x.1
 let v56:=(decide (a55<y.2.2.2.2.2.2.1))
 let v57:=(nth a53 a55 Z98)
 let v70:=(bif (v57.1==a4.1) then true else (v57.2.1==a4.2.1))
 ((v56=true→(InB a55 (len a53)∧((!v70)=true→InR (a55+1)))),(v56&&(!v70)),((a55+1),()),(v56&&v70),(!v56))
def uX9 y x:=(tE6 y x).1
def tM7 y x:=(tE6 y x).2.1
def uA7 y x:=(tE6 y x).2.2.1
def tW8 y x:=(tE6 y x).2.2.2.1
def sR8 y x:=(tE6 y x).2.2.2.2
instance (y x):Decidable (uX9 y x):=by unfold uX9 tE6;dsimp only;infer_instance
def tW9 (y:uA6)(x:vI6):Int:=
 (10:Int)
def sR9:List (Nat×Sh):=[(1,(.box T28 (.val T28))),(4,(.box T98 (.val T98))),(9,(.val (.sl T98))),(10,vI),(11,vI)]
def rU6:=li [(1,(.box T28 (.val T28))),(4,(.box T98 (.val T98))),(9,(.val (.sl T98))),(10,vI),(11,vI),(53,(.val (.sl T98))),(54,vI)] [(55,vI)] tM7 uA7 uX9 (fun y x=>[ex 1 (some (tW8 y x)) [(2,vI)] ((tW9 y x),()),ex 4 (some (sR8 y x)) sR9 (y.1,y.2.1,y.2.2.1,y.2.2.2.1,y.2.2.2.2.1,())]) [[(2,vI)],sR9]
abbrev uA8:Type:=(D28×(List D98)×Int×Unit)
abbrev vI7:Type:=(Int×Unit)
def tE7 (y:uA8)(x:vI7):Prop×Bool×vI7×Bool×Bool:=
 let a1:=y.1
 let a9:=y.2.1
 let a10:=y.2.2.1
 let a11:=x.1
 let v12:=(decide (a11<a10))
 let v14:=(nth a9 a11 Z98)
 let v19:=(!(f56 v14.2.1))
 let v44:=(bif (bif (bif (bif (decide (v14.1<1)) then true else (decide (v14.1≥a1.2.2.2.2.1))) then true else (decide (v14.2.2.1<0))) then true else (decide (v14.2.2.1>2))) then true else (decide (v14.2.2.2.1<1)))
 let v49:=(bif v44 then true else (decide (v14.2.2.2.1>1073741824)))
 let v53:=(List.take (Int.toNat a11) a1.2.2.2.2.2.2.2.1)
 let y9:=(a1,v14,a9,a10,a11,v53,(len v53),())
 let x9:=((0:Int),())
 let e9:=(zB9 (tM7 y9) (uA7 y9) x9)
 let q9_4:=(sR8 y9 e9)
 let v76:=((f57 v14.2.2.2.2.1)!=0)
 let c_8:=((!v19)&&((!v49)&&(q9_4&&(!v76))))
 ((v12=true→(InB a11 (len a9)∧((sR7 v14.2.1)∧(((!v19)=true→((!v49)=true→((0≤a11∧a11≤len a1.2.2.2.2.2.2.2.1)∧((xB7 (tM7 y9) (uA7 y9) (uX9 y9) x9)∧(q9_4=true→(sD5 v14.2.2.2.2.1))))))∧(c_8=true→InR (a11+1)))))),(v12&&c_8),((a11+1),()),(v12&&(v19||((!v19)&&(v49||((!v49)&&((tW8 y9 e9)||(q9_4&&v76))))))),(!v12))
def uY y x:=(tE7 y x).1
def sL1 y x:=(tE7 y x).2.1
def uR1 y x:=(tE7 y x).2.2.1
def sS y x:=(tE7 y x).2.2.2.1
def rU7 y x:=(tE7 y x).2.2.2.2
instance (y x):Decidable (uY y x):=by unfold uY tE7;dsimp only;infer_instance
def tX (y:uA8)(x:vI7):Int:=
 let a1:=y.1
 let a9:=y.2.1
 let a11:=x.1
 let v14:=(nth a9 a11 Z98)
 let v44:=(bif (bif (bif (bif (decide (v14.1<1)) then true else (decide (v14.1≥a1.2.2.2.2.1))) then true else (decide (v14.2.2.1<0))) then true else (decide (v14.2.2.1>2))) then true else (decide (v14.2.2.2.1<1)))
 let v53:=(List.take (Int.toNat a11) a1.2.2.2.2.2.2.2.1)
 let y9:=(a1,v14,a9,y.2.2.1,a11,v53,(len v53),())
 let e9:=(zB9 (tM7 y9) (uA7 y9) ((0:Int),()))
 let m2_2:=(bif (!(f56 v14.2.1)) then (13:Int) else (bif (bif v44 then true else (decide (v14.2.2.2.1>1073741824))) then (2:Int) else (bif (tW8 y9 e9) then (tW9 y9 e9) else (f57 v14.2.2.2.2.1))))
 m2_2
def rU8:=li [(1,(.box T28 (.val T28))),(9,(.val (.sl T98))),(10,vI)] [(11,vI)] sL1 uR1 uY (fun y x=>[ex 1 (some (sS y x)) [(2,vI)] ((tX y x),()),ex 2 (some (rU7 y x)) [] ()]) [[(2,vI)],[]]
def f31t (p0:D28):Prop×Int:=
 let y2:=(p0,p0.2.2.2.2.2.2.2.1,(len p0.2.2.2.2.2.2.2.1),())
 let x2:=((0:Int),())
 let e2:=(zB9 (sL1 y2) (uR1 y2) x2)
 ((xB7 (sL1 y2) (uR1 y2) (uY y2) x2),(bif (sS y2 e2) then (tX y2 e2) else (0:Int)))
def sS0 p0:=(f31t p0).1
def f31 p0:=(f31t p0).2
instance (p0):Decidable (sS0 p0):=by unfold sS0 f31t;dsimp only;infer_instance
theorem pP1:SK 31 (sp1 (.val T28) vI sS0 f31):=fb Tryz.func31 79 [kb pP0,kb qO2] [(2,rU8),(9,rU6)]
def rB6 (p0:D91)(p1:Int):Prop×Bool:=
 (True,(p0.1==p1))
def uY0 p0 p1:=(rB6 p0 p1).1
def qO3 p0 p1:=(rB6 p0 p1).2
instance (p0 p1):Decidable (uY0 p0 p1):=by unfold uY0 rB6;dsimp only;infer_instance
theorem rU9:SK 87 (sp2 (.val T91) (.val (.ptr (.int .i64))) vB uY0 qO3):=fb Tryz.func87 8
abbrev wY1:Type:=((List D91)×(Int×Unit)×Int×Unit)
abbrev wR0:Type:=(Int×Unit)
def vL3 (y:wY1)(x:wR0):Prop×Bool×wR0×Bool×Bool:=
 let a0:=y.1
 let a1:=y.2.1
 let a8:=x.1
 let v9:=(decide (a8<y.2.2.1))
 let v14:=(nth a0 a8 Z91)
 let v16:=(qO3 v14 a1.1)
 ((v9=true→(InB a8 (len a0)∧((uY0 v14 a1.1)∧((!v16)=true→InR (a8+1))))),(v9&&(!v16)),((a8+1),()),(v9&&v16),(!v9))
def wZ0 y x:=(vL3 y x).1
def wO5 y x:=(vL3 y x).2.1
def wL8 y x:=(vL3 y x).2.2.1
def vG1 y x:=(vL3 y x).2.2.2.1
def sS1 y x:=(vL3 y x).2.2.2.2
instance (y x):Decidable (wZ0 y x):=by unfold wZ0 vL3;dsimp only;infer_instance
def vE7 (y:wY1)(x:wR0):Int:=
 x.1
def sS2:=li [(0,(.val (.sl T91))),(1,(.fn 87 (.cons (.val (.ptr (.int .i64))) .nl))),(7,vI)] [(8,vI)] wO5 wL8 wZ0 (fun y x=>[ex 1 (some (vG1 y x)) [(4,vI)] ((vE7 y x),()),ex 2 (some (sS1 y x)) [] ()]) [[(4,vI)],[]]
def rB7 (p0:List D91)(p1:(Int×Unit)):Prop×Int:=
 let y2:=(p0,(p1.1,()),(len p0),())
 let x2:=((0:Int),())
 let e2:=(zB9 (wO5 y2) (wL8 y2) x2)
 ((xB7 (wO5 y2) (wL8 y2) (wZ0 y2) x2),(bif (vG1 y2 e2) then (vE7 y2 e2) else (-1:Int)))
def uY1 p0 p1:=(rB7 p0 p1).1
def qO4 p0 p1:=(rB7 p0 p1).2
instance (p0 p1):Decidable (uY1 p0 p1):=by unfold uY1 rB7;dsimp only;infer_instance
theorem rV:SK 86 (sp2 (.val (.sl T91)) (.fn 87 (.cons (.val (.ptr (.int .i64))) .nl)) vI uY1 qO4):=fb Tryz.func86 19 [kb rU9] [(2,sS2)]
def f60t (p0:D28)(p1:Int):Prop×Int:=
 let s:=(p1,())
 ((uY1 p0.2.2.2.1 s),(qO4 p0.2.2.2.1 s))
def sG4 p0 p1:=(f60t p0 p1).1
def f60 p0 p1:=(f60t p0 p1).2
instance (p0 p1):Decidable (sG4 p0 p1):=by unfold sG4 f60t;dsimp only;infer_instance
theorem qO5:SK 60 (sp2 (.val T28) vI vI sG4 f60):=fb Tryz.func60 9 [kb rV] [] [(2,[(3,3,0,0)])]
def rB8 (p0:D98)(p1:D91):Prop×Bool:=
 (True,(p0.1==p1.2.2.2.2.2.2.2.2.2.2.2.2.2.2.2.2.2.2.2.2.2.2.2.2.2.2.1))
def uY2 p0 p1:=(rB8 p0 p1).1
def qO6 p0 p1:=(rB8 p0 p1).2
instance (p0 p1):Decidable (uY2 p0 p1):=by unfold uY2 rB8;dsimp only;infer_instance
theorem rV0:SK 59 (sp2 (.val T98) (.val (.ptr T91)) vB uY2 qO6):=fb Tryz.func59 9
abbrev wY2:Type:=((List D98)×(D91×Unit)×Int×Unit)
abbrev wR1:Type:=(Int×Unit)
def vL4 (y:wY2)(x:wR1):Prop×Bool×wR1×Bool×Bool:=
 let a0:=y.1
 let a1:=y.2.1
 let a8:=x.1
 let v9:=(decide (a8<y.2.2.1))
 let v14:=(nth a0 a8 Z98)
 let v16:=(qO6 v14 a1.1)
 ((v9=true→(InB a8 (len a0)∧((uY2 v14 a1.1)∧((!v16)=true→InR (a8+1))))),(v9&&(!v16)),((a8+1),()),(v9&&v16),(!v9))
def vR3 y x:=(vL4 y x).1
def uR2 y x:=(vL4 y x).2.1
def vT4 y x:=(vL4 y x).2.2.1
def tK0 y x:=(vL4 y x).2.2.2.1
def sS3 y x:=(vL4 y x).2.2.2.2
instance (y x):Decidable (vR3 y x):=by unfold vR3 vL4;dsimp only;infer_instance
def uP0 (y:wY2)(x:wR1):Int:=
 x.1
def sS4:=li [(0,(.val (.sl T98))),(1,(.fn 59 (.cons (.val (.ptr T91)) .nl))),(7,vI)] [(8,vI)] uR2 vT4 vR3 (fun y x=>[ex 1 (some (tK0 y x)) [(4,vI)] ((uP0 y x),()),ex 2 (some (sS3 y x)) [] ()]) [[(4,vI)],[]]
def rB9 (p0:List D98)(p1:(D91×Unit)):Prop×Int:=
 let y2:=(p0,(p1.1,()),(len p0),())
 let x2:=((0:Int),())
 let e2:=(zB9 (uR2 y2) (vT4 y2) x2)
 ((xB7 (uR2 y2) (vT4 y2) (vR3 y2) x2),(bif (tK0 y2 e2) then (uP0 y2 e2) else (-1:Int)))
def uH7 p0 p1:=(rB9 p0 p1).1
def qO7 p0 p1:=(rB9 p0 p1).2
instance (p0 p1):Decidable (uH7 p0 p1):=by unfold uH7 rB9;dsimp only;infer_instance
theorem rV1:SK 85 (sp2 (.val (.sl T98)) (.fn 59 (.cons (.val (.ptr T91)) .nl)) vI uH7 qO7):=fb Tryz.func85 19 [kb rV0] [(2,sS4)]
def rC (p0:List D98)(p1:(D91×Unit)):Prop×Bool:=
 let s:=(p1.1,())
 ((uH7 p0 s),(decide ((qO7 p0 s)≥0)))
def uH8 p0 p1:=(rC p0 p1).1
def qO8 p0 p1:=(rC p0 p1).2
instance (p0 p1):Decidable (uH8 p0 p1):=by unfold uH8 rC;dsimp only;infer_instance
theorem rV2:SK 58 (sp2 (.val (.sl T98)) (.fn 59 (.cons (.val (.ptr T91)) .nl)) vB uH8 qO8):=fb Tryz.func58 9 [kb rV1]
abbrev uA9:Type:=(D28×(List D91)×Int×Unit)
abbrev vI8:Type:=(Int×Unit)
def tE8 (y:uA9)(x:vI8):Prop×Bool×vI8×Bool×Bool:=
 let a1:=y.1
 let a7:=y.2.1
 let a9:=x.1
 let v10:=(decide (a9<y.2.2.1))
 let v11:=(nth a7 a9 Z91)
 let v16:=(v11.2.1==9)
 let s:=(v11,())
 let v21:=(!(qO8 a1.2.2.2.2.2.2.2.1 s))
 let v23:=(v11.2.1==10)
 let v27:=(f60 a1 v11.2.2.2.2.2.2.2.2.2.2.2.2.2.2.2.2.2.2.2.2.2.2.2.2.2.2.1)
 let v29:=(decide (v27<0))
 let v33:=(nth a1.2.2.2.1 v27 Z91)
 let v35:=(f55 v33)
 let c_6:=(bif v16 then (!v21) else (bif v23 then ((!v29)&&(!v35)) else true))
 ((v10=true→(InB a9 (len a7)∧((v16=true→(uH8 a1.2.2.2.2.2.2.2.1 s))∧((v16=false→(v23=true→((sG4 a1 v11.2.2.2.2.2.2.2.2.2.2.2.2.2.2.2.2.2.2.2.2.2.2.2.2.2.2.1)∧((!v29)=true→(InB v27 (len a1.2.2.2.1)∧(tO8 v33))))))∧(c_6=true→InR (a9+1)))))),(v10&&c_6),((a9+1),()),(v10&&(bif v16 then v21 else ((v29||((!v29)&&v35))&&v23))),(!v10))
def uY3 y x:=(tE8 y x).1
def sL2 y x:=(tE8 y x).2.1
def uR3 y x:=(tE8 y x).2.2.1
def sS5 y x:=(tE8 y x).2.2.2.1
def rV3 y x:=(tE8 y x).2.2.2.2
instance (y x):Decidable (uY3 y x):=by unfold uY3 tE8;dsimp only;infer_instance
def tX0 (y:uA9)(x:vI8):Int:=
 let v11:=(nth y.2.1 x.1 Z91)
 (bif (v11.2.1==9) then (9:Int) else (bif (decide ((f60 y.1 v11.2.2.2.2.2.2.2.2.2.2.2.2.2.2.2.2.2.2.2.2.2.2.2.2.2.2.1)<0)) then (9:Int) else (8:Int)))
def rV4:=li [(1,(.box T28 (.val T28))),(7,(.val (.sl T91))),(8,vI)] [(9,vI)] sL2 uR3 uY3 (fun y x=>[ex 1 (some (sS5 y x)) [(2,vI)] ((tX0 y x),()),ex 2 (some (rV3 y x)) [] ()]) [[(2,vI)],[]]
def f32t (p0:D28):Prop×Int:=
 let y2:=(p0,p0.2.2.2.1,(len p0.2.2.2.1),())
 let x2:=((0:Int),())
 let e2:=(zB9 (sL2 y2) (uR3 y2) x2)
 ((xB7 (sL2 y2) (uR3 y2) (uY3 y2) x2),(bif (sS5 y2 e2) then (tX0 y2 e2) else (0:Int)))
def sS6 p0:=(f32t p0).1
def f32 p0:=(f32t p0).2
instance (p0):Decidable (sS6 p0):=by unfold sS6 f32t;dsimp only;infer_instance
theorem pP2:SK 32 (sp1 (.val T28) vI sS6 f32):=fb Tryz.func32 37 [kb rR5,kb rV2,kb qO5] [(2,rV4)] [(12,[(3,4,0,0)])]
abbrev uY4:Type:=(Int×D28×(List D91)×Int×Unit)
abbrev vR4:Type:=((List Int)×Int×Unit)
def sL3 (y:uY4)(x:vR4):Prop×Bool×vR4:=
 let a1:=y.1
 let a2:=y.2.1
 let a18:=y.2.2.1
 let a5:=x.1
 let a20:=x.2.1
 let v21:=(decide (a20<y.2.2.2.1))
 let v33:=((nth a18 a20 Z91).2.2.1==(nth a2.2.2.2.1 a1 Z91).1)
 let v36:=([a20]:List Int)
 ((v21=true→(InB a20 (len a18)∧(InB a1 (len a2.2.2.2.1)∧((v33=true→((List.length a5+List.length v36:Nat):Int)≤4294967296)∧InR (a20+1))))),v21,((bif v33 then (a5++v36) else a5),(a20+1),()))
def vX2 y x:=(sL3 y x).1
def uN5 y x:=(sL3 y x).2.1
def vE y x:=(sL3 y x).2.2
instance (y x):Decidable (vX2 y x):=by unfold vX2 sL3;dsimp only;infer_instance
def uR4 (y:uY4)(x:vR4):(List Int):=
 x.1
def sS7:List (Nat×Sh):=[(5,(.own (.int .i64) 1005 false))]
def rV5:=li [(1,vI),(2,(.box T28 (.val T28))),(18,(.val (.sl T91))),(19,vI)] [(5,(.own (.int .i64) 1005 false)),(20,vI)] uN5 vE vX2 (fun y x=>[ex 3 none sS7 ((uR4 y x),())]) [sS7]
def f62t (p0:D28)(p1:Int):Prop×(List Int):=
 let v12:=(nth p0.2.2.2.1 p1 Z91)
 let v16:=(v12.2.1==1)
 let y5:=(p1,p0,p0.2.2.2.1,(len p0.2.2.2.1),())
 let x5:=(([]:List Int),(0:Int),())
 let v40:=(v12.2.1==10)
 let v45:=(nth p0.2.2.2.1 p1 Z91)
 let v48:=(f60 p0 v45.2.2.2.2.2.2.2.2.2.2.2.2.2.2.2.2.2.2.2.2.2.2.2.2.2.2.1)
 let v50:=(decide (v48≥0))
 let v53:=([v48]:List Int)
 ((InB p1 (len p0.2.2.2.1)∧((v16=true→(xB7 (uN5 y5) (vE y5) (vX2 y5) x5))∧(v16=false→(v40=true→(InB p1 (len p0.2.2.2.1)∧((sG4 p0 v45.2.2.2.2.2.2.2.2.2.2.2.2.2.2.2.2.2.2.2.2.2.2.2.2.2.2.1)∧(v50=true→(List.length v53:Int)≤4294967296))))))),(bif v16 then (uR4 y5 (zB9 (uN5 y5) (vE y5) x5)) else (bif v40 then (bif v50 then v53 else []) else [])))
def sG5 p0 p1:=(f62t p0 p1).1
def f62 p0 p1:=(f62t p0 p1).2
instance (p0 p1):Decidable (sG5 p0 p1):=by unfold sG5 f62t;dsimp only;infer_instance
def qG7:=sp2 (.val T28) vI (.own (.int .i64) 0 false) sG5 f62
theorem pP3:SK 62 (sp2 (.val T28) vI (.own (.int .i64) 0 false) sG5 f62):=fb Tryz.func62 56 [kb qO5] [(5,rV5)] [(17,[(4,0,37,1005)]),(27,[(4,0,54,1005)]),(29,[(4,0,1005,0)])]
abbrev wL9:Type:=Int→(List Bool)→(List Bool)→D28→Unit→Prop×Bool×((List Bool)×(List Bool)×D28×Unit)
def vX3 (r:wL9):Am.Spec:=fnSpec [(0,vI),(1,(.box (.sl .bool) (.own .bool 400100 true))),(2,(.box (.sl .bool) (.own .bool 400200 true))),(3,(.box T28 (.val T28))),(4,(.fptr 61 [some (1,(.sl .bool)),some (2,(.sl .bool)),some (3,T28),none]))] vB [(1,(.box (.sl .bool) (.own .bool 400100 true))),(2,(.box (.sl .bool) (.own .bool 400200 true))),(3,(.box T28 (.val T28)))] (fun x=>(r x.1 x.2.1 x.2.2.1 x.2.2.2.1 x.2.2.2.2.1).1) (fun x=>(r x.1 x.2.1 x.2.2.1 x.2.2.2.1 x.2.2.2.2.1).2.1) (fun x=>(r x.1 x.2.1 x.2.2.1 x.2.2.2.1 x.2.2.2.2.1).2.2)
abbrev wM4:Type:=(Int×Unit×(List Int)×Int×Unit)
abbrev wL3:Type:=((List Bool)×(List Bool)×D28×Int×Unit)
def vL5 (r:wL9)(y:wM4)(x:wL3):Prop×Bool×wL3×Bool×Bool:=
 let a29:=y.2.2.1
 let a1:=x.1
 let a2:=x.2.1
 let a3:=x.2.2.1
 let a31:=x.2.2.2.1
 let v32:=(decide (a31<y.2.2.2.1))
 let v33:=(nth a29 a31 (0:Int))
 let v37:=(r v33 a1 a2 a3 ()).2.1
 let v37o:=(r v33 a1 a2 a3 ()).2.2
 ((v32=true→(InB a31 (len a29)∧((r v33 a1 a2 a3 ()).1∧((!v37)=true→InR (a31+1))))),(v32&&(!v37)),(v37o.1,v37o.2.1,v37o.2.2.1,(a31+1),()),(v32&&v37),(!v32))
def wU (r:wL9)(y:wM4)(x:wL3):Prop:=((vL5 r) y x).1
def wP4 (r:wL9)(y:wM4)(x:wL3):Bool:=((vL5 r) y x).2.1
def wM2 (r:wL9)(y:wM4)(x:wL3):wL3:=((vL5 r) y x).2.2.1
def uH9 (r:wL9)(y:wM4)(x:wL3):Bool:=((vL5 r) y x).2.2.2.1
def tK1 (r:wL9)(y:wM4)(x:wL3):Bool:=((vL5 r) y x).2.2.2.2
instance (r:wL9) [∀ q0 q1 q2 q3 q4,Decidable (r q0 q1 q2 q3 q4).1] (y:wM4)(x:wL3):Decidable ((wU r) y x):=by
 unfold wU vL5
 try dsimp only
 infer_instance
def vT5 (r:wL9)(y:wM4)(x:wL3):(List Bool):=
 ((r (nth y.2.2.1 x.2.2.2.1 (0:Int)) x.1 x.2.1 x.2.2.1 ()).2.2).1
def vT6 (r:wL9)(y:wM4)(x:wL3):(List Bool):=
 ((r (nth y.2.2.1 x.2.2.2.1 (0:Int)) x.1 x.2.1 x.2.2.1 ()).2.2).2.1
def vT7 (r:wL9)(y:wM4)(x:wL3):D28:=
 ((r (nth y.2.2.1 x.2.2.2.1 (0:Int)) x.1 x.2.1 x.2.2.1 ()).2.2).2.2.1
def uP1 (r:wL9)(y:wM4)(x:wL3):Bool:=
 true
def tK2:List (Nat×Sh):=[(1,(.box (.sl .bool) (.own .bool 400100 true))),(2,(.box (.sl .bool) (.own .bool 400200 true))),(3,(.box T28 (.val T28))),(6,vB)]
def vT8 (r:wL9)(y:wM4)(x:wL3):(List Bool):=
 x.1
def vT9 (r:wL9)(y:wM4)(x:wL3):(List Bool):=
 x.2.1
def vU (r:wL9)(y:wM4)(x:wL3):D28:=
 x.2.2.1
def tK3:List (Nat×Sh):=[(0,vI),(1,(.box (.sl .bool) (.own .bool 400100 true))),(2,(.box (.sl .bool) (.own .bool 400200 true))),(3,(.box T28 (.val T28)))]
def uP2 (r:wL9):St→Option Out:=xT8 [(0,vI),(4,(.fptr 61 [some (1,(.sl .bool)),some (2,(.sl .bool)),some (3,T28),none])),(29,(.own (.int .i64) 29 false)),(30,vI)] [(1,(.box (.sl .bool) (.own .bool 400100 true))),(2,(.box (.sl .bool) (.own .bool 400200 true))),(3,(.box T28 (.val T28))),(31,vI)] (wP4 r) (wM2 r) (wU r) fun y x=>[ex 1 (some ((uH9 r) y x)) tK2 (((vT5 r) y x),((vT6 r) y x),((vT7 r) y x),((uP1 r) y x),()),ex 2 (some ((tK1 r) y x)) tK3 (y.1,((vT8 r) y x),((vT9 r) y x),((vU r) y x),())]
def uI (r:wL9)(p0:Int)(p1:List Bool)(p2:List Bool)(p3:D28)(p4:Unit):Prop×Bool×((List Bool)×(List Bool)×D28×Unit):=
 let v12:=(nth p1 p0 false)
 let v18:=(bif v12 then true else (nth p2 p0 false))
 let v29:=(f62 p3 p0)
 let y5:=(p0,(),v29,(len v29),())
 let x5:=(p1,(List.set p2 (Int.toNat p0) true),p3,(0:Int),())
 let e5:=(zB9 ((wP4 r) y5) ((wM2 r) y5) x5)
 let q5_1:=((uH9 r) y5 e5)
 let r5_2_0:=((vT8 r) y5 e5)
 ((InB p0 (len p1)∧(p0<len p1∧(((!v12)=true→InB p0 (len p2))∧(((!v12)=true→p0<len p2)∧((v18=true→(InB p0 (len p1)∧p0<len p1))∧((!v18)=true→(InB p0 (len p2)∧(p0<len p2∧((sG5 p3 p0)∧((xB7 ((wP4 r) y5) ((wM2 r) y5) ((wU r) y5) x5)∧(((tK1 r) y5 e5)=true→(InB p0 (len r5_2_0)∧p0<len r5_2_0)))))))))))),(bif v18 then (!(nth p1 p0 false)) else (bif q5_1 then ((uP1 r) y5 e5) else false)),((bif v18 then p1 else (bif q5_1 then ((vT5 r) y5 e5) else (List.set r5_2_0 (Int.toNat p0) true))),(bif v18 then p2 else (bif q5_1 then ((vT6 r) y5 e5) else ((vT9 r) y5 e5))),(bif v18 then p3 else (bif q5_1 then ((vT7 r) y5 e5) else ((vU r) y5 e5))),()))
def sG6 (r:wL9):Ctx:={ Cx tys [(61,vX3 r),(62,qG7)] [(5,(uP2 r))] [] false 42 [1,2,3] [] with wants:=[(61,[])],fts:=fts }
theorem sG7 (r:wL9)(hr:SpecOk Tryz.prog 61 (vX3 r)):CtxOk Tryz.prog (sG6 r):=cq ⟨hr,pP3,trivial⟩
noncomputable def rC0:Code:=Tryz.f61.body.getD .skip
noncomputable def sS8:Code:=wI9 rC0 0
theorem sS9 (r:wL9)(hr:SpecOk Tryz.prog 61 (vX3 r)):xC1 Tryz.prog (sG6 r) sS8:=lq (sG7 r hr) (sp:=(uP2 r)) rfl [tK2,tK3]
instance (r:wL9) [∀ q0 q1 q2 q3 q4,Decidable (r q0 q1 q2 q3 q4).1] (p0:Int)(p1:List Bool)(p2:List Bool)(p3:D28)(p4:Unit):Decidable (uI r p0 p1 p2 p3 p4).1:=by
 unfold uI
 try dsimp only
 infer_instance
theorem rC1 (r:wL9)(hr:SpecOk Tryz.prog 61 (vX3 r)):SpecOk Tryz.prog 61 (vX3 (uI r)):=wK5 (sG7 r hr) mixed Tryz.func61 (by kernel_rfl) (bs:=[sS8]) (by kernel_rfl) ⟨sS9 r hr,trivial⟩ fun x=>by kernel_rfl
def wW6:Nat→wL9
 |0=>fun _ _ _ _ _=>(False,false,(([]:List Bool),([]:List Bool),Z28,()))
 |k+1=>uI (wW6 k)
theorem sG8:∀ k,SpecOk Tryz.prog 61 (vX3 (wW6 k))
 |0=>wE9 Tryz.func61 (by kernel_rfl) (by decide)
 |k+1=>rC1 _ (sG8 k)
def tM8 (p0:Int)(p1:List Bool)(p2:List Bool)(p3:D28)(p4:Unit):Nat:=(List.length p1+1)
def uY5 (p0:Int)(p1:List Bool)(p2:List Bool)(p3:D28)(p4:Unit):Prop:=(wW6 (tM8 p0 p1 p2 p3 p4) p0 p1 p2 p3 p4).1
def qO9 (p0:Int)(p1:List Bool)(p2:List Bool)(p3:D28)(p4:Unit):Bool:=(wW6 (tM8 p0 p1 p2 p3 p4) p0 p1 p2 p3 p4).2.1
def sL4 (p0:Int)(p1:List Bool)(p2:List Bool)(p3:D28)(p4:Unit):((List Bool)×(List Bool)×D28×Unit):=(wW6 (tM8 p0 p1 p2 p3 p4) p0 p1 p2 p3 p4).2.2
def sG9:∀ (k:Nat) (p0:Int) (p1:List Bool) (p2:List Bool) (p3:D28) (p4:Unit),Decidable (wW6 k p0 p1 p2 p3 p4).1
 |0,_,_,_,_,_=>isFalse id
 |k+1,p0,p1,p2,p3,p4=>by
  have:∀ (q0:Int) (q1:List Bool) (q2:List Bool) (q3:D28) (q4:Unit),Decidable (wW6 k q0 q1 q2 q3 q4).1:=sG9 k;exact inferInstanceAs (Decidable (uI (wW6 k) p0 p1 p2 p3 p4).1)
instance (p0:Int)(p1:List Bool)(p2:List Bool)(p3:D28)(p4:Unit):Decidable (uY5 p0 p1 p2 p3 p4):=sG9 _ p0 p1 p2 p3 p4
def rC2:Am.Spec:=fnSpec [(0,vI),(1,(.box (.sl .bool) (.own .bool 400100 true))),(2,(.box (.sl .bool) (.own .bool 400200 true))),(3,(.box T28 (.val T28))),(4,(.fptr 61 [some (1,(.sl .bool)),some (2,(.sl .bool)),some (3,T28),none]))] vB [(1,(.box (.sl .bool) (.own .bool 400100 true))),(2,(.box (.sl .bool) (.own .bool 400200 true))),(3,(.box T28 (.val T28)))] (fun x=>uY5 x.1 x.2.1 x.2.2.1 x.2.2.2.1 x.2.2.2.2.1) (fun x=>qO9 x.1 x.2.1 x.2.2.1 x.2.2.2.1 x.2.2.2.2.1) (fun x=>sL4 x.1 x.2.1 x.2.2.1 x.2.2.2.1 x.2.2.2.2.1)
theorem rV6:SpecOk Tryz.prog 61 rC2:=wG4 (ps:=[(0,vI),(1,(.box (.sl .bool) (.own .bool 400100 true))),(2,(.box (.sl .bool) (.own .bool 400200 true))),(3,(.box T28 (.val T28))),(4,(.fptr 61 [some (1,(.sl .bool)),some (2,(.sl .bool)),some (3,T28),none]))]) (rs:=vB) (os:=[(1,(.box (.sl .bool) (.own .bool 400100 true))),(2,(.box (.sl .bool) (.own .bool 400200 true))),(3,(.box T28 (.val T28)))]) (R:=fun k x=>wW6 k x.1 x.2.1 x.2.2.1 x.2.2.2.1 x.2.2.2.2.1) sG8 fun x=>tM8 x.1 x.2.1 x.2.2.1 x.2.2.2.1 x.2.2.2.2.1
abbrev uB:Type:=(Unit×Int×Unit)
abbrev vA9:Type:=(D28×(List Bool)×(List Bool)×Int×Unit)
def tE9 (y:uB)(x:vA9):Prop×Bool×vA9×Bool×Bool:=
 let a1:=x.1
 let a3:=x.2.1
 let a4:=x.2.2.1
 let a19:=x.2.2.2.1
 let v20:=(decide (a19<y.2.1))
 let v24:=(qO9 a19 a4 a3 a1 ())
 let v24o:=(sL4 a19 a4 a3 a1 ())
 ((v20=true→((uY5 a19 a4 a3 a1 ())∧((!v24)=true→InR (a19+1)))),(v20&&(!v24)),(v24o.2.2.1,v24o.2.1,v24o.1,(a19+1),()),(v20&&v24),(!v20))
def uI0 y x:=(tE9 y x).1
def tM9 y x:=(tE9 y x).2.1
def uB0 y x:=(tE9 y x).2.2.1
def sT y x:=(tE9 y x).2.2.2.1
def rV7 y x:=(tE9 y x).2.2.2.2
instance (y x):Decidable (uI0 y x):=by unfold uI0 tE9;dsimp only;infer_instance
def tX1 (y:uB)(x:vA9):Bool:=
 true
def rV8:=li [(5,(.fptr 61 [some (4,(.sl .bool)),some (3,(.sl .bool)),some (1,T28),none])),(18,vI)] [(1,(.box T28 (.val T28))),(3,(.box (.sl .bool) (.own .bool 400300 true))),(4,(.box (.sl .bool) (.own .bool 400400 true))),(19,vI)] tM9 uB0 uI0 (fun y x=>[ex 1 (some (sT y x)) [(2,vB)] ((tX1 y x),()),ex 2 (some (rV7 y x)) [] ()]) [[(2,vB)],[]]
def f33t (p0:D28):Prop×Bool:=
 let v9:=(len p0.2.2.2.1)
 let v13:=(len p0.2.2.2.1)
 let y6:=((),(len p0.2.2.2.1),())
 let x6:=(p0,(List.replicate (Int.toNat v9) false),(List.replicate (Int.toNat v13) false),(0:Int),())
 let e6:=(zB9 (tM9 y6) (uB0 y6) x6)
 (((0≤v9∧v9≤v9∧v9≤4294967296)∧((0≤v13∧v13≤v13∧v13≤4294967296)∧(xB7 (tM9 y6) (uB0 y6) (uI0 y6) x6))),(bif (sT y6 e6) then (tX1 y6 e6) else false))
def sT0 p0:=(f33t p0).1
def f33 p0:=(f33t p0).2
instance (p0):Decidable (sT0 p0):=by unfold sT0 f33t;dsimp only;infer_instance
theorem pP4:SK 33 (sp1 (.val T28) vB sT0 f33):=fx (fun c=>{ c with wants:=[(61,[])],fts:=fts }) Tryz.func33 26 [kb rV6] [(6,rV8)] [(3,[(4,0,10,400300)]),(5,[(4,0,14,400400)])] false [] [10,14]
abbrev vO9:Type:=((List UInt8)×Int×Int×Unit)
abbrev vB0:Type:=(Int×Unit)
def uN6 (y:vO9)(x:vB0):Prop×Bool×vB0×Bool×Bool:=
 let a0:=y.1
 let a19:=x.1
 let v20:=(decide (a19<y.2.2.1))
 let v26:=(decide ((wJ5 a0 a19)<y.2.1))
 let v32:=(bif v26 then true else (decide ((wJ5 a0 a19)>126)))
 ((v20=true→(InB a19 (len a0)∧(((!v26)=true→InB a19 (len a0))∧((!v32)=true→InR (a19+1))))),(v20&&(!v32)),((a19+1),()),(v20&&v32),(!v20))
def uN7 y x:=(uN6 y x).1
def tX2 y x:=(uN6 y x).2.1
def uI1 y x:=(uN6 y x).2.2.1
def sH y x:=(uN6 y x).2.2.2.1
def rP y x:=(uN6 y x).2.2.2.2
instance (y x):Decidable (uN7 y x):=by unfold uN7 uN6;dsimp only;infer_instance
def tK4 (y:vO9)(x:vB0):Bool:=
 false
def rP0:=li [(0,vS),(2,(.val (.int .u8))),(18,vI)] [(19,vI)] tX2 uI1 uN7 (fun y x=>[ex 1 (some (sH y x)) [(6,vB)] ((tK4 y x),()),ex 2 (some (rP y x)) [] ()]) [[(6,vB)],[]]
def pE1 (p0:List UInt8)(p1:Int)(p2:Int):Prop×Bool:=
 let v16:=(bif (decide ((len p0)<1)) then true else (decide ((len p0)>p1)))
 let y4:=(p0,p2,(len p0),())
 let x4:=((0:Int),())
 let e4:=(zB9 (tX2 y4) (uI1 y4) x4)
 (((!v16)=true→(xB7 (tX2 y4) (uI1 y4) (uN7 y4) x4)),(bif v16 then false else (bif (sH y4 e4) then (tK4 y4 e4) else true)))
def tF p0 p1 p2:=(pE1 p0 p1 p2).1
def f113 p0 p1 p2:=(pE1 p0 p1 p2).2
instance (p0 p1 p2):Decidable (tF p0 p1 p2):=by unfold tF pE1;dsimp only;infer_instance
theorem rV9:SK 113 (sp3 vS vI (.val (.int .u8)) vB tF f113):=fb Tryz.func113 34 [] [(4,rP0)]
def f88t (p0:List UInt8):Prop×Bool:=
 ((tF p0 (32:Int) (33:Int)),(f113 p0 (32:Int) (33:Int)))
def rH1 p0:=(f88t p0).1
def f88 p0:=(f88t p0).2
instance (p0):Decidable (rH1 p0):=by unfold rH1 f88t;dsimp only;infer_instance
theorem pP5:SK 88 (sp1 vS vB rH1 f88):=fb Tryz.func88 5 [kb rV9]
def f89t (p0:List UInt8):Prop×Bool:=
 ((tF p0 (256:Int) (32:Int)),(f113 p0 (256:Int) (32:Int)))
def rH2 p0:=(f89t p0).1
def f89 p0:=(f89t p0).2
instance (p0):Decidable (rH2 p0):=by unfold rH2 f89t;dsimp only;infer_instance
theorem pP6:SK 89 (sp1 vS vB rH2 f89):=fb Tryz.func89 5 [kb rV9]
def f64t (p0:List D95)(p1:D95):Prop×Int:=
 let v8:=(!(f88 p1.1))
 let v12:=(!(f89 p1.2.1))
 let v15:=(decide ((len p0)>0))
 let v21:=(len p0)
 let v22:=(v21-1)
 let v23:=(nth p0 v22 Z95)
 (((rH1 p1.1)∧((!v8)=true→((rH2 p1.2.1)∧((!v12)=true→((v15=true→InR (v21-1))∧(v15=true→InB v22 (len p0))))))),(bif v8 then (13:Int) else (bif v12 then (4:Int) else (bif (bif v15 then (Op.bytesLess p1.1 v23.1||p1.1==v23.1) else false) then (24:Int) else (0:Int)))))
def sT1 p0 p1:=(f64t p0 p1).1
def f64 p0 p1:=(f64t p0 p1).2
instance (p0 p1):Decidable (sT1 p0 p1):=by unfold sT1 f64t;dsimp only;infer_instance
theorem pP7:SK 64 (sp2 (.val (.sl T95)) (.val T95) vI sT1 f64):=fb Tryz.func64 28 [kb pP5,kb pP6]
abbrev uB1:Type:=((List D95)×(List D95)×Int×Unit)
abbrev vI9:Type:=(Int×Unit)
def tF0 (y:uB1)(x:vI9):Prop×Bool×vI9×Bool×Bool:=
 let a0:=y.1
 let a9:=y.2.1
 let a11:=x.1
 let v12:=(decide (a11<y.2.2.1))
 let v14:=(nth a9 a11 Z95)
 let v18:=(List.take (Int.toNat a11) a0)
 let v22:=((f64 v18 v14)!=0)
 ((v12=true→(InB a11 (len a9)∧((0≤a11∧a11≤len a0)∧((sT1 v18 v14)∧((!v22)=true→InR (a11+1)))))),(v12&&(!v22)),((a11+1),()),(v12&&v22),(!v12))
def uY6 y x:=(tF0 y x).1
def sL5 y x:=(tF0 y x).2.1
def uR5 y x:=(tF0 y x).2.2.1
def sT2 y x:=(tF0 y x).2.2.2.1
def rW y x:=(tF0 y x).2.2.2.2
instance (y x):Decidable (uY6 y x):=by unfold uY6 tF0;dsimp only;infer_instance
def tX3 (y:uB1)(x:vI9):Int:=
 let a11:=x.1
 (f64 (List.take (Int.toNat a11) y.1) (nth y.2.1 a11 Z95))
def rW0:=li [(0,(.val (.sl T95))),(9,(.val (.sl T95))),(10,vI)] [(11,vI)] sL5 uR5 uY6 (fun y x=>[ex 1 (some (sT2 y x)) [(2,vI)] ((tX3 y x),()),ex 2 (some (rW y x)) [] ()]) [[(2,vI)],[]]
def f35t (p0:List D95):Prop×Int:=
 let v8:=(decide ((len p0)>16))
 let y4:=(p0,p0,(len p0),())
 let x4:=((0:Int),())
 let e4:=(zB9 (sL5 y4) (uR5 y4) x4)
 (((!v8)=true→(xB7 (sL5 y4) (uR5 y4) (uY6 y4) x4)),(bif v8 then (3:Int) else (bif (sT2 y4 e4) then (tX3 y4 e4) else (0:Int))))
def sT3 p0:=(f35t p0).1
def f35 p0:=(f35t p0).2
instance (p0):Decidable (sT3 p0):=by unfold sT3 f35t;dsimp only;infer_instance
theorem pP8:SK 35 (sp1 (.val (.sl T95)) vI sT3 f35):=fb Tryz.func35 25 [kb pP7] [(4,rW0)]
def f9t (p0:D28):Prop×Int:=
 let v10:=(f28 p0)
 let v12:=(v10 !=0)
 let v23:=(bif (decide ((len p0.2.2.2.1)>64)) then true else (decide ((len p0.2.2.2.2.2.2.2.1)>8)))
 let v31:=(bif (decide (p0.2.2.2.2.1<1)) then true else (decide (p0.2.2.2.2.1>1073741824)))
 let v33:=(f29 p0)
 let v35:=(v33 !=0)
 let v38:=(f30 p0)
 let v40:=(v38 !=0)
 let v43:=(f31 p0)
 let v45:=(v43 !=0)
 let v48:=(f32 p0)
 let v50:=(v48 !=0)
 let v53:=(f33 p0)
 let v56:=(f34 p0.2.2.2.2.2.1)
 let v58:=(v56 !=0)
 let v79:=(bif (p0.2.2.2.2.2.1.1 !=0) then (bif (p0.2.2.2.2.2.1.1 !=p0.1) then true else (p0.2.2.2.2.2.1.2.1 !=p0.2.1)) else false)
 let m2_6:=(bif v35 then v33 else (bif v40 then v38 else (bif v45 then v43 else (bif v50 then v48 else (bif v53 then (11:Int) else (bif v58 then v56 else (bif v79 then (15:Int) else (f35 p0.2.2.2.2.2.2.1))))))))
 (((sD0 p0)∧((!v12)=true→((!v23)=true→((!v31)=true→((sR2 p0)∧((!v35)=true→((sR5 p0)∧((!v40)=true→((sS0 p0)∧((!v45)=true→((sS6 p0)∧((!v50)=true→((sT0 p0)∧((!v53)=true→((sD1 p0.2.2.2.2.2.1)∧((!v58)=true→((!v79)=true→(sT3 p0.2.2.2.2.2.2.1)))))))))))))))))),(bif v12 then v10 else (bif v23 then (3:Int) else (bif v31 then (2:Int) else m2_6))))
def sC6 p0:=(f9t p0).1
def f9 p0:=(f9t p0).2
instance (p0):Decidable (sC6 p0):=by unfold sC6 f9t;dsimp only;infer_instance
def pE2:=sp1 (.val T28) vI sC6 f9
theorem pE3:SK 9 (sp1 (.val T28) vI sC6 f9):=fb Tryz.func9 83 [kb pN7,kb pO9,kb pP,kb pP1,kb pP2,kb pP4,kb qO,kb pP8]
def f36t (p0:D70):Prop×Bool:=
 (True,(bif (!false) then (decide ((len p0.1)>0)) else false))
def vP p0:=(f36t p0).1
def f36 p0:=(f36t p0).2
instance (p0):Decidable (vP p0):=by unfold vP f36t;dsimp only;infer_instance
theorem uI2:SK 36 (sp1 (.val (.ptr T70)) vB vP f36):=fb Tryz.func36 13
abbrev uB2:Type:=((List UInt8)×Int×Unit)
abbrev vJ:Type:=(Int×Unit)
def tF1 (y:uB2)(x:vJ):Prop×Bool×vJ×Bool×Bool:=
 let a0:=y.1
 let a14:=x.1
 let v15:=(decide (a14<y.2.1))
 let v20:=(decide ((wJ5 a0 a14)<33))
 let v26:=(bif v20 then true else (decide ((wJ5 a0 a14)>126)))
 ((v15=true→(InB a14 (len a0)∧(((!v20)=true→InB a14 (len a0))∧((!v26)=true→InR (a14+1))))),(v15&&(!v26)),((a14+1),()),(v15&&v26),(!v15))
def uY7 y x:=(tF1 y x).1
def sL6 y x:=(tF1 y x).2.1
def uR6 y x:=(tF1 y x).2.2.1
def sT4 y x:=(tF1 y x).2.2.2.1
def rW1 y x:=(tF1 y x).2.2.2.2
instance (y x):Decidable (uY7 y x):=by unfold uY7 tF1;dsimp only;infer_instance
def tX4 (y:uB2)(x:vJ):Bool:=
 false
def rW2:=li [(0,vS),(13,vI)] [(14,vI)] sL6 uR6 uY7 (fun y x=>[ex 1 (some (sT4 y x)) [(2,vB)] ((tX4 y x),()),ex 2 (some (rW1 y x)) [] ()]) [[(2,vB)],[]]
def f39t (p0:List UInt8):Prop×Bool:=
 let v11:=(bif (decide ((len p0)<1)) then true else (decide ((len p0)>32)))
 let y4:=(p0,(len p0),())
 let x4:=((0:Int),())
 let e4:=(zB9 (sL6 y4) (uR6 y4) x4)
 (((!v11)=true→(xB7 (sL6 y4) (uR6 y4) (uY7 y4) x4)),(bif v11 then false else (bif (sT4 y4 e4) then (tX4 y4 e4) else true)))
def sT5 p0:=(f39t p0).1
def f39 p0:=(f39t p0).2
instance (p0):Decidable (sT5 p0):=by unfold sT5 f39t;dsimp only;infer_instance
theorem pP9:SK 39 (sp1 vS vB sT5 f39):=fb Tryz.func39 28 [] [(4,rW2)]
def pE4 (p0:Unit):Prop×(List Int):=
 (((!true)=true→((List.length ([]:List Int)+List.length ([]:List Int):Nat):Int)≤4294967296),(bif true then [] else (([]:List Int)++([]:List Int))))
def rC3 p0:=(pE4 p0).1
def f66a p0:=(pE4 p0).2
instance (p0):Decidable (rC3 p0):=by unfold rC3 pE4;dsimp only;infer_instance
theorem pE5:SK 66 (sp1 (.nn true) (.own (.int .i64) 0 false) rC3 f66a):=fb Tryz.func66 8 [] [] [(7,[(4,0,7,0)])]
def pE6 (p0:Unit):Prop×(List Int):=
 (((!false)=true→((List.length ([]:List Int)+List.length ([]:List Int):Nat):Int)≤4294967296),(bif false then [] else (([]:List Int)++([]:List Int))))
def rC4 p0:=(pE6 p0).1
def f66b p0:=(pE6 p0).2
instance (p0):Decidable (rC4 p0):=by unfold rC4 pE6;dsimp only;infer_instance
theorem pE7:SK 66 (sp1 (.nn false) (.own (.int .i64) 0 false) rC4 f66b):=fb Tryz.func66 8 [] [] [(7,[(4,0,7,0)])]
def pE8 (p0:List Int):Prop×(List Int):=
 ((0<List.length p0∧((!false)=true→((List.length ([]:List Int)+List.length p0:Nat):Int)≤4294967296)),(bif false then [] else (([]:List Int)++p0)))
def rC5 p0:=(pE8 p0).1
def f66c p0:=(pE8 p0).2
instance (p0):Decidable (rC5 p0):=by unfold rC5 pE8;dsimp only;infer_instance
theorem pE9:SK 66 (sp1 (.val (.sl (.int .i64))) (.own (.int .i64) 0 false) rC5 f66c):=fb Tryz.func66 8 [] [] [(7,[(4,0,7,0)])]
def f66 (p0:List Int):List Int:=p0
def tK5 (p0:List Int):Prop:=(List.length p0:Int)≤4294967296
instance (p0:List Int):Decidable (tK5 p0):=by
  unfold tK5
  infer_instance
def pQ:List (Nat×Sh):=[(0,(.val (.sl (.int .i64))))]
def qP:Sh:=(.own (.int .i64) 0 false)
def pQ0:List (Nat×Sh):=[]
def qG8:Am.Spec:=fnSpec pQ qP pQ0 (fun x=>tK5 x.1) (fun x=>f66 x.1) (fun _=>())
theorem qP0:SpecOk Tryz.prog 66 qG8:=wH0 (rs:=qP) (F:=f66) (ok:=tK5) pE5 pE7 pE9 (of_decide_eq_true (by kernel_rfl)) (of_decide_eq_true (by kernel_rfl)) (fun l h hp=>⟨hp,fun _=>by simpa[tK5] using h⟩) rfl rfl (fun _=>rfl)
def pF (p0:Unit):Prop×(List D84):=
 (((!true)=true→((List.length ([]:List D84)+List.length ([]:List D84):Nat):Int)≤4294967296),(bif true then [] else (([]:List D84)++([]:List D84))))
def rC6 p0:=(pF p0).1
def f69a p0:=(pF p0).2
instance (p0):Decidable (rC6 p0):=by unfold rC6 pF;dsimp only;infer_instance
theorem pF0:SK 69 (sp1 (.nn true) (.own T84 0 false) rC6 f69a):=fb Tryz.func69 8 [] [] [(7,[(4,0,7,0)])]
def pF1 (p0:Unit):Prop×(List D84):=
 (((!false)=true→((List.length ([]:List D84)+List.length ([]:List D84):Nat):Int)≤4294967296),(bif false then [] else (([]:List D84)++([]:List D84))))
def rC7 p0:=(pF1 p0).1
def f69b p0:=(pF1 p0).2
instance (p0):Decidable (rC7 p0):=by unfold rC7 pF1;dsimp only;infer_instance
theorem pF2:SK 69 (sp1 (.nn false) (.own T84 0 false) rC7 f69b):=fb Tryz.func69 8 [] [] [(7,[(4,0,7,0)])]
def pF3 (p0:List D84):Prop×(List D84):=
 ((0<List.length p0∧((!false)=true→((List.length ([]:List D84)+List.length p0:Nat):Int)≤4294967296)),(bif false then [] else (([]:List D84)++p0)))
def rC8 p0:=(pF3 p0).1
def f69c p0:=(pF3 p0).2
instance (p0):Decidable (rC8 p0):=by unfold rC8 pF3;dsimp only;infer_instance
theorem pF4:SK 69 (sp1 (.val (.sl T84)) (.own T84 0 false) rC8 f69c):=fb Tryz.func69 8 [] [] [(7,[(4,0,7,0)])]
def f69 (p0:List D84):List D84:=p0
def tX5 (p0:List D84):Prop:=(List.length p0:Int)≤4294967296
instance (p0:List D84):Decidable (tX5 p0):=by
  unfold tX5
  infer_instance
def pQ1:List (Nat×Sh):=[(0,(.val (.sl T84)))]
def qP1:Sh:=(.own T84 0 false)
def pQ2:List (Nat×Sh):=[]
def qG9:Am.Spec:=fnSpec pQ1 qP1 pQ2 (fun x=>tX5 x.1) (fun x=>f69 x.1) (fun _=>())
theorem qP2:SpecOk Tryz.prog 69 qG9:=wH0 (rs:=qP1) (F:=f69) (ok:=tX5) pF0 pF2 pF4 (of_decide_eq_true (by kernel_rfl)) (of_decide_eq_true (by kernel_rfl)) (fun l h hp=>⟨hp,fun _=>by simpa[tX5] using h⟩) rfl rfl (fun _=>rfl)
def pF5 (p0:Unit):Prop×(List D137):=
 (((!true)=true→((List.length ([]:List D137)+List.length ([]:List D137):Nat):Int)≤4294967296),(bif true then [] else (([]:List D137)++([]:List D137))))
def rC9 p0:=(pF5 p0).1
def f90a p0:=(pF5 p0).2
instance (p0):Decidable (rC9 p0):=by unfold rC9 pF5;dsimp only;infer_instance
theorem pF6:SK 90 (sp1 (.nn true) (.own T137 0 false) rC9 f90a):=fb Tryz.func90 8 [] [] [(7,[(4,0,7,0)])]
def pF7 (p0:Unit):Prop×(List D137):=
 (((!false)=true→((List.length ([]:List D137)+List.length ([]:List D137):Nat):Int)≤4294967296),(bif false then [] else (([]:List D137)++([]:List D137))))
def rD p0:=(pF7 p0).1
def f90b p0:=(pF7 p0).2
instance (p0):Decidable (rD p0):=by unfold rD pF7;dsimp only;infer_instance
theorem pF8:SK 90 (sp1 (.nn false) (.own T137 0 false) rD f90b):=fb Tryz.func90 8 [] [] [(7,[(4,0,7,0)])]
def pF9 (p0:List D137):Prop×(List D137):=
 ((0<List.length p0∧((!false)=true→((List.length ([]:List D137)+List.length p0:Nat):Int)≤4294967296)),(bif false then [] else (([]:List D137)++p0)))
def rD0 p0:=(pF9 p0).1
def f90c p0:=(pF9 p0).2
instance (p0):Decidable (rD0 p0):=by unfold rD0 pF9;dsimp only;infer_instance
theorem pG:SK 90 (sp1 (.val (.sl T137)) (.own T137 0 false) rD0 f90c):=fb Tryz.func90 8 [] [] [(7,[(4,0,7,0)])]
def f90 (p0:List D137):List D137:=p0
def sH0 (p0:List D137):Prop:=(List.length p0:Int)≤4294967296
instance (p0:List D137):Decidable (sH0 p0):=by
  unfold sH0
  infer_instance
def pQ3:List (Nat×Sh):=[(0,(.val (.sl T137)))]
def qP3:Sh:=(.own T137 0 false)
def pQ4:List (Nat×Sh):=[]
def qH:Am.Spec:=fnSpec pQ3 qP3 pQ4 (fun x=>sH0 x.1) (fun x=>f90 x.1) (fun _=>())
theorem pQ5:SpecOk Tryz.prog 90 qH:=wH0 (rs:=qP3) (F:=f90) (ok:=sH0) pF6 pF8 pG (of_decide_eq_true (by kernel_rfl)) (of_decide_eq_true (by kernel_rfl)) (fun l h hp=>⟨hp,fun _=>by simpa[sH0] using h⟩) rfl rfl (fun _=>rfl)
def pG0 (p0:Unit):Prop×(List D143):=
 (((!true)=true→((List.length ([]:List D143)+List.length ([]:List D143):Nat):Int)≤4294967296),(bif true then [] else (([]:List D143)++([]:List D143))))
def rD1 p0:=(pG0 p0).1
def f91a p0:=(pG0 p0).2
instance (p0):Decidable (rD1 p0):=by unfold rD1 pG0;dsimp only;infer_instance
theorem pG1:SK 91 (sp1 (.nn true) (.own T143 0 false) rD1 f91a):=fb Tryz.func91 8 [] [] [(7,[(4,0,7,0)])]
def pG2 (p0:Unit):Prop×(List D143):=
 (((!false)=true→((List.length ([]:List D143)+List.length ([]:List D143):Nat):Int)≤4294967296),(bif false then [] else (([]:List D143)++([]:List D143))))
def rD2 p0:=(pG2 p0).1
def f91b p0:=(pG2 p0).2
instance (p0):Decidable (rD2 p0):=by unfold rD2 pG2;dsimp only;infer_instance
theorem pG3:SK 91 (sp1 (.nn false) (.own T143 0 false) rD2 f91b):=fb Tryz.func91 8 [] [] [(7,[(4,0,7,0)])]
def pG4 (p0:List D143):Prop×(List D143):=
 ((0<List.length p0∧((!false)=true→((List.length ([]:List D143)+List.length p0:Nat):Int)≤4294967296)),(bif false then [] else (([]:List D143)++p0)))
def rD3 p0:=(pG4 p0).1
def f91c p0:=(pG4 p0).2
instance (p0):Decidable (rD3 p0):=by unfold rD3 pG4;dsimp only;infer_instance
theorem pG5:SK 91 (sp1 (.val (.sl T143)) (.own T143 0 false) rD3 f91c):=fb Tryz.func91 8 [] [] [(7,[(4,0,7,0)])]
def f91 (p0:List D143):List D143:=p0
def sH1 (p0:List D143):Prop:=(List.length p0:Int)≤4294967296
instance (p0:List D143):Decidable (sH1 p0):=by
  unfold sH1
  infer_instance
def pQ6:List (Nat×Sh):=[(0,(.val (.sl T143)))]
def qP4:Sh:=(.own T143 0 false)
def pQ7:List (Nat×Sh):=[]
def qH0:Am.Spec:=fnSpec pQ6 qP4 pQ7 (fun x=>sH1 x.1) (fun x=>f91 x.1) (fun _=>())
theorem pQ8:SpecOk Tryz.prog 91 qH0:=wH0 (rs:=qP4) (F:=f91) (ok:=sH1) pG1 pG3 pG5 (of_decide_eq_true (by kernel_rfl)) (of_decide_eq_true (by kernel_rfl)) (fun l h hp=>⟨hp,fun _=>by simpa[sH1] using h⟩) rfl rfl (fun _=>rfl)
def pG6 (p0:Unit):Prop×(List D140):=
 (((!true)=true→((List.length ([]:List D140)+List.length ([]:List D140):Nat):Int)≤4294967296),(bif true then [] else (([]:List D140)++([]:List D140))))
def rD4 p0:=(pG6 p0).1
def f92a p0:=(pG6 p0).2
instance (p0):Decidable (rD4 p0):=by unfold rD4 pG6;dsimp only;infer_instance
theorem pG7:SK 92 (sp1 (.nn true) (.own T140 0 false) rD4 f92a):=fb Tryz.func92 8 [] [] [(7,[(4,0,7,0)])]
def pG8 (p0:Unit):Prop×(List D140):=
 (((!false)=true→((List.length ([]:List D140)+List.length ([]:List D140):Nat):Int)≤4294967296),(bif false then [] else (([]:List D140)++([]:List D140))))
def rD5 p0:=(pG8 p0).1
def f92b p0:=(pG8 p0).2
instance (p0):Decidable (rD5 p0):=by unfold rD5 pG8;dsimp only;infer_instance
theorem pG9:SK 92 (sp1 (.nn false) (.own T140 0 false) rD5 f92b):=fb Tryz.func92 8 [] [] [(7,[(4,0,7,0)])]
def pH (p0:List D140):Prop×(List D140):=
 ((0<List.length p0∧((!false)=true→((List.length ([]:List D140)+List.length p0:Nat):Int)≤4294967296)),(bif false then [] else (([]:List D140)++p0)))
def rD6 p0:=(pH p0).1
def f92c p0:=(pH p0).2
instance (p0):Decidable (rD6 p0):=by unfold rD6 pH;dsimp only;infer_instance
theorem pH0:SK 92 (sp1 (.val (.sl T140)) (.own T140 0 false) rD6 f92c):=fb Tryz.func92 8 [] [] [(7,[(4,0,7,0)])]
def f92 (p0:List D140):List D140:=p0
def sH2 (p0:List D140):Prop:=(List.length p0:Int)≤4294967296
instance (p0:List D140):Decidable (sH2 p0):=by
  unfold sH2
  infer_instance
def pQ9:List (Nat×Sh):=[(0,(.val (.sl T140)))]
def qP5:Sh:=(.own T140 0 false)
def pR:List (Nat×Sh):=[]
def qH1:Am.Spec:=fnSpec pQ9 qP5 pR (fun x=>sH2 x.1) (fun x=>f92 x.1) (fun _=>())
theorem pR0:SpecOk Tryz.prog 92 qH1:=wH0 (rs:=qP5) (F:=f92) (ok:=sH2) pG7 pG9 pH0 (of_decide_eq_true (by kernel_rfl)) (of_decide_eq_true (by kernel_rfl)) (fun l h hp=>⟨hp,fun _=>by simpa[sH2] using h⟩) rfl rfl (fun _=>rfl)
end Go.Proofs.YtofmmkikplmlpaaGreatDoor.Am
