/- Printed by program, part 3. No condition. -/
import Derived.Test.YtmmpcldfjocfmaaGreatDoorDckP2
set_option linter.unusedVariables false
set_option synthInstance.maxSize 4000
set_option synthInstance.maxHeartbeats 400000
namespace Go.Proofs.YtmmpcldfjocfmaaGreatDoor.Am
open Go Go.Am Go.Proofs
abbrev vD9:Type:=(Int×D167×D217×(List (List D123))×Int×Int×D123×(List (List UInt8))×Int×Int×(List D123)×Int×Int×(List (List D123))×Int×Int×(List D123)×Int×Unit)
abbrev wT3:Type:=((List D123)×Int×Unit)
def uD4 (y:vD9)(x:wT3):Prop×Bool×wT3:=
 let a2:=y.1
 let a4:=y.2.1
 let a89:=y.2.2.2.2.2.2.2.2.2.2.2.2.2.2.2.2.1
 let a24:=x.1
 let a91:=x.2.1
 let v92:=(decide (a91<y.2.2.2.2.2.2.2.2.2.2.2.2.2.2.2.2.2.1))
 let v94:=(nth a89 a91 Z123)
 let v104:=(IntKind.wrap .i64 ((IntKind.wrap .i64 (y.2.2.2.2.2.2.1.2.1+v94.1))*a2))
 let v119:=(IntKind.wrap .i64 ((IntKind.wrap .i64 ((IntKind.wrap .i64 (a4.2.1+(IntKind.wrap .i64 (y.2.2.2.2.2.1*a4.2.2.1))))-v94.2.1))*a2))
 ((v92=true→(InB a91 (len a89)∧((wM4 v104 a4.1)∧((wM4 v119 a4.1)∧(InB a91 (len a24)∧a91<len a24))))),v92,((List.set a24 (Int.toNat a91) ((f96 v104 a4.1),(f96 v119 a4.1),())),(IntKind.wrap .i64 (a91+1)),()))
def vH4 y x:=(uD4 y x).1
def uK5 y x:=(uD4 y x).2.1
def vH5 y x:=(uD4 y x).2.2
instance (y x):Decidable (vH4 y x):=by unfold vH4 uD4;dsimp only;infer_instance
def uD5 (y:vD9)(x:wT3):(List D123):=
 x.1
def uZ0:List (Nat×Sh):=[(2,vI),(4,(.box T167 (.val T167))),(11,(.val (.ptr T217))),(12,(.own (.sl T123) 1012 false)),(13,vI),(14,vI),(19,(.box T123 (.val T123))),(24,(.own T123 1024 true)),(41,(.val (.sl .str))),(42,vI),(43,vI),(54,(.own T123 1016 false)),(55,vI),(56,vI),(74,(.own (.sl T123) 1020 false)),(75,vI),(76,vI)]
def sA:=li [(2,vI),(4,(.box T167 (.val T167))),(11,(.val (.ptr T217))),(12,(.own (.sl T123) 1012 false)),(13,vI),(14,vI),(19,(.box T123 (.val T123))),(41,(.val (.sl .str))),(42,vI),(43,vI),(54,(.own T123 1016 false)),(55,vI),(56,vI),(74,(.own (.sl T123) 1020 false)),(75,vI),(76,vI),(89,(.val (.sl T123))),(90,vI)] [(24,(.own T123 1024 true)),(91,vI)] uK5 vH5 vH4 (fun y x=>[ex 8 none uZ0 (y.1,y.2.1,y.2.2.1,y.2.2.2.1,y.2.2.2.2.1,y.2.2.2.2.2.1,y.2.2.2.2.2.2.1,(uD5 y x),y.2.2.2.2.2.2.2.1,y.2.2.2.2.2.2.2.2.1,y.2.2.2.2.2.2.2.2.2.1,y.2.2.2.2.2.2.2.2.2.2.1,y.2.2.2.2.2.2.2.2.2.2.2.1,y.2.2.2.2.2.2.2.2.2.2.2.2.1,y.2.2.2.2.2.2.2.2.2.2.2.2.2.1,y.2.2.2.2.2.2.2.2.2.2.2.2.2.2.1,y.2.2.2.2.2.2.2.2.2.2.2.2.2.2.2.1,())]) [uZ0]
abbrev wN8:Type:=(Int×D167×D217×Int×D123×(List (List UInt8))×Int×Int×(List D123)×Int×Int×(List (List D123))×Int×Unit)
abbrev wM2:Type:=((List (List D123))×Int×Int×Unit)
def vE (y:wN8)(x:wM2):Prop×Bool×wM2×Bool×Bool:=
 let a74:=y.2.2.2.2.2.2.2.2.2.2.2.1
 let a75:=y.2.2.2.2.2.2.2.2.2.2.2.2.1
 let a12:=x.1
 let a76:=x.2.2.1
 let v77:=(decide (a76<a75))
 let v78:=(nth a74 a76 ([]:List D123))
 let v83:=(IntKind.wrap .i64 (x.2.1+(len v78)))
 let v85:=(decide (v83>4096))
 let v87:=(len v78)
 let y25:=(y.1,y.2.1,y.2.2.1,a12,v83,y.2.2.2.1,y.2.2.2.2.1,y.2.2.2.2.2.1,y.2.2.2.2.2.2.1,y.2.2.2.2.2.2.2.1,y.2.2.2.2.2.2.2.2.1,y.2.2.2.2.2.2.2.2.2.1,y.2.2.2.2.2.2.2.2.2.2.1,a74,a75,a76,v78,(len v78),())
 let x25:=((List.replicate (Int.toNat v87) Z123),(0:Int),())
 let v128:=([(uD5 y25 (zD9 (uK5 y25) (vH5 y25) x25))]:List (List D123))
 ((v77=true→(InB a76 (len a74)∧((!v85)=true→((0≤v87∧v87≤v87∧v87≤4294967296)∧((wB6 (uK5 y25) (vH5 y25) (vH4 y25) x25)∧((List.length a12+List.length v128:Nat):Int)≤4294967296))))),(v77&&(!v85)),((a12++v128),v83,(IntKind.wrap .i64 (a76+1)),()),(v77&&v85),(!v77))
def vH6 y x:=(vE y x).1
def vE0 y x:=(vE y x).2.1
def wR8 y x:=(vE y x).2.2.1
def uZ1 y x:=(vE y x).2.2.2.1
def uZ2 y x:=(vE y x).2.2.2.2
instance (y x):Decidable (vH6 y x):=by unfold vH6 vE;dsimp only;infer_instance
def uD6 (y:wN8)(x:wM2):(List (List D123)):=
 ([]:List (List D123))
def uD7 (y:wN8)(x:wM2):Int:=
 (3:Int)
def uZ3:List (Nat×Sh):=[(8,(.own (.sl T123) 0 false)),(9,vI)]
def uD8 (y:wN8)(x:wM2):(List (List D123)):=
 x.1
def uD9 (y:wN8)(x:wM2):Int:=
 x.2.1
def uZ4:List (Nat×Sh):=[(2,vI),(4,(.box T167 (.val T167))),(11,(.val (.ptr T217))),(12,(.own (.sl T123) 1012 false)),(13,vI),(14,vI),(41,(.val (.sl .str))),(42,vI),(43,vI),(54,(.own T123 1016 false)),(55,vI),(56,vI)]
def sA0:=li [(2,vI),(4,(.box T167 (.val T167))),(11,(.val (.ptr T217))),(14,vI),(19,(.box T123 (.val T123))),(41,(.val (.sl .str))),(42,vI),(43,vI),(54,(.own T123 1016 false)),(55,vI),(56,vI),(74,(.own (.sl T123) 1020 false)),(75,vI)] [(12,(.own (.sl T123) 1012 false)),(13,vI),(76,vI)] vE0 wR8 vH6 (fun y x=>[ex 1 (some (uZ1 y x)) uZ3 ((uD6 y x),(uD7 y x),()),ex 6 (some (uZ2 y x)) uZ4 (y.1,y.2.1,y.2.2.1,(uD8 y x),(uD9 y x),y.2.2.2.1,y.2.2.2.2.2.1,y.2.2.2.2.2.2.1,y.2.2.2.2.2.2.2.1,y.2.2.2.2.2.2.2.2.1,y.2.2.2.2.2.2.2.2.2.1,y.2.2.2.2.2.2.2.2.2.2.1,())]) [uZ3,uZ4]
abbrev wN9:Type:=(Int×D167×D217×Int×(List (List UInt8))×Int×Int×(List D123)×Int×Unit)
abbrev wM3:Type:=((List (List D123))×Int×Int×Unit)
def vE1 (y:wN9)(x:wM3):Prop×Bool×wM3×Bool×Bool:=
 let a4:=y.2.1
 let a54:=y.2.2.2.2.2.2.2.1
 let a55:=y.2.2.2.2.2.2.2.2.1
 let a56:=x.2.2.1
 let v57:=(decide (a56<a55))
 let v58:=(nth a54 a56 Z123)
 let v65:=(nth a4.2.2.2.1 v58.1 Z196)
 let v68:=(f113 v65.2.2.1)
 let v72:=(v68.2.1 !=0)
 let y18:=(y.1,a4,y.2.2.1,y.2.2.2.1,v58,y.2.2.2.2.1,y.2.2.2.2.2.1,y.2.2.2.2.2.2.1,a54,a55,a56,v68.1,(len v68.1),())
 let x18:=(x.1,x.2.1,(0:Int),())
 let e18:=(zD9 (vE0 y18) (wR8 y18) x18)
 ((v57=true→(InB a56 (len a54)∧(InB v58.1 (len a4.2.2.2.1)∧((uW2 v65.2.2.1)∧((!v72)=true→(wB6 (vE0 y18) (wR8 y18) (vH6 y18) x18)))))),(v57&&((!v72)&&(uZ2 y18 e18))),((uD8 y18 e18),(uD9 y18 e18),(IntKind.wrap .i64 (a56+1)),()),(v57&&(v72||((!v72)&&(uZ1 y18 e18)))),(!v57))
def vH7 y x:=(vE1 y x).1
def vE2 y x:=(vE1 y x).2.1
def wR9 y x:=(vE1 y x).2.2.1
def uZ5 y x:=(vE1 y x).2.2.2.1
def uZ6 y x:=(vE1 y x).2.2.2.2
instance (y x):Decidable (vH7 y x):=by unfold vH7 vE1;dsimp only;infer_instance
def uE (y:wN9)(x:wM3):(List (List D123)):=
 let a4:=y.2.1
 let a54:=y.2.2.2.2.2.2.2.1
 let a56:=x.2.2.1
 let v58:=(nth a54 a56 Z123)
 let v68:=(f113 (nth a4.2.2.2.1 v58.1 Z196).2.2.1)
 let y18:=(y.1,a4,y.2.2.1,y.2.2.2.1,v58,y.2.2.2.2.1,y.2.2.2.2.2.1,y.2.2.2.2.2.2.1,a54,y.2.2.2.2.2.2.2.2.1,a56,v68.1,(len v68.1),())
 (bif (v68.2.1 !=0) then [] else (uD6 y18 (zD9 (vE0 y18) (wR8 y18) (x.1,x.2.1,(0:Int),()))))
def uE0 (y:wN9)(x:wM3):Int:=
 let a4:=y.2.1
 let a54:=y.2.2.2.2.2.2.2.1
 let a56:=x.2.2.1
 let v58:=(nth a54 a56 Z123)
 let v68:=(f113 (nth a4.2.2.2.1 v58.1 Z196).2.2.1)
 let y18:=(y.1,a4,y.2.2.1,y.2.2.2.1,v58,y.2.2.2.2.1,y.2.2.2.2.2.1,y.2.2.2.2.2.2.1,a54,y.2.2.2.2.2.2.2.2.1,a56,v68.1,(len v68.1),())
 (bif (v68.2.1 !=0) then v68.2.1 else (uD7 y18 (zD9 (vE0 y18) (wR8 y18) (x.1,x.2.1,(0:Int),()))))
def uZ7:List (Nat×Sh):=[(8,(.own (.sl T123) 0 false)),(9,vI)]
def uE1 (y:wN9)(x:wM3):(List (List D123)):=
 x.1
def uE2 (y:wN9)(x:wM3):Int:=
 x.2.1
def uZ8:List (Nat×Sh):=[(2,vI),(4,(.box T167 (.val T167))),(11,(.val (.ptr T217))),(12,(.own (.sl T123) 1012 false)),(13,vI),(41,(.val (.sl .str))),(42,vI),(43,vI)]
def sA1:=li [(2,vI),(4,(.box T167 (.val T167))),(11,(.val (.ptr T217))),(14,vI),(41,(.val (.sl .str))),(42,vI),(43,vI),(54,(.own T123 1016 false)),(55,vI)] [(12,(.own (.sl T123) 1012 false)),(13,vI),(56,vI)] vE2 wR9 vH7 (fun y x=>[ex 1 (some (uZ5 y x)) uZ7 ((uE y x),(uE0 y x),()),ex 4 (some (uZ6 y x)) uZ8 (y.1,y.2.1,y.2.2.1,(uE1 y x),(uE2 y x),y.2.2.2.2.1,y.2.2.2.2.2.1,y.2.2.2.2.2.2.1,())]) [uZ7,uZ8]
abbrev wS:Type:=(Int×D167×D217×(List (List UInt8))×Int×Unit)
abbrev wO3:Type:=((List (List D123))×Int×Int×Unit)
def vT4 (y:wS)(x:wO3):Prop×Bool×wO3×Bool×Bool:=
 let a11:=y.2.2.1
 let a41:=y.2.2.2.1
 let a42:=y.2.2.2.2.1
 let a43:=x.2.2.1
 let v44:=(decide (a43<a42))
 let v46:=(nth a41 a43 ([]:List UInt8))
 let v51:=(f137 a11 v46)
 let y12:=(y.1,y.2.1,a11,a43,a41,a42,a43,v51.1,(len v51.1),())
 let x12:=(x.1,x.2.1,(0:Int),())
 let e12:=(zD9 (vE2 y12) (wR9 y12) x12)
 ((v44=true→(InB a43 (len a41)∧((uU2 a11 v46)∧(wB6 (vE2 y12) (wR9 y12) (vH7 y12) x12)))),(v44&&(uZ6 y12 e12)),((uE1 y12 e12),(uE2 y12 e12),(IntKind.wrap .i64 (a43+1)),()),(v44&&(uZ5 y12 e12)),(!v44))
def vT5 y x:=(vT4 y x).1
def uZ9 y x:=(vT4 y x).2.1
def vO4 y x:=(vT4 y x).2.2.1
def tH3 y x:=(vT4 y x).2.2.2.1
def sM6 y x:=(vT4 y x).2.2.2.2
instance (y x):Decidable (vT5 y x):=by unfold vT5 vT4;dsimp only;infer_instance
def uO7 (y:wS)(x:wO3):(List (List D123)):=
 let a11:=y.2.2.1
 let a41:=y.2.2.2.1
 let a43:=x.2.2.1
 let v51:=(f137 a11 (nth a41 a43 ([]:List UInt8)))
 let y12:=(y.1,y.2.1,a11,a43,a41,y.2.2.2.2.1,a43,v51.1,(len v51.1),())
 (uE y12 (zD9 (vE2 y12) (wR9 y12) (x.1,x.2.1,(0:Int),())))
def uO8 (y:wS)(x:wO3):Int:=
 let a11:=y.2.2.1
 let a41:=y.2.2.2.1
 let a43:=x.2.2.1
 let v51:=(f137 a11 (nth a41 a43 ([]:List UInt8)))
 let y12:=(y.1,y.2.1,a11,a43,a41,y.2.2.2.2.1,a43,v51.1,(len v51.1),())
 (uE0 y12 (zD9 (vE2 y12) (wR9 y12) (x.1,x.2.1,(0:Int),())))
def tH4:List (Nat×Sh):=[(8,(.own (.sl T123) 0 false)),(9,vI)]
def uO9 (y:wS)(x:wO3):(List (List D123)):=
 x.1
def tH5:List (Nat×Sh):=[(12,(.own (.sl T123) 1012 false))]
def sM7:=li [(2,vI),(4,(.box T167 (.val T167))),(11,(.val (.ptr T217))),(41,(.val (.sl .str))),(42,vI)] [(12,(.own (.sl T123) 1012 false)),(13,vI),(43,vI)] uZ9 vO4 vT5 (fun y x=>[ex 1 (some (tH3 y x)) tH4 ((uO7 y x),(uO8 y x),()),ex 2 (some (sM6 y x)) tH5 ((uO9 y x),())]) [tH4,tH5]
def rP (p0:D167)(p1:List UInt8)(p2:Int)(p3:Int):Prop×((List (List D123))×Int×Unit):=
 let v31:=(f134 p0 p1 p2 p3)
 let v33:=(v31 !=0)
 let v36:=(f135 p0)
 let v41:=(f136 v36 p1 p2 p3)
 let y8:=(p2,p0,v36,v41,(len v41),())
 let x8:=(([]:List (List D123)),(0:Int),(0:Int),())
 let e8:=(zD9 (uZ9 y8) (vO4 y8) x8)
 let q8_1:=(tH3 y8 e8)
 (((tN2 p0 p1 p2 p3)∧((!v33)=true→((tN3 p0)∧((vW8 v36 p1 p2 p3)∧(wB6 (uZ9 y8) (vO4 y8) (vT5 y8) x8))))),((bif v33 then [] else (bif q8_1 then (uO7 y8 e8) else (uO9 y8 e8))),(bif v33 then v31 else (bif q8_1 then (uO8 y8 e8) else (0:Int))),()))
def tA p0 p1 p2 p3:=(rP p0 p1 p2 p3).1
def f117 p0 p1 p2 p3:=(rP p0 p1 p2 p3).2
instance (p0 p1 p2 p3):Decidable (tA p0 p1 p2 p3):=by unfold tA rP;dsimp only;infer_instance
def sR4:=sp4 (.val T167) vS vI vI (.tup (.cons (.own (.sl T123) 0 false) (.cons vI .nl))) tA f117
theorem rP0:SK 117 (sp4 (.val T167) vS vI vI (.tup (.cons (.own (.sl T123) 0 false) (.cons vI .nl))) tA f117):=fb Tryz.func117 134 [kb vL0,kb sQ6,kb rO7,kb rO9,kb rI,kb sO7] [(8,sM7),(12,sA1),(18,sA0),(25,sA)] [(21,[(4,0,51,1016)]),(29,[(4,0,68,1020)]),(47,[(4,0,88,1024)]),(58,[(1,24,0,0)]),(59,[(4,0,129,1012)]),(67,[(4,0,1012,0)])] true [] [88]
def f138 (p0:List UInt8):List (List UInt8):=Lib.fields p0
def tA0 (p0:List UInt8):Prop:=(List.length p0:Int)≤4294967280∧(p0.all fun b=>decide (b.toNat<128))=true
instance (p0:List UInt8):Decidable (tA0 p0):=by
  unfold tA0
  infer_instance
def rP1:List (Nat×Sh):=[(0,(.val .str))]
def rP2:Sh:=(.val (.sl .str))
def rP3:List (Nat×Sh):=[]
def sR5:Am.Spec:=fnSpec rP1 rP2 rP3 (fun x=>tA0 x.1) (fun x=>f138 x.1) (fun _=>())
theorem tab0:G0=Lib.asciiSpaceTab:=by kernel_rfl
theorem rP4:SpecOk Tryz.prog 138 sR5:=wI2 (F:=f138) (e:=9) (ok:=tA0) ⟨_,Tryz.func138,by kernel_rfl,by decide⟩ fun s w χ hok hg =>
  Any.strings_Fields_core Tryz.lays157 (by kernel_rfl) s w (by have h1:=hok.1;rw[Array.length_toList] at h1;have h2:s.data.size=s.size:=rfl;omega)
    (fun j b hj=>by have:=List.all_eq_true.1 hok.2 b (List.mem_of_getElem? hj);simpa using this)
    (fun c hc=>by
      have h1:=wJ2 hg (g:=0) (n:=256) (k:=.u8) (l:=G0) (List.mem_cons_self ..) c hc;rw[tab0,Lib.asciiSpaceTab_at c hc] at h1;exact h1)
def rP5 (p0:List UInt8)(p1:Int):Prop×Int:=
 ((tK3 p0 p1),(f160 p0 p1))
def tA1 p0 p1:=(rP5 p0 p1).1
def f139 p0 p1:=(rP5 p0 p1).2
instance (p0 p1):Decidable (tA1 p0 p1):=by unfold tA1 rP5;dsimp only;infer_instance
theorem rP6:SK 139 (sp2 vS (.val (.int .u8)) vI tA1 f139):=fb Tryz.func139 8 [kb rF6]
def rP7 (p0:Int)(p1:Int)(p2:Int)(p3:Int):Prop×(List D126):=
 let v30:=([((1:Int),([(p0,p1,()),Z123,Z123]:List D123),()),((2:Int),([(p2,p1,()),Z123,Z123]:List D123),()),((2:Int),([(p2,p3,()),Z123,Z123]:List D123),()),((2:Int),([(p0,p3,()),Z123,Z123]:List D123),()),((5:Int),(List.replicate 3 Z123),())]:List D126)
 (True,v30)
def tN4 p0 p1 p2 p3:=(rP7 p0 p1 p2 p3).1
def f161 p0 p1 p2 p3:=(rP7 p0 p1 p2 p3).2
instance (p0 p1 p2 p3):Decidable (tN4 p0 p1 p2 p3):=by unfold tN4 rP7;dsimp only;infer_instance
theorem rP8:SK 161 (sp4 vI vI vI vI (.own T126 0 false) tN4 f161):=fb Tryz.func161 31 [] [] [(3,[(4,0,30,0)])]
abbrev vO5:Type:=(Int×Int×(List D126)×Int×Unit)
abbrev wZ6:Type:=(Int×Unit)
def uT0 (y:vO5)(x:wZ6):Prop×Bool×wZ6:=
 let a7:=x.1
 let v20:=(decide ((a7+1)<7))
 let v24:=(a7+1)
 let v28:=(bif v20 then ((wL7 .i64 (wL8 y.2.1 v24 64) (1:Int))==1) else false)
 ((InR (a7+1)∧((v20=true→InR (a7+1))∧((v20=true→0≤v24)∧(v28=true→InR (a7+1))))),v28,((a7+1),()))
def vT6 y x:=(uT0 y x).1
def tA2 y x:=(uT0 y x).2.1
def vO6 y x:=(uT0 y x).2.2
instance (y x):Decidable (vT6 y x):=by unfold vT6 uT0;dsimp only;infer_instance
def uP (y:vO5)(x:wZ6):Int:=
 x.1
def tH6:List (Nat×Sh):=[(0,vI),(1,vI),(5,(.own T126 1005 false)),(6,vI),(7,vI)]
def sM8:=li [(0,vI),(1,vI),(5,(.own T126 1005 false)),(6,vI)] [(7,vI)] tA2 vO6 vT6 (fun y x=>[ex 4 none tH6 (y.1,y.2.1,y.2.2.1,y.2.2.2.1,(uP y x),())]) [tH6]
abbrev vO7:Type:=(Unit)
abbrev wZ7:Type:=(Int×Int×(List D126)×Int×Unit)
def uT1 (y:vO7)(x:wZ7):Prop×Bool×wZ7:=
 let a0:=x.1
 let a1:=x.2.1
 let a5:=x.2.2.1
 let a6:=x.2.2.2.1
 let v9:=(decide (a6<7))
 let v16:=((wL7 .i64 (wL8 a1 a6 64) (1:Int))==0)
 let y7:=(a0,a1,a5,a6,())
 let x7:=(a6,())
 let r7_4_0:=(uP y7 (zD9 (tA2 y7) (vO6 y7) x7))
 let v33:=(100*a0)
 let v35:=(100*a6)
 let v36:=(700-v35)
 let v38:=(100*a0)
 let v39:=(v38+100)
 let v41:=(100*r7_4_0)
 let v42:=(600-v41)
 let v43:=(f161 v33 v36 v39 v42)
 let c:=(v16||(!v16))
 let m6:=(bif v16 then a6 else r7_4_0)
 ((v9=true→(0≤a6∧(((!v16)=true→((wB6 (tA2 y7) (vO6 y7) (vT6 y7) x7)∧(InR (100*a0)∧(InR (100*a6)∧(InR (700-v35)∧(InR (100*a0)∧(InR (v38+100)∧(InR (100*r7_4_0)∧(InR (600-v41)∧((tN4 v33 v36 v39 v42)∧((List.length a5+List.length v43:Nat):Int)≤4294967296))))))))))∧(c=true→InR (m6+1))))),(v9&&c),((bif v16 then a0 else a0),(bif v16 then a1 else a1),(bif v16 then a5 else (a5++v43)),(m6+1),()))
def vT7 y x:=(uT1 y x).1
def tA3 y x:=(uT1 y x).2.1
def vO8 y x:=(uT1 y x).2.2
instance (y x):Decidable (vT7 y x):=by unfold vT7 uT1;dsimp only;infer_instance
def uP0 (y:vO7)(x:wZ7):(List D126):=
 x.2.2.1
def sM9:=li [] [(0,vI),(1,vI),(5,(.own T126 1005 false)),(6,vI)] tA3 vO8 vT7 (fun y x=>[ex 2 none [(5,(.own T126 1005 false))] ((uP0 y x),())]) [[(5,(.own T126 1005 false))]]
def rP9 (p0:Int)(p1:Int):Prop×(List D126):=
 let x3:=(p0,p1,([]:List D126),(0:Int),())
 ((wB6 (tA3 ()) (vO8 ()) (vT7 ()) x3),(uP0 () (zD9 (tA3 ()) (vO8 ()) x3)))
def tN5 p0 p1:=(rP9 p0 p1).1
def f140 p0 p1:=(rP9 p0 p1).2
instance (p0 p1):Decidable (tN5 p0 p1):=by unfold tN5 rP9;dsimp only;infer_instance
theorem rQ:SK 140 (sp2 vI vI (.own T126 0 false) tN5 f140):=fb Tryz.func140 47 [kb rP8] [(3,sM9),(7,sM8)] [(19,[(4,0,44,1005)]),(23,[(4,0,1005,0)])]
abbrev wZ8:Type:=((List UInt8)×(List (List UInt8))×Int×Int×Int×Unit)
abbrev wS0:Type:=((Int×Int×Int×(List D196)×(List D201)×Unit)×(Int×Int×Int×(List D196)×(List D201)×Unit)×(Int×Int×(List D126)×Unit)×Int×Unit)
def uT2 (y:wZ8)(x:wS0):Prop×Bool×wS0:=
 let a3:=y.1
 let a0:=x.1
 let a1:=x.2.1
 let a4:=x.2.2.1
 let a22:=x.2.2.2.1
 let v23:=(decide (a22<y.2.2.2.2.1))
 let v27:=(2*a22)
 let v28:=(wK5 a3 v27)
 let v29:=(f139 ([48,49,50,51,52,53,54,55,56,57,97,98,99,100,101,102]:List UInt8) v28)
 let v30:=(16*v29)
 let v33:=(2*a22)
 let v34:=(v33+1)
 let v35:=(wK5 a3 v34)
 let v36:=(f139 ([48,49,50,51,52,53,54,55,56,57,97,98,99,100,101,102]:List UInt8) v35)
 let v37:=(v30+v36)
 let v42:=(f140 a22 v37)
 ((v23=true→(InR (2*a22)∧(InB v27 (len a3)∧((tA1 ([48,49,50,51,52,53,54,55,56,57,97,98,99,100,101,102]:List UInt8) v28)∧(InR (16*v29)∧(InR (2*a22)∧(InR (v33+1)∧(InB v34 (len a3)∧((tA1 ([48,49,50,51,52,53,54,55,56,57,97,98,99,100,101,102]:List UInt8) v35)∧(InR (v30+v36)∧((tN5 a22 v37)∧(((List.length a4.2.2.1+List.length v42:Nat):Int)≤4294967296∧InR (a22+1))))))))))))),v23,((a0.1,a0.2.1,a0.2.2.1,a0.2.2.2.1,a0.2.2.2.2.1,()),(a1.1,a1.2.1,a1.2.2.1,a1.2.2.2.1,a1.2.2.2.2.1,()),(a4.1,a4.2.1,(a4.2.2.1++v42),()),(a22+1),()))
def vT8 y x:=(uT2 y x).1
def tA4 y x:=(uT2 y x).2.1
def vO9 y x:=(uT2 y x).2.2
instance (y x):Decidable (vT8 y x):=by unfold vT8 uT2;dsimp only;infer_instance
def uP1 (y:wZ8)(x:wS0):(Int×Int×Int×(List D196)×(List D201)×Unit):=
 let a0:=x.1
 (a0.1,a0.2.1,a0.2.2.1,a0.2.2.2.1,a0.2.2.2.2.1,())
def uP2 (y:wZ8)(x:wS0):(Int×Int×Int×(List D196)×(List D201)×Unit):=
 let a1:=x.2.1
 (a1.1,a1.2.1,a1.2.2.1,a1.2.2.2.1,a1.2.2.2.2.1,())
def uP3 (y:wZ8)(x:wS0):(Int×Int×(List D126)×Unit):=
 let a4:=x.2.2.1
 (a4.1,a4.2.1,a4.2.2.1,())
def tH7:List (Nat×Sh):=[(0,(.box T167 (.agg (.cons (.int .i64) (.cons (.int .i64) (.cons (.int .i64) (.cons (.sl T196) (.cons (.sl T201) .nl))))) (.cons vI (.cons vI (.cons vI (.cons (.own T196 400000 false) (.cons (.own T201 400001 false) .nl)))))))),(1,(.box T167 (.agg (.cons (.int .i64) (.cons (.int .i64) (.cons (.int .i64) (.cons (.sl T196) (.cons (.sl T201) .nl))))) (.cons vI (.cons vI (.cons vI (.cons (.own T196 400100 false) (.cons (.own T201 400101 false) .nl)))))))),(4,(.box T196 (.agg (.cons (.int .u8) (.cons (.int .i64) (.cons (.sl T126) .nl))) (.cons (.val (.int .u8)) (.cons vI (.cons (.own T126 400400 false) .nl)))))),(8,(.val (.sl .str))),(9,vI),(10,vI)]
def sN:=li [(3,vS),(8,(.val (.sl .str))),(9,vI),(10,vI),(21,vI)] [(0,(.box T167 (.agg (.cons (.int .i64) (.cons (.int .i64) (.cons (.int .i64) (.cons (.sl T196) (.cons (.sl T201) .nl))))) (.cons vI (.cons vI (.cons vI (.cons (.own T196 400000 false) (.cons (.own T201 400001 false) .nl)))))))),(1,(.box T167 (.agg (.cons (.int .i64) (.cons (.int .i64) (.cons (.int .i64) (.cons (.sl T196) (.cons (.sl T201) .nl))))) (.cons vI (.cons vI (.cons vI (.cons (.own T196 400100 false) (.cons (.own T201 400101 false) .nl)))))))),(4,(.box T196 (.agg (.cons (.int .u8) (.cons (.int .i64) (.cons (.sl T126) .nl))) (.cons (.val (.int .u8)) (.cons vI (.cons (.own T126 400400 false) .nl)))))),(22,vI)] tA4 vO9 vT8 (fun y x=>[ex 4 none tH7 ((uP1 y x),(uP2 y x),(uP3 y x),y.2.1,y.2.2.1,y.2.2.2.1,())]) [tH7]
abbrev vE3:Type:=((List (List UInt8))×Int×Unit)
abbrev wU2:Type:=((Int×Int×Int×(List D196)×(List D201)×Unit)×(Int×Int×Int×(List D196)×(List D201)×Unit)×Int×Unit)
def uT3 (y:vE3)(x:wU2):Prop×Bool×wU2:=
 let a8:=y.1
 let a9:=y.2.1
 let a0:=x.1
 let a1:=x.2.1
 let a10:=x.2.2.1
 let v11:=(decide (a10<a9))
 let v13:=(nth a8 a10 ([]:List UInt8))
 let v20:=(len v13)
 let y7:=(v13,a8,a9,a10,(Int.tdiv v20 (2:Int)),())
 let x7:=((a0.1,a0.2.1,a0.2.2.1,a0.2.2.2.1,a0.2.2.2.2.1,()),(a1.1,a1.2.1,a1.2.2.1,a1.2.2.2.1,a1.2.2.2.2.1,()),((IntKind.wrap .u8 (32+a10)),(600:Int),([]:List D126),()),(0:Int),())
 let e7:=(zD9 (tA4 y7) (vO9 y7) x7)
 let r7_4_0:=(uP1 y7 e7)
 let r7_4_1:=(uP2 y7 e7)
 let r7_4_2:=(uP3 y7 e7)
 let v49:=([(r7_4_2.1,r7_4_2.2.1,r7_4_2.2.2.1,())]:List D196)
 ((v11=true→(InB a10 (len a8)∧(InR (32+a10)∧(InR (Int.tdiv v20 (2:Int))∧((wB6 (tA4 y7) (vO9 y7) (vT8 y7) x7)∧(((List.length r7_4_1.2.2.2.1+List.length v49:Nat):Int)≤4294967296∧InR (a10+1))))))),v11,((r7_4_0.1,r7_4_0.2.1,r7_4_0.2.2.1,r7_4_0.2.2.2.1,r7_4_0.2.2.2.2.1,()),(r7_4_1.1,r7_4_1.2.1,r7_4_1.2.2.1,(r7_4_1.2.2.2.1++v49),r7_4_1.2.2.2.2.1,()),(a10+1),()))
def vT9 y x:=(uT3 y x).1
def tA5 y x:=(uT3 y x).2.1
def vP y x:=(uT3 y x).2.2
instance (y x):Decidable (vT9 y x):=by unfold vT9 uT3;dsimp only;infer_instance
def tT7 (y:vE3)(x:wU2):(Int×Int×Int×(List D196)×(List D201)×Unit):=
 let a0:=x.1
 (a0.1,a0.2.1,a0.2.2.1,a0.2.2.2.1,a0.2.2.2.2.1,())
def uP4 (y:vE3)(x:wU2):(Int×Int×Int×(List D196)×(List D201)×Unit):=
 let a1:=x.2.1
 (a1.1,a1.2.1,a1.2.2.1,a1.2.2.2.1,a1.2.2.2.2.1,())
def tH8:List (Nat×Sh):=[(0,(.box T167 (.agg (.cons (.int .i64) (.cons (.int .i64) (.cons (.int .i64) (.cons (.sl T196) (.cons (.sl T201) .nl))))) (.cons vI (.cons vI (.cons vI (.cons (.own T196 400000 false) (.cons (.own T201 400001 false) .nl)))))))),(1,(.box T167 (.agg (.cons (.int .i64) (.cons (.int .i64) (.cons (.int .i64) (.cons (.sl T196) (.cons (.sl T201) .nl))))) (.cons vI (.cons vI (.cons vI (.cons (.own T196 400100 false) (.cons (.own T201 400101 false) .nl))))))))]
def sN0:=li [(8,(.val (.sl .str))),(9,vI)] [(0,(.box T167 (.agg (.cons (.int .i64) (.cons (.int .i64) (.cons (.int .i64) (.cons (.sl T196) (.cons (.sl T201) .nl))))) (.cons vI (.cons vI (.cons vI (.cons (.own T196 400000 false) (.cons (.own T201 400001 false) .nl)))))))),(1,(.box T167 (.agg (.cons (.int .i64) (.cons (.int .i64) (.cons (.int .i64) (.cons (.sl T196) (.cons (.sl T201) .nl))))) (.cons vI (.cons vI (.cons vI (.cons (.own T196 400100 false) (.cons (.own T201 400101 false) .nl)))))))),(10,vI)] tA5 vP vT9 (fun y x=>[ex 2 none tH8 ((tT7 y x),(uP4 y x),())]) [tH8]
def rQ0 :Prop×D167:=
 let v8:=(f138 lit0)
 let y3:=(v8,(len v8),())
 let x3:=(((0:Int),(0:Int),(0:Int),([]:List D196),([]:List D201),()),((1000:Int),(800:Int),(1200:Int),([]:List D196),([]:List D201),()),(0:Int),())
 let r3_2_1:=(uP4 y3 (zD9 (tA5 y3) (vP y3) x3))
 let s_6:=(r3_2_1.1,r3_2_1.2.1,r3_2_1.2.2.1,r3_2_1.2.2.2.1,([((65:Int),(86:Int),(-100:Int),()),((76:Int),(84:Int),(-100:Int),()),((84:Int),(97:Int),(-100:Int),()),((86:Int),(65:Int),(-100:Int),())]:List D201),())
 (((tA0 lit0)∧(wB6 (tA5 y3) (vP y3) (vT9 y3) x3)),s_6)
def tA6 :Prop:=(rQ0).1
def f118 :D167:=(rQ0).2
instance:Decidable tA6:=by unfold tA6 rQ0;dsimp only;infer_instance
def sR6:Am.Spec:=fnSpec [] (.val T167) [] (fun x=>tA6 ) (fun x=>f118 ) (fun _=>())
theorem rQ1:SK 118 (fnSpec [] (.val T167) [] (fun x=>tA6 ) (fun x=>f118 ) (fun _=>())):=fb Tryz.func118 60 [kb rP4,kb rP6,kb rQ] [(3,sN0),(7,sN)] [(21,[(4,0,43,400400)]),(25,[(4,0,50,400100)]),(29,[(4,0,57,400101)]),(31,[(4,0,400100,400000),(4,0,400101,400001)])]
abbrev wU3:Type:=((List (List D123))×D68×(List (List D123))×Int×Unit)
abbrev wP6:Type:=(Int×Int×Unit)
def vU (y:wU3)(x:wP6):Prop×Bool×wP6×Bool×Bool:=
 let a21:=y.2.2.1
 let a7:=x.1
 let a23:=x.2.1
 let v24:=(decide (a23<y.2.2.2.1))
 let v29:=(len (nth a21 a23 ([]:List D123)))
 let v30:=(a7+v29)
 let v32:=(decide (v30>4096))
 ((v24=true→(InB a23 (len a21)∧(InR (a7+v29)∧((!v32)=true→InR (a23+1))))),(v24&&(!v32)),(v30,(a23+1),()),(v24&&v32),(!v24))
def vU0 y x:=(vU y x).1
def tA7 y x:=(vU y x).2.1
def vP0 y x:=(vU y x).2.2.1
def tH9 y x:=(vU y x).2.2.2.1
def tI y x:=(vU y x).2.2.2.2
instance (y x):Decidable (vU0 y x):=by unfold vU0 vU;dsimp only;infer_instance
def uP5 (y:wU3)(x:wP6):(List (List D123)):=
 ([]:List (List D123))
def uP6 (y:wU3)(x:wP6):Int:=
 (3:Int)
def tI0:List (Nat×Sh):=[(4,(.own (.sl T123) 0 false)),(5,vI)]
def tI1:List (Nat×Sh):=[(0,(.val (.sl (.sl T123)))),(3,(.box T68 (.val T68)))]
def sN1:=li [(0,(.val (.sl (.sl T123)))),(3,(.box T68 (.val T68))),(21,(.val (.sl (.sl T123)))),(22,vI)] [(7,vI),(23,vI)] tA7 vP0 vU0 (fun y x=>[ex 1 (some (tH9 y x)) tI0 ((uP5 y x),(uP6 y x),()),ex 2 (some (tI y x)) tI1 (y.1,y.2.1,())]) [tI0,tI1]
abbrev wP1:Type:=(D68×Int×(List (List D123))×Int×Int×(List D123)×Int×Unit)
abbrev wM9:Type:=(((List (List D123))×Nat)×Int×Unit)
def vE4 (y:wP1)(x:wM9):Prop×Bool×wM9×Bool×Bool:=
 let a3:=y.1
 let a11:=y.2.1
 let a50:=y.2.2.2.2.2.1
 let a10:=x.1
 let a52:=x.2.1
 let v53:=(decide (a52<y.2.2.2.2.2.2.1))
 let v55:=(nth a50 a52 Z123)
 let v58:=(f130 v55)
 let v61:=(f129 a3 v55)
 let v63:=(f130 v61)
 let v67:=(List.getD a10.1 a10.2 [])
 let c:=((!v58)&&(!v63))
 ((v53=true→(InB a52 (len a50)∧((vX4 v55)∧(((!v58)=true→((uV6 a3 v55)∧((vX4 v61)∧((!v63)=true→(InB a11 (len a10.1)∧((Int.toNat a11=a10.2∧a11<len a10.1)∧(InB a52 (len v67)∧a52<len v67)))))))∧(c=true→InR (a52+1)))))),(v53&&c),(((List.set a10.1 a10.2 (List.set (List.getD a10.1 a10.2 []) (Int.toNat a52) v61)),a10.2),(a52+1),()),(v53&&(v58||((!v58)&&v63))),(!v53))
def vH8 y x:=(vE4 y x).1
def vE5 y x:=(vE4 y x).2.1
def wS1 y x:=(vE4 y x).2.2.1
def tA8 y x:=(vE4 y x).2.2.2.1
def tA9 y x:=(vE4 y x).2.2.2.2
instance (y x):Decidable (vH8 y x):=by unfold vH8 vE4;dsimp only;infer_instance
def uE3 (y:wP1)(x:wM9):(List (List D123)):=
 ([]:List (List D123))
def uE4 (y:wP1)(x:wM9):Int:=
 (bif (f130 (nth y.2.2.2.2.2.1 x.2.1 Z123)) then (2:Int) else (2:Int))
def tB:List (Nat×Sh):=[(4,(.own (.sl T123) 0 false)),(5,vI)]
def uE5 (y:wP1)(x:wM9):((List (List D123))×Nat):=
 let a10:=x.1
 (a10.1,a10.2)
def tB0:List (Nat×Sh):=[(3,(.box T68 (.val T68))),(10,(.ownh T123 1010 48 true)),(37,(.val (.sl (.sl T123)))),(38,vI),(39,vI)]
def sA2:=li [(3,(.box T68 (.val T68))),(11,vI),(37,(.val (.sl (.sl T123)))),(38,vI),(39,vI),(50,(.val (.sl T123))),(51,vI)] [(10,(.ownh T123 1010 48 true)),(52,vI)] vE5 wS1 vH8 (fun y x=>[ex 1 (some (tA8 y x)) tB ((uE3 y x),(uE4 y x),()),ex 6 (some (tA9 y x)) tB0 (y.1,(uE5 y x),y.2.2.1,y.2.2.2.1,y.2.2.2.2.1,())]) [tB,tB0]
abbrev wP2:Type:=(D68×(List (List D123))×Int×Unit)
abbrev wN:Type:=((List (List D123))×Int×Unit)
def vE6 (y:wP2)(x:wN):Prop×Bool×wN×Bool×Bool:=
 let a37:=y.2.1
 let a38:=y.2.2.1
 let a10:=x.1
 let a39:=x.2.1
 let v40:=(decide (a39<a38))
 let v42:=(nth a37 a39 ([]:List D123))
 let v47:=(len v42)
 let y18:=(y.1,a39,a37,a38,a39,v42,(len v42),())
 let x18:=(((List.set a10 (Int.toNat a39) (List.replicate (Int.toNat v47) Z123)),(Int.toNat a39)),(0:Int),())
 let e18:=(zD9 (vE5 y18) (wS1 y18) x18)
 let q18_6:=(tA9 y18 e18)
 ((v40=true→(InB a39 (len a37)∧((0≤v47∧v47≤v47∧v47≤4294967296)∧(InB a39 (len a10)∧(a39<len a10∧((wB6 (vE5 y18) (wS1 y18) (vH8 y18) x18)∧(q18_6=true→InR (a39+1)))))))),(v40&&q18_6),((uE5 y18 e18).1,(a39+1),()),(v40&&(tA8 y18 e18)),(!v40))
def vH9 y x:=(vE6 y x).1
def uK6 y x:=(vE6 y x).2.1
def vI0 y x:=(vE6 y x).2.2.1
def tB1 y x:=(vE6 y x).2.2.2.1
def sA3 y x:=(vE6 y x).2.2.2.2
instance (y x):Decidable (vH9 y x):=by unfold vH9 vE6;dsimp only;infer_instance
def uE6 (y:wP2)(x:wN):(List (List D123)):=
 let a37:=y.2.1
 let a39:=x.2.1
 let v42:=(nth a37 a39 ([]:List D123))
 let y18:=(y.1,a39,a37,y.2.2.1,a39,v42,(len v42),())
 (uE3 y18 (zD9 (vE5 y18) (wS1 y18) (((List.set x.1 (Int.toNat a39) (List.replicate (Int.toNat (len v42)) Z123)),(Int.toNat a39)),(0:Int),())))
def uE7 (y:wP2)(x:wN):Int:=
 let a37:=y.2.1
 let a39:=x.2.1
 let v42:=(nth a37 a39 ([]:List D123))
 let y18:=(y.1,a39,a37,y.2.2.1,a39,v42,(len v42),())
 (uE4 y18 (zD9 (vE5 y18) (wS1 y18) (((List.set x.1 (Int.toNat a39) (List.replicate (Int.toNat (len v42)) Z123)),(Int.toNat a39)),(0:Int),())))
def tB2:List (Nat×Sh):=[(4,(.own (.sl T123) 0 false)),(5,vI)]
def uE8 (y:wP2)(x:wN):(List (List D123)):=
 x.1
def tB3:List (Nat×Sh):=[(10,(.own (.sl T123) 1010 true))]
def sA4:=li [(3,(.box T68 (.val T68))),(37,(.val (.sl (.sl T123)))),(38,vI)] [(10,(.own (.sl T123) 1010 true)),(39,vI)] uK6 vI0 vH9 (fun y x=>[ex 1 (some (tB1 y x)) tB2 ((uE6 y x),(uE7 y x),()),ex 4 (some (sA3 y x)) tB3 ((uE8 y x),())]) [tB2,tB3]
def rQ2 (p0:(List (List D123)))(p1:D68):Prop×((List (List D123))×Int×Unit):=
 let v17:=(f76 p1)
 let v19:=(v17 !=0)
 let y6:=(p0,p1,p0,(len p0),())
 let x6:=((0:Int),(0:Int),())
 let e6:=(zD9 (tA7 y6) (vP0 y6) x6)
 let q6_1:=(tH9 y6 e6)
 let v35:=(len p0)
 let y14:=(p1,p0,(len p0),())
 let x14:=((List.replicate (Int.toNat v35) ([]:List D123)),(0:Int),())
 let e14:=(zD9 (uK6 y14) (vI0 y14) x14)
 let q14_1:=(tB1 y14 e14)
 (((uB6 p1)∧((!v19)=true→((wB6 (tA7 y6) (vP0 y6) (vU0 y6) x6)∧((tI y6 e6)=true→((0≤v35∧v35≤v35∧v35≤4294967296)∧(wB6 (uK6 y14) (vI0 y14) (vH9 y14) x14)))))),((bif v19 then [] else (bif q6_1 then (uP5 y6 e6) else (bif q14_1 then (uE6 y14 e14) else (uE8 y14 e14)))),(bif v19 then v17 else (bif q6_1 then (uP6 y6 e6) else (bif q14_1 then (uE7 y14 e14) else (0:Int)))),()))
def tB4 p0 p1:=(rQ2 p0 p1).1
def f119 p0 p1:=(rQ2 p0 p1).2
instance (p0 p1):Decidable (tB4 p0 p1):=by unfold tB4 rQ2;dsimp only;infer_instance
def sR7:=sp2 (.val (.sl (.sl T123))) (.val T68) (.tup (.cons (.val (.sl (.sl T123))) (.cons vI .nl))) tB4 f119
theorem rQ3:SK 119 (sp2 (.val (.sl (.sl T123))) (.val T68) (.tup (.cons (.val (.sl (.sl T123))) (.cons vI .nl))) tB4 f119):=fb Tryz.func119 74 [kb sF,kb sQ4,kb tY5] [(6,sN1),(14,sA4),(18,sA2)] [(25,[(4,0,36,1010)]),(54,[(1,10,0,0)]),(57,[(1,4,0,0),(4,0,1010,0)])] false [] [36,48]
def rQ4 (p0:D80):Prop×Int:=
 let v14:=(f117 f118 p0.2.2.2.2.2.2.2.2.2.2.2.2.2.2.2.2.2.2.2.2.2.2.2.1 p0.2.2.2.2.2.2.2.2.2.2.2.2.2.2.2.2.2.2.2.2.2.2.2.2.1 p0.2.2.2.2.2.2.2.2.2.2.2.2.2.2.2.2.2.2.2.2.2.2.2.2.2.1)
 let v18:=(v14.2.1 !=0)
 let v24:=(f119 v14.1 p0.2.2.2.2.2.2.2.2.2.2.1)
 let v28:=(v24.2.1 !=0)
 let v31:=(f116 v24.1 (0:Int))
 let v33:=(v31 !=0)
 ((tA6∧((tA f118 p0.2.2.2.2.2.2.2.2.2.2.2.2.2.2.2.2.2.2.2.2.2.2.2.1 p0.2.2.2.2.2.2.2.2.2.2.2.2.2.2.2.2.2.2.2.2.2.2.2.2.1 p0.2.2.2.2.2.2.2.2.2.2.2.2.2.2.2.2.2.2.2.2.2.2.2.2.2.1)∧((!v18)=true→((tB4 v14.1 p0.2.2.2.2.2.2.2.2.2.2.1)∧((!v28)=true→((vX6 v24.1 (0:Int))∧((!v33)=true→(uV1 p0.2.2.2.2.2.2.2.2.2.2.2.2.2.1)))))))),(bif v18 then v14.2.1 else (bif v28 then v24.2.1 else (bif v33 then v31 else (f98 p0.2.2.2.2.2.2.2.2.2.2.2.2.2.1)))))
def tN6 p0:=(rQ4 p0).1
def f101 p0:=(rQ4 p0).2
instance (p0):Decidable (tN6 p0):=by unfold tN6 rQ4;dsimp only;infer_instance
def sR8:=sp1 (.val T80) vI tN6 f101
def sZ0:=Cy [(98,sZ),(116,sQ7),(117,sR4),(118,sR6),(119,sR7)] [] [(3,[(4,0,14,1003)])] 38
theorem rQ5:SK 101 sR8:=fq (c:=sZ0) Tryz.func101 ⟨sQ2,tZ,rP0,rQ1,rQ3,trivial⟩
def rQ6 (p0:Int)(p1:Int):Prop×Bool:=
 let v7:=(p0==2)
 let v11:=(p0==3)
 let v24:=(p0==4)
 let m23:=(bif v24 then v24 else (p0==11))
 let v29:=(p0==5)
 let m28:=(bif v29 then v29 else (p0==9))
 let v34:=(p0==6)
 let m33:=(bif v34 then v34 else (p0==7))
 let m4_3:=(bif v11 then (bif (bif (decide (p1≥4)) then (decide (p1≤16)) else false) then ((Int.tmod p1 (2:Int))==0) else false) else (bif m23 then (p1==2) else (bif m28 then (p1==3) else (bif m33 then (p1==1) else (p1==9)))))
 (True,(bif (bif v7 then true else (bif v11 then true else (bif m23 then true else (bif m28 then true else (bif m33 then true else (p0==8)))))) then (bif v7 then (p1==5) else m4_3) else (p1==0)))
def tN7 p0 p1:=(rQ6 p0 p1).1
def f120 p0 p1:=(rQ6 p0 p1).2
instance (p0 p1):Decidable (tN7 p0 p1):=by unfold tN7 rQ6;dsimp only;infer_instance
theorem rQ7:SK 120 (sp2 vI vI vB tN7 f120):=fb Tryz.func120 44
def rQ8 (p0:Int)(p1:Int):Prop×(Int×Int×Unit):=
 let v12:=(bif (p0==2) then (p1==2) else false)
 let v15:=(p0==4)
 let v21:=(bif (p0==5) then (decide (p1>0)) else false)
 let m13_1:=(bif v15 then v15 else (bif v21 then v21 else (bif (p0==11) then (p1==1) else false)))
 let v30:=(p0==5)
 let v33:=(p0==7)
 let v36:=(p0==8)
 let c_8:=(bif v12 then true else (bif m13_1 then true else (bif v30 then true else (bif v33 then true else (bif v36 then true else (p0==11))))))
 let m4_5:=(bif c_8 then (bif v12 then (1:Int) else (bif m13_1 then (-65535:Int) else (bif v30 then (-32768:Int) else (bif v33 then (2:Int) else (bif v36 then (-262140:Int) else (-128:Int)))))) else (0:Int))
 let m5_5:=(bif c_8 then (bif v12 then (256:Int) else (bif m13_1 then (65535:Int) else (bif v30 then (32768:Int) else (bif v33 then (256:Int) else (bif v36 then (262140:Int) else (128:Int)))))) else (65535:Int))
 (True,(m4_5,m5_5,()))
def tN8 p0 p1:=(rQ8 p0 p1).1
def f141 p0 p1:=(rQ8 p0 p1).2
instance (p0 p1):Decidable (tN8 p0 p1):=by unfold tN8 rQ8;dsimp only;infer_instance
theorem rQ9:SK 141 (sp2 vI vI (.tup (.cons vI (.cons vI .nl))) tN8 f141):=fb Tryz.func141 40
abbrev wZ9:Type:=(Int×(List Int)×(List D120)×(List Int)×Int×Unit)
abbrev wS2:Type:=(Int×Unit)
def vU1 (y:wZ9)(x:wS2):Prop×Bool×wS2×Bool×Bool:=
 let a0:=y.1
 let a13:=y.2.2.2.1
 let a15:=x.1
 let v16:=(decide (a15<y.2.2.2.2.1))
 let v18:=(nth a13 a15 (0:Int))
 let v23:=(f141 a0 a15)
 let v33:=(bif (decide (v18<v23.1)) then true else (decide (v18>v23.2.1)))
 ((v16=true→(InB a15 (len a13)∧((tN8 a0 a15)∧((!v33)=true→InR (a15+1))))),(v16&&(!v33)),((a15+1),()),(v16&&v33),(!v16))
def vU2 y x:=(vU1 y x).1
def tB5 y x:=(vU1 y x).2.1
def vP1 y x:=(vU1 y x).2.2.1
def tI2 y x:=(vU1 y x).2.2.2.1
def tI3 y x:=(vU1 y x).2.2.2.2
instance (y x):Decidable (vU2 y x):=by unfold vU2 vU1;dsimp only;infer_instance
def uP7 (y:wZ9)(x:wS2):Bool:=
 false
def tI4:List (Nat×Sh):=[(0,vI),(1,(.val (.sl (.int .i64)))),(2,(.val (.sl T120)))]
def sN2:=li [(0,vI),(1,(.val (.sl (.int .i64)))),(2,(.val (.sl T120))),(13,(.val (.sl (.int .i64)))),(14,vI)] [(15,vI)] tB5 vP1 vU2 (fun y x=>[ex 1 (some (tI2 y x)) [(6,vB)] ((uP7 y x),()),ex 2 (some (tI3 y x)) tI4 (y.1,y.2.1,y.2.2.1,())]) [[(6,vB)],tI4]
abbrev wT4:Type:=((List D120)×Int×Unit)
abbrev wP3:Type:=(Int×Unit)
def vE7 (y:wT4)(x:wP3):Prop×Bool×wP3×Bool×Bool:=
 let a55:=y.1
 let a57:=x.1
 let v58:=(decide (a57<y.2.1))
 let v59:=(nth a55 a57 Z120)
 let v68:=(bif (decide (v59.1<0)) then true else (decide (v59.1>65535)))
 let v74:=(bif v68 then true else (!(f84 v59.2.1)))
 ((v58=true→(InB a57 (len a55)∧(((!v68)=true→(uV v59.2.1))∧((!v74)=true→InR (a57+1))))),(v58&&(!v74)),((a57+1),()),(v58&&v74),(!v58))
def vI1 y x:=(vE7 y x).1
def uK7 y x:=(vE7 y x).2.1
def vI2 y x:=(vE7 y x).2.2.1
def tB6 y x:=(vE7 y x).2.2.2.1
def sA5 y x:=(vE7 y x).2.2.2.2
instance (y x):Decidable (vI1 y x):=by unfold vI1 vE7;dsimp only;infer_instance
def uE9 (y:wT4)(x:wP3):Bool:=
 false
def sA6:=li [(55,(.val (.sl T120))),(56,vI)] [(57,vI)] uK7 vI2 vI1 (fun y x=>[ex 1 (some (tB6 y x)) [(6,vB)] ((uE9 y x),()),ex 4 (some (sA5 y x)) [] ()]) [[(6,vB)],[]]
def rR (p0:Int)(p1:List Int)(p2:List D120):Prop×Bool:=
 let y2:=(p0,p1,p2,p1,(len p1),())
 let x2:=((0:Int),())
 let e2:=(zD9 (tB5 y2) (vP1 y2) x2)
 let v36:=(p0==9)
 let v42:=(bif v36 then ((nth p1 (0:Int) (0:Int))==0) else false)
 let v48:=(bif v42 then ((nth p1 (1:Int) (0:Int))==0) else false)
 let v54:=(bif v48 then ((nth p1 (2:Int) (0:Int))==0) else false)
 let y11:=(p2,(len p2),())
 let x11:=((0:Int),())
 let e11:=(zD9 (uK7 y11) (vI2 y11) x11)
 (((wB6 (tB5 y2) (vP1 y2) (vU2 y2) x2)∧((tI3 y2 e2)=true→((v36=true→InB (0:Int) (len p1))∧((v42=true→InB (1:Int) (len p1))∧((v48=true→InB (2:Int) (len p1))∧((!v54)=true→(wB6 (uK7 y11) (vI2 y11) (vI1 y11) x11))))))),(bif (tI2 y2 e2) then (uP7 y2 e2) else (bif v54 then false else (bif (tB6 y11 e11) then (uE9 y11 e11) else true))))
def tN9 p0 p1 p2:=(rR p0 p1 p2).1
def f121 p0 p1 p2:=(rR p0 p1 p2).2
instance (p0 p1 p2):Decidable (tN9 p0 p1 p2):=by unfold tN9 rR;dsimp only;infer_instance
theorem rR0:SK 121 (sp3 vI (.val (.sl (.int .i64))) (.val (.sl T120)) vB tN9 f121):=fb Tryz.func121 76 [kb sF3,kb rQ9] [(2,sN2),(11,sA6)]
abbrev vA:Type:=((List Int)×(List D120)×Unit)
abbrev wS3:Type:=(Int×Unit)
def vU3 (y:vA)(x:wS3):Prop×Bool×wS3×Bool×Bool:=
 let a1:=y.1
 let a7:=x.1
 let v25:=(decide (a7<(len a1)))
 let v34:=(a7-2)
 let v37:=(decide ((nth a1 a7 (0:Int))≤(nth a1 v34 (0:Int))))
 ((v25=true→(InB a7 (len a1)∧(InR (a7-2)∧(InB v34 (len a1)∧((!v37)=true→InR (a7+2)))))),(v25&&(!v37)),((a7+2),()),(v25&&v37),(!v25))
def vU4 y x:=(vU3 y x).1
def tB7 y x:=(vU3 y x).2.1
def vP2 y x:=(vU3 y x).2.2.1
def tI5 y x:=(vU3 y x).2.2.2.1
def tI6 y x:=(vU3 y x).2.2.2.2
instance (y x):Decidable (vU4 y x):=by unfold vU4 vU3;dsimp only;infer_instance
def uP8 (y:vA)(x:wS3):Bool:=
 false
def sN3:=li [(1,(.val (.sl (.int .i64)))),(2,(.val (.sl T120)))] [(7,vI)] tB7 vP2 vU4 (fun y x=>[ex 1 (some (tI5 y x)) [(6,vB)] ((uP8 y x),()),ex 2 (some (tI6 y x)) [(2,(.val (.sl T120)))] (y.2.1,())]) [[(6,vB)],[(2,(.val (.sl T120)))]]
abbrev wT5:Type:=((List D120)×Unit)
abbrev wP4:Type:=(Int×Unit)
def vE8 (y:wT5)(x:wP4):Prop×Bool×wP4×Bool×Bool:=
 let a2:=y.1
 let a8:=x.1
 let v41:=(decide (a8<(len a2)))
 let v51:=(a8-1)
 let v55:=(decide ((nth a2 a8 Z120).1≤(nth a2 v51 Z120).1))
 ((v41=true→(InB a8 (len a2)∧(InR (a8-1)∧(InB v51 (len a2)∧((!v55)=true→InR (a8+1)))))),(v41&&(!v55)),((a8+1),()),(v41&&v55),(!v41))
def vI3 y x:=(vE8 y x).1
def uK8 y x:=(vE8 y x).2.1
def vI4 y x:=(vE8 y x).2.2.1
def tB8 y x:=(vE8 y x).2.2.2.1
def sA7 y x:=(vE8 y x).2.2.2.2
instance (y x):Decidable (vI3 y x):=by unfold vI3 vE8;dsimp only;infer_instance
def uF (y:wT5)(x:wP4):Bool:=
 false
def sA8:=li [(2,(.val (.sl T120)))] [(8,vI)] uK8 vI4 vI3 (fun y x=>[ex 1 (some (tB8 y x)) [(6,vB)] ((uF y x),()),ex 4 (some (sA7 y x)) [] ()]) [[(6,vB)],[]]
def rR1 (p0:Int)(p1:List Int)(p2:List D120):Prop×Bool:=
 let v10:=(p0==2)
 let v19:=(bif v10 then (decide ((nth p1 (1:Int) (0:Int))≤(nth p1 (0:Int) (0:Int)))) else false)
 let v21:=(p0==3)
 let y5:=(p1,p2,())
 let x5:=((2:Int),())
 let e5:=(zD9 (tB7 y5) (vP2 y5) x5)
 let y10:=((bif v21 then p2 else p2),())
 let x10:=((1:Int),())
 let e10:=(zD9 (uK8 y10) (vI4 y10) x10)
 (((v10=true→InB (1:Int) (len p1))∧((v10=true→InB (0:Int) (len p1))∧((!v19)=true→((v21=true→(wB6 (tB7 y5) (vP2 y5) (vU4 y5) x5))∧((bif v21 then (tI6 y5 e5) else true)=true→(wB6 (uK8 y10) (vI4 y10) (vI3 y10) x10)))))),(bif v19 then false else (bif ((tI5 y5 e5)&&v21) then (uP8 y5 e5) else (bif (tB8 y10 e10) then (uF y10 e10) else true))))
def tO p0 p1 p2:=(rR1 p0 p1 p2).1
def f122 p0 p1 p2:=(rR1 p0 p1 p2).2
instance (p0 p1 p2):Decidable (tO p0 p1 p2):=by unfold tO rR1;dsimp only;infer_instance
theorem rR2:SK 122 (sp3 vI (.val (.sl (.int .i64))) (.val (.sl T120)) vB tO f122):=fb Tryz.func122 56 [] [(5,sN3),(10,sA8)]
def rR3 (p0:Int)(p1:List Int)(p2:List D120):Prop×Int:=
 let v13:=(bif (decide (p0<1)) then true else (decide (p0>11)))
 let v17:=(len p1)
 let v27:=(bif (!(f120 p0 v17)) then true else (!(Ty.eqb .bool (decide ((len p2)>0)) (p0==10))))
 let v31:=(decide ((len p2)>16))
 let v37:=(!(f121 p0 p1 p2))
 let m6_4:=(bif (bif v13 then true else (bif v27 then true else (bif v31 then true else (bif v37 then true else (!(f122 p0 p1 p2)))))) then (bif v13 then (8:Int) else (bif v27 then (1:Int) else (bif v31 then (3:Int) else (bif v37 then (2:Int) else (24:Int))))) else (0:Int))
 ((v13=false→((tN7 p0 v17)∧(v27=false→(v31=false→((tN9 p0 p1 p2)∧(v37=false→(tO p0 p1 p2))))))),m6_4)
def tO0 p0 p1 p2:=(rR3 p0 p1 p2).1
def f102 p0 p1 p2:=(rR3 p0 p1 p2).2
instance (p0 p1 p2):Decidable (tO0 p0 p1 p2):=by unfold tO0 rR3;dsimp only;infer_instance
theorem rR4:SK 102 (sp3 vI (.val (.sl (.int .i64))) (.val (.sl T120)) vI tO0 f102):=fb Tryz.func102 44 [kb rQ7,kb rR0,kb rR2]
def rR5 (p0:Int):Prop×(List D123):=
 let v5:=(p0==1)
 let v6:=(p0==7)
 let m4_1:=(bif v5 then v5 else (bif v6 then v6 else (p0==8)))
 let v11:=(p0==2)
 let v15:=(p0==4)
 let v19:=(p0==3)
 let v24:=(p0==9)
 let m2_1:=(bif v19 then ([((0:Int),(16:Int),()),((0:Int),(262140:Int),())]:List D123) else (bif v24 then ([((-16:Int),(16:Int),()),((-16:Int),(16:Int),())]:List D123) else ([((1:Int),(16:Int),())]:List D123)))
 let m2_5:=(bif (bif m4_1 then true else (bif v11 then true else (bif v15 then true else (bif v19 then true else (bif v24 then true else (p0==10)))))) then (bif m4_1 then ([((0:Int),(16:Int),())]:List D123) else (bif v11 then ([((0:Int),(7:Int),())]:List D123) else (bif v15 then ([((0:Int),(4:Int),())]:List D123) else m2_1))) else [])
 (True,m2_5)
def tO1 p0:=(rR5 p0).1
def f123 p0:=(rR5 p0).2
instance (p0):Decidable (tO1 p0):=by unfold tO1 rR5;dsimp only;infer_instance
theorem rR6:SK 123 (sp1 vI (.own T123 0 false) tO1 f123):=fb Tryz.func123 32 [] [] [(11,[(4,0,9,0)]),(15,[(4,0,13,0)]),(19,[(4,0,17,0)]),(23,[(4,0,22,0)]),(27,[(4,0,27,0)]),(31,[(4,0,31,0)])]
abbrev vA0:Type:=((List D123)×(List Int)×Int×Unit)
abbrev wS4:Type:=(Int×Unit)
def vU5 (y:vA0)(x:wS4):Prop×Bool×wS4×Bool×Bool:=
 let a5:=y.1
 let a21:=y.2.1
 let a23:=x.1
 let v24:=(decide (a23<y.2.2.1))
 let v26:=(nth a21 a23 (0:Int))
 let v34:=(decide (v26<(nth a5 a23 Z123).1))
 let v43:=(bif v34 then true else (decide (v26>(nth a5 a23 Z123).2.1)))
 ((v24=true→(InB a23 (len a21)∧(InB a23 (len a5)∧(((!v34)=true→InB a23 (len a5))∧((!v43)=true→InR (a23+1)))))),(v24&&(!v43)),((a23+1),()),(v24&&v43),(!v24))
def vU6 y x:=(vU5 y x).1
def tB9 y x:=(vU5 y x).2.1
def vP3 y x:=(vU5 y x).2.2.1
def tI7 y x:=(vU5 y x).2.2.2.1
def sN4 y x:=(vU5 y x).2.2.2.2
instance (y x):Decidable (vU6 y x):=by unfold vU6 vU5;dsimp only;infer_instance
def uP9 (y:vA0)(x:wS4):Int:=
 (2:Int)
def sN5:=li [(5,(.own T123 1005 false)),(21,(.val (.sl (.int .i64)))),(22,vI)] [(23,vI)] tB9 vP3 vU6 (fun y x=>[ex 1 (some (tI7 y x)) [(4,vI)] ((uP9 y x),()),ex 2 (some (sN4 y x)) [] ()]) [[(4,vI)],[]]
def rR7 (p0:Int)(p1:List Int):Prop×Int:=
 let v13:=(bif (decide (p0<1)) then true else (decide (p0>10)))
 let v15:=(f123 p0)
 let v20:=((len p1)!=(len v15))
 let y7:=(v15,p1,(len p1),())
 let x7:=((0:Int),())
 let e7:=(zD9 (tB9 y7) (vP3 y7) x7)
 (((!v13)=true→((tO1 p0)∧((!v20)=true→(wB6 (tB9 y7) (vP3 y7) (vU6 y7) x7)))),(bif v13 then (8:Int) else (bif v20 then (1:Int) else (bif (tI7 y7 e7) then (uP9 y7 e7) else (0:Int)))))
def tO2 p0 p1:=(rR7 p0 p1).1
def f103 p0 p1:=(rR7 p0 p1).2
instance (p0 p1):Decidable (tO2 p0 p1):=by unfold tO2 rR7;dsimp only;infer_instance
theorem rR8:SK 103 (sp2 vI (.val (.sl (.int .i64))) vI tO2 f103):=fb Tryz.func103 45 [kb rR6] [(7,sN5)] [(7,[(4,0,15,1005)])]
abbrev vA1:Type:=((List D123)×Int×Unit)
abbrev wS5:Type:=(Int×Unit)
def vU7 (y:vA1)(x:wS5):Prop×Bool×wS5×Bool×Bool:=
 let a43:=y.1
 let a45:=x.1
 let v46:=(decide (a45<y.2.1))
 let v47:=(nth a43 a45 Z123)
 let v66:=(bif (bif (bif (decide (v47.1<(-1048576))) then true else (decide (v47.1>1048576))) then true else (decide (v47.2.1<(-1048576)))) then true else (decide (v47.2.1>1048576)))
 ((v46=true→(InB a45 (len a43)∧((!v66)=true→InR (a45+1)))),(v46&&(!v66)),((a45+1),()),(v46&&v66),(!v46))
def vU8 y x:=(vU7 y x).1
def tC y x:=(vU7 y x).2.1
def vP4 y x:=(vU7 y x).2.2.1
def tI8 y x:=(vU7 y x).2.2.2.1
def sN6 y x:=(vU7 y x).2.2.2.2
instance (y x):Decidable (vU8 y x):=by unfold vU8 vU7;dsimp only;infer_instance
def uQ (y:vA1)(x:wS5):Int:=
 (2:Int)
def sN7:=li [(43,(.val (.sl T123))),(44,vI)] [(45,vI)] tC vP4 vU8 (fun y x=>[ex 1 (some (tI8 y x)) [(2,vI)] ((uQ y x),()),ex 2 (some (sN6 y x)) [] ()]) [[(2,vI)],[]]
def rR9 (p0:D78):Prop×Int:=
 let v22:=(bif (bif (bif (decide (p0.1<2)) then true else (decide (p0.1>8))) then true else (decide (p0.2.1<2))) then true else (decide (p0.2.1>8)))
 let v30:=(bif (decide (p0.2.2.1<1)) then true else (decide (p0.2.2.1>256)))
 let v41:=(bif v30 then true else ((len p0.2.2.2.1)!=(p0.1*p0.2.1)))
 let y6:=(p0.2.2.2.1,(len p0.2.2.2.1),())
 let x6:=((0:Int),())
 let e6:=(zD9 (tC y6) (vP4 y6) x6)
 (((!v22)=true→(((!v30)=true→InR (p0.1*p0.2.1))∧((!v41)=true→(wB6 (tC y6) (vP4 y6) (vU8 y6) x6)))),(bif v22 then (15:Int) else (bif v41 then (15:Int) else (bif (tI8 y6 e6) then (uQ y6 e6) else (0:Int)))))
def tO3 p0:=(rR9 p0).1
def f104 p0:=(rR9 p0).2
instance (p0):Decidable (tO3 p0):=by unfold tO3 rR9;dsimp only;infer_instance
theorem rS:SK 104 (sp1 (.val T78) vI tO3 f104):=fb Tryz.func104 68 [] [(6,sN7)]
def f80t (p0:D80):Prop×Int:=
 let v6:=(p0.2.1==2)
 let v11:=(p0.2.1==3)
 let v16:=(p0.2.1==4)
 let v27:=(p0.2.1==5)
 let v31:=(p0.2.1==6)
 let v35:=(p0.2.1==7)
 let v44:=(p0.2.1==8)
 let v51:=(p0.2.1==9)
 let m50:=(bif v51 then v51 else (p0.2.1==10))
 let v62:=(p0.2.1==11)
 let c_2:=(bif v44 then true else (bif m50 then (bif (decide (p0.2.2.2.2.2.2.2.2.2.2.2.2.2.2.2.2.2.2.2.2.2.2.2.2.2.2.1<1)) then true else (decide (p0.2.2.2.2.2.2.2.2.2.2.2.2.2.2.2.2.2.2.2.2.2.2.2.2.2.2.1>1073741824))) else v62))
 let m2_2:=(bif v35 then (f102 p0.2.2.2.2.2.2.2.2.2.2.2.2.2.2.1 p0.2.2.2.2.2.2.2.2.2.2.2.2.2.2.2.1 p0.2.2.2.2.2.2.2.2.2.2.2.2.2.2.2.2.2.1) else (bif v44 then (f103 p0.2.2.2.2.2.2.2.2.2.2.2.2.2.2.1 p0.2.2.2.2.2.2.2.2.2.2.2.2.2.2.2.1) else (bif m50 then (2:Int) else (f104 p0.2.2.2.2.2.2.2.2.2.2.2.2.2.2.2.2.2.2.2.2.2.2.2.2.2.2.2.1))))
 let m2_5:=(bif v16 then (f99 p0.2.2.2.2.2.2.2.2.2.2.2.2.2.2.1 p0.2.2.2.2.2.2.2.2.2.2.2.2.2.2.2.1 p0.2.2.2.2.2.2.2.2.2.2.2.2.2.2.2.2.1 p0.2.2.2.2.2.2.2.2.2.2.2.2.2.2.2.2.2.1) else (bif v27 then (f100 p0) else (bif v31 then (f101 p0) else m2_2)))
 let m2_8:=(bif (bif v6 then true else (bif v11 then true else (bif v16 then true else (bif v27 then true else (bif v31 then true else (bif v35 then true else c_2)))))) then (bif v6 then (f59 p0.2.2.2.2.2.2.2.2.2.2.2.2.1) else (bif v11 then (f98 p0.2.2.2.2.2.2.2.2.2.2.2.2.2.1) else m2_5)) else (0:Int))
 (((v6=true→(tT3 p0.2.2.2.2.2.2.2.2.2.2.2.2.1))∧(v6=false→((v11=true→(uV1 p0.2.2.2.2.2.2.2.2.2.2.2.2.2.1))∧(v11=false→((v16=true→(sF4 p0.2.2.2.2.2.2.2.2.2.2.2.2.2.2.1 p0.2.2.2.2.2.2.2.2.2.2.2.2.2.2.2.1 p0.2.2.2.2.2.2.2.2.2.2.2.2.2.2.2.2.1 p0.2.2.2.2.2.2.2.2.2.2.2.2.2.2.2.2.2.1))∧(v16=false→((v27=true→(tM9 p0))∧(v27=false→((v31=true→(tN6 p0))∧(v31=false→((v35=true→(tO0 p0.2.2.2.2.2.2.2.2.2.2.2.2.2.2.1 p0.2.2.2.2.2.2.2.2.2.2.2.2.2.2.2.1 p0.2.2.2.2.2.2.2.2.2.2.2.2.2.2.2.2.2.1))∧(v35=false→((v44=true→(tO2 p0.2.2.2.2.2.2.2.2.2.2.2.2.2.2.1 p0.2.2.2.2.2.2.2.2.2.2.2.2.2.2.2.1))∧(v44=false→(m50=false→(v62=true→(tO3 p0.2.2.2.2.2.2.2.2.2.2.2.2.2.2.2.2.2.2.2.2.2.2.2.2.2.2.2.1))))))))))))))))),m2_8)
def sF7 p0:=(f80t p0).1
def f80 p0:=(f80t p0).2
instance (p0):Decidable (sF7 p0):=by unfold sF7 f80t;dsimp only;infer_instance
theorem qA:SK 80 (sp1 (.val T80) vI sF7 f80):=fb Tryz.func80 66 [kb rC0,kb sQ2,kb rZ9,kb rN9,kb rQ5,kb rR4,kb rR8,kb rS]
def f81t (p0:D80):Prop×Bool:=
 let v17:=(bif (bif (!(Ty.eqb T68 p0.2.2.2.2.2.2.2.2.2.2.1 ((0:Int),(0:Int),(0:Int),(0:Int),(0:Int),(0:Int),()))) then true else (p0.2.2.2.2.2.2.2.2.2.2.2.1 !=0)) then true else (!(Ty.eqb T73 p0.2.2.2.2.2.2.2.2.2.2.2.2.2.1 ((0:Int),(0:Int),(0:Int),(0:Int),()))))
 let v54:=(bif (bif (bif (p0.2.2.2.2.2.2.2.2.2.2.2.2.2.2.1 !=0) then true else ((len p0.2.2.2.2.2.2.2.2.2.2.2.2.2.2.2.1)!=0)) then true else (p0.2.2.2.2.2.2.2.2.2.2.2.2.2.2.2.2.1 !=0)) then true else ((len p0.2.2.2.2.2.2.2.2.2.2.2.2.2.2.2.2.2.1)!=0))
 let v73:=(bif (bif (bif ((len p0.2.2.2.2.2.2.2.2.2.2.2.2.2.2.2.2.2.2.1)!=0) then true else (p0.2.2.2.2.2.2.2.2.2.2.2.2.2.2.2.2.2.2.2.1 !=0)) then true else (p0.2.2.2.2.2.2.2.2.2.2.2.2.2.2.2.2.2.2.2.2.1 !=0)) then true else (p0.2.2.2.2.2.2.2.2.2.2.2.2.2.2.2.2.2.2.2.2.2.1 !=0))
 let v91:=(bif (bif (!(p0.2.2.2.2.2.2.2.2.2.2.2.2.2.2.2.2.2.2.2.2.2.2.2.1==([]:List UInt8))) then true else (p0.2.2.2.2.2.2.2.2.2.2.2.2.2.2.2.2.2.2.2.2.2.2.2.2.1 !=0)) then true else (p0.2.2.2.2.2.2.2.2.2.2.2.2.2.2.2.2.2.2.2.2.2.2.2.2.2.1 !=0))
 let v112:=(bif (bif (p0.2.2.2.2.2.2.2.2.2.2.2.2.2.2.2.2.2.2.2.2.2.2.2.2.2.2.2.1.1==0) then (p0.2.2.2.2.2.2.2.2.2.2.2.2.2.2.2.2.2.2.2.2.2.2.2.2.2.2.2.1.2.1==0) else false) then (p0.2.2.2.2.2.2.2.2.2.2.2.2.2.2.2.2.2.2.2.2.2.2.2.2.2.2.2.1.2.2.1==0) else false)
 let m2:=(bif (bif v91 then true else (p0.2.2.2.2.2.2.2.2.2.2.2.2.2.2.2.2.2.2.2.2.2.2.2.2.2.2.1 !=0)) then false else (bif v112 then ((len p0.2.2.2.2.2.2.2.2.2.2.2.2.2.2.2.2.2.2.2.2.2.2.2.2.2.2.2.1.2.2.2.1)==0) else false))
 let m2_3:=(bif (bif (bif (p0.2.2.2.2.2.2.2.2.2.2.2.2.1.1 !=0) then true else (p0.2.2.2.2.2.2.2.2.2.2.2.2.1.2.1 !=0)) then true else ((len p0.2.2.2.2.2.2.2.2.2.2.2.2.1.2.2.1)!=0)) then false else (bif v54 then false else (bif (bif v73 then true else (p0.2.2.2.2.2.2.2.2.2.2.2.2.2.2.2.2.2.2.2.2.2.2.1 !=0)) then false else m2)))
 (True,(bif v17 then false else m2_3))
def sF8 p0:=(f81t p0).1
def f81 p0:=(f81t p0).2
instance (p0):Decidable (sF8 p0):=by unfold sF8 f81t;dsimp only;infer_instance
theorem qA0:SK 81 (sp1 (.val T80) vB sF8 f81):=fb Tryz.func81 120
def f82t (p0:D80):Prop×D80:=
 let s_1:=(p0.1,p0.2.1,p0.2.2.1,p0.2.2.2.1,p0.2.2.2.2.1,p0.2.2.2.2.2.1,p0.2.2.2.2.2.2.1,p0.2.2.2.2.2.2.2.1,p0.2.2.2.2.2.2.2.2.1,p0.2.2.2.2.2.2.2.2.2.1,((0:Int),(0:Int),(0:Int),(0:Int),(0:Int),(0:Int),()),p0.2.2.2.2.2.2.2.2.2.2.2)
 let m1:=(bif (f75 p0.2.1) then s_1 else p0)
 let s_2:=(m1.1,m1.2.1,m1.2.2.1,m1.2.2.2.1,m1.2.2.2.2.1,m1.2.2.2.2.2.1,m1.2.2.2.2.2.2.1,m1.2.2.2.2.2.2.2.1,m1.2.2.2.2.2.2.2.2.1,m1.2.2.2.2.2.2.2.2.2.1,m1.2.2.2.2.2.2.2.2.2.2.1,(0:Int),m1.2.2.2.2.2.2.2.2.2.2.2.2)
 let m1_1:=(bif (f78 m1.2.1) then s_2 else m1)
 let s_4:=(m1_1.1,m1_1.2.1,m1_1.2.2.1,m1_1.2.2.2.1,m1_1.2.2.2.2.1,m1_1.2.2.2.2.2.1,m1_1.2.2.2.2.2.2.1,m1_1.2.2.2.2.2.2.2.1,m1_1.2.2.2.2.2.2.2.2.1,m1_1.2.2.2.2.2.2.2.2.2.1,m1_1.2.2.2.2.2.2.2.2.2.2.1,m1_1.2.2.2.2.2.2.2.2.2.2.2.1,((0:Int),(0:Int),([]:List D73),()),m1_1.2.2.2.2.2.2.2.2.2.2.2.2.2)
 let s_6:=(m1_1.1,m1_1.2.1,m1_1.2.2.1,m1_1.2.2.2.1,m1_1.2.2.2.2.1,m1_1.2.2.2.2.2.1,m1_1.2.2.2.2.2.2.1,m1_1.2.2.2.2.2.2.2.1,m1_1.2.2.2.2.2.2.2.2.1,m1_1.2.2.2.2.2.2.2.2.2.1,m1_1.2.2.2.2.2.2.2.2.2.2.1,m1_1.2.2.2.2.2.2.2.2.2.2.2.1,m1_1.2.2.2.2.2.2.2.2.2.2.2.2.1,((0:Int),(0:Int),(0:Int),(0:Int),()),m1_1.2.2.2.2.2.2.2.2.2.2.2.2.2.2)
 let s_10:=(m1_1.1,m1_1.2.1,m1_1.2.2.1,m1_1.2.2.2.1,m1_1.2.2.2.2.1,m1_1.2.2.2.2.2.1,m1_1.2.2.2.2.2.2.1,m1_1.2.2.2.2.2.2.2.1,m1_1.2.2.2.2.2.2.2.2.1,m1_1.2.2.2.2.2.2.2.2.2.1,m1_1.2.2.2.2.2.2.2.2.2.2.1,m1_1.2.2.2.2.2.2.2.2.2.2.2.1,m1_1.2.2.2.2.2.2.2.2.2.2.2.2.1,m1_1.2.2.2.2.2.2.2.2.2.2.2.2.2.1,(0:Int),([]:List Int),(0:Int),([]:List D120),m1_1.2.2.2.2.2.2.2.2.2.2.2.2.2.2.2.2.2.2)
 let s_17:=(m1_1.1,m1_1.2.1,m1_1.2.2.1,m1_1.2.2.2.1,m1_1.2.2.2.2.1,m1_1.2.2.2.2.2.1,m1_1.2.2.2.2.2.2.1,m1_1.2.2.2.2.2.2.2.1,m1_1.2.2.2.2.2.2.2.2.1,m1_1.2.2.2.2.2.2.2.2.2.1,m1_1.2.2.2.2.2.2.2.2.2.2.1,m1_1.2.2.2.2.2.2.2.2.2.2.2.1,m1_1.2.2.2.2.2.2.2.2.2.2.2.2.1,((0:Int),(0:Int),(0:Int),(0:Int),()),m1_1.2.2.2.2.2.2.2.2.2.2.2.2.2.2.1,m1_1.2.2.2.2.2.2.2.2.2.2.2.2.2.2.2.1,m1_1.2.2.2.2.2.2.2.2.2.2.2.2.2.2.2.2.1,m1_1.2.2.2.2.2.2.2.2.2.2.2.2.2.2.2.2.2.1,([]:List D126),(0:Int),(0:Int),(0:Int),(0:Int),m1_1.2.2.2.2.2.2.2.2.2.2.2.2.2.2.2.2.2.2.2.2.2.2.2)
 let s_22:=(m1_1.1,m1_1.2.1,m1_1.2.2.1,m1_1.2.2.2.1,m1_1.2.2.2.2.1,m1_1.2.2.2.2.2.1,m1_1.2.2.2.2.2.2.1,m1_1.2.2.2.2.2.2.2.1,m1_1.2.2.2.2.2.2.2.2.1,m1_1.2.2.2.2.2.2.2.2.2.1,m1_1.2.2.2.2.2.2.2.2.2.2.1,m1_1.2.2.2.2.2.2.2.2.2.2.2.1,m1_1.2.2.2.2.2.2.2.2.2.2.2.2.1,((0:Int),(0:Int),(0:Int),(0:Int),()),m1_1.2.2.2.2.2.2.2.2.2.2.2.2.2.2.1,m1_1.2.2.2.2.2.2.2.2.2.2.2.2.2.2.2.1,m1_1.2.2.2.2.2.2.2.2.2.2.2.2.2.2.2.2.1,m1_1.2.2.2.2.2.2.2.2.2.2.2.2.2.2.2.2.2.1,m1_1.2.2.2.2.2.2.2.2.2.2.2.2.2.2.2.2.2.2.1,m1_1.2.2.2.2.2.2.2.2.2.2.2.2.2.2.2.2.2.2.2.1,m1_1.2.2.2.2.2.2.2.2.2.2.2.2.2.2.2.2.2.2.2.2.1,m1_1.2.2.2.2.2.2.2.2.2.2.2.2.2.2.2.2.2.2.2.2.2.1,m1_1.2.2.2.2.2.2.2.2.2.2.2.2.2.2.2.2.2.2.2.2.2.2.1,([]:List UInt8),(0:Int),(0:Int),m1_1.2.2.2.2.2.2.2.2.2.2.2.2.2.2.2.2.2.2.2.2.2.2.2.2.2.2)
 let s_25:=(m1_1.1,m1_1.2.1,m1_1.2.2.1,m1_1.2.2.2.1,m1_1.2.2.2.2.1,m1_1.2.2.2.2.2.1,m1_1.2.2.2.2.2.2.1,m1_1.2.2.2.2.2.2.2.1,m1_1.2.2.2.2.2.2.2.2.1,m1_1.2.2.2.2.2.2.2.2.2.1,m1_1.2.2.2.2.2.2.2.2.2.2.1,m1_1.2.2.2.2.2.2.2.2.2.2.2.1,m1_1.2.2.2.2.2.2.2.2.2.2.2.2.1,m1_1.2.2.2.2.2.2.2.2.2.2.2.2.2.1,(0:Int),([]:List Int),m1_1.2.2.2.2.2.2.2.2.2.2.2.2.2.2.2.2.1,([]:List D120),m1_1.2.2.2.2.2.2.2.2.2.2.2.2.2.2.2.2.2.2)
 let s_27:=(m1_1.1,m1_1.2.1,m1_1.2.2.1,m1_1.2.2.2.1,m1_1.2.2.2.2.1,m1_1.2.2.2.2.2.1,m1_1.2.2.2.2.2.2.1,m1_1.2.2.2.2.2.2.2.1,m1_1.2.2.2.2.2.2.2.2.1,m1_1.2.2.2.2.2.2.2.2.2.1,m1_1.2.2.2.2.2.2.2.2.2.2.1,m1_1.2.2.2.2.2.2.2.2.2.2.2.1,m1_1.2.2.2.2.2.2.2.2.2.2.2.2.1,m1_1.2.2.2.2.2.2.2.2.2.2.2.2.2.1,(0:Int),([]:List Int),m1_1.2.2.2.2.2.2.2.2.2.2.2.2.2.2.2.2)
 let v54:=(m1_1.2.1==9)
 let s_28:=(m1_1.1,m1_1.2.1,m1_1.2.2.1,m1_1.2.2.2.1,m1_1.2.2.2.2.1,m1_1.2.2.2.2.2.1,m1_1.2.2.2.2.2.2.1,m1_1.2.2.2.2.2.2.2.1,m1_1.2.2.2.2.2.2.2.2.1,m1_1.2.2.2.2.2.2.2.2.2.1,m1_1.2.2.2.2.2.2.2.2.2.2.1,m1_1.2.2.2.2.2.2.2.2.2.2.2.1,m1_1.2.2.2.2.2.2.2.2.2.2.2.2.1,m1_1.2.2.2.2.2.2.2.2.2.2.2.2.2.1,m1_1.2.2.2.2.2.2.2.2.2.2.2.2.2.2.1,m1_1.2.2.2.2.2.2.2.2.2.2.2.2.2.2.2.1,m1_1.2.2.2.2.2.2.2.2.2.2.2.2.2.2.2.2.1,m1_1.2.2.2.2.2.2.2.2.2.2.2.2.2.2.2.2.2.1,m1_1.2.2.2.2.2.2.2.2.2.2.2.2.2.2.2.2.2.2.1,m1_1.2.2.2.2.2.2.2.2.2.2.2.2.2.2.2.2.2.2.2.1,m1_1.2.2.2.2.2.2.2.2.2.2.2.2.2.2.2.2.2.2.2.2.1,m1_1.2.2.2.2.2.2.2.2.2.2.2.2.2.2.2.2.2.2.2.2.2.1,m1_1.2.2.2.2.2.2.2.2.2.2.2.2.2.2.2.2.2.2.2.2.2.2.1,m1_1.2.2.2.2.2.2.2.2.2.2.2.2.2.2.2.2.2.2.2.2.2.2.2.1,m1_1.2.2.2.2.2.2.2.2.2.2.2.2.2.2.2.2.2.2.2.2.2.2.2.2.1,m1_1.2.2.2.2.2.2.2.2.2.2.2.2.2.2.2.2.2.2.2.2.2.2.2.2.2.1,(0:Int),m1_1.2.2.2.2.2.2.2.2.2.2.2.2.2.2.2.2.2.2.2.2.2.2.2.2.2.2.2.1,())
 let s_30:=(m1_1.1,m1_1.2.1,m1_1.2.2.1,m1_1.2.2.2.1,m1_1.2.2.2.2.1,m1_1.2.2.2.2.2.1,m1_1.2.2.2.2.2.2.1,m1_1.2.2.2.2.2.2.2.1,m1_1.2.2.2.2.2.2.2.2.1,m1_1.2.2.2.2.2.2.2.2.2.1,m1_1.2.2.2.2.2.2.2.2.2.2.1,m1_1.2.2.2.2.2.2.2.2.2.2.2.1,m1_1.2.2.2.2.2.2.2.2.2.2.2.2.1,m1_1.2.2.2.2.2.2.2.2.2.2.2.2.2.1,m1_1.2.2.2.2.2.2.2.2.2.2.2.2.2.2.1,m1_1.2.2.2.2.2.2.2.2.2.2.2.2.2.2.2.1,m1_1.2.2.2.2.2.2.2.2.2.2.2.2.2.2.2.2.1,m1_1.2.2.2.2.2.2.2.2.2.2.2.2.2.2.2.2.2.1,m1_1.2.2.2.2.2.2.2.2.2.2.2.2.2.2.2.2.2.2.1,m1_1.2.2.2.2.2.2.2.2.2.2.2.2.2.2.2.2.2.2.2.1,m1_1.2.2.2.2.2.2.2.2.2.2.2.2.2.2.2.2.2.2.2.2.1,m1_1.2.2.2.2.2.2.2.2.2.2.2.2.2.2.2.2.2.2.2.2.2.1,m1_1.2.2.2.2.2.2.2.2.2.2.2.2.2.2.2.2.2.2.2.2.2.2.1,m1_1.2.2.2.2.2.2.2.2.2.2.2.2.2.2.2.2.2.2.2.2.2.2.2.1,m1_1.2.2.2.2.2.2.2.2.2.2.2.2.2.2.2.2.2.2.2.2.2.2.2.2.1,m1_1.2.2.2.2.2.2.2.2.2.2.2.2.2.2.2.2.2.2.2.2.2.2.2.2.2.1,m1_1.2.2.2.2.2.2.2.2.2.2.2.2.2.2.2.2.2.2.2.2.2.2.2.2.2.2.1,((0:Int),(0:Int),(0:Int),([]:List D123),()),())
 let m1_6:=(bif (m1_1.2.1==6) then s_22 else (bif (m1_1.2.1==7) then s_25 else (bif (m1_1.2.1==8) then s_27 else (bif (bif v54 then v54 else (m1_1.2.1==10)) then s_28 else (bif (m1_1.2.1==11) then s_30 else m1_1)))))
 (((tT p0.2.1)∧(tT1 m1.2.1)),(bif (m1_1.2.1==2) then s_4 else (bif (m1_1.2.1==3) then s_6 else (bif (m1_1.2.1==4) then s_10 else (bif (m1_1.2.1==5) then s_17 else m1_6)))))
def sF9 p0:=(f82t p0).1
def f82 p0:=(f82t p0).2
instance (p0):Decidable (sF9 p0):=by unfold sF9 f82t;dsimp only;infer_instance
theorem qA1:SK 82 (sp1 (.val T80) (.val T80) sF9 f82):=fb Tryz.func82 62 [kb rB7,kb rC]
def f55t (p0:D80)(p1:Int)(p2:Int):Prop×Int:=
 let v15:=(f74 p0 p1 p2)
 let v17:=(v15 !=0)
 let v21:=(f75 p0.2.1)
 let v24:=(f76 p0.2.2.2.2.2.2.2.2.2.2.1)
 let v26:=(v24 !=0)
 let v31:=(f77 p0.2.2.2.2.2.2.2.2.2.2.1)
 let v35:=(v31.2.1 !=0)
 let v39:=(f78 p0.2.1)
 let v45:=(bif v39 then (!(f79 p0.2.2.2.2.2.2.2.2.2.2.2.1)) else false)
 let v47:=(f80 p0)
 let v49:=(v47 !=0)
 let v52:=(f82 p0)
 let m6_5:=(bif v17 then v15 else (bif ((v26||((!v26)&&v35))&&v21) then (bif v26 then v24 else v31.2.1) else (bif v45 then (8:Int) else (bif v49 then v47 else (bif (!(f81 v52)) then (1:Int) else (0:Int))))))
 (((sE9 p0 p1 p2)∧((!v17)=true→((tT p0.2.1)∧((v21=true→((uB6 p0.2.2.2.2.2.2.2.2.2.2.1)∧((!v26)=true→(sF0 p0.2.2.2.2.2.2.2.2.2.2.1))))∧((bif v21 then ((!v26)&&(!v35)) else true)=true→((tT1 p0.2.1)∧((v39=true→(sF1 p0.2.2.2.2.2.2.2.2.2.2.2.1))∧((!v45)=true→((sF7 p0)∧((!v49)=true→((sF9 p0)∧(sF8 v52)))))))))))),m6_5)
def sG p0 p1 p2:=(f55t p0 p1 p2).1
def f55 p0 p1 p2:=(f55t p0 p1 p2).2
instance (p0 p1 p2):Decidable (sG p0 p1 p2):=by unfold sG f55t;dsimp only;infer_instance
theorem qA2:SK 55 (sp3 (.val T80) vI vI vI sG f55):=fb Tryz.func55 55 [kb rZ5,kb rB7,kb sF,kb rZ6,kb rC,kb rZ7,kb qA,kb qA0,kb qA1]
abbrev wP7:Type:=((List (Int×Int×Unit))×Int×D28×Unit)
abbrev wN2:Type:=(Int×Unit)
def wX0 (y:wP7)(x:wN2):Prop×Bool×wN2×Bool×Bool:=
 let a2:=y.2.1
 let a3:=y.2.2.1
 let a7:=x.1
 let v16:=(a7 !=0)
 let v24:=(a7==(nth a3.2.2.2.1 a2 Z80).2.2.1)
 let v29:=(Option.getD (yO7 (.int .i64) (.int .i64) a7 y.1) (0:Int))
 ((v16=true→(InB a2 (len a3.2.2.2.1)∧((!v24)=true→InB v29 (len a3.2.2.2.1)))),(v16&&(!v24)),((nth a3.2.2.2.1 v29 Z80).2.2.1,()),(v16&&v24),(!v16))
def vB2 y x:=(wX0 y x).1
def vY y x:=(wX0 y x).2.1
def vC0 y x:=(wX0 y x).2.2.1
def uQ0 y x:=(wX0 y x).2.2.2.1
def tT8 y x:=(wX0 y x).2.2.2.2
instance (y x):Decidable (vB2 y x):=by unfold vB2 wX0;dsimp only;infer_instance
def vV4 (y:wP7)(x:wN2):Bool:=
 true
def uQ1:List (Nat×Sh):=[(1,(.own (xM8 (.int .i64) (.int .i64)) 400100 true)),(6,vB)]
def uQ2:List (Nat×Sh):=[(1,(.own (xM8 (.int .i64) (.int .i64)) 400100 true))]
def tT9:=li [(1,(.own (xM8 (.int .i64) (.int .i64)) 400100 true)),(2,vI),(3,(.box T28 (.val T28)))] [(7,vI)] vY vC0 vB2 (fun y x=>[ex 1 (some (uQ0 y x)) uQ1 (y.1,(vV4 y x),()),ex 2 (some (tT8 y x)) uQ2 (y.1,())]) [uQ1,uQ2]
def tO4 (p0:D28)(p1:(List (Int×Int×Unit)))(p2:Int):Prop×Bool×((List (Int×Int×Unit))×Unit):=
 let v11:=(p2-1)
 let y2:=(p1,p2,p0,())
 let x2:=((nth p0.2.2.2.1 v11 Z80).1,())
 let e2:=(zD9 (vY y2) (vC0 y2) x2)
 let q2_1:=(uQ0 y2 e2)
 ((InR (p2-1)∧(InB v11 (len p0.2.2.2.1)∧(wB6 (vY y2) (vC0 y2) (vB2 y2) x2))),(bif q2_1 then (vV4 y2 e2) else false),((bif q2_1 then p1 else p1),()))
def uF0 p0 p1 p2:=(tO4 p0 p1 p2).1
def sR9 p0 p1 p2:=(tO4 p0 p1 p2).2.1
def sG0 p0 p1 p2:=(tO4 p0 p1 p2).2.2
instance (p0 p1 p2):Decidable (uF0 p0 p1 p2):=by unfold uF0 tO4;dsimp only;infer_instance
theorem sS:SK 56 (fnSpec [(0,(.val T28)),(1,(.own (xM8 (.int .i64) (.int .i64)) 400100 true)),(2,vI)] vB [(1,(.own (xM8 (.int .i64) (.int .i64)) 400100 true))] (fun x=>uF0 x.1 x.2.1 x.2.2.1) (fun x=>sR9 x.1 x.2.1 x.2.2.1) (fun x=>sG0 x.1 x.2.1 x.2.2.1)):=fx (fun c=>{ c with maps:=maps }) Tryz.func56 33 [] [(2,tT9)] [] false [1]
abbrev vI5:Type:=(D28×(List D80)×Int×Unit)
abbrev wV4:Type:=((List (Int×Int×Unit))×(List Int)×Int×Unit)
def uK9 (y:vI5)(x:wV4):Prop×Bool×wV4×Bool×Bool:=
 let a1:=y.1
 let a18:=y.2.1
 let a3:=x.1
 let a4:=x.2.1
 let a20:=x.2.2.1
 let v21:=(decide (a20<y.2.2.1))
 let v23:=(nth a18 a20 Z80)
 let v32:=((f55 v23 a1.1 a1.2.1)!=0)
 let v43:=(bif (decide (v23.1<1)) then true else (decide (v23.1≥a1.2.2.2.2.1)))
 let v50:=(Option.isSome (yO7 (.int .i64) (.int .i64) v23.1 a3))
 let l1004:=(List.set a4 (Int.toNat a20) (1:Int))
 let v57:=(v23.2.2.1 !=0)
 let v63:=(Option.getD (yO7 (.int .i64) (.int .i64) v23.2.2.1 a3) (0:Int))
 let v66:=(!(Option.isSome (yO7 (.int .i64) (.int .i64) v23.2.2.1 a3)))
 let v75:=(bif v66 then true else ((nth a1.2.2.2.1 v63 Z80).2.1 !=1))
 let v80:=(!(sR9 a1 a3 a20))
 let v86:=(nth l1004 v63 (0:Int))
 let c_3:=(bif v57 then ((!v75)&&(!v80)) else true)
 let m4:=(bif v57 then (List.set l1004 (Int.toNat a20) (v86+1)) else l1004)
 let v93:=(decide ((nth m4 a20 (0:Int))>8))
 let c_14:=((!v32)&&((!v43)&&((!v50)&&(c_3&&(!v93)))))
 ((v21=true→(InB a20 (len a18)∧((sG v23 a1.1 a1.2.1)∧(((!v32)=true→((!v43)=true→((!v50)=true→(InB a20 (len a4)∧(a20<len a4∧((v57=true→(((!v66)=true→InB v63 (len a1.2.2.2.1))∧((!v75)=true→((uF0 a1 a3 a20)∧(0<List.length a3∧(List.length a3=List.length a3∧(List.length a3=List.length a3∧(List.length a3=List.length a3∧(List.length a3=List.length a3∧((!v80)=true→(InB v63 (len l1004)∧(v63<len l1004∧(InR (v86+1)∧(InB a20 (len l1004)∧a20<len l1004))))))))))))))∧(c_3=true→(InB a20 (len m4)∧a20<len m4))))))))∧(c_14=true→InR (a20+1)))))),(v21&&c_14),((xW6 (.int .i64) (.int .i64) v23.1 a20 (bif v57 then (sG0 a1 a3 a20).1 else a3)),m4,(a20+1),()),(v21&&(v32||((!v32)&&(v43||((!v43)&&(v50||((!v50)&&(((v75||((!v75)&&v80))&&v57)||(c_3&&v93))))))))),(!v21))
def uF1 y x:=(uK9 y x).1
def tO5 y x:=(uK9 y x).2.1
def vY0 y x:=(uK9 y x).2.2.1
def tU y x:=(uK9 y x).2.2.2.1
def sS0 y x:=(uK9 y x).2.2.2.2
instance (y x):Decidable (uF1 y x):=by unfold uF1 uK9;dsimp only;infer_instance
def tC0 (y:vI5)(x:wV4):Int:=
 let a1:=y.1
 let a3:=x.1
 let a20:=x.2.2.1
 let v23:=(nth y.2.1 a20 Z80)
 let v30:=(f55 v23 a1.1 a1.2.1)
 let v75:=(bif (!(Option.isSome (yO7 (.int .i64) (.int .i64) v23.2.2.1 a3))) then true else ((nth a1.2.2.2.1 (Option.getD (yO7 (.int .i64) (.int .i64) v23.2.2.1 a3) (0:Int)) Z80).2.1 !=1))
 let m2_2:=(bif (Option.isSome (yO7 (.int .i64) (.int .i64) v23.1 a3)) then (10:Int) else (bif ((v75||((!v75)&&(!(sR9 a1 a3 a20))))&&(v23.2.2.1 !=0)) then (bif v75 then (9:Int) else (24:Int)) else (12:Int)))
 (bif (v30 !=0) then v30 else (bif (bif (decide (v23.1<1)) then true else (decide (v23.1≥a1.2.2.2.2.1))) then (2:Int) else m2_2))
def sS1:=li [(1,(.box T28 (.val T28))),(18,(.val (.sl T80))),(19,vI)] [(3,(.own (xM8 (.int .i64) (.int .i64)) 1003 true)),(4,(.own (.int .i64) 1004 true)),(20,vI)] tO5 vY0 uF1 (fun y x=>[ex 1 (some (tU y x)) [(2,vI)] ((tC0 y x),()),ex 2 (some (sS0 y x)) [] ()]) [[(2,vI)],[]]
def f38t (p0:D28):Prop×Int:=
 let v15:=(len p0.2.2.2.1)
 let y4:=(p0,p0.2.2.2.1,(len p0.2.2.2.1),())
 let x4:=(([]:List (Int×Int×Unit)),(List.replicate (Int.toNat v15) (0:Int)),(0:Int),())
 let e4:=(zD9 (tO5 y4) (vY0 y4) x4)
 (((0≤v15∧v15≤v15∧v15≤4294967296)∧(wB6 (tO5 y4) (vY0 y4) (uF1 y4) x4)),(bif (tU y4 e4) then (tC0 y4 e4) else (0:Int)))
def sG1 p0:=(f38t p0).1
def f38 p0:=(f38t p0).2
instance (p0):Decidable (sG1 p0):=by unfold sG1 f38t;dsimp only;infer_instance
theorem qA3:SK 38 (sp1 (.val T28) vI sG1 f38):=fx (fun c=>{ c with wants:=[(56,[1])],maps:=maps }) Tryz.func38 99 [kb qA2,kb sS] [(4,sS1)] [(3,[(4,0,12,1003)]),(5,[(4,0,16,1004)])] false [] [16]
abbrev uF2:Type:=(D28×D80×(List D80)×Int×Int×Unit)
abbrev vI6:Type:=(Int×Unit)
def tO6 (y:uF2)(x:vI6):Prop×Bool×vI6:=
 let a1:=y.1
 let a5:=x.1
 let v20:=(decide (a5≥0))
 let v30:=((nth a1.2.2.2.1 a5 Z80).2.2.1 !=y.2.1.2.2.1)
 let v39:=(bif v20 then (bif v30 then true else (nth a1.2.2.2.1 a5 Z80).2.2.2.2.2.2.1) else false)
 (((v20=true→InB a5 (len a1.2.2.2.1))∧(((v20&&(!v30))=true→InB a5 (len a1.2.2.2.1))∧(v39=true→InR (a5-1)))),v39,((a5-1),()))
def uF3 y x:=(tO6 y x).1
def uT4 y x:=(tO6 y x).2.1
def vI7 y x:=(tO6 y x).2.2
instance (y x):Decidable (uF3 y x):=by unfold uF3 tO6;dsimp only;infer_instance
def vY1 (y:uF2)(x:vI6):Int:=
 x.1
def tU0:List (Nat×Sh):=[(1,(.box T28 (.val T28))),(5,vI),(7,(.val (.sl T80))),(8,vI),(9,vI)]
def sS2:=li [(1,(.box T28 (.val T28))),(4,(.box T80 (.val T80))),(7,(.val (.sl T80))),(8,vI),(9,vI)] [(5,vI)] uT4 vI7 uF3 (fun y x=>[ex 4 none tU0 (y.1,(vY1 y x),y.2.2.1,y.2.2.2.1,y.2.2.2.2.1,())]) [tU0]
abbrev vI8:Type:=(Unit)
abbrev wV5:Type:=(D28×(List D80)×Int×Int×Unit)
def uL (y:vI8)(x:wV5):Prop×Bool×wV5×Bool×Bool:=
 let a1:=x.1
 let a7:=x.2.1
 let a8:=x.2.2.1
 let a9:=x.2.2.2.1
 let v10:=(decide (a9<a8))
 let v12:=(nth a7 a9 Z80)
 let v16:=(!v12.2.2.2.2.2.2.1)
 let y6:=(a1,v12,a7,a8,a9,())
 let x6:=((a9-1),())
 let r6_4_0:=(vY1 y6 (zD9 (uT4 y6) (vI7 y6) x6))
 let v43:=(decide (r6_4_0<0))
 let v47:=(nth a1.2.2.2.1 r6_4_0 Z80)
 let v49:=(f57 v47)
 let c_5:=(v16||((!v16)&&((!v43)&&(!v49))))
 let m9:=(bif v16 then a9 else a9)
 ((v10=true→(InB a9 (len a7)∧(((!v16)=true→(InR (a9-1)∧((wB6 (uT4 y6) (vI7 y6) (uF3 y6) x6)∧((!v43)=true→(InB r6_4_0 (len a1.2.2.2.1)∧(tF4 v47))))))∧(c_5=true→InR (m9+1))))),(v10&&c_5),((bif v16 then a1 else a1),(bif v16 then a7 else a7),(bif v16 then a8 else a8),(m9+1),()),(v10&&((!v16)&&(v43||((!v43)&&v49)))),(!v10))
def uF4 y x:=(uL y x).1
def tO7 y x:=(uL y x).2.1
def vY2 y x:=(uL y x).2.2.1
def tU1 y x:=(uL y x).2.2.2.1
def sS3 y x:=(uL y x).2.2.2.2
instance (y x):Decidable (uF4 y x):=by unfold uF4 uL;dsimp only;infer_instance
def tC1 (y:vI8)(x:wV5):Int:=
 let a7:=x.2.1
 let a9:=x.2.2.2.1
 let y6:=(x.1,(nth a7 a9 Z80),a7,x.2.2.1,a9,())
 (bif (decide ((vY1 y6 (zD9 (uT4 y6) (vI7 y6) ((a9-1),())))<0)) then (14:Int) else (8:Int))
def sS4:=li [] [(1,(.box T28 (.val T28))),(7,(.val (.sl T80))),(8,vI),(9,vI)] tO7 vY2 uF4 (fun y x=>[ex 1 (some (tU1 y x)) [(2,vI)] ((tC1 y x),()),ex 2 (some (sS3 y x)) [] ()]) [[(2,vI)],[]]
def f39t (p0:D28):Prop×Int:=
 let x2:=(p0,p0.2.2.2.1,(len p0.2.2.2.1),(0:Int),())
 let e2:=(zD9 (tO7 ()) (vY2 ()) x2)
 ((wB6 (tO7 ()) (vY2 ()) (uF4 ()) x2),(bif (tU1 () e2) then (tC1 () e2) else (0:Int)))
def sG2 p0:=(f39t p0).1
def f39 p0:=(f39t p0).2
instance (p0):Decidable (sG2 p0):=by unfold sG2 f39t;dsimp only;infer_instance
theorem qA4:SK 39 (sp1 (.val T28) vI sG2 f39):=fb Tryz.func39 51 [kb sP7] [(2,sS4),(6,sS2)]
abbrev vI9:Type:=((List UInt8)×Int×Unit)
abbrev wV6:Type:=(Int×Unit)
def uL0 (y:vI9)(x:wV6):Prop×Bool×wV6×Bool×Bool:=
 let a0:=y.1
 let a14:=x.1
 let v15:=(decide (a14<y.2.1))
 let v20:=(decide ((wK5 a0 a14)<33))
 let v26:=(bif v20 then true else (decide ((wK5 a0 a14)>126)))
 ((v15=true→(InB a14 (len a0)∧(((!v20)=true→InB a14 (len a0))∧((!v26)=true→InR (a14+1))))),(v15&&(!v26)),((a14+1),()),(v15&&v26),(!v15))
def uF5 y x:=(uL0 y x).1
def tO8 y x:=(uL0 y x).2.1
def vY3 y x:=(uL0 y x).2.2.1
def tU2 y x:=(uL0 y x).2.2.2.1
def sS5 y x:=(uL0 y x).2.2.2.2
instance (y x):Decidable (uF5 y x):=by unfold uF5 uL0;dsimp only;infer_instance
def tC2 (y:vI9)(x:wV6):Bool:=
 false
def sS6:=li [(0,vS),(13,vI)] [(14,vI)] tO8 vY3 uF5 (fun y x=>[ex 1 (some (tU2 y x)) [(2,vB)] ((tC2 y x),()),ex 2 (some (sS5 y x)) [] ()]) [[(2,vB)],[]]
def f58t (p0:List UInt8):Prop×Bool:=
 let v11:=(bif (decide ((len p0)<1)) then true else (decide ((len p0)>32)))
 let y4:=(p0,(len p0),())
 let x4:=((0:Int),())
 let e4:=(zD9 (tO8 y4) (vY3 y4) x4)
 (((!v11)=true→(wB6 (tO8 y4) (vY3 y4) (uF5 y4) x4)),(bif v11 then false else (bif (tU2 y4 e4) then (tC2 y4 e4) else true)))
def sG3 p0:=(f58t p0).1
def f58 p0:=(f58t p0).2
instance (p0):Decidable (sG3 p0):=by unfold sG3 f58t;dsimp only;infer_instance
theorem qA5:SK 58 (sp1 vS vB sG3 f58):=fb Tryz.func58 28 [] [(4,sS6)]
abbrev vJ:Type:=(D28×D88×(List D88)×Int×Int×(List D88)×Int×Unit)
abbrev wV7:Type:=(Int×Unit)
def uL1 (y:vJ)(x:wV7):Prop×Bool×wV7×Bool×Bool:=
 let a4:=y.2.1
 let a53:=y.2.2.2.2.2.1
 let a55:=x.1
 let v56:=(decide (a55<y.2.2.2.2.2.2.1))
 let v57:=(nth a53 a55 Z88)
 let v70:=(bif (v57.1==a4.1) then true else (v57.2.1==a4.2.1))
 ((v56=true→(InB a55 (len a53)∧((!v70)=true→InR (a55+1)))),(v56&&(!v70)),((a55+1),()),(v56&&v70),(!v56))
def uF6 y x:=(uL1 y x).1
def uT5 y x:=(uL1 y x).2.1
def vJ0 y x:=(uL1 y x).2.2.1
def tC3 y x:=(uL1 y x).2.2.2.1
def tU3 y x:=(uL1 y x).2.2.2.2
instance (y x):Decidable (uF6 y x):=by unfold uF6 uL1;dsimp only;infer_instance
def tC4 (y:vJ)(x:wV7):Int:=
 (10:Int)
def tU4:List (Nat×Sh):=[(1,(.box T28 (.val T28))),(4,(.box T88 (.val T88))),(9,(.val (.sl T88))),(10,vI),(11,vI)]
def sS7:=li [(1,(.box T28 (.val T28))),(4,(.box T88 (.val T88))),(9,(.val (.sl T88))),(10,vI),(11,vI),(53,(.val (.sl T88))),(54,vI)] [(55,vI)] uT5 vJ0 uF6 (fun y x=>[ex 1 (some (tC3 y x)) [(2,vI)] ((tC4 y x),()),ex 4 (some (tU3 y x)) tU4 (y.1,y.2.1,y.2.2.1,y.2.2.2.1,y.2.2.2.2.1,())]) [[(2,vI)],tU4]
abbrev vJ1:Type:=(D28×(List D88)×Int×Unit)
abbrev wV8:Type:=(Int×Unit)
def uL2 (y:vJ1)(x:wV8):Prop×Bool×wV8×Bool×Bool:=
 let a1:=y.1
 let a9:=y.2.1
 let a10:=y.2.2.1
 let a11:=x.1
 let v12:=(decide (a11<a10))
 let v14:=(nth a9 a11 Z88)
 let v19:=(!(f58 v14.2.1))
 let v44:=(bif (bif (bif (bif (decide (v14.1<1)) then true else (decide (v14.1≥a1.2.2.2.2.1))) then true else (decide (v14.2.2.1<0))) then true else (decide (v14.2.2.1>2))) then true else (decide (v14.2.2.2.1<1)))
 let v49:=(bif v44 then true else (decide (v14.2.2.2.1>1073741824)))
 let v53:=(List.take (Int.toNat a11) a1.2.2.2.2.2.2.2.1)
 let y9:=(a1,v14,a9,a10,a11,v53,(len v53),())
 let x9:=((0:Int),())
 let e9:=(zD9 (uT5 y9) (vJ0 y9) x9)
 let q9_4:=(tU3 y9 e9)
 let v76:=((f59 v14.2.2.2.2.1)!=0)
 let c_8:=((!v19)&&((!v49)&&(q9_4&&(!v76))))
 ((v12=true→(InB a11 (len a9)∧((sG3 v14.2.1)∧(((!v19)=true→((!v49)=true→((0≤a11∧a11≤len a1.2.2.2.2.2.2.2.1)∧((wB6 (uT5 y9) (vJ0 y9) (uF6 y9) x9)∧(q9_4=true→(tT3 v14.2.2.2.2.1))))))∧(c_8=true→InR (a11+1)))))),(v12&&c_8),((a11+1),()),(v12&&(v19||((!v19)&&(v49||((!v49)&&((tC3 y9 e9)||(q9_4&&v76))))))),(!v12))
def uF7 y x:=(uL2 y x).1
def tO9 y x:=(uL2 y x).2.1
def vY4 y x:=(uL2 y x).2.2.1
def tU5 y x:=(uL2 y x).2.2.2.1
def sS8 y x:=(uL2 y x).2.2.2.2
instance (y x):Decidable (uF7 y x):=by unfold uF7 uL2;dsimp only;infer_instance
def tC5 (y:vJ1)(x:wV8):Int:=
 let a1:=y.1
 let a9:=y.2.1
 let a11:=x.1
 let v14:=(nth a9 a11 Z88)
 let v44:=(bif (bif (bif (bif (decide (v14.1<1)) then true else (decide (v14.1≥a1.2.2.2.2.1))) then true else (decide (v14.2.2.1<0))) then true else (decide (v14.2.2.1>2))) then true else (decide (v14.2.2.2.1<1)))
 let v53:=(List.take (Int.toNat a11) a1.2.2.2.2.2.2.2.1)
 let y9:=(a1,v14,a9,y.2.2.1,a11,v53,(len v53),())
 let e9:=(zD9 (uT5 y9) (vJ0 y9) ((0:Int),()))
 let m2_2:=(bif (!(f58 v14.2.1)) then (13:Int) else (bif (bif v44 then true else (decide (v14.2.2.2.1>1073741824))) then (2:Int) else (bif (tC3 y9 e9) then (tC4 y9 e9) else (f59 v14.2.2.2.2.1))))
 m2_2
def sS9:=li [(1,(.box T28 (.val T28))),(9,(.val (.sl T88))),(10,vI)] [(11,vI)] tO9 vY4 uF7 (fun y x=>[ex 1 (some (tU5 y x)) [(2,vI)] ((tC5 y x),()),ex 2 (some (sS8 y x)) [] ()]) [[(2,vI)],[]]
def f40t (p0:D28):Prop×Int:=
 let y2:=(p0,p0.2.2.2.2.2.2.2.1,(len p0.2.2.2.2.2.2.2.1),())
 let x2:=((0:Int),())
 let e2:=(zD9 (tO9 y2) (vY4 y2) x2)
 ((wB6 (tO9 y2) (vY4 y2) (uF7 y2) x2),(bif (tU5 y2 e2) then (tC5 y2 e2) else (0:Int)))
def sG4 p0:=(f40t p0).1
def f40 p0:=(f40t p0).2
instance (p0):Decidable (sG4 p0):=by unfold sG4 f40t;dsimp only;infer_instance
theorem qA6:SK 40 (sp1 (.val T28) vI sG4 f40):=fb Tryz.func40 79 [kb qA5,kb rC0] [(2,sS9),(9,sS7)]
def sA9 (p0:D80)(p1:Int):Prop×Bool:=
 (True,(p0.1==p1))
def uF8 p0 p1:=(sA9 p0 p1).1
def rC2 p0 p1:=(sA9 p0 p1).2
instance (p0 p1):Decidable (uF8 p0 p1):=by unfold uF8 sA9;dsimp only;infer_instance
theorem sT:SK 87 (sp2 (.val T80) (.val (.ptr (.int .i64))) vB uF8 rC2):=fb Tryz.func87 8
abbrev wP8:Type:=((List D80)×(Int×Unit)×Int×Unit)
abbrev wN3:Type:=(Int×Unit)
def wX1 (y:wP8)(x:wN3):Prop×Bool×wN3×Bool×Bool:=
 let a0:=y.1
 let a1:=y.2.1
 let a8:=x.1
 let v9:=(decide (a8<y.2.2.1))
 let v14:=(nth a0 a8 Z80)
 let v16:=(rC2 v14 a1.1)
 ((v9=true→(InB a8 (len a0)∧((uF8 v14 a1.1)∧((!v16)=true→InR (a8+1))))),(v9&&(!v16)),((a8+1),()),(v9&&v16),(!v9))
def vB3 y x:=(wX1 y x).1
def vY5 y x:=(wX1 y x).2.1
def vC1 y x:=(wX1 y x).2.2.1
def uQ3 y x:=(wX1 y x).2.2.2.1
def tU6 y x:=(wX1 y x).2.2.2.2
instance (y x):Decidable (vB3 y x):=by unfold vB3 wX1;dsimp only;infer_instance
def vV5 (y:wP8)(x:wN3):Int:=
 x.1
def tU7:=li [(0,(.val (.sl T80))),(1,(.fn 87 (.cons (.val (.ptr (.int .i64))) .nl))),(7,vI)] [(8,vI)] vY5 vC1 vB3 (fun y x=>[ex 1 (some (uQ3 y x)) [(4,vI)] ((vV5 y x),()),ex 2 (some (tU6 y x)) [] ()]) [[(4,vI)],[]]
def sB (p0:List D80)(p1:(Int×Unit)):Prop×Int:=
 let y2:=(p0,(p1.1,()),(len p0),())
 let x2:=((0:Int),())
 let e2:=(zD9 (vY5 y2) (vC1 y2) x2)
 ((wB6 (vY5 y2) (vC1 y2) (vB3 y2) x2),(bif (uQ3 y2 e2) then (vV5 y2 e2) else (-1:Int)))
def uF9 p0 p1:=(sB p0 p1).1
def rC3 p0 p1:=(sB p0 p1).2
instance (p0 p1):Decidable (uF9 p0 p1):=by unfold uF9 sB;dsimp only;infer_instance
theorem sT0:SK 86 (sp2 (.val (.sl T80)) (.fn 87 (.cons (.val (.ptr (.int .i64))) .nl)) vI uF9 rC3):=fb Tryz.func86 19 [kb sT] [(2,tU7)]
def f62t (p0:D28)(p1:Int):Prop×Int:=
 let s:=(p1,())
 ((uF9 p0.2.2.2.1 s),(rC3 p0.2.2.2.1 s))
def tU8 p0 p1:=(f62t p0 p1).1
def f62 p0 p1:=(f62t p0 p1).2
instance (p0 p1):Decidable (tU8 p0 p1):=by unfold tU8 f62t;dsimp only;infer_instance
theorem rC4:SK 62 (sp2 (.val T28) vI vI tU8 f62):=fb Tryz.func62 9 [kb sT0] [] [(2,[(3,3,0,0)])]
def sB0 (p0:D88)(p1:D80):Prop×Bool:=
 (True,(p0.1==p1.2.2.2.2.2.2.2.2.2.2.2.2.2.2.2.2.2.2.2.2.2.2.2.2.2.2.1))
def uG p0 p1:=(sB0 p0 p1).1
def rC5 p0 p1:=(sB0 p0 p1).2
instance (p0 p1):Decidable (uG p0 p1):=by unfold uG sB0;dsimp only;infer_instance
theorem sT1:SK 61 (sp2 (.val T88) (.val (.ptr T80)) vB uG rC5):=fb Tryz.func61 9
abbrev wP9:Type:=((List D88)×(D80×Unit)×Int×Unit)
abbrev wN4:Type:=(Int×Unit)
def wX2 (y:wP9)(x:wN4):Prop×Bool×wN4×Bool×Bool:=
 let a0:=y.1
 let a1:=y.2.1
 let a8:=x.1
 let v9:=(decide (a8<y.2.2.1))
 let v14:=(nth a0 a8 Z88)
 let v16:=(rC5 v14 a1.1)
 ((v9=true→(InB a8 (len a0)∧((uG v14 a1.1)∧((!v16)=true→InR (a8+1))))),(v9&&(!v16)),((a8+1),()),(v9&&v16),(!v9))
def vB4 y x:=(wX2 y x).1
def vY6 y x:=(wX2 y x).2.1
def vC2 y x:=(wX2 y x).2.2.1
def uQ4 y x:=(wX2 y x).2.2.2.1
def tU9 y x:=(wX2 y x).2.2.2.2
instance (y x):Decidable (vB4 y x):=by unfold vB4 wX2;dsimp only;infer_instance
def vV6 (y:wP9)(x:wN4):Int:=
 x.1
def tV:=li [(0,(.val (.sl T88))),(1,(.fn 61 (.cons (.val (.ptr T80)) .nl))),(7,vI)] [(8,vI)] vY6 vC2 vB4 (fun y x=>[ex 1 (some (uQ4 y x)) [(4,vI)] ((vV6 y x),()),ex 2 (some (tU9 y x)) [] ()]) [[(4,vI)],[]]
def sB1 (p0:List D88)(p1:(D80×Unit)):Prop×Int:=
 let y2:=(p0,(p1.1,()),(len p0),())
 let x2:=((0:Int),())
 let e2:=(zD9 (vY6 y2) (vC2 y2) x2)
 ((wB6 (vY6 y2) (vC2 y2) (vB4 y2) x2),(bif (uQ4 y2 e2) then (vV6 y2 e2) else (-1:Int)))
def uG0 p0 p1:=(sB1 p0 p1).1
def rC6 p0 p1:=(sB1 p0 p1).2
instance (p0 p1):Decidable (uG0 p0 p1):=by unfold uG0 sB1;dsimp only;infer_instance
theorem sT2:SK 85 (sp2 (.val (.sl T88)) (.fn 61 (.cons (.val (.ptr T80)) .nl)) vI uG0 rC6):=fb Tryz.func85 19 [kb sT1] [(2,tV)]
def sB2 (p0:List D88)(p1:(D80×Unit)):Prop×Bool:=
 let s:=(p1.1,())
 ((uG0 p0 s),(decide ((rC6 p0 s)≥0)))
def uG1 p0 p1:=(sB2 p0 p1).1
def rC7 p0 p1:=(sB2 p0 p1).2
instance (p0 p1):Decidable (uG1 p0 p1):=by unfold uG1 sB2;dsimp only;infer_instance
theorem sT3:SK 60 (sp2 (.val (.sl T88)) (.fn 61 (.cons (.val (.ptr T80)) .nl)) vB uG1 rC7):=fb Tryz.func60 9 [kb sT2]
abbrev vJ2:Type:=(D28×(List D80)×Int×Unit)
abbrev wV9:Type:=(Int×Unit)
def uL3 (y:vJ2)(x:wV9):Prop×Bool×wV9×Bool×Bool:=
 let a1:=y.1
 let a7:=y.2.1
 let a9:=x.1
 let v10:=(decide (a9<y.2.2.1))
 let v11:=(nth a7 a9 Z80)
 let v16:=(v11.2.1==9)
 let s:=(v11,())
 let v21:=(!(rC7 a1.2.2.2.2.2.2.2.1 s))
 let v23:=(v11.2.1==10)
 let v27:=(f62 a1 v11.2.2.2.2.2.2.2.2.2.2.2.2.2.2.2.2.2.2.2.2.2.2.2.2.2.2.1)
 let v29:=(decide (v27<0))
 let v33:=(nth a1.2.2.2.1 v27 Z80)
 let v35:=(f57 v33)
 let c_6:=(bif v16 then (!v21) else (bif v23 then ((!v29)&&(!v35)) else true))
 ((v10=true→(InB a9 (len a7)∧((v16=true→(uG1 a1.2.2.2.2.2.2.2.1 s))∧((v16=false→(v23=true→((tU8 a1 v11.2.2.2.2.2.2.2.2.2.2.2.2.2.2.2.2.2.2.2.2.2.2.2.2.2.2.1)∧((!v29)=true→(InB v27 (len a1.2.2.2.1)∧(tF4 v33))))))∧(c_6=true→InR (a9+1)))))),(v10&&c_6),((a9+1),()),(v10&&(bif v16 then v21 else ((v29||((!v29)&&v35))&&v23))),(!v10))
def uG2 y x:=(uL3 y x).1
def tP y x:=(uL3 y x).2.1
def vY7 y x:=(uL3 y x).2.2.1
def tV0 y x:=(uL3 y x).2.2.2.1
def sT4 y x:=(uL3 y x).2.2.2.2
instance (y x):Decidable (uG2 y x):=by unfold uG2 uL3;dsimp only;infer_instance
def tC6 (y:vJ2)(x:wV9):Int:=
 let v11:=(nth y.2.1 x.1 Z80)
 (bif (v11.2.1==9) then (9:Int) else (bif (decide ((f62 y.1 v11.2.2.2.2.2.2.2.2.2.2.2.2.2.2.2.2.2.2.2.2.2.2.2.2.2.2.1)<0)) then (9:Int) else (8:Int)))
def sT5:=li [(1,(.box T28 (.val T28))),(7,(.val (.sl T80))),(8,vI)] [(9,vI)] tP vY7 uG2 (fun y x=>[ex 1 (some (tV0 y x)) [(2,vI)] ((tC6 y x),()),ex 2 (some (sT4 y x)) [] ()]) [[(2,vI)],[]]
def f41t (p0:D28):Prop×Int:=
 let y2:=(p0,p0.2.2.2.1,(len p0.2.2.2.1),())
 let x2:=((0:Int),())
 let e2:=(zD9 (tP y2) (vY7 y2) x2)
 ((wB6 (tP y2) (vY7 y2) (uG2 y2) x2),(bif (tV0 y2 e2) then (tC6 y2 e2) else (0:Int)))
def sG5 p0:=(f41t p0).1
def f41 p0:=(f41t p0).2
instance (p0):Decidable (sG5 p0):=by unfold sG5 f41t;dsimp only;infer_instance
theorem qA7:SK 41 (sp1 (.val T28) vI sG5 f41):=fb Tryz.func41 37 [kb sP7,kb sT3,kb rC4] [(2,sT5)] [(12,[(3,4,0,0)])]
abbrev uG3:Type:=(Int×D28×(List D80)×Int×Unit)
abbrev vJ3:Type:=((List Int)×Int×Unit)
def tP0 (y:uG3)(x:vJ3):Prop×Bool×vJ3:=
 let a1:=y.1
 let a2:=y.2.1
 let a18:=y.2.2.1
 let a5:=x.1
 let a20:=x.2.1
 let v21:=(decide (a20<y.2.2.2.1))
 let v33:=((nth a18 a20 Z80).2.2.1==(nth a2.2.2.2.1 a1 Z80).1)
 let v36:=([a20]:List Int)
 ((v21=true→(InB a20 (len a18)∧(InB a1 (len a2.2.2.2.1)∧((v33=true→((List.length a5+List.length v36:Nat):Int)≤4294967296)∧InR (a20+1))))),v21,((bif v33 then (a5++v36) else a5),(a20+1),()))
def uG4 y x:=(tP0 y x).1
def tP1 y x:=(tP0 y x).2.1
def vY8 y x:=(tP0 y x).2.2
instance (y x):Decidable (uG4 y x):=by unfold uG4 tP0;dsimp only;infer_instance
def tC7 (y:uG3)(x:vJ3):(List Int):=
 x.1
def tV1:List (Nat×Sh):=[(5,(.own (.int .i64) 1005 false))]
def sT6:=li [(1,vI),(2,(.box T28 (.val T28))),(18,(.val (.sl T80))),(19,vI)] [(5,(.own (.int .i64) 1005 false)),(20,vI)] tP1 vY8 uG4 (fun y x=>[ex 3 none tV1 ((tC7 y x),())]) [tV1]
def f64t (p0:D28)(p1:Int):Prop×(List Int):=
 let v12:=(nth p0.2.2.2.1 p1 Z80)
 let v16:=(v12.2.1==1)
 let y5:=(p1,p0,p0.2.2.2.1,(len p0.2.2.2.1),())
 let x5:=(([]:List Int),(0:Int),())
 let v40:=(v12.2.1==10)
 let v45:=(nth p0.2.2.2.1 p1 Z80)
 let v48:=(f62 p0 v45.2.2.2.2.2.2.2.2.2.2.2.2.2.2.2.2.2.2.2.2.2.2.2.2.2.2.1)
 let v50:=(decide (v48≥0))
 let v53:=([v48]:List Int)
 ((InB p1 (len p0.2.2.2.1)∧((v16=true→(wB6 (tP1 y5) (vY8 y5) (uG4 y5) x5))∧(v16=false→(v40=true→(InB p1 (len p0.2.2.2.1)∧((tU8 p0 v45.2.2.2.2.2.2.2.2.2.2.2.2.2.2.2.2.2.2.2.2.2.2.2.2.2.2.1)∧(v50=true→(List.length v53:Int)≤4294967296))))))),(bif v16 then (tC7 y5 (zD9 (tP1 y5) (vY8 y5) x5)) else (bif v40 then (bif v50 then v53 else []) else [])))
def tV2 p0 p1:=(f64t p0 p1).1
def f64 p0 p1:=(f64t p0 p1).2
instance (p0 p1):Decidable (tV2 p0 p1):=by unfold tV2 f64t;dsimp only;infer_instance
def sZ1:=sp2 (.val T28) vI (.own (.int .i64) 0 false) tV2 f64
theorem qA8:SK 64 (sp2 (.val T28) vI (.own (.int .i64) 0 false) tV2 f64):=fb Tryz.func64 56 [kb rC4] [(5,sT6)] [(17,[(4,0,37,1005)]),(27,[(4,0,54,1005)]),(29,[(4,0,1005,0)])]
abbrev wM:Type:=Int→(List Bool)→(List Bool)→D28→Unit→Prop×Bool×((List Bool)×(List Bool)×D28×Unit)
def vE9 (r:wM):Am.Spec:=fnSpec [(0,vI),(1,(.box (.sl .bool) (.own .bool 400100 true))),(2,(.box (.sl .bool) (.own .bool 400200 true))),(3,(.box T28 (.val T28))),(4,(.fptr 63 [some (1,(.sl .bool)),some (2,(.sl .bool)),some (3,T28),none]))] vB [(1,(.box (.sl .bool) (.own .bool 400100 true))),(2,(.box (.sl .bool) (.own .bool 400200 true))),(3,(.box T28 (.val T28)))] (fun x=>(r x.1 x.2.1 x.2.2.1 x.2.2.2.1 x.2.2.2.2.1).1) (fun x=>(r x.1 x.2.1 x.2.2.1 x.2.2.2.1 x.2.2.2.2.1).2.1) (fun x=>(r x.1 x.2.1 x.2.2.1 x.2.2.2.1 x.2.2.2.2.1).2.2)
abbrev wM0:Type:=(Int×Unit×(List Int)×Int×Unit)
abbrev wL9:Type:=((List Bool)×(List Bool)×D28×Int×Unit)
def wX3 (r:wM)(y:wM0)(x:wL9):Prop×Bool×wL9×Bool×Bool:=
 let a29:=y.2.2.1
 let a1:=x.1
 let a2:=x.2.1
 let a3:=x.2.2.1
 let a31:=x.2.2.2.1
 let v32:=(decide (a31<y.2.2.2.1))
 let v33:=(nth a29 a31 (0:Int))
 let v37:=(r v33 a1 a2 a3 ()).2.1
 let v37o:=(r v33 a1 a2 a3 ()).2.2
 ((v32=true→(InB a31 (len a29)∧((r v33 a1 a2 a3 ()).1∧((!v37)=true→InR (a31+1))))),(v32&&(!v37)),(v37o.1,v37o.2.1,v37o.2.2.1,(a31+1),()),(v32&&v37),(!v32))
def vB5 (r:wM)(y:wM0)(x:wL9):Prop:=((wX3 r) y x).1
def vY9 (r:wM)(y:wM0)(x:wL9):Bool:=((wX3 r) y x).2.1
def vC3 (r:wM)(y:wM0)(x:wL9):wL9:=((wX3 r) y x).2.2.1
def uQ5 (r:wM)(y:wM0)(x:wL9):Bool:=((wX3 r) y x).2.2.2.1
def uQ6 (r:wM)(y:wM0)(x:wL9):Bool:=((wX3 r) y x).2.2.2.2
instance (r:wM) [∀ q0 q1 q2 q3 q4,Decidable (r q0 q1 q2 q3 q4).1] (y:wM0)(x:wL9):Decidable ((vB5 r) y x):=by
 unfold vB5 wX3
 try dsimp only
 infer_instance
def vV7 (r:wM)(y:wM0)(x:wL9):(List Bool):=
 ((r (nth y.2.2.1 x.2.2.2.1 (0:Int)) x.1 x.2.1 x.2.2.1 ()).2.2).1
def vV8 (r:wM)(y:wM0)(x:wL9):(List Bool):=
 ((r (nth y.2.2.1 x.2.2.2.1 (0:Int)) x.1 x.2.1 x.2.2.1 ()).2.2).2.1
def vV9 (r:wM)(y:wM0)(x:wL9):D28:=
 ((r (nth y.2.2.1 x.2.2.2.1 (0:Int)) x.1 x.2.1 x.2.2.1 ()).2.2).2.2.1
def vW (r:wM)(y:wM0)(x:wL9):Bool:=
 true
def uQ7:List (Nat×Sh):=[(1,(.box (.sl .bool) (.own .bool 400100 true))),(2,(.box (.sl .bool) (.own .bool 400200 true))),(3,(.box T28 (.val T28))),(6,vB)]
def vW0 (r:wM)(y:wM0)(x:wL9):(List Bool):=
 x.1
def vW1 (r:wM)(y:wM0)(x:wL9):(List Bool):=
 x.2.1
def vW2 (r:wM)(y:wM0)(x:wL9):D28:=
 x.2.2.1
def uQ8:List (Nat×Sh):=[(0,vI),(1,(.box (.sl .bool) (.own .bool 400100 true))),(2,(.box (.sl .bool) (.own .bool 400200 true))),(3,(.box T28 (.val T28)))]
def vW3 (r:wM):St→Option Out:=xU9 [(0,vI),(4,(.fptr 63 [some (1,(.sl .bool)),some (2,(.sl .bool)),some (3,T28),none])),(29,(.own (.int .i64) 29 false)),(30,vI)] [(1,(.box (.sl .bool) (.own .bool 400100 true))),(2,(.box (.sl .bool) (.own .bool 400200 true))),(3,(.box T28 (.val T28))),(31,vI)] (vY9 r) (vC3 r) (vB5 r) fun y x=>[ex 1 (some ((uQ5 r) y x)) uQ7 (((vV7 r) y x),((vV8 r) y x),((vV9 r) y x),((vW r) y x),()),ex 2 (some ((uQ6 r) y x)) uQ8 (y.1,((vW0 r) y x),((vW1 r) y x),((vW2 r) y x),())]
def tC8 (r:wM)(p0:Int)(p1:List Bool)(p2:List Bool)(p3:D28)(p4:Unit):Prop×Bool×((List Bool)×(List Bool)×D28×Unit):=
 let v12:=(nth p1 p0 false)
 let v18:=(bif v12 then true else (nth p2 p0 false))
 let v29:=(f64 p3 p0)
 let y5:=(p0,(),v29,(len v29),())
 let x5:=(p1,(List.set p2 (Int.toNat p0) true),p3,(0:Int),())
 let e5:=(zD9 ((vY9 r) y5) ((vC3 r) y5) x5)
 let q5_1:=((uQ5 r) y5 e5)
 let r5_2_0:=((vW0 r) y5 e5)
 ((InB p0 (len p1)∧(p0<len p1∧(((!v12)=true→InB p0 (len p2))∧(((!v12)=true→p0<len p2)∧((v18=true→(InB p0 (len p1)∧p0<len p1))∧((!v18)=true→(InB p0 (len p2)∧(p0<len p2∧((tV2 p3 p0)∧((wB6 ((vY9 r) y5) ((vC3 r) y5) ((vB5 r) y5) x5)∧(((uQ6 r) y5 e5)=true→(InB p0 (len r5_2_0)∧p0<len r5_2_0)))))))))))),(bif v18 then (!(nth p1 p0 false)) else (bif q5_1 then ((vW r) y5 e5) else false)),((bif v18 then p1 else (bif q5_1 then ((vV7 r) y5 e5) else (List.set r5_2_0 (Int.toNat p0) true))),(bif v18 then p2 else (bif q5_1 then ((vV8 r) y5 e5) else ((vW1 r) y5 e5))),(bif v18 then p3 else (bif q5_1 then ((vV9 r) y5 e5) else ((vW2 r) y5 e5))),()))
def tI9 (r:wM):Ctx:={ Cx tys [(63,vE9 r),(64,sZ1)] [(5,(vW3 r))] [] false 42 [1,2,3] [] with wants:=[(63,[])],fts:=fts }
theorem tJ (r:wM)(hr:SpecOk Tryz.prog 63 (vE9 r)):CtxOk Tryz.prog (tI9 r):=cq ⟨hr,qA8,trivial⟩
noncomputable def sB3:Code:=Tryz.f63.body.getD .skip
noncomputable def tV3:Code:=wJ9 sB3 0
theorem tV4 (r:wM)(hr:SpecOk Tryz.prog 63 (vE9 r)):xD3 Tryz.prog (tI9 r) tV3:=lq (tJ r hr) (sp:=(vW3 r)) rfl [uQ7,uQ8]
instance (r:wM) [∀ q0 q1 q2 q3 q4,Decidable (r q0 q1 q2 q3 q4).1] (p0:Int)(p1:List Bool)(p2:List Bool)(p3:D28)(p4:Unit):Decidable (tC8 r p0 p1 p2 p3 p4).1:=by
 unfold tC8
 try dsimp only
 infer_instance
theorem sB4 (r:wM)(hr:SpecOk Tryz.prog 63 (vE9 r)):SpecOk Tryz.prog 63 (vE9 (tC8 r)):=wL5 (tJ r hr) mixed Tryz.func63 (by kernel_rfl) (bs:=[tV3]) (by kernel_rfl) ⟨tV4 r hr,trivial⟩ fun x=>by kernel_rfl
def wW:Nat→wM
 |0=>fun _ _ _ _ _=>(False,false,(([]:List Bool),([]:List Bool),Z28,()))
 |k+1=>tC8 (wW k)
theorem tJ0:∀ k,SpecOk Tryz.prog 63 (vE9 (wW k))
 |0=>wG1 Tryz.func63 (by kernel_rfl) (by decide)
 |k+1=>sB4 _ (tJ0 k)
def uT6 (p0:Int)(p1:List Bool)(p2:List Bool)(p3:D28)(p4:Unit):Nat:=(List.length p1+1)
def tC9 (p0:Int)(p1:List Bool)(p2:List Bool)(p3:D28)(p4:Unit):Prop:=(wW (uT6 p0 p1 p2 p3 p4) p0 p1 p2 p3 p4).1
def rC8 (p0:Int)(p1:List Bool)(p2:List Bool)(p3:D28)(p4:Unit):Bool:=(wW (uT6 p0 p1 p2 p3 p4) p0 p1 p2 p3 p4).2.1
def sG6 (p0:Int)(p1:List Bool)(p2:List Bool)(p3:D28)(p4:Unit):((List Bool)×(List Bool)×D28×Unit):=(wW (uT6 p0 p1 p2 p3 p4) p0 p1 p2 p3 p4).2.2
def tJ1:∀ (k:Nat) (p0:Int) (p1:List Bool) (p2:List Bool) (p3:D28) (p4:Unit),Decidable (wW k p0 p1 p2 p3 p4).1
 |0,_,_,_,_,_=>isFalse id
 |k+1,p0,p1,p2,p3,p4=>by
  have:∀ (q0:Int) (q1:List Bool) (q2:List Bool) (q3:D28) (q4:Unit),Decidable (wW k q0 q1 q2 q3 q4).1:=tJ1 k;exact inferInstanceAs (Decidable (tC8 (wW k) p0 p1 p2 p3 p4).1)
instance (p0:Int)(p1:List Bool)(p2:List Bool)(p3:D28)(p4:Unit):Decidable (tC9 p0 p1 p2 p3 p4):=tJ1 _ p0 p1 p2 p3 p4
def sB5:Am.Spec:=fnSpec [(0,vI),(1,(.box (.sl .bool) (.own .bool 400100 true))),(2,(.box (.sl .bool) (.own .bool 400200 true))),(3,(.box T28 (.val T28))),(4,(.fptr 63 [some (1,(.sl .bool)),some (2,(.sl .bool)),some (3,T28),none]))] vB [(1,(.box (.sl .bool) (.own .bool 400100 true))),(2,(.box (.sl .bool) (.own .bool 400200 true))),(3,(.box T28 (.val T28)))] (fun x=>tC9 x.1 x.2.1 x.2.2.1 x.2.2.2.1 x.2.2.2.2.1) (fun x=>rC8 x.1 x.2.1 x.2.2.1 x.2.2.2.1 x.2.2.2.2.1) (fun x=>sG6 x.1 x.2.1 x.2.2.1 x.2.2.2.1 x.2.2.2.2.1)
theorem sT7:SpecOk Tryz.prog 63 sB5:=wH6 (ps:=[(0,vI),(1,(.box (.sl .bool) (.own .bool 400100 true))),(2,(.box (.sl .bool) (.own .bool 400200 true))),(3,(.box T28 (.val T28))),(4,(.fptr 63 [some (1,(.sl .bool)),some (2,(.sl .bool)),some (3,T28),none]))]) (rs:=vB) (os:=[(1,(.box (.sl .bool) (.own .bool 400100 true))),(2,(.box (.sl .bool) (.own .bool 400200 true))),(3,(.box T28 (.val T28)))]) (R:=fun k x=>wW k x.1 x.2.1 x.2.2.1 x.2.2.2.1 x.2.2.2.2.1) tJ0 fun x=>uT6 x.1 x.2.1 x.2.2.1 x.2.2.2.1 x.2.2.2.2.1
abbrev vJ4:Type:=(Unit×Int×Unit)
abbrev wW0:Type:=(D28×(List Bool)×(List Bool)×Int×Unit)
def uL4 (y:vJ4)(x:wW0):Prop×Bool×wW0×Bool×Bool:=
 let a1:=x.1
 let a3:=x.2.1
 let a4:=x.2.2.1
 let a19:=x.2.2.2.1
 let v20:=(decide (a19<y.2.1))
 let v24:=(rC8 a19 a4 a3 a1 ())
 let v24o:=(sG6 a19 a4 a3 a1 ())
 ((v20=true→((tC9 a19 a4 a3 a1 ())∧((!v24)=true→InR (a19+1)))),(v20&&(!v24)),(v24o.2.2.1,v24o.2.1,v24o.1,(a19+1),()),(v20&&v24),(!v20))
def uG5 y x:=(uL4 y x).1
def tP2 y x:=(uL4 y x).2.1
def vZ y x:=(uL4 y x).2.2.1
def tV5 y x:=(uL4 y x).2.2.2.1
def sT8 y x:=(uL4 y x).2.2.2.2
instance (y x):Decidable (uG5 y x):=by unfold uG5 uL4;dsimp only;infer_instance
def tD (y:vJ4)(x:wW0):Bool:=
 true
def sT9:=li [(5,(.fptr 63 [some (4,(.sl .bool)),some (3,(.sl .bool)),some (1,T28),none])),(18,vI)] [(1,(.box T28 (.val T28))),(3,(.box (.sl .bool) (.own .bool 400300 true))),(4,(.box (.sl .bool) (.own .bool 400400 true))),(19,vI)] tP2 vZ uG5 (fun y x=>[ex 1 (some (tV5 y x)) [(2,vB)] ((tD y x),()),ex 2 (some (sT8 y x)) [] ()]) [[(2,vB)],[]]
def f42t (p0:D28):Prop×Bool:=
 let v9:=(len p0.2.2.2.1)
 let v13:=(len p0.2.2.2.1)
 let y6:=((),(len p0.2.2.2.1),())
 let x6:=(p0,(List.replicate (Int.toNat v9) false),(List.replicate (Int.toNat v13) false),(0:Int),())
 let e6:=(zD9 (tP2 y6) (vZ y6) x6)
 (((0≤v9∧v9≤v9∧v9≤4294967296)∧((0≤v13∧v13≤v13∧v13≤4294967296)∧(wB6 (tP2 y6) (vZ y6) (uG5 y6) x6))),(bif (tV5 y6 e6) then (tD y6 e6) else false))
def sG7 p0:=(f42t p0).1
def f42 p0:=(f42t p0).2
instance (p0):Decidable (sG7 p0):=by unfold sG7 f42t;dsimp only;infer_instance
theorem qA9:SK 42 (sp1 (.val T28) vB sG7 f42):=fx (fun c=>{ c with wants:=[(63,[])],fts:=fts }) Tryz.func42 26 [kb sT7] [(6,sT9)] [(3,[(4,0,10,400300)]),(5,[(4,0,14,400400)])] false [] [10,14]
abbrev vA2:Type:=((List UInt8)×Int×Int×Unit)
abbrev wS6:Type:=(Int×Unit)
def vU9 (y:vA2)(x:wS6):Prop×Bool×wS6×Bool×Bool:=
 let a0:=y.1
 let a19:=x.1
 let v20:=(decide (a19<y.2.2.1))
 let v26:=(decide ((wK5 a0 a19)<y.2.1))
 let v32:=(bif v26 then true else (decide ((wK5 a0 a19)>126)))
 ((v20=true→(InB a19 (len a0)∧(((!v26)=true→InB a19 (len a0))∧((!v32)=true→InR (a19+1))))),(v20&&(!v32)),((a19+1),()),(v20&&v32),(!v20))
def vV y x:=(vU9 y x).1
def tD0 y x:=(vU9 y x).2.1
def vP5 y x:=(vU9 y x).2.2.1
def tJ2 y x:=(vU9 y x).2.2.2.1
def sN8 y x:=(vU9 y x).2.2.2.2
instance (y x):Decidable (vV y x):=by unfold vV vU9;dsimp only;infer_instance
def uQ9 (y:vA2)(x:wS6):Bool:=
 false
def sN9:=li [(0,vS),(2,(.val (.int .u8))),(18,vI)] [(19,vI)] tD0 vP5 vV (fun y x=>[ex 1 (some (tJ2 y x)) [(6,vB)] ((uQ9 y x),()),ex 2 (some (sN8 y x)) [] ()]) [[(6,vB)],[]]
def rS0 (p0:List UInt8)(p1:Int)(p2:Int):Prop×Bool:=
 let v16:=(bif (decide ((len p0)<1)) then true else (decide ((len p0)>p1)))
 let y4:=(p0,p2,(len p0),())
 let x4:=((0:Int),())
 let e4:=(zD9 (tD0 y4) (vP5 y4) x4)
 (((!v16)=true→(wB6 (tD0 y4) (vP5 y4) (vV y4) x4)),(bif v16 then false else (bif (tJ2 y4 e4) then (uQ9 y4 e4) else true)))
def tD1 p0 p1 p2:=(rS0 p0 p1 p2).1
def f106 p0 p1 p2:=(rS0 p0 p1 p2).2
instance (p0 p1 p2):Decidable (tD1 p0 p1 p2):=by unfold tD1 rS0;dsimp only;infer_instance
theorem sU:SK 106 (sp3 vS vI (.val (.int .u8)) vB tD1 f106):=fb Tryz.func106 34 [] [(4,sN9)]
def f88t (p0:List UInt8):Prop×Bool:=
 ((tD1 p0 (32:Int) (33:Int)),(f106 p0 (32:Int) (33:Int)))
def sG8 p0:=(f88t p0).1
def f88 p0:=(f88t p0).2
instance (p0):Decidable (sG8 p0):=by unfold sG8 f88t;dsimp only;infer_instance
theorem qB:SK 88 (sp1 vS vB sG8 f88):=fb Tryz.func88 5 [kb sU]
def f89t (p0:List UInt8):Prop×Bool:=
 ((tD1 p0 (256:Int) (32:Int)),(f106 p0 (256:Int) (32:Int)))
def sG9 p0:=(f89t p0).1
def f89 p0:=(f89t p0).2
instance (p0):Decidable (sG9 p0):=by unfold sG9 f89t;dsimp only;infer_instance
theorem qB0:SK 89 (sp1 vS vB sG9 f89):=fb Tryz.func89 5 [kb sU]
def f66t (p0:List D85)(p1:D85):Prop×Int:=
 let v8:=(!(f88 p1.1))
 let v12:=(!(f89 p1.2.1))
 let v15:=(decide ((len p0)>0))
 let v21:=(len p0)
 let v22:=(v21-1)
 let v23:=(nth p0 v22 Z85)
 (((sG8 p1.1)∧((!v8)=true→((sG9 p1.2.1)∧((!v12)=true→((v15=true→InR (v21-1))∧(v15=true→InB v22 (len p0))))))),(bif v8 then (13:Int) else (bif v12 then (4:Int) else (bif (bif v15 then (Op.bytesLess p1.1 v23.1||p1.1==v23.1) else false) then (24:Int) else (0:Int)))))
def sH p0 p1:=(f66t p0 p1).1
def f66 p0 p1:=(f66t p0 p1).2
instance (p0 p1):Decidable (sH p0 p1):=by unfold sH f66t;dsimp only;infer_instance
theorem qB1:SK 66 (sp2 (.val (.sl T85)) (.val T85) vI sH f66):=fb Tryz.func66 28 [kb qB,kb qB0]
abbrev vJ5:Type:=((List D85)×(List D85)×Int×Unit)
abbrev wW1:Type:=(Int×Unit)
def uL5 (y:vJ5)(x:wW1):Prop×Bool×wW1×Bool×Bool:=
 let a0:=y.1
 let a9:=y.2.1
 let a11:=x.1
 let v12:=(decide (a11<y.2.2.1))
 let v14:=(nth a9 a11 Z85)
 let v18:=(List.take (Int.toNat a11) a0)
 let v22:=((f66 v18 v14)!=0)
 ((v12=true→(InB a11 (len a9)∧((0≤a11∧a11≤len a0)∧((sH v18 v14)∧((!v22)=true→InR (a11+1)))))),(v12&&(!v22)),((a11+1),()),(v12&&v22),(!v12))
def uG6 y x:=(uL5 y x).1
def tP3 y x:=(uL5 y x).2.1
def vZ0 y x:=(uL5 y x).2.2.1
def tV6 y x:=(uL5 y x).2.2.2.1
def sU0 y x:=(uL5 y x).2.2.2.2
instance (y x):Decidable (uG6 y x):=by unfold uG6 uL5;dsimp only;infer_instance
def tD2 (y:vJ5)(x:wW1):Int:=
 let a11:=x.1
 (f66 (List.take (Int.toNat a11) y.1) (nth y.2.1 a11 Z85))
def sU1:=li [(0,(.val (.sl T85))),(9,(.val (.sl T85))),(10,vI)] [(11,vI)] tP3 vZ0 uG6 (fun y x=>[ex 1 (some (tV6 y x)) [(2,vI)] ((tD2 y x),()),ex 2 (some (sU0 y x)) [] ()]) [[(2,vI)],[]]
def f44t (p0:List D85):Prop×Int:=
 let v8:=(decide ((len p0)>16))
 let y4:=(p0,p0,(len p0),())
 let x4:=((0:Int),())
 let e4:=(zD9 (tP3 y4) (vZ0 y4) x4)
 (((!v8)=true→(wB6 (tP3 y4) (vZ0 y4) (uG6 y4) x4)),(bif v8 then (3:Int) else (bif (tV6 y4 e4) then (tD2 y4 e4) else (0:Int))))
def sH0 p0:=(f44t p0).1
def f44 p0:=(f44t p0).2
instance (p0):Decidable (sH0 p0):=by unfold sH0 f44t;dsimp only;infer_instance
theorem qB2:SK 44 (sp1 (.val (.sl T85)) vI sH0 f44):=fb Tryz.func44 25 [kb qB1] [(4,sU1)]
def f20t (p0:D28):Prop×Int:=
 let v10:=(f37 p0)
 let v12:=(v10 !=0)
 let v23:=(bif (decide ((len p0.2.2.2.1)>64)) then true else (decide ((len p0.2.2.2.2.2.2.2.1)>8)))
 let v31:=(bif (decide (p0.2.2.2.2.1<1)) then true else (decide (p0.2.2.2.2.1>1073741824)))
 let v33:=(f38 p0)
 let v35:=(v33 !=0)
 let v38:=(f39 p0)
 let v40:=(v38 !=0)
 let v43:=(f40 p0)
 let v45:=(v43 !=0)
 let v48:=(f41 p0)
 let v50:=(v48 !=0)
 let v53:=(f42 p0)
 let v56:=(f43 p0.2.2.2.2.2.1)
 let v58:=(v56 !=0)
 let v79:=(bif (p0.2.2.2.2.2.1.1 !=0) then (bif (p0.2.2.2.2.2.1.1 !=p0.1) then true else (p0.2.2.2.2.2.1.2.1 !=p0.2.1)) else false)
 let m2_6:=(bif v35 then v33 else (bif v40 then v38 else (bif v45 then v43 else (bif v50 then v48 else (bif v53 then (11:Int) else (bif v58 then v56 else (bif v79 then (15:Int) else (f44 p0.2.2.2.2.2.2.1))))))))
 (((sE3 p0)∧((!v12)=true→((!v23)=true→((!v31)=true→((sG1 p0)∧((!v35)=true→((sG2 p0)∧((!v40)=true→((sG4 p0)∧((!v45)=true→((sG5 p0)∧((!v50)=true→((sG7 p0)∧((!v53)=true→((tS7 p0.2.2.2.2.2.1)∧((!v58)=true→((!v79)=true→(sH0 p0.2.2.2.2.2.2.1)))))))))))))))))),(bif v12 then v10 else (bif v23 then (3:Int) else (bif v31 then (2:Int) else m2_6))))
def tV7 p0:=(f20t p0).1
def f20 p0:=(f20t p0).2
instance (p0):Decidable (tV7 p0):=by unfold tV7 f20t;dsimp only;infer_instance
theorem rC9:SK 20 (sp1 (.val T28) vI tV7 f20):=fb Tryz.func20 83 [kb rY9,kb qA3,kb qA4,kb qA6,kb qA7,kb qA9,kb rB6,kb qB2]
def rS1 (p0:Unit):Prop×(List Int):=
 (((!true)=true→((List.length ([]:List Int)+List.length ([]:List Int):Nat):Int)≤4294967296),(bif true then [] else (([]:List Int)++([]:List Int))))
def sB6 p0:=(rS1 p0).1
def f48a p0:=(rS1 p0).2
instance (p0):Decidable (sB6 p0):=by unfold sB6 rS1;dsimp only;infer_instance
theorem rS2:SK 48 (sp1 (.nn true) (.own (.int .i64) 0 false) sB6 f48a):=fb Tryz.func48 8 [] [] [(7,[(4,0,7,0)])]
def rS3 (p0:Unit):Prop×(List Int):=
 (((!false)=true→((List.length ([]:List Int)+List.length ([]:List Int):Nat):Int)≤4294967296),(bif false then [] else (([]:List Int)++([]:List Int))))
def sB7 p0:=(rS3 p0).1
def f48b p0:=(rS3 p0).2
instance (p0):Decidable (sB7 p0):=by unfold sB7 rS3;dsimp only;infer_instance
theorem rS4:SK 48 (sp1 (.nn false) (.own (.int .i64) 0 false) sB7 f48b):=fb Tryz.func48 8 [] [] [(7,[(4,0,7,0)])]
def rS5 (p0:List Int):Prop×(List Int):=
 ((0<List.length p0∧((!false)=true→((List.length ([]:List Int)+List.length p0:Nat):Int)≤4294967296)),(bif false then [] else (([]:List Int)++p0)))
def sB8 p0:=(rS5 p0).1
def f48c p0:=(rS5 p0).2
instance (p0):Decidable (sB8 p0):=by unfold sB8 rS5;dsimp only;infer_instance
theorem rS6:SK 48 (sp1 (.val (.sl (.int .i64))) (.own (.int .i64) 0 false) sB8 f48c):=fb Tryz.func48 8 [] [] [(7,[(4,0,7,0)])]
def f48 (p0:List Int):List Int:=p0
def uR (p0:List Int):Prop:=(List.length p0:Int)≤4294967296
instance (p0:List Int):Decidable (uR p0):=by
  unfold uR
  infer_instance
def qB3:List (Nat×Sh):=[(0,(.val (.sl (.int .i64))))]
def rD:Sh:=(.own (.int .i64) 0 false)
def qB4:List (Nat×Sh):=[]
def sZ2:Am.Spec:=fnSpec qB3 rD qB4 (fun x=>uR x.1) (fun x=>f48 x.1) (fun _=>())
theorem rD0:SpecOk Tryz.prog 48 sZ2:=wI0 (rs:=rD) (F:=f48) (ok:=uR) rS2 rS4 rS6 (of_decide_eq_true (by kernel_rfl)) (of_decide_eq_true (by kernel_rfl)) (fun l h hp=>⟨hp,fun _=>by simpa[uR] using h⟩) rfl rfl (fun _=>rfl)
def rS7 (p0:Unit):Prop×(List D73):=
 (((!true)=true→((List.length ([]:List D73)+List.length ([]:List D73):Nat):Int)≤4294967296),(bif true then [] else (([]:List D73)++([]:List D73))))
def sB9 p0:=(rS7 p0).1
def f51a p0:=(rS7 p0).2
instance (p0):Decidable (sB9 p0):=by unfold sB9 rS7;dsimp only;infer_instance
theorem rS8:SK 51 (sp1 (.nn true) (.own T73 0 false) sB9 f51a):=fb Tryz.func51 8 [] [] [(7,[(4,0,7,0)])]
def rS9 (p0:Unit):Prop×(List D73):=
 (((!false)=true→((List.length ([]:List D73)+List.length ([]:List D73):Nat):Int)≤4294967296),(bif false then [] else (([]:List D73)++([]:List D73))))
def sC p0:=(rS9 p0).1
def f51b p0:=(rS9 p0).2
instance (p0):Decidable (sC p0):=by unfold sC rS9;dsimp only;infer_instance
theorem rT:SK 51 (sp1 (.nn false) (.own T73 0 false) sC f51b):=fb Tryz.func51 8 [] [] [(7,[(4,0,7,0)])]
def rT0 (p0:List D73):Prop×(List D73):=
 ((0<List.length p0∧((!false)=true→((List.length ([]:List D73)+List.length p0:Nat):Int)≤4294967296)),(bif false then [] else (([]:List D73)++p0)))
def sC0 p0:=(rT0 p0).1
def f51c p0:=(rT0 p0).2
instance (p0):Decidable (sC0 p0):=by unfold sC0 rT0;dsimp only;infer_instance
theorem rT1:SK 51 (sp1 (.val (.sl T73)) (.own T73 0 false) sC0 f51c):=fb Tryz.func51 8 [] [] [(7,[(4,0,7,0)])]
def f51 (p0:List D73):List D73:=p0
def tD3 (p0:List D73):Prop:=(List.length p0:Int)≤4294967296
instance (p0:List D73):Decidable (tD3 p0):=by
  unfold tD3
  infer_instance
def qB5:List (Nat×Sh):=[(0,(.val (.sl T73)))]
def rD1:Sh:=(.own T73 0 false)
def qB6:List (Nat×Sh):=[]
def sZ3:Am.Spec:=fnSpec qB5 rD1 qB6 (fun x=>tD3 x.1) (fun x=>f51 x.1) (fun _=>())
theorem rD2:SpecOk Tryz.prog 51 sZ3:=wI0 (rs:=rD1) (F:=f51) (ok:=tD3) rS8 rT rT1 (of_decide_eq_true (by kernel_rfl)) (of_decide_eq_true (by kernel_rfl)) (fun l h hp=>⟨hp,fun _=>by simpa[tD3] using h⟩) rfl rfl (fun _=>rfl)
def rT2 (p0:Unit):Prop×(List D120):=
 (((!true)=true→((List.length ([]:List D120)+List.length ([]:List D120):Nat):Int)≤4294967296),(bif true then [] else (([]:List D120)++([]:List D120))))
def sC1 p0:=(rT2 p0).1
def f67a p0:=(rT2 p0).2
instance (p0):Decidable (sC1 p0):=by unfold sC1 rT2;dsimp only;infer_instance
theorem rT3:SK 67 (sp1 (.nn true) (.own T120 0 false) sC1 f67a):=fb Tryz.func67 8 [] [] [(7,[(4,0,7,0)])]
def rT4 (p0:Unit):Prop×(List D120):=
 (((!false)=true→((List.length ([]:List D120)+List.length ([]:List D120):Nat):Int)≤4294967296),(bif false then [] else (([]:List D120)++([]:List D120))))
def sC2 p0:=(rT4 p0).1
def f67b p0:=(rT4 p0).2
instance (p0):Decidable (sC2 p0):=by unfold sC2 rT4;dsimp only;infer_instance
theorem rT5:SK 67 (sp1 (.nn false) (.own T120 0 false) sC2 f67b):=fb Tryz.func67 8 [] [] [(7,[(4,0,7,0)])]
def rT6 (p0:List D120):Prop×(List D120):=
 ((0<List.length p0∧((!false)=true→((List.length ([]:List D120)+List.length p0:Nat):Int)≤4294967296)),(bif false then [] else (([]:List D120)++p0)))
def sC3 p0:=(rT6 p0).1
def f67c p0:=(rT6 p0).2
instance (p0):Decidable (sC3 p0):=by unfold sC3 rT6;dsimp only;infer_instance
theorem rT7:SK 67 (sp1 (.val (.sl T120)) (.own T120 0 false) sC3 f67c):=fb Tryz.func67 8 [] [] [(7,[(4,0,7,0)])]
def f67 (p0:List D120):List D120:=p0
def tJ3 (p0:List D120):Prop:=(List.length p0:Int)≤4294967296
instance (p0:List D120):Decidable (tJ3 p0):=by
  unfold tJ3
  infer_instance
def qB7:List (Nat×Sh):=[(0,(.val (.sl T120)))]
def rD3:Sh:=(.own T120 0 false)
def qB8:List (Nat×Sh):=[]
def sZ4:Am.Spec:=fnSpec qB7 rD3 qB8 (fun x=>tJ3 x.1) (fun x=>f67 x.1) (fun _=>())
theorem qB9:SpecOk Tryz.prog 67 sZ4:=wI0 (rs:=rD3) (F:=f67) (ok:=tJ3) rT3 rT5 rT7 (of_decide_eq_true (by kernel_rfl)) (of_decide_eq_true (by kernel_rfl)) (fun l h hp=>⟨hp,fun _=>by simpa[tJ3] using h⟩) rfl rfl (fun _=>rfl)
def rT8 (p0:Unit):Prop×(List D126):=
 (((!true)=true→((List.length ([]:List D126)+List.length ([]:List D126):Nat):Int)≤4294967296),(bif true then [] else (([]:List D126)++([]:List D126))))
def sC4 p0:=(rT8 p0).1
def f68a p0:=(rT8 p0).2
instance (p0):Decidable (sC4 p0):=by unfold sC4 rT8;dsimp only;infer_instance
theorem rT9:SK 68 (sp1 (.nn true) (.own T126 0 false) sC4 f68a):=fb Tryz.func68 8 [] [] [(7,[(4,0,7,0)])]
def rU (p0:Unit):Prop×(List D126):=
 (((!false)=true→((List.length ([]:List D126)+List.length ([]:List D126):Nat):Int)≤4294967296),(bif false then [] else (([]:List D126)++([]:List D126))))
def sC5 p0:=(rU p0).1
def f68b p0:=(rU p0).2
instance (p0):Decidable (sC5 p0):=by unfold sC5 rU;dsimp only;infer_instance
theorem rU0:SK 68 (sp1 (.nn false) (.own T126 0 false) sC5 f68b):=fb Tryz.func68 8 [] [] [(7,[(4,0,7,0)])]
def rU1 (p0:List D126):Prop×(List D126):=
 ((0<List.length p0∧((!false)=true→((List.length ([]:List D126)+List.length p0:Nat):Int)≤4294967296)),(bif false then [] else (([]:List D126)++p0)))
def sC6 p0:=(rU1 p0).1
def f68c p0:=(rU1 p0).2
instance (p0):Decidable (sC6 p0):=by unfold sC6 rU1;dsimp only;infer_instance
theorem rU2:SK 68 (sp1 (.val (.sl T126)) (.own T126 0 false) sC6 f68c):=fb Tryz.func68 8 [] [] [(7,[(4,0,7,0)])]
def f68 (p0:List D126):List D126:=p0
def tJ4 (p0:List D126):Prop:=(List.length p0:Int)≤4294967296
instance (p0:List D126):Decidable (tJ4 p0):=by
  unfold tJ4
  infer_instance
def qC:List (Nat×Sh):=[(0,(.val (.sl T126)))]
def rD4:Sh:=(.own T126 0 false)
def qC0:List (Nat×Sh):=[]
def sZ5:Am.Spec:=fnSpec qC rD4 qC0 (fun x=>tJ4 x.1) (fun x=>f68 x.1) (fun _=>())
theorem qC1:SpecOk Tryz.prog 68 sZ5:=wI0 (rs:=rD4) (F:=f68) (ok:=tJ4) rT9 rU0 rU2 (of_decide_eq_true (by kernel_rfl)) (of_decide_eq_true (by kernel_rfl)) (fun l h hp=>⟨hp,fun _=>by simpa[tJ4] using h⟩) rfl rfl (fun _=>rfl)
def rU3 (p0:Unit):Prop×(List D123):=
 (((!true)=true→((List.length ([]:List D123)+List.length ([]:List D123):Nat):Int)≤4294967296),(bif true then [] else (([]:List D123)++([]:List D123))))
def sC7 p0:=(rU3 p0).1
def f69a p0:=(rU3 p0).2
instance (p0):Decidable (sC7 p0):=by unfold sC7 rU3;dsimp only;infer_instance
theorem rU4:SK 69 (sp1 (.nn true) (.own T123 0 false) sC7 f69a):=fb Tryz.func69 8 [] [] [(7,[(4,0,7,0)])]
def rU5 (p0:Unit):Prop×(List D123):=
 (((!false)=true→((List.length ([]:List D123)+List.length ([]:List D123):Nat):Int)≤4294967296),(bif false then [] else (([]:List D123)++([]:List D123))))
def sC8 p0:=(rU5 p0).1
def f69b p0:=(rU5 p0).2
instance (p0):Decidable (sC8 p0):=by unfold sC8 rU5;dsimp only;infer_instance
theorem rU6:SK 69 (sp1 (.nn false) (.own T123 0 false) sC8 f69b):=fb Tryz.func69 8 [] [] [(7,[(4,0,7,0)])]
def rU7 (p0:List D123):Prop×(List D123):=
 ((0<List.length p0∧((!false)=true→((List.length ([]:List D123)+List.length p0:Nat):Int)≤4294967296)),(bif false then [] else (([]:List D123)++p0)))
def sC9 p0:=(rU7 p0).1
def f69c p0:=(rU7 p0).2
instance (p0):Decidable (sC9 p0):=by unfold sC9 rU7;dsimp only;infer_instance
theorem rU8:SK 69 (sp1 (.val (.sl T123)) (.own T123 0 false) sC9 f69c):=fb Tryz.func69 8 [] [] [(7,[(4,0,7,0)])]
def f69 (p0:List D123):List D123:=p0
def tJ5 (p0:List D123):Prop:=(List.length p0:Int)≤4294967296
instance (p0:List D123):Decidable (tJ5 p0):=by
  unfold tJ5
  infer_instance
def qC2:List (Nat×Sh):=[(0,(.val (.sl T123)))]
def rD5:Sh:=(.own T123 0 false)
def qC3:List (Nat×Sh):=[]
def sZ6:Am.Spec:=fnSpec qC2 rD5 qC3 (fun x=>tJ5 x.1) (fun x=>f69 x.1) (fun _=>())
theorem qC4:SpecOk Tryz.prog 69 sZ6:=wI0 (rs:=rD5) (F:=f69) (ok:=tJ5) rU4 rU6 rU8 (of_decide_eq_true (by kernel_rfl)) (of_decide_eq_true (by kernel_rfl)) (fun l h hp=>⟨hp,fun _=>by simpa[tJ5] using h⟩) rfl rfl (fun _=>rfl)
def f47t (p0:D80)(p1:D80):Prop×(D80×Int×Unit):=
 let v10:=(p0.2.1 !=p1.2.1)
 let s_20:=(p1.2.2.2.2.2.2.2.2.2.2.2.2.2.2.2.2.2.2.2.2.2.2.2.2.2.2.2.1.1,p1.2.2.2.2.2.2.2.2.2.2.2.2.2.2.2.2.2.2.2.2.2.2.2.2.2.2.2.1.2.1,p1.2.2.2.2.2.2.2.2.2.2.2.2.2.2.2.2.2.2.2.2.2.2.2.2.2.2.2.1.2.2.1,(f69 p1.2.2.2.2.2.2.2.2.2.2.2.2.2.2.2.2.2.2.2.2.2.2.2.2.2.2.2.1.2.2.2.1),())
 let s_21:=(p0.1,p0.2.1,p0.2.2.1,p0.2.2.2.1,p0.2.2.2.2.1,p0.2.2.2.2.2.1,p0.2.2.2.2.2.2.1,p0.2.2.2.2.2.2.2.1,p0.2.2.2.2.2.2.2.2.1,(p0.2.2.2.2.2.2.2.2.2.1.1,p0.2.2.2.2.2.2.2.2.2.1.2.1,(f48 p0.2.2.2.2.2.2.2.2.2.1.2.2.1),()),p0.2.2.2.2.2.2.2.2.2.2.1,p0.2.2.2.2.2.2.2.2.2.2.2.1,(p1.2.2.2.2.2.2.2.2.2.2.2.2.1.1,p1.2.2.2.2.2.2.2.2.2.2.2.2.1.2.1,(f51 p1.2.2.2.2.2.2.2.2.2.2.2.2.1.2.2.1),()),p1.2.2.2.2.2.2.2.2.2.2.2.2.2.1,p1.2.2.2.2.2.2.2.2.2.2.2.2.2.2.1,(f48 p1.2.2.2.2.2.2.2.2.2.2.2.2.2.2.2.1),p1.2.2.2.2.2.2.2.2.2.2.2.2.2.2.2.2.1,(f67 p1.2.2.2.2.2.2.2.2.2.2.2.2.2.2.2.2.2.1),(f68 p1.2.2.2.2.2.2.2.2.2.2.2.2.2.2.2.2.2.2.1),p1.2.2.2.2.2.2.2.2.2.2.2.2.2.2.2.2.2.2.2.1,p1.2.2.2.2.2.2.2.2.2.2.2.2.2.2.2.2.2.2.2.2.1,p1.2.2.2.2.2.2.2.2.2.2.2.2.2.2.2.2.2.2.2.2.2.1,p1.2.2.2.2.2.2.2.2.2.2.2.2.2.2.2.2.2.2.2.2.2.2.1,p1.2.2.2.2.2.2.2.2.2.2.2.2.2.2.2.2.2.2.2.2.2.2.2.1,p1.2.2.2.2.2.2.2.2.2.2.2.2.2.2.2.2.2.2.2.2.2.2.2.2.1,p1.2.2.2.2.2.2.2.2.2.2.2.2.2.2.2.2.2.2.2.2.2.2.2.2.2.1,p1.2.2.2.2.2.2.2.2.2.2.2.2.2.2.2.2.2.2.2.2.2.2.2.2.2.2.1,s_20,())
 let s_25:=((0:Int),(0:Int),(0:Int),([]:List UInt8),false,false,false,(0:Int),(0:Int),((0:Int),(0:Int),([]:List Int),()),Z68,(0:Int),((0:Int),(0:Int),([]:List D73),()),Z73,(0:Int),([]:List Int),(0:Int),([]:List D120),([]:List D126),(0:Int),(0:Int),(0:Int),(0:Int),([]:List UInt8),(0:Int),(0:Int),(0:Int),((0:Int),(0:Int),(0:Int),([]:List D123),()),())
 (((!v10)=true→((uR p0.2.2.2.2.2.2.2.2.2.1.2.2.1)∧((tD3 p1.2.2.2.2.2.2.2.2.2.2.2.2.1.2.2.1)∧((uR p1.2.2.2.2.2.2.2.2.2.2.2.2.2.2.2.1)∧((tJ3 p1.2.2.2.2.2.2.2.2.2.2.2.2.2.2.2.2.2.1)∧((tJ4 p1.2.2.2.2.2.2.2.2.2.2.2.2.2.2.2.2.2.2.1)∧(tJ5 p1.2.2.2.2.2.2.2.2.2.2.2.2.2.2.2.2.2.2.2.2.2.2.2.2.2.2.2.1.2.2.2.1))))))),((bif v10 then s_25 else s_21),(bif v10 then (8:Int) else (0:Int)),()))
def sH1 p0 p1:=(f47t p0 p1).1
def f47 p0 p1:=(f47t p0 p1).2
instance (p0 p1):Decidable (sH1 p0 p1):=by unfold sH1 f47t;dsimp only;infer_instance
theorem qC5:SK 47 (sp2 (.val T80) (.val T80) (.tup (.cons (.val T80) (.cons vI .nl))) sH1 f47):=fb Tryz.func47 82 [kb rD0,kb rD2,kb qB9,kb qC1,kb qC4]
end Go.Proofs.YtmmpcldfjocfmaaGreatDoor.Am
