/- Printed by program, part 3. No condition. -/
import Derived.Test.YtmbjipigimohbaaGreatDoorDckP2
set_option linter.unusedVariables false
set_option synthInstance.maxSize 4000
set_option synthInstance.maxHeartbeats 400000
namespace Go.Proofs.YtmbjipigimohbaaGreatDoor.Am
open Go Go.Am Go.Proofs
abbrev vW:Type:=(Int×D190×D239×(List (List D99))×Int×Int×D99×(List (List UInt8))×Int×Int×(List D99)×Int×Int×(List (List D99))×Int×Int×(List D99)×Int×Unit)
abbrev vO5:Type:=((List D99)×Int×Unit)
def tH6 (y:vW)(x:vO5):Prop×Bool×vO5:=
 let a2:=y.1
 let a4:=y.2.1
 let a89:=y.2.2.2.2.2.2.2.2.2.2.2.2.2.2.2.2.1
 let a24:=x.1
 let a91:=x.2.1
 let v92:=(decide (a91<y.2.2.2.2.2.2.2.2.2.2.2.2.2.2.2.2.2.1))
 let v94:=(nth a89 a91 Z99)
 let v104:=(IntKind.wrap .i64 ((IntKind.wrap .i64 (y.2.2.2.2.2.2.1.2.1+v94.1))*a2))
 let v119:=(IntKind.wrap .i64 ((IntKind.wrap .i64 ((IntKind.wrap .i64 (a4.2.1+(IntKind.wrap .i64 (y.2.2.2.2.2.1*a4.2.2.1))))-v94.2.1))*a2))
 ((v92=true→(InB a91 (len a89)∧((wY0 v104 a4.1)∧((wY0 v119 a4.1)∧(InB a91 (len a24)∧a91<len a24))))),v92,((List.set a24 (Int.toNat a91) ((f124 v104 a4.1),(f124 v119 a4.1),())),(IntKind.wrap .i64 (a91+1)),()))
def vO6 y x:=(tH6 y x).1
def vW0 y x:=(tH6 y x).2.1
def vI3 y x:=(tH6 y x).2.2
instance (y x):Decidable (vO6 y x):=by unfold vO6 tH6;dsimp only;infer_instance
def tH7 (y:vW)(x:vO5):(List D99):=
 x.1
def sC9:List (Nat×Sh):=[(2,vI),(4,(.box T190 (.val T190))),(11,(.val (.ptr T239))),(12,(.own (.sl T99) 1012 false)),(13,vI),(14,vI),(19,(.box T99 (.val T99))),(24,(.own T99 1024 true)),(41,(.val (.sl .str))),(42,vI),(43,vI),(54,(.own T99 1016 false)),(55,vI),(56,vI),(74,(.own (.sl T99) 1020 false)),(75,vI),(76,vI)]
def rE9:=li [(2,vI),(4,(.box T190 (.val T190))),(11,(.val (.ptr T239))),(12,(.own (.sl T99) 1012 false)),(13,vI),(14,vI),(19,(.box T99 (.val T99))),(41,(.val (.sl .str))),(42,vI),(43,vI),(54,(.own T99 1016 false)),(55,vI),(56,vI),(74,(.own (.sl T99) 1020 false)),(75,vI),(76,vI),(89,(.val (.sl T99))),(90,vI)] [(24,(.own T99 1024 true)),(91,vI)] vW0 vI3 vO6 (fun y x=>[ex 8 none sC9 (y.1,y.2.1,y.2.2.1,y.2.2.2.1,y.2.2.2.2.1,y.2.2.2.2.2.1,y.2.2.2.2.2.2.1,(tH7 y x),y.2.2.2.2.2.2.2.1,y.2.2.2.2.2.2.2.2.1,y.2.2.2.2.2.2.2.2.2.1,y.2.2.2.2.2.2.2.2.2.2.1,y.2.2.2.2.2.2.2.2.2.2.2.1,y.2.2.2.2.2.2.2.2.2.2.2.2.1,y.2.2.2.2.2.2.2.2.2.2.2.2.2.1,y.2.2.2.2.2.2.2.2.2.2.2.2.2.2.1,y.2.2.2.2.2.2.2.2.2.2.2.2.2.2.2.1,())]) [sC9]
abbrev wZ:Type:=(Int×D190×D239×Int×D99×(List (List UInt8))×Int×Int×(List D99)×Int×Int×(List (List D99))×Int×Unit)
abbrev wZ9:Type:=((List (List D99))×Int×Int×Unit)
def vY8 (y:wZ)(x:wZ9):Prop×Bool×wZ9×Bool×Bool:=
 let a74:=y.2.2.2.2.2.2.2.2.2.2.2.1
 let a75:=y.2.2.2.2.2.2.2.2.2.2.2.2.1
 let a12:=x.1
 let a76:=x.2.2.1
 let v77:=(decide (a76<a75))
 let v78:=(nth a74 a76 ([]:List D99))
 let v83:=(IntKind.wrap .i64 (x.2.1+(len v78)))
 let v85:=(decide (v83>4096))
 let v87:=(len v78)
 let y25:=(y.1,y.2.1,y.2.2.1,a12,v83,y.2.2.2.1,y.2.2.2.2.1,y.2.2.2.2.2.1,y.2.2.2.2.2.2.1,y.2.2.2.2.2.2.2.1,y.2.2.2.2.2.2.2.2.1,y.2.2.2.2.2.2.2.2.2.1,y.2.2.2.2.2.2.2.2.2.2.1,a74,a75,a76,v78,(len v78),())
 let x25:=((List.replicate (Int.toNat v87) Z99),(0:Int),())
 let v128:=([(tH7 y25 (zC4 (vW0 y25) (vI3 y25) x25))]:List (List D99))
 ((v77=true→(InB a76 (len a74)∧((!v85)=true→((0≤v87∧v87≤v87∧v87≤4294967296)∧((xQ5 (vW0 y25) (vI3 y25) (vO6 y25) x25)∧((List.length a12+List.length v128:Nat):Int)≤4294967296))))),(v77&&(!v85)),((a12++v128),v83,(IntKind.wrap .i64 (a76+1)),()),(v77&&v85),(!v77))
def vF y x:=(vY8 y x).1
def wX5 y x:=(vY8 y x).2.1
def wW y x:=(vY8 y x).2.2.1
def sD y x:=(vY8 y x).2.2.2.1
def sD0 y x:=(vY8 y x).2.2.2.2
instance (y x):Decidable (vF y x):=by unfold vF vY8;dsimp only;infer_instance
def uK1 (y:wZ)(x:wZ9):(List (List D99)):=
 ([]:List (List D99))
def tH8 (y:wZ)(x:wZ9):Int:=
 (3:Int)
def sD1:List (Nat×Sh):=[(8,(.own (.sl T99) 0 false)),(9,vI)]
def tH9 (y:wZ)(x:wZ9):(List (List D99)):=
 x.1
def tI (y:wZ)(x:wZ9):Int:=
 x.2.1
def sD2:List (Nat×Sh):=[(2,vI),(4,(.box T190 (.val T190))),(11,(.val (.ptr T239))),(12,(.own (.sl T99) 1012 false)),(13,vI),(14,vI),(41,(.val (.sl .str))),(42,vI),(43,vI),(54,(.own T99 1016 false)),(55,vI),(56,vI)]
def rF:=li [(2,vI),(4,(.box T190 (.val T190))),(11,(.val (.ptr T239))),(14,vI),(19,(.box T99 (.val T99))),(41,(.val (.sl .str))),(42,vI),(43,vI),(54,(.own T99 1016 false)),(55,vI),(56,vI),(74,(.own (.sl T99) 1020 false)),(75,vI)] [(12,(.own (.sl T99) 1012 false)),(13,vI),(76,vI)] wX5 wW vF (fun y x=>[ex 1 (some (sD y x)) sD1 ((uK1 y x),(tH8 y x),()),ex 6 (some (sD0 y x)) sD2 (y.1,y.2.1,y.2.2.1,(tH9 y x),(tI y x),y.2.2.2.1,y.2.2.2.2.2.1,y.2.2.2.2.2.2.1,y.2.2.2.2.2.2.2.1,y.2.2.2.2.2.2.2.2.1,y.2.2.2.2.2.2.2.2.2.1,y.2.2.2.2.2.2.2.2.2.2.1,())]) [sD1,sD2]
abbrev wX6:Type:=(Int×D190×D239×Int×(List (List UInt8))×Int×Int×(List D99)×Int×Unit)
abbrev wX7:Type:=((List (List D99))×Int×Int×Unit)
def uG2 (y:wX6)(x:wX7):Prop×Bool×wX7×Bool×Bool:=
 let a4:=y.2.1
 let a54:=y.2.2.2.2.2.2.2.1
 let a55:=y.2.2.2.2.2.2.2.2.1
 let a56:=x.2.2.1
 let v57:=(decide (a56<a55))
 let v58:=(nth a54 a56 Z99)
 let v65:=(nth a4.2.2.2.1 v58.1 Z218)
 let v68:=(f141 v65.2.2.1)
 let v72:=(v68.2.1 !=0)
 let y18:=(y.1,a4,y.2.2.1,y.2.2.2.1,v58,y.2.2.2.2.1,y.2.2.2.2.2.1,y.2.2.2.2.2.2.1,a54,a55,a56,v68.1,(len v68.1),())
 let x18:=(x.1,x.2.1,(0:Int),())
 let e18:=(zC4 (wX5 y18) (wW y18) x18)
 ((v57=true→(InB a56 (len a54)∧(InB v58.1 (len a4.2.2.2.1)∧((uP v65.2.2.1)∧((!v72)=true→(xQ5 (wX5 y18) (wW y18) (vF y18) x18)))))),(v57&&((!v72)&&(sD0 y18 e18))),((tH9 y18 e18),(tI y18 e18),(IntKind.wrap .i64 (a56+1)),()),(v57&&(v72||((!v72)&&(sD y18 e18)))),(!v57))
def vC7 y x:=(uG2 y x).1
def wY3 y x:=(uG2 y x).2.1
def wV9 y x:=(uG2 y x).2.2.1
def sD3 y x:=(uG2 y x).2.2.2.1
def sD4 y x:=(uG2 y x).2.2.2.2
instance (y x):Decidable (vC7 y x):=by unfold vC7 uG2;dsimp only;infer_instance
def uK2 (y:wX6)(x:wX7):(List (List D99)):=
 let a4:=y.2.1
 let a54:=y.2.2.2.2.2.2.2.1
 let a56:=x.2.2.1
 let v58:=(nth a54 a56 Z99)
 let v68:=(f141 (nth a4.2.2.2.1 v58.1 Z218).2.2.1)
 let y18:=(y.1,a4,y.2.2.1,y.2.2.2.1,v58,y.2.2.2.2.1,y.2.2.2.2.2.1,y.2.2.2.2.2.2.1,a54,y.2.2.2.2.2.2.2.2.1,a56,v68.1,(len v68.1),())
 (bif (v68.2.1 !=0) then [] else (uK1 y18 (zC4 (wX5 y18) (wW y18) (x.1,x.2.1,(0:Int),()))))
def tI0 (y:wX6)(x:wX7):Int:=
 let a4:=y.2.1
 let a54:=y.2.2.2.2.2.2.2.1
 let a56:=x.2.2.1
 let v58:=(nth a54 a56 Z99)
 let v68:=(f141 (nth a4.2.2.2.1 v58.1 Z218).2.2.1)
 let y18:=(y.1,a4,y.2.2.1,y.2.2.2.1,v58,y.2.2.2.2.1,y.2.2.2.2.2.1,y.2.2.2.2.2.2.1,a54,y.2.2.2.2.2.2.2.2.1,a56,v68.1,(len v68.1),())
 (bif (v68.2.1 !=0) then v68.2.1 else (tH8 y18 (zC4 (wX5 y18) (wW y18) (x.1,x.2.1,(0:Int),()))))
def sD5:List (Nat×Sh):=[(8,(.own (.sl T99) 0 false)),(9,vI)]
def tI1 (y:wX6)(x:wX7):(List (List D99)):=
 x.1
def tI2 (y:wX6)(x:wX7):Int:=
 x.2.1
def sD6:List (Nat×Sh):=[(2,vI),(4,(.box T190 (.val T190))),(11,(.val (.ptr T239))),(12,(.own (.sl T99) 1012 false)),(13,vI),(41,(.val (.sl .str))),(42,vI),(43,vI)]
def rF0:=li [(2,vI),(4,(.box T190 (.val T190))),(11,(.val (.ptr T239))),(14,vI),(41,(.val (.sl .str))),(42,vI),(43,vI),(54,(.own T99 1016 false)),(55,vI)] [(12,(.own (.sl T99) 1012 false)),(13,vI),(56,vI)] wY3 wV9 vC7 (fun y x=>[ex 1 (some (sD3 y x)) sD5 ((uK2 y x),(tI0 y x),()),ex 4 (some (sD4 y x)) sD6 (y.1,y.2.1,y.2.2.1,(tI1 y x),(tI2 y x),y.2.2.2.2.1,y.2.2.2.2.2.1,y.2.2.2.2.2.2.1,())]) [sD5,sD6]
abbrev vD2:Type:=(Int×D190×D239×(List (List UInt8))×Int×Unit)
abbrev wZ4:Type:=((List (List D99))×Int×Int×Unit)
def uX6 (y:vD2)(x:wZ4):Prop×Bool×wZ4×Bool×Bool:=
 let a11:=y.2.2.1
 let a41:=y.2.2.2.1
 let a42:=y.2.2.2.2.1
 let a43:=x.2.2.1
 let v44:=(decide (a43<a42))
 let v46:=(nth a41 a43 ([]:List UInt8))
 let v51:=(f163 a11 v46)
 let y12:=(y.1,y.2.1,a11,a43,a41,a42,a43,v51.1,(len v51.1),())
 let x12:=(x.1,x.2.1,(0:Int),())
 let e12:=(zC4 (wY3 y12) (wV9 y12) x12)
 ((v44=true→(InB a43 (len a41)∧((uN3 a11 v46)∧(xQ5 (wY3 y12) (wV9 y12) (vC7 y12) x12)))),(v44&&(sD4 y12 e12)),((tI1 y12 e12),(tI2 y12 e12),(IntKind.wrap .i64 (a43+1)),()),(v44&&(sD3 y12 e12)),(!v44))
def vO7 y x:=(uX6 y x).1
def vY9 y x:=(uX6 y x).2.1
def vC2 y x:=(uX6 y x).2.2.1
def tN9 y x:=(uX6 y x).2.2.2.1
def rP7 y x:=(uX6 y x).2.2.2.2
instance (y x):Decidable (vO7 y x):=by unfold vO7 uX6;dsimp only;infer_instance
def uQ8 (y:vD2)(x:wZ4):(List (List D99)):=
 let a11:=y.2.2.1
 let a41:=y.2.2.2.1
 let a43:=x.2.2.1
 let v51:=(f163 a11 (nth a41 a43 ([]:List UInt8)))
 let y12:=(y.1,y.2.1,a11,a43,a41,y.2.2.2.2.1,a43,v51.1,(len v51.1),())
 (uK2 y12 (zC4 (wY3 y12) (wV9 y12) (x.1,x.2.1,(0:Int),())))
def tR5 (y:vD2)(x:wZ4):Int:=
 let a11:=y.2.2.1
 let a41:=y.2.2.2.1
 let a43:=x.2.2.1
 let v51:=(f163 a11 (nth a41 a43 ([]:List UInt8)))
 let y12:=(y.1,y.2.1,a11,a43,a41,y.2.2.2.2.1,a43,v51.1,(len v51.1),())
 (tI0 y12 (zC4 (wY3 y12) (wV9 y12) (x.1,x.2.1,(0:Int),())))
def sM3:List (Nat×Sh):=[(8,(.own (.sl T99) 0 false)),(9,vI)]
def uQ9 (y:vD2)(x:wZ4):(List (List D99)):=
 x.1
def sM4:List (Nat×Sh):=[(12,(.own (.sl T99) 1012 false))]
def rP8:=li [(2,vI),(4,(.box T190 (.val T190))),(11,(.val (.ptr T239))),(41,(.val (.sl .str))),(42,vI)] [(12,(.own (.sl T99) 1012 false)),(13,vI),(43,vI)] vY9 vC2 vO7 (fun y x=>[ex 1 (some (tN9 y x)) sM3 ((uQ8 y x),(tR5 y x),()),ex 2 (some (rP7 y x)) sM4 ((uQ9 y x),())]) [sM3,sM4]
def qI5 (p0:D190)(p1:List UInt8)(p2:Int)(p3:Int):Prop×((List (List D99))×Int×Unit):=
 let v31:=(f160 p0 p1 p2 p3)
 let v33:=(v31 !=0)
 let v36:=(f161 p0)
 let v41:=(f162 v36 p1 p2 p3)
 let y8:=(p2,p0,v36,v41,(len v41),())
 let x8:=(([]:List (List D99)),(0:Int),(0:Int),())
 let e8:=(zC4 (vY9 y8) (vC2 y8) x8)
 let q8_1:=(tN9 y8 e8)
 (((sC4 p0 p1 p2 p3)∧((!v33)=true→((sC8 p0)∧((uI5 v36 p1 p2 p3)∧(xQ5 (vY9 y8) (vC2 y8) (vO7 y8) x8))))),((bif v33 then [] else (bif q8_1 then (uQ8 y8 e8) else (uQ9 y8 e8))),(bif v33 then v31 else (bif q8_1 then (tR5 y8 e8) else (0:Int))),()))
def tO p0 p1 p2 p3:=(qI5 p0 p1 p2 p3).1
def f145 p0 p1 p2 p3:=(qI5 p0 p1 p2 p3).2
instance (p0 p1 p2 p3):Decidable (tO p0 p1 p2 p3):=by unfold tO qI5;dsimp only;infer_instance
def rW7:=sp4 (.val T190) vS vI vI (.tup (.cons (.own (.sl T99) 0 false) (.cons vI .nl))) tO f145
theorem pE0:SK 145 (sp4 (.val T190) vS vI vI (.tup (.cons (.own (.sl T99) 0 false) (.cons vI .nl))) tO f145):=fb Tryz.func145 134 [kb vW7,kb rV9,kb pD8,kb pE,kb qV8,kb rU] [(8,rP8),(12,rF0),(18,rF),(25,rE9)] [(21,[(4,0,51,1016)]),(29,[(4,0,68,1020)]),(47,[(4,0,88,1024)]),(58,[(1,24,0,0)]),(59,[(4,0,129,1012)]),(67,[(4,0,1012,0)])] true [] [88]
def f164 (p0:List UInt8):List (List UInt8):=Lib.fields p0
def sD7 (p0:List UInt8):Prop:=(List.length p0:Int)≤4294967280∧(p0.all fun b=>decide (b.toNat<128))=true
instance (p0:List UInt8):Decidable (sD7 p0):=by
  unfold sD7
  infer_instance
def pE1:List (Nat×Sh):=[(0,(.val .str))]
def pE2:Sh:=(.val (.sl .str))
def pE3:List (Nat×Sh):=[]
def rW8:Am.Spec:=fnSpec pE1 pE2 pE3 (fun x=>sD7 x.1) (fun x=>f164 x.1) (fun _=>())
theorem tab0:G0=Lib.asciiSpaceTab:=by kernel_rfl
theorem pE4:SpecOk Tryz.prog 164 rW8:=wR (F:=f164) (e:=9) (ok:=sD7) ⟨_,Tryz.func164,by kernel_rfl,by decide⟩ fun s w χ hok hg =>
  Any.strings_Fields_core Tryz.lays157 (by kernel_rfl) s w (by have h1:=hok.1;rw[Array.length_toList] at h1;have h2:s.data.size=s.size:=rfl;omega)
    (fun j b hj=>by have:=List.all_eq_true.1 hok.2 b (List.mem_of_getElem? hj);simpa using this)
    (fun c hc=>by
      have h1:=wR9 hg (g:=0) (n:=256) (k:=.u8) (l:=G0) (List.mem_cons_self ..) c hc;rw[tab0,Lib.asciiSpaceTab_at c hc] at h1;exact h1)
def pE5 (p0:List UInt8)(p1:Int):Prop×Int:=
 ((sQ p0 p1),(f186 p0 p1))
def sD8 p0 p1:=(pE5 p0 p1).1
def f165 p0 p1:=(pE5 p0 p1).2
instance (p0 p1):Decidable (sD8 p0 p1):=by unfold sD8 pE5;dsimp only;infer_instance
theorem pE6:SK 165 (sp2 vS (.val (.int .u8)) vI sD8 f165):=fb Tryz.func165 8 [kb qT5]
def pE7 (p0:Int)(p1:Int)(p2:Int)(p3:Int):Prop×(List D130):=
 let v30:=([((1:Int),([(p0,p1,()),Z99,Z99]:List D99),()),((2:Int),([(p2,p1,()),Z99,Z99]:List D99),()),((2:Int),([(p2,p3,()),Z99,Z99]:List D99),()),((2:Int),([(p0,p3,()),Z99,Z99]:List D99),()),((5:Int),(List.replicate 3 Z99),())]:List D130)
 (True,v30)
def sR p0 p1 p2 p3:=(pE7 p0 p1 p2 p3).1
def f187 p0 p1 p2 p3:=(pE7 p0 p1 p2 p3).2
instance (p0 p1 p2 p3):Decidable (sR p0 p1 p2 p3):=by unfold sR pE7;dsimp only;infer_instance
theorem pE8:SK 187 (sp4 vI vI vI vI (.own T130 0 false) sR f187):=fb Tryz.func187 31 [] [] [(3,[(4,0,30,0)])]
abbrev uR:Type:=(Int×Int×(List D130)×Int×Unit)
abbrev vZ:Type:=(Int×Unit)
def tV0 (y:uR)(x:vZ):Prop×Bool×vZ:=
 let a7:=x.1
 let v20:=(decide ((a7+1)<7))
 let v24:=(a7+1)
 let v28:=(bif v20 then ((wU8 .i64 (wV1 y.2.1 v24 64) (1:Int))==1) else false)
 ((InR (a7+1)∧((v20=true→InR (a7+1))∧((v20=true→0≤v24)∧(v28=true→InR (a7+1))))),v28,((a7+1),()))
def uX7 y x:=(tV0 y x).1
def sD9 y x:=(tV0 y x).2.1
def uR0 y x:=(tV0 y x).2.2
instance (y x):Decidable (uX7 y x):=by unfold uX7 tV0;dsimp only;infer_instance
def tR6 (y:uR)(x:vZ):Int:=
 x.1
def sM5:List (Nat×Sh):=[(0,vI),(1,vI),(5,(.own T130 1005 false)),(6,vI),(7,vI)]
def rP9:=li [(0,vI),(1,vI),(5,(.own T130 1005 false)),(6,vI)] [(7,vI)] sD9 uR0 uX7 (fun y x=>[ex 4 none sM5 (y.1,y.2.1,y.2.2.1,y.2.2.2.1,(tR6 y x),())]) [sM5]
abbrev uR1:Type:=(Unit)
abbrev vZ0:Type:=(Int×Int×(List D130)×Int×Unit)
def tV1 (y:uR1)(x:vZ0):Prop×Bool×vZ0:=
 let a0:=x.1
 let a1:=x.2.1
 let a5:=x.2.2.1
 let a6:=x.2.2.2.1
 let v9:=(decide (a6<7))
 let v16:=((wU8 .i64 (wV1 a1 a6 64) (1:Int))==0)
 let y7:=(a0,a1,a5,a6,())
 let x7:=(a6,())
 let r7_4_0:=(tR6 y7 (zC4 (sD9 y7) (uR0 y7) x7))
 let v33:=(100*a0)
 let v35:=(100*a6)
 let v36:=(700-v35)
 let v38:=(100*a0)
 let v39:=(v38+100)
 let v41:=(100*r7_4_0)
 let v42:=(600-v41)
 let v43:=(f187 v33 v36 v39 v42)
 let c:=(v16||(!v16))
 let m6:=(bif v16 then a6 else r7_4_0)
 ((v9=true→(0≤a6∧(((!v16)=true→((xQ5 (sD9 y7) (uR0 y7) (uX7 y7) x7)∧(InR (100*a0)∧(InR (100*a6)∧(InR (700-v35)∧(InR (100*a0)∧(InR (v38+100)∧(InR (100*r7_4_0)∧(InR (600-v41)∧((sR v33 v36 v39 v42)∧((List.length a5+List.length v43:Nat):Int)≤4294967296))))))))))∧(c=true→InR (m6+1))))),(v9&&c),((bif v16 then a0 else a0),(bif v16 then a1 else a1),(bif v16 then a5 else (a5++v43)),(m6+1),()))
def uX8 y x:=(tV1 y x).1
def sE y x:=(tV1 y x).2.1
def uR2 y x:=(tV1 y x).2.2
instance (y x):Decidable (uX8 y x):=by unfold uX8 tV1;dsimp only;infer_instance
def tR7 (y:uR1)(x:vZ0):(List D130):=
 x.2.2.1
def rQ:=li [] [(0,vI),(1,vI),(5,(.own T130 1005 false)),(6,vI)] sE uR2 uX8 (fun y x=>[ex 2 none [(5,(.own T130 1005 false))] ((tR7 y x),())]) [[(5,(.own T130 1005 false))]]
def pE9 (p0:Int)(p1:Int):Prop×(List D130):=
 let x3:=(p0,p1,([]:List D130),(0:Int),())
 ((xQ5 (sE ()) (uR2 ()) (uX8 ()) x3),(tR7 () (zC4 (sE ()) (uR2 ()) x3)))
def sR0 p0 p1:=(pE9 p0 p1).1
def f166 p0 p1:=(pE9 p0 p1).2
instance (p0 p1):Decidable (sR0 p0 p1):=by unfold sR0 pE9;dsimp only;infer_instance
theorem pF:SK 166 (sp2 vI vI (.own T130 0 false) sR0 f166):=fb Tryz.func166 47 [kb pE8] [(3,rQ),(7,rP9)] [(19,[(4,0,44,1005)]),(23,[(4,0,1005,0)])]
abbrev vZ1:Type:=((List UInt8)×(List (List UInt8))×Int×Int×Int×Unit)
abbrev vM2:Type:=((Int×Int×Int×(List D218)×(List D223)×Unit)×(Int×Int×Int×(List D218)×(List D223)×Unit)×(Int×Int×(List D130)×Unit)×Int×Unit)
def tV2 (y:vZ1)(x:vM2):Prop×Bool×vM2:=
 let a3:=y.1
 let a0:=x.1
 let a1:=x.2.1
 let a4:=x.2.2.1
 let a22:=x.2.2.2.1
 let v23:=(decide (a22<y.2.2.2.2.1))
 let v27:=(2*a22)
 let v28:=(wT5 a3 v27)
 let v29:=(f165 ([48,49,50,51,52,53,54,55,56,57,97,98,99,100,101,102]:List UInt8) v28)
 let v30:=(16*v29)
 let v33:=(2*a22)
 let v34:=(v33+1)
 let v35:=(wT5 a3 v34)
 let v36:=(f165 ([48,49,50,51,52,53,54,55,56,57,97,98,99,100,101,102]:List UInt8) v35)
 let v37:=(v30+v36)
 let v42:=(f166 a22 v37)
 ((v23=true→(InR (2*a22)∧(InB v27 (len a3)∧((sD8 ([48,49,50,51,52,53,54,55,56,57,97,98,99,100,101,102]:List UInt8) v28)∧(InR (16*v29)∧(InR (2*a22)∧(InR (v33+1)∧(InB v34 (len a3)∧((sD8 ([48,49,50,51,52,53,54,55,56,57,97,98,99,100,101,102]:List UInt8) v35)∧(InR (v30+v36)∧((sR0 a22 v37)∧(((List.length a4.2.2.1+List.length v42:Nat):Int)≤4294967296∧InR (a22+1))))))))))))),v23,((a0.1,a0.2.1,a0.2.2.1,a0.2.2.2.1,a0.2.2.2.2.1,()),(a1.1,a1.2.1,a1.2.2.1,a1.2.2.2.1,a1.2.2.2.2.1,()),(a4.1,a4.2.1,(a4.2.2.1++v42),()),(a22+1),()))
def uX9 y x:=(tV2 y x).1
def sE0 y x:=(tV2 y x).2.1
def uR3 y x:=(tV2 y x).2.2
instance (y x):Decidable (uX9 y x):=by unfold uX9 tV2;dsimp only;infer_instance
def tR8 (y:vZ1)(x:vM2):(Int×Int×Int×(List D218)×(List D223)×Unit):=
 let a0:=x.1
 (a0.1,a0.2.1,a0.2.2.1,a0.2.2.2.1,a0.2.2.2.2.1,())
def tR9 (y:vZ1)(x:vM2):(Int×Int×Int×(List D218)×(List D223)×Unit):=
 let a1:=x.2.1
 (a1.1,a1.2.1,a1.2.2.1,a1.2.2.2.1,a1.2.2.2.2.1,())
def tS (y:vZ1)(x:vM2):(Int×Int×(List D130)×Unit):=
 let a4:=x.2.2.1
 (a4.1,a4.2.1,a4.2.2.1,())
def sM6:List (Nat×Sh):=[(0,(.box T190 (.agg (.cons (.int .i64) (.cons (.int .i64) (.cons (.int .i64) (.cons (.sl T218) (.cons (.sl T223) .nl))))) (.cons vI (.cons vI (.cons vI (.cons (.own T218 400000 false) (.cons (.own T223 400001 false) .nl)))))))),(1,(.box T190 (.agg (.cons (.int .i64) (.cons (.int .i64) (.cons (.int .i64) (.cons (.sl T218) (.cons (.sl T223) .nl))))) (.cons vI (.cons vI (.cons vI (.cons (.own T218 400100 false) (.cons (.own T223 400101 false) .nl)))))))),(4,(.box T218 (.agg (.cons (.int .u8) (.cons (.int .i64) (.cons (.sl T130) .nl))) (.cons (.val (.int .u8)) (.cons vI (.cons (.own T130 400400 false) .nl)))))),(8,(.val (.sl .str))),(9,vI),(10,vI)]
def rQ0:=li [(3,vS),(8,(.val (.sl .str))),(9,vI),(10,vI),(21,vI)] [(0,(.box T190 (.agg (.cons (.int .i64) (.cons (.int .i64) (.cons (.int .i64) (.cons (.sl T218) (.cons (.sl T223) .nl))))) (.cons vI (.cons vI (.cons vI (.cons (.own T218 400000 false) (.cons (.own T223 400001 false) .nl)))))))),(1,(.box T190 (.agg (.cons (.int .i64) (.cons (.int .i64) (.cons (.int .i64) (.cons (.sl T218) (.cons (.sl T223) .nl))))) (.cons vI (.cons vI (.cons vI (.cons (.own T218 400100 false) (.cons (.own T223 400101 false) .nl)))))))),(4,(.box T218 (.agg (.cons (.int .u8) (.cons (.int .i64) (.cons (.sl T130) .nl))) (.cons (.val (.int .u8)) (.cons vI (.cons (.own T130 400400 false) .nl)))))),(22,vI)] sE0 uR3 uX9 (fun y x=>[ex 4 none sM6 ((tR8 y x),(tR9 y x),(tS y x),y.2.1,y.2.2.1,y.2.2.2.1,())]) [sM6]
abbrev uG3:Type:=((List (List UInt8))×Int×Unit)
abbrev vR0:Type:=((Int×Int×Int×(List D218)×(List D223)×Unit)×(Int×Int×Int×(List D218)×(List D223)×Unit)×Int×Unit)
def tV3 (y:uG3)(x:vR0):Prop×Bool×vR0:=
 let a8:=y.1
 let a9:=y.2.1
 let a0:=x.1
 let a1:=x.2.1
 let a10:=x.2.2.1
 let v11:=(decide (a10<a9))
 let v13:=(nth a8 a10 ([]:List UInt8))
 let v20:=(len v13)
 let y7:=(v13,a8,a9,a10,(Int.tdiv v20 (2:Int)),())
 let x7:=((a0.1,a0.2.1,a0.2.2.1,a0.2.2.2.1,a0.2.2.2.2.1,()),(a1.1,a1.2.1,a1.2.2.1,a1.2.2.2.1,a1.2.2.2.2.1,()),((IntKind.wrap .u8 (32+a10)),(600:Int),([]:List D130),()),(0:Int),())
 let e7:=(zC4 (sE0 y7) (uR3 y7) x7)
 let r7_4_0:=(tR8 y7 e7)
 let r7_4_1:=(tR9 y7 e7)
 let r7_4_2:=(tS y7 e7)
 let v49:=([(r7_4_2.1,r7_4_2.2.1,r7_4_2.2.2.1,())]:List D218)
 ((v11=true→(InB a10 (len a8)∧(InR (32+a10)∧(InR (Int.tdiv v20 (2:Int))∧((xQ5 (sE0 y7) (uR3 y7) (uX9 y7) x7)∧(((List.length r7_4_1.2.2.2.1+List.length v49:Nat):Int)≤4294967296∧InR (a10+1))))))),v11,((r7_4_0.1,r7_4_0.2.1,r7_4_0.2.2.1,r7_4_0.2.2.2.1,r7_4_0.2.2.2.2.1,()),(r7_4_1.1,r7_4_1.2.1,r7_4_1.2.2.1,(r7_4_1.2.2.2.1++v49),r7_4_1.2.2.2.2.1,()),(a10+1),()))
def uY y x:=(tV3 y x).1
def sE1 y x:=(tV3 y x).2.1
def uR4 y x:=(tV3 y x).2.2
instance (y x):Decidable (uY y x):=by unfold uY tV3;dsimp only;infer_instance
def sX3 (y:uG3)(x:vR0):(Int×Int×Int×(List D218)×(List D223)×Unit):=
 let a0:=x.1
 (a0.1,a0.2.1,a0.2.2.1,a0.2.2.2.1,a0.2.2.2.2.1,())
def tS0 (y:uG3)(x:vR0):(Int×Int×Int×(List D218)×(List D223)×Unit):=
 let a1:=x.2.1
 (a1.1,a1.2.1,a1.2.2.1,a1.2.2.2.1,a1.2.2.2.2.1,())
def sM7:List (Nat×Sh):=[(0,(.box T190 (.agg (.cons (.int .i64) (.cons (.int .i64) (.cons (.int .i64) (.cons (.sl T218) (.cons (.sl T223) .nl))))) (.cons vI (.cons vI (.cons vI (.cons (.own T218 400000 false) (.cons (.own T223 400001 false) .nl)))))))),(1,(.box T190 (.agg (.cons (.int .i64) (.cons (.int .i64) (.cons (.int .i64) (.cons (.sl T218) (.cons (.sl T223) .nl))))) (.cons vI (.cons vI (.cons vI (.cons (.own T218 400100 false) (.cons (.own T223 400101 false) .nl))))))))]
def rQ1:=li [(8,(.val (.sl .str))),(9,vI)] [(0,(.box T190 (.agg (.cons (.int .i64) (.cons (.int .i64) (.cons (.int .i64) (.cons (.sl T218) (.cons (.sl T223) .nl))))) (.cons vI (.cons vI (.cons vI (.cons (.own T218 400000 false) (.cons (.own T223 400001 false) .nl)))))))),(1,(.box T190 (.agg (.cons (.int .i64) (.cons (.int .i64) (.cons (.int .i64) (.cons (.sl T218) (.cons (.sl T223) .nl))))) (.cons vI (.cons vI (.cons vI (.cons (.own T218 400100 false) (.cons (.own T223 400101 false) .nl)))))))),(10,vI)] sE1 uR4 uY (fun y x=>[ex 2 none sM7 ((sX3 y x),(tS0 y x),())]) [sM7]
def pF0 :Prop×D190:=
 let v8:=(f164 lit0)
 let y3:=(v8,(len v8),())
 let x3:=(((0:Int),(0:Int),(0:Int),([]:List D218),([]:List D223),()),((1000:Int),(800:Int),(1200:Int),([]:List D218),([]:List D223),()),(0:Int),())
 let r3_2_1:=(tS0 y3 (zC4 (sE1 y3) (uR4 y3) x3))
 let s_6:=(r3_2_1.1,r3_2_1.2.1,r3_2_1.2.2.1,r3_2_1.2.2.2.1,([((65:Int),(86:Int),(-100:Int),()),((76:Int),(84:Int),(-100:Int),()),((84:Int),(97:Int),(-100:Int),()),((86:Int),(65:Int),(-100:Int),())]:List D223),())
 (((sD7 lit0)∧(xQ5 (sE1 y3) (uR4 y3) (uY y3) x3)),s_6)
def tO0 :Prop:=(pF0).1
def f146 :D190:=(pF0).2
instance:Decidable tO0:=by unfold tO0 pF0;dsimp only;infer_instance
def rW9:Am.Spec:=fnSpec [] (.val T190) [] (fun x=>tO0 ) (fun x=>f146 ) (fun _=>())
theorem pF1:SK 146 (fnSpec [] (.val T190) [] (fun x=>tO0 ) (fun x=>f146 ) (fun _=>())):=fb Tryz.func146 60 [kb pE4,kb pE6,kb pF] [(3,rQ1),(7,rQ0)] [(21,[(4,0,43,400400)]),(25,[(4,0,50,400100)]),(29,[(4,0,57,400101)]),(31,[(4,0,400100,400000),(4,0,400101,400001)])]
abbrev vR1:Type:=((List (List D99))×D40×(List (List D99))×Int×Unit)
abbrev vJ2:Type:=(Int×Int×Unit)
def uY0 (y:vR1)(x:vJ2):Prop×Bool×vJ2×Bool×Bool:=
 let a21:=y.2.2.1
 let a7:=x.1
 let a23:=x.2.1
 let v24:=(decide (a23<y.2.2.2.1))
 let v29:=(len (nth a21 a23 ([]:List D99)))
 let v30:=(a7+v29)
 let v32:=(decide (v30>4096))
 ((v24=true→(InB a23 (len a21)∧(InR (a7+v29)∧((!v32)=true→InR (a23+1))))),(v24&&(!v32)),(v30,(a23+1),()),(v24&&v32),(!v24))
def vW1 y x:=(uY0 y x).1
def uR5 y x:=(uY0 y x).2.1
def vR2 y x:=(uY0 y x).2.2.1
def tO1 y x:=(uY0 y x).2.2.2.1
def sM8 y x:=(uY0 y x).2.2.2.2
instance (y x):Decidable (vW1 y x):=by unfold vW1 uY0;dsimp only;infer_instance
def uR6 (y:vR1)(x:vJ2):(List (List D99)):=
 ([]:List (List D99))
def tS1 (y:vR1)(x:vJ2):Int:=
 (3:Int)
def sM9:List (Nat×Sh):=[(4,(.own (.sl T99) 0 false)),(5,vI)]
def sN:List (Nat×Sh):=[(0,(.val (.sl (.sl T99)))),(3,(.box T40 (.val T40)))]
def rQ2:=li [(0,(.val (.sl (.sl T99)))),(3,(.box T40 (.val T40))),(21,(.val (.sl (.sl T99)))),(22,vI)] [(7,vI),(23,vI)] uR5 vR2 vW1 (fun y x=>[ex 1 (some (tO1 y x)) sM9 ((uR6 y x),(tS1 y x),()),ex 2 (some (sM8 y x)) sN (y.1,y.2.1,())]) [sM9,sN]
abbrev vB5:Type:=(D40×Int×(List (List D99))×Int×Int×(List D99)×Int×Unit)
abbrev wZ0:Type:=(((List (List D99))×Nat)×Int×Unit)
def uG4 (y:vB5)(x:wZ0):Prop×Bool×wZ0×Bool×Bool:=
 let a3:=y.1
 let a11:=y.2.1
 let a50:=y.2.2.2.2.2.1
 let a10:=x.1
 let a52:=x.2.1
 let v53:=(decide (a52<y.2.2.2.2.2.2.1))
 let v55:=(nth a50 a52 Z99)
 let v58:=(f156 v55)
 let v61:=(f155 a3 v55)
 let v63:=(f156 v61)
 let v67:=(List.getD a10.1 a10.2 [])
 let c:=((!v58)&&(!v63))
 ((v53=true→(InB a52 (len a50)∧((uO2 v55)∧(((!v58)=true→((tN0 a3 v55)∧((uO2 v61)∧((!v63)=true→(InB a11 (len a10.1)∧((Int.toNat a11=a10.2∧a11<len a10.1)∧(InB a52 (len v67)∧a52<len v67)))))))∧(c=true→InR (a52+1)))))),(v53&&c),(((List.set a10.1 a10.2 (List.set (List.getD a10.1 a10.2 []) (Int.toNat a52) v61)),a10.2),(a52+1),()),(v53&&(v58||((!v58)&&v63))),(!v53))
def vF0 y x:=(uG4 y x).1
def wZ1 y x:=(uG4 y x).2.1
def wW6 y x:=(uG4 y x).2.2.1
def sE2 y x:=(uG4 y x).2.2.2.1
def tC9 y x:=(uG4 y x).2.2.2.2
instance (y x):Decidable (vF0 y x):=by unfold vF0 uG4;dsimp only;infer_instance
def uK3 (y:vB5)(x:wZ0):(List (List D99)):=
 ([]:List (List D99))
def tI3 (y:vB5)(x:wZ0):Int:=
 (bif (f156 (nth y.2.2.2.2.2.1 x.2.1 Z99)) then (2:Int) else (2:Int))
def sE3:List (Nat×Sh):=[(4,(.own (.sl T99) 0 false)),(5,vI)]
def tI4 (y:vB5)(x:wZ0):((List (List D99))×Nat):=
 let a10:=x.1
 (a10.1,a10.2)
def sE4:List (Nat×Sh):=[(3,(.box T40 (.val T40))),(10,(.ownh T99 1010 48 true)),(37,(.val (.sl (.sl T99)))),(38,vI),(39,vI)]
def rF1:=li [(3,(.box T40 (.val T40))),(11,vI),(37,(.val (.sl (.sl T99)))),(38,vI),(39,vI),(50,(.val (.sl T99))),(51,vI)] [(10,(.ownh T99 1010 48 true)),(52,vI)] wZ1 wW6 vF0 (fun y x=>[ex 1 (some (sE2 y x)) sE3 ((uK3 y x),(tI3 y x),()),ex 6 (some (tC9 y x)) sE4 (y.1,(tI4 y x),y.2.2.1,y.2.2.2.1,y.2.2.2.2.1,())]) [sE3,sE4]
abbrev wZ2:Type:=(D40×(List (List D99))×Int×Unit)
abbrev wX8:Type:=((List (List D99))×Int×Unit)
def uG5 (y:wZ2)(x:wX8):Prop×Bool×wX8×Bool×Bool:=
 let a37:=y.2.1
 let a38:=y.2.2.1
 let a10:=x.1
 let a39:=x.2.1
 let v40:=(decide (a39<a38))
 let v42:=(nth a37 a39 ([]:List D99))
 let v47:=(len v42)
 let y18:=(y.1,a39,a37,a38,a39,v42,(len v42),())
 let x18:=(((List.set a10 (Int.toNat a39) (List.replicate (Int.toNat v47) Z99)),(Int.toNat a39)),(0:Int),())
 let e18:=(zC4 (wZ1 y18) (wW6 y18) x18)
 let q18_6:=(tC9 y18 e18)
 ((v40=true→(InB a39 (len a37)∧((0≤v47∧v47≤v47∧v47≤4294967296)∧(InB a39 (len a10)∧(a39<len a10∧((xQ5 (wZ1 y18) (wW6 y18) (vF0 y18) x18)∧(q18_6=true→InR (a39+1)))))))),(v40&&q18_6),((tI4 y18 e18).1,(a39+1),()),(v40&&(sE2 y18 e18)),(!v40))
def vJ6 y x:=(uG5 y x).1
def vO8 y x:=(uG5 y x).2.1
def vA1 y x:=(uG5 y x).2.2.1
def tD y x:=(uG5 y x).2.2.2.1
def rF2 y x:=(uG5 y x).2.2.2.2
instance (y x):Decidable (vJ6 y x):=by unfold vJ6 uG5;dsimp only;infer_instance
def uK4 (y:wZ2)(x:wX8):(List (List D99)):=
 let a37:=y.2.1
 let a39:=x.2.1
 let v42:=(nth a37 a39 ([]:List D99))
 let y18:=(y.1,a39,a37,y.2.2.1,a39,v42,(len v42),())
 (uK3 y18 (zC4 (wZ1 y18) (wW6 y18) (((List.set x.1 (Int.toNat a39) (List.replicate (Int.toNat (len v42)) Z99)),(Int.toNat a39)),(0:Int),())))
def tI5 (y:wZ2)(x:wX8):Int:=
 let a37:=y.2.1
 let a39:=x.2.1
 let v42:=(nth a37 a39 ([]:List D99))
 let y18:=(y.1,a39,a37,y.2.2.1,a39,v42,(len v42),())
 (tI3 y18 (zC4 (wZ1 y18) (wW6 y18) (((List.set x.1 (Int.toNat a39) (List.replicate (Int.toNat (len v42)) Z99)),(Int.toNat a39)),(0:Int),())))
def sE5:List (Nat×Sh):=[(4,(.own (.sl T99) 0 false)),(5,vI)]
def uK5 (y:wZ2)(x:wX8):(List (List D99)):=
 x.1
def sE6:List (Nat×Sh):=[(10,(.own (.sl T99) 1010 true))]
def rF3:=li [(3,(.box T40 (.val T40))),(37,(.val (.sl (.sl T99)))),(38,vI)] [(10,(.own (.sl T99) 1010 true)),(39,vI)] vO8 vA1 vJ6 (fun y x=>[ex 1 (some (tD y x)) sE5 ((uK4 y x),(tI5 y x),()),ex 4 (some (rF2 y x)) sE6 ((uK5 y x),())]) [sE5,sE6]
def qI6 (p0:(List (List D99)))(p1:D40):Prop×((List (List D99))×Int×Unit):=
 let v17:=(f103 p1)
 let v19:=(v17 !=0)
 let y6:=(p0,p1,p0,(len p0),())
 let x6:=((0:Int),(0:Int),())
 let e6:=(zC4 (uR5 y6) (vR2 y6) x6)
 let q6_1:=(tO1 y6 e6)
 let v35:=(len p0)
 let y14:=(p1,p0,(len p0),())
 let x14:=((List.replicate (Int.toNat v35) ([]:List D99)),(0:Int),())
 let e14:=(zC4 (vO8 y14) (vA1 y14) x14)
 let q14_1:=(tD y14 e14)
 (((uD0 p1)∧((!v19)=true→((xQ5 (uR5 y6) (vR2 y6) (vW1 y6) x6)∧((sM8 y6 e6)=true→((0≤v35∧v35≤v35∧v35≤4294967296)∧(xQ5 (vO8 y14) (vA1 y14) (vJ6 y14) x14)))))),((bif v19 then [] else (bif q6_1 then (uR6 y6 e6) else (bif q14_1 then (uK4 y14 e14) else (uK5 y14 e14)))),(bif v19 then v17 else (bif q6_1 then (tS1 y6 e6) else (bif q14_1 then (tI5 y14 e14) else (0:Int)))),()))
def tO2 p0 p1:=(qI6 p0 p1).1
def f147 p0 p1:=(qI6 p0 p1).2
instance (p0 p1):Decidable (tO2 p0 p1):=by unfold tO2 qI6;dsimp only;infer_instance
def rX:=sp2 (.val (.sl (.sl T99))) (.val T40) (.tup (.cons (.val (.sl (.sl T99))) (.cons vI .nl))) tO2 f147
theorem pF2:SK 147 (sp2 (.val (.sl (.sl T99))) (.val T40) (.tup (.cons (.val (.sl (.sl T99))) (.cons vI .nl))) tO2 f147):=fb Tryz.func147 74 [kb sQ3,kb rV8,kb rD4] [(6,rQ2),(14,rF3),(18,rF1)] [(25,[(4,0,36,1010)]),(54,[(1,10,0,0)]),(57,[(1,4,0,0),(4,0,1010,0)])] false [] [36,48]
def qI7 (p0:D52):Prop×Int:=
 let v14:=(f145 f146 p0.2.2.2.2.2.2.2.2.2.2.2.2.2.2.2.2.2.2.2.2.2.2.2.1 p0.2.2.2.2.2.2.2.2.2.2.2.2.2.2.2.2.2.2.2.2.2.2.2.2.1 p0.2.2.2.2.2.2.2.2.2.2.2.2.2.2.2.2.2.2.2.2.2.2.2.2.2.1)
 let v18:=(v14.2.1 !=0)
 let v24:=(f147 v14.1 p0.2.2.2.2.2.2.2.2.2.2.1)
 let v28:=(v24.2.1 !=0)
 let v31:=(f144 v24.1 (0:Int))
 let v33:=(v31 !=0)
 ((tO0∧((tO f146 p0.2.2.2.2.2.2.2.2.2.2.2.2.2.2.2.2.2.2.2.2.2.2.2.1 p0.2.2.2.2.2.2.2.2.2.2.2.2.2.2.2.2.2.2.2.2.2.2.2.2.1 p0.2.2.2.2.2.2.2.2.2.2.2.2.2.2.2.2.2.2.2.2.2.2.2.2.2.1)∧((!v18)=true→((tO2 v14.1 p0.2.2.2.2.2.2.2.2.2.2.1)∧((!v28)=true→((uP2 v24.1 (0:Int))∧((!v33)=true→(uO p0.2.2.2.2.2.2.2.2.2.2.2.2.2.1)))))))),(bif v18 then v14.2.1 else (bif v28 then v24.2.1 else (bif v33 then v31 else (f126 p0.2.2.2.2.2.2.2.2.2.2.2.2.2.1)))))
def tO3 p0:=(qI7 p0).1
def f129 p0:=(qI7 p0).2
instance (p0):Decidable (tO3 p0):=by unfold tO3 qI7;dsimp only;infer_instance
def rX0:=sp1 (.val T52) vI tO3 f129
def qI8:=Cy [(126,rV6),(144,rW),(145,rW7),(146,rW9),(147,rX)] [] [(3,[(4,0,14,1003)])] 38
theorem pF3:SK 129 rX0:=fq (c:=qI8) Tryz.func129 ⟨rD3,rD9,pE0,pF1,pF2,trivial⟩
def rQ3 (p0:Int)(p1:Int):Prop×Bool:=
 let v7:=(p0==2)
 let v11:=(p0==3)
 let v24:=(p0==4)
 let m23:=(bif v24 then v24 else (p0==11))
 let v29:=(p0==5)
 let m28:=(bif v29 then v29 else (p0==9))
 let v34:=(p0==6)
 let m33:=(bif v34 then v34 else (p0==7))
 let m4_3:=(bif v11 then (bif (bif (decide (p1≥4)) then (decide (p1≤16)) else false) then ((Int.tmod p1 (2:Int))==0) else false) else (bif m23 then (p1==2) else (bif m28 then (p1==3) else (bif m33 then (p1==1) else (p1==9)))))
 (True,(bif (bif v7 then true else (bif v11 then true else (bif m23 then true else (bif m28 then true else (bif m33 then true else (p0==8)))))) then (bif v7 then (p1==5) else m4_3) else (p1==0)))
def sE7 p0 p1:=(rQ3 p0 p1).1
def f148 p0 p1:=(rQ3 p0 p1).2
instance (p0 p1):Decidable (sE7 p0 p1):=by unfold sE7 rQ3;dsimp only;infer_instance
theorem pF4:SK 148 (sp2 vI vI vB sE7 f148):=fb Tryz.func148 44
def pF5 (p0:Int)(p1:Int):Prop×(Int×Int×Unit):=
 let v12:=(bif (p0==2) then (p1==2) else false)
 let v15:=(p0==4)
 let v21:=(bif (p0==5) then (decide (p1>0)) else false)
 let m13_1:=(bif v15 then v15 else (bif v21 then v21 else (bif (p0==11) then (p1==1) else false)))
 let v30:=(p0==5)
 let v33:=(p0==7)
 let v36:=(p0==8)
 let c_8:=(bif v12 then true else (bif m13_1 then true else (bif v30 then true else (bif v33 then true else (bif v36 then true else (p0==11))))))
 let m4_5:=(bif c_8 then (bif v12 then (1:Int) else (bif m13_1 then (-65535:Int) else (bif v30 then (-32768:Int) else (bif v33 then (2:Int) else (bif v36 then (-262140:Int) else (-128:Int)))))) else (0:Int))
 let m5_5:=(bif c_8 then (bif v12 then (256:Int) else (bif m13_1 then (65535:Int) else (bif v30 then (32768:Int) else (bif v33 then (256:Int) else (bif v36 then (262140:Int) else (128:Int)))))) else (65535:Int))
 (True,(m4_5,m5_5,()))
def sE8 p0 p1:=(pF5 p0 p1).1
def f167 p0 p1:=(pF5 p0 p1).2
instance (p0 p1):Decidable (sE8 p0 p1):=by unfold sE8 pF5;dsimp only;infer_instance
theorem pF6:SK 167 (sp2 vI vI (.tup (.cons vI (.cons vI .nl))) sE8 f167):=fb Tryz.func167 40
abbrev vZ2:Type:=(Int×(List Int)×(List D127)×(List Int)×Int×Unit)
abbrev vM3:Type:=(Int×Unit)
def uY1 (y:vZ2)(x:vM3):Prop×Bool×vM3×Bool×Bool:=
 let a0:=y.1
 let a13:=y.2.2.2.1
 let a15:=x.1
 let v16:=(decide (a15<y.2.2.2.2.1))
 let v18:=(nth a13 a15 (0:Int))
 let v23:=(f167 a0 a15)
 let v33:=(bif (decide (v18<v23.1)) then true else (decide (v18>v23.2.1)))
 ((v16=true→(InB a15 (len a13)∧((sE8 a0 a15)∧((!v33)=true→InR (a15+1))))),(v16&&(!v33)),((a15+1),()),(v16&&v33),(!v16))
def uY2 y x:=(uY1 y x).1
def sE9 y x:=(uY1 y x).2.1
def uR7 y x:=(uY1 y x).2.2.1
def sN0 y x:=(uY1 y x).2.2.2.1
def sN1 y x:=(uY1 y x).2.2.2.2
instance (y x):Decidable (uY2 y x):=by unfold uY2 uY1;dsimp only;infer_instance
def tS2 (y:vZ2)(x:vM3):Bool:=
 false
def sN2:List (Nat×Sh):=[(0,vI),(1,(.val (.sl (.int .i64)))),(2,(.val (.sl T127)))]
def rQ4:=li [(0,vI),(1,(.val (.sl (.int .i64)))),(2,(.val (.sl T127))),(13,(.val (.sl (.int .i64)))),(14,vI)] [(15,vI)] sE9 uR7 uY2 (fun y x=>[ex 1 (some (sN0 y x)) [(6,vB)] ((tS2 y x),()),ex 2 (some (sN1 y x)) sN2 (y.1,y.2.1,y.2.2.1,())]) [[(6,vB)],sN2]
abbrev vO9:Type:=((List D127)×Int×Unit)
abbrev vI4:Type:=(Int×Unit)
def uG6 (y:vO9)(x:vI4):Prop×Bool×vI4×Bool×Bool:=
 let a55:=y.1
 let a57:=x.1
 let v58:=(decide (a57<y.2.1))
 let v59:=(nth a55 a57 Z127)
 let v68:=(bif (decide (v59.1<0)) then true else (decide (v59.1>65535)))
 let v74:=(bif v68 then true else (!(f84 v59.2.1)))
 ((v58=true→(InB a57 (len a55)∧(((!v68)=true→(tF v59.2.1))∧((!v74)=true→InR (a57+1))))),(v58&&(!v74)),((a57+1),()),(v58&&v74),(!v58))
def uK6 y x:=(uG6 y x).1
def tO4 y x:=(uG6 y x).2.1
def uK7 y x:=(uG6 y x).2.2.1
def sF y x:=(uG6 y x).2.2.2.1
def rF4 y x:=(uG6 y x).2.2.2.2
instance (y x):Decidable (uK6 y x):=by unfold uK6 uG6;dsimp only;infer_instance
def tI6 (y:vO9)(x:vI4):Bool:=
 false
def rF5:=li [(55,(.val (.sl T127))),(56,vI)] [(57,vI)] tO4 uK7 uK6 (fun y x=>[ex 1 (some (sF y x)) [(6,vB)] ((tI6 y x),()),ex 4 (some (rF4 y x)) [] ()]) [[(6,vB)],[]]
def pF7 (p0:Int)(p1:List Int)(p2:List D127):Prop×Bool:=
 let y2:=(p0,p1,p2,p1,(len p1),())
 let x2:=((0:Int),())
 let e2:=(zC4 (sE9 y2) (uR7 y2) x2)
 let v36:=(p0==9)
 let v42:=(bif v36 then ((nth p1 (0:Int) (0:Int))==0) else false)
 let v48:=(bif v42 then ((nth p1 (1:Int) (0:Int))==0) else false)
 let v54:=(bif v48 then ((nth p1 (2:Int) (0:Int))==0) else false)
 let y11:=(p2,(len p2),())
 let x11:=((0:Int),())
 let e11:=(zC4 (tO4 y11) (uK7 y11) x11)
 (((xQ5 (sE9 y2) (uR7 y2) (uY2 y2) x2)∧((sN1 y2 e2)=true→((v36=true→InB (0:Int) (len p1))∧((v42=true→InB (1:Int) (len p1))∧((v48=true→InB (2:Int) (len p1))∧((!v54)=true→(xQ5 (tO4 y11) (uK7 y11) (uK6 y11) x11))))))),(bif (sN0 y2 e2) then (tS2 y2 e2) else (bif v54 then false else (bif (sF y11 e11) then (tI6 y11 e11) else true))))
def sF0 p0 p1 p2:=(pF7 p0 p1 p2).1
def f149 p0 p1 p2:=(pF7 p0 p1 p2).2
instance (p0 p1 p2):Decidable (sF0 p0 p1 p2):=by unfold sF0 pF7;dsimp only;infer_instance
theorem pF8:SK 149 (sp3 vI (.val (.sl (.int .i64))) (.val (.sl T127)) vB sF0 f149):=fb Tryz.func149 76 [kb rI4,kb pF6] [(2,rQ4),(11,rF5)]
abbrev vZ3:Type:=((List Int)×(List D127)×Unit)
abbrev vM4:Type:=(Int×Unit)
def uY3 (y:vZ3)(x:vM4):Prop×Bool×vM4×Bool×Bool:=
 let a1:=y.1
 let a7:=x.1
 let v25:=(decide (a7<(len a1)))
 let v34:=(a7-2)
 let v37:=(decide ((nth a1 a7 (0:Int))≤(nth a1 v34 (0:Int))))
 ((v25=true→(InB a7 (len a1)∧(InR (a7-2)∧(InB v34 (len a1)∧((!v37)=true→InR (a7+2)))))),(v25&&(!v37)),((a7+2),()),(v25&&v37),(!v25))
def uY4 y x:=(uY3 y x).1
def sF1 y x:=(uY3 y x).2.1
def uR8 y x:=(uY3 y x).2.2.1
def sN3 y x:=(uY3 y x).2.2.2.1
def sN4 y x:=(uY3 y x).2.2.2.2
instance (y x):Decidable (uY4 y x):=by unfold uY4 uY3;dsimp only;infer_instance
def tS3 (y:vZ3)(x:vM4):Bool:=
 false
def rQ5:=li [(1,(.val (.sl (.int .i64)))),(2,(.val (.sl T127)))] [(7,vI)] sF1 uR8 uY4 (fun y x=>[ex 1 (some (sN3 y x)) [(6,vB)] ((tS3 y x),()),ex 2 (some (sN4 y x)) [(2,(.val (.sl T127)))] (y.2.1,())]) [[(6,vB)],[(2,(.val (.sl T127)))]]
abbrev vP0:Type:=((List D127)×Unit)
abbrev vI5:Type:=(Int×Unit)
def uG7 (y:vP0)(x:vI5):Prop×Bool×vI5×Bool×Bool:=
 let a2:=y.1
 let a8:=x.1
 let v41:=(decide (a8<(len a2)))
 let v51:=(a8-1)
 let v55:=(decide ((nth a2 a8 Z127).1≤(nth a2 v51 Z127).1))
 ((v41=true→(InB a8 (len a2)∧(InR (a8-1)∧(InB v51 (len a2)∧((!v55)=true→InR (a8+1)))))),(v41&&(!v55)),((a8+1),()),(v41&&v55),(!v41))
def vZ4 y x:=(uG7 y x).1
def uY5 y x:=(uG7 y x).2.1
def vT6 y x:=(uG7 y x).2.2.1
def sF2 y x:=(uG7 y x).2.2.2.1
def rF6 y x:=(uG7 y x).2.2.2.2
instance (y x):Decidable (vZ4 y x):=by unfold vZ4 uG7;dsimp only;infer_instance
def tI7 (y:vP0)(x:vI5):Bool:=
 false
def rF7:=li [(2,(.val (.sl T127)))] [(8,vI)] uY5 vT6 vZ4 (fun y x=>[ex 1 (some (sF2 y x)) [(6,vB)] ((tI7 y x),()),ex 4 (some (rF6 y x)) [] ()]) [[(6,vB)],[]]
def pF9 (p0:Int)(p1:List Int)(p2:List D127):Prop×Bool:=
 let v10:=(p0==2)
 let v19:=(bif v10 then (decide ((nth p1 (1:Int) (0:Int))≤(nth p1 (0:Int) (0:Int)))) else false)
 let v21:=(p0==3)
 let y5:=(p1,p2,())
 let x5:=((2:Int),())
 let e5:=(zC4 (sF1 y5) (uR8 y5) x5)
 let y10:=((bif v21 then p2 else p2),())
 let x10:=((1:Int),())
 let e10:=(zC4 (uY5 y10) (vT6 y10) x10)
 (((v10=true→InB (1:Int) (len p1))∧((v10=true→InB (0:Int) (len p1))∧((!v19)=true→((v21=true→(xQ5 (sF1 y5) (uR8 y5) (uY4 y5) x5))∧((bif v21 then (sN4 y5 e5) else true)=true→(xQ5 (uY5 y10) (vT6 y10) (vZ4 y10) x10)))))),(bif v19 then false else (bif ((sN3 y5 e5)&&v21) then (tS3 y5 e5) else (bif (sF2 y10 e10) then (tI7 y10 e10) else true))))
def sF3 p0 p1 p2:=(pF9 p0 p1 p2).1
def f150 p0 p1 p2:=(pF9 p0 p1 p2).2
instance (p0 p1 p2):Decidable (sF3 p0 p1 p2):=by unfold sF3 pF9;dsimp only;infer_instance
theorem pG:SK 150 (sp3 vI (.val (.sl (.int .i64))) (.val (.sl T127)) vB sF3 f150):=fb Tryz.func150 56 [] [(5,rQ5),(10,rF7)]
def pG0 (p0:Int)(p1:List Int)(p2:List D127):Prop×Int:=
 let v13:=(bif (decide (p0<1)) then true else (decide (p0>11)))
 let v17:=(len p1)
 let v27:=(bif (!(f148 p0 v17)) then true else (!(Ty.eqb .bool (decide ((len p2)>0)) (p0==10))))
 let v31:=(decide ((len p2)>16))
 let v37:=(!(f149 p0 p1 p2))
 let m6_4:=(bif (bif v13 then true else (bif v27 then true else (bif v31 then true else (bif v37 then true else (!(f150 p0 p1 p2)))))) then (bif v13 then (8:Int) else (bif v27 then (1:Int) else (bif v31 then (3:Int) else (bif v37 then (2:Int) else (24:Int))))) else (0:Int))
 ((v13=false→((sE7 p0 v17)∧(v27=false→(v31=false→((sF0 p0 p1 p2)∧(v37=false→(sF3 p0 p1 p2))))))),m6_4)
def sF4 p0 p1 p2:=(pG0 p0 p1 p2).1
def f130 p0 p1 p2:=(pG0 p0 p1 p2).2
instance (p0 p1 p2):Decidable (sF4 p0 p1 p2):=by unfold sF4 pG0;dsimp only;infer_instance
theorem pG1:SK 130 (sp3 vI (.val (.sl (.int .i64))) (.val (.sl T127)) vI sF4 f130):=fb Tryz.func130 44 [kb pF4,kb pF8,kb pG]
def pG2 (p0:Int):Prop×(List D99):=
 let v5:=(p0==1)
 let v6:=(p0==7)
 let m4_1:=(bif v5 then v5 else (bif v6 then v6 else (p0==8)))
 let v11:=(p0==2)
 let v15:=(p0==4)
 let v19:=(p0==3)
 let v24:=(p0==9)
 let m2_1:=(bif v19 then ([((0:Int),(16:Int),()),((0:Int),(262140:Int),())]:List D99) else (bif v24 then ([((-16:Int),(16:Int),()),((-16:Int),(16:Int),())]:List D99) else ([((1:Int),(16:Int),())]:List D99)))
 let m2_5:=(bif (bif m4_1 then true else (bif v11 then true else (bif v15 then true else (bif v19 then true else (bif v24 then true else (p0==10)))))) then (bif m4_1 then ([((0:Int),(16:Int),())]:List D99) else (bif v11 then ([((0:Int),(7:Int),())]:List D99) else (bif v15 then ([((0:Int),(4:Int),())]:List D99) else m2_1))) else [])
 (True,m2_5)
def sF5 p0:=(pG2 p0).1
def f151 p0:=(pG2 p0).2
instance (p0):Decidable (sF5 p0):=by unfold sF5 pG2;dsimp only;infer_instance
theorem pG3:SK 151 (sp1 vI (.own T99 0 false) sF5 f151):=fb Tryz.func151 32 [] [] [(11,[(4,0,9,0)]),(15,[(4,0,13,0)]),(19,[(4,0,17,0)]),(23,[(4,0,22,0)]),(27,[(4,0,27,0)]),(31,[(4,0,31,0)])]
abbrev vZ5:Type:=((List D99)×(List Int)×Int×Unit)
abbrev vM5:Type:=(Int×Unit)
def uY6 (y:vZ5)(x:vM5):Prop×Bool×vM5×Bool×Bool:=
 let a5:=y.1
 let a21:=y.2.1
 let a23:=x.1
 let v24:=(decide (a23<y.2.2.1))
 let v26:=(nth a21 a23 (0:Int))
 let v34:=(decide (v26<(nth a5 a23 Z99).1))
 let v43:=(bif v34 then true else (decide (v26>(nth a5 a23 Z99).2.1)))
 ((v24=true→(InB a23 (len a21)∧(InB a23 (len a5)∧(((!v34)=true→InB a23 (len a5))∧((!v43)=true→InR (a23+1)))))),(v24&&(!v43)),((a23+1),()),(v24&&v43),(!v24))
def uY7 y x:=(uY6 y x).1
def sF6 y x:=(uY6 y x).2.1
def uR9 y x:=(uY6 y x).2.2.1
def sN5 y x:=(uY6 y x).2.2.2.1
def rQ6 y x:=(uY6 y x).2.2.2.2
instance (y x):Decidable (uY7 y x):=by unfold uY7 uY6;dsimp only;infer_instance
def tS4 (y:vZ5)(x:vM5):Int:=
 (2:Int)
def rQ7:=li [(5,(.own T99 1005 false)),(21,(.val (.sl (.int .i64)))),(22,vI)] [(23,vI)] sF6 uR9 uY7 (fun y x=>[ex 1 (some (sN5 y x)) [(4,vI)] ((tS4 y x),()),ex 2 (some (rQ6 y x)) [] ()]) [[(4,vI)],[]]
def pG4 (p0:Int)(p1:List Int):Prop×Int:=
 let v13:=(bif (decide (p0<1)) then true else (decide (p0>10)))
 let v15:=(f151 p0)
 let v20:=((len p1)!=(len v15))
 let y7:=(v15,p1,(len p1),())
 let x7:=((0:Int),())
 let e7:=(zC4 (sF6 y7) (uR9 y7) x7)
 (((!v13)=true→((sF5 p0)∧((!v20)=true→(xQ5 (sF6 y7) (uR9 y7) (uY7 y7) x7)))),(bif v13 then (8:Int) else (bif v20 then (1:Int) else (bif (sN5 y7 e7) then (tS4 y7 e7) else (0:Int)))))
def sF7 p0 p1:=(pG4 p0 p1).1
def f131 p0 p1:=(pG4 p0 p1).2
instance (p0 p1):Decidable (sF7 p0 p1):=by unfold sF7 pG4;dsimp only;infer_instance
theorem pG5:SK 131 (sp2 vI (.val (.sl (.int .i64))) vI sF7 f131):=fb Tryz.func131 45 [kb pG3] [(7,rQ7)] [(7,[(4,0,15,1005)])]
abbrev vZ6:Type:=((List D99)×Int×Unit)
abbrev vM6:Type:=(Int×Unit)
def uY8 (y:vZ6)(x:vM6):Prop×Bool×vM6×Bool×Bool:=
 let a43:=y.1
 let a45:=x.1
 let v46:=(decide (a45<y.2.1))
 let v47:=(nth a43 a45 Z99)
 let v66:=(bif (bif (bif (decide (v47.1<(-1048576))) then true else (decide (v47.1>1048576))) then true else (decide (v47.2.1<(-1048576)))) then true else (decide (v47.2.1>1048576)))
 ((v46=true→(InB a45 (len a43)∧((!v66)=true→InR (a45+1)))),(v46&&(!v66)),((a45+1),()),(v46&&v66),(!v46))
def uY9 y x:=(uY8 y x).1
def sF8 y x:=(uY8 y x).2.1
def uS y x:=(uY8 y x).2.2.1
def sN6 y x:=(uY8 y x).2.2.2.1
def rQ8 y x:=(uY8 y x).2.2.2.2
instance (y x):Decidable (uY9 y x):=by unfold uY9 uY8;dsimp only;infer_instance
def tS5 (y:vZ6)(x:vM6):Int:=
 (2:Int)
def rQ9:=li [(43,(.val (.sl T99))),(44,vI)] [(45,vI)] sF8 uS uY9 (fun y x=>[ex 1 (some (sN6 y x)) [(2,vI)] ((tS5 y x),()),ex 2 (some (rQ8 y x)) [] ()]) [[(2,vI)],[]]
def pG6 (p0:D50):Prop×Int:=
 let v22:=(bif (bif (bif (decide (p0.1<2)) then true else (decide (p0.1>8))) then true else (decide (p0.2.1<2))) then true else (decide (p0.2.1>8)))
 let v30:=(bif (decide (p0.2.2.1<1)) then true else (decide (p0.2.2.1>256)))
 let v41:=(bif v30 then true else ((len p0.2.2.2.1)!=(p0.1*p0.2.1)))
 let y6:=(p0.2.2.2.1,(len p0.2.2.2.1),())
 let x6:=((0:Int),())
 let e6:=(zC4 (sF8 y6) (uS y6) x6)
 (((!v22)=true→(((!v30)=true→InR (p0.1*p0.2.1))∧((!v41)=true→(xQ5 (sF8 y6) (uS y6) (uY9 y6) x6)))),(bif v22 then (15:Int) else (bif v41 then (15:Int) else (bif (sN6 y6 e6) then (tS5 y6 e6) else (0:Int)))))
def sF9 p0:=(pG6 p0).1
def f132 p0:=(pG6 p0).2
instance (p0):Decidable (sF9 p0):=by unfold sF9 pG6;dsimp only;infer_instance
theorem pG7:SK 132 (sp1 (.val T50) vI sF9 f132):=fb Tryz.func132 68 [] [(6,rQ9)]
def pG8 (p0:D52):Prop×Int:=
 let v6:=(p0.2.1==2)
 let v11:=(p0.2.1==3)
 let v16:=(p0.2.1==4)
 let v27:=(p0.2.1==5)
 let v31:=(p0.2.1==6)
 let v35:=(p0.2.1==7)
 let v44:=(p0.2.1==8)
 let v51:=(p0.2.1==9)
 let m50:=(bif v51 then v51 else (p0.2.1==10))
 let v62:=(p0.2.1==11)
 let c_2:=(bif v44 then true else (bif m50 then (bif (decide (p0.2.2.2.2.2.2.2.2.2.2.2.2.2.2.2.2.2.2.2.2.2.2.2.2.2.2.1<1)) then true else (decide (p0.2.2.2.2.2.2.2.2.2.2.2.2.2.2.2.2.2.2.2.2.2.2.2.2.2.2.1>1073741824))) else v62))
 let m2_2:=(bif v35 then (f130 p0.2.2.2.2.2.2.2.2.2.2.2.2.2.2.1 p0.2.2.2.2.2.2.2.2.2.2.2.2.2.2.2.1 p0.2.2.2.2.2.2.2.2.2.2.2.2.2.2.2.2.2.1) else (bif v44 then (f131 p0.2.2.2.2.2.2.2.2.2.2.2.2.2.2.1 p0.2.2.2.2.2.2.2.2.2.2.2.2.2.2.2.1) else (bif m50 then (2:Int) else (f132 p0.2.2.2.2.2.2.2.2.2.2.2.2.2.2.2.2.2.2.2.2.2.2.2.2.2.2.2.1))))
 let m2_5:=(bif v16 then (f127 p0.2.2.2.2.2.2.2.2.2.2.2.2.2.2.1 p0.2.2.2.2.2.2.2.2.2.2.2.2.2.2.2.1 p0.2.2.2.2.2.2.2.2.2.2.2.2.2.2.2.2.1 p0.2.2.2.2.2.2.2.2.2.2.2.2.2.2.2.2.2.1) else (bif v27 then (f128 p0) else (bif v31 then (f129 p0) else m2_2)))
 let m2_8:=(bif (bif v6 then true else (bif v11 then true else (bif v16 then true else (bif v27 then true else (bif v31 then true else (bif v35 then true else c_2)))))) then (bif v6 then (f57 p0.2.2.2.2.2.2.2.2.2.2.2.2.1) else (bif v11 then (f126 p0.2.2.2.2.2.2.2.2.2.2.2.2.2.1) else m2_5)) else (0:Int))
 (((v6=true→(tQ2 p0.2.2.2.2.2.2.2.2.2.2.2.2.1))∧(v6=false→((v11=true→(uO p0.2.2.2.2.2.2.2.2.2.2.2.2.2.1))∧(v11=false→((v16=true→(tZ4 p0.2.2.2.2.2.2.2.2.2.2.2.2.2.2.1 p0.2.2.2.2.2.2.2.2.2.2.2.2.2.2.2.1 p0.2.2.2.2.2.2.2.2.2.2.2.2.2.2.2.2.1 p0.2.2.2.2.2.2.2.2.2.2.2.2.2.2.2.2.2.1))∧(v16=false→((v27=true→(sB6 p0))∧(v27=false→((v31=true→(tO3 p0))∧(v31=false→((v35=true→(sF4 p0.2.2.2.2.2.2.2.2.2.2.2.2.2.2.1 p0.2.2.2.2.2.2.2.2.2.2.2.2.2.2.2.1 p0.2.2.2.2.2.2.2.2.2.2.2.2.2.2.2.2.2.1))∧(v35=false→((v44=true→(sF7 p0.2.2.2.2.2.2.2.2.2.2.2.2.2.2.1 p0.2.2.2.2.2.2.2.2.2.2.2.2.2.2.2.1))∧(v44=false→(m50=false→(v62=true→(sF9 p0.2.2.2.2.2.2.2.2.2.2.2.2.2.2.2.2.2.2.2.2.2.2.2.2.2.2.2.1))))))))))))))))),m2_8)
def sG p0:=(pG8 p0).1
def f107 p0:=(pG8 p0).2
instance (p0):Decidable (sG p0):=by unfold sG pG8;dsimp only;infer_instance
theorem pG9:SK 107 (sp1 (.val T52) vI sG f107):=fb Tryz.func107 66 [kb rV5,kb rD3,kb qZ2,kb pD0,kb pF3,kb pG1,kb pG5,kb pG7]
def pH (p0:D52):Prop×Bool:=
 let v17:=(bif (bif (!(Ty.eqb T40 p0.2.2.2.2.2.2.2.2.2.2.1 ((0:Int),(0:Int),(0:Int),(0:Int),(0:Int),(0:Int),()))) then true else (p0.2.2.2.2.2.2.2.2.2.2.2.1 !=0)) then true else (!(Ty.eqb T45 p0.2.2.2.2.2.2.2.2.2.2.2.2.2.1 ((0:Int),(0:Int),(0:Int),(0:Int),()))))
 let v54:=(bif (bif (bif (p0.2.2.2.2.2.2.2.2.2.2.2.2.2.2.1 !=0) then true else ((len p0.2.2.2.2.2.2.2.2.2.2.2.2.2.2.2.1)!=0)) then true else (p0.2.2.2.2.2.2.2.2.2.2.2.2.2.2.2.2.1 !=0)) then true else ((len p0.2.2.2.2.2.2.2.2.2.2.2.2.2.2.2.2.2.1)!=0))
 let v73:=(bif (bif (bif ((len p0.2.2.2.2.2.2.2.2.2.2.2.2.2.2.2.2.2.2.1)!=0) then true else (p0.2.2.2.2.2.2.2.2.2.2.2.2.2.2.2.2.2.2.2.1 !=0)) then true else (p0.2.2.2.2.2.2.2.2.2.2.2.2.2.2.2.2.2.2.2.2.1 !=0)) then true else (p0.2.2.2.2.2.2.2.2.2.2.2.2.2.2.2.2.2.2.2.2.2.1 !=0))
 let v91:=(bif (bif (!(p0.2.2.2.2.2.2.2.2.2.2.2.2.2.2.2.2.2.2.2.2.2.2.2.1==([]:List UInt8))) then true else (p0.2.2.2.2.2.2.2.2.2.2.2.2.2.2.2.2.2.2.2.2.2.2.2.2.1 !=0)) then true else (p0.2.2.2.2.2.2.2.2.2.2.2.2.2.2.2.2.2.2.2.2.2.2.2.2.2.1 !=0))
 let v112:=(bif (bif (p0.2.2.2.2.2.2.2.2.2.2.2.2.2.2.2.2.2.2.2.2.2.2.2.2.2.2.2.1.1==0) then (p0.2.2.2.2.2.2.2.2.2.2.2.2.2.2.2.2.2.2.2.2.2.2.2.2.2.2.2.1.2.1==0) else false) then (p0.2.2.2.2.2.2.2.2.2.2.2.2.2.2.2.2.2.2.2.2.2.2.2.2.2.2.2.1.2.2.1==0) else false)
 let m2:=(bif (bif v91 then true else (p0.2.2.2.2.2.2.2.2.2.2.2.2.2.2.2.2.2.2.2.2.2.2.2.2.2.2.1 !=0)) then false else (bif v112 then ((len p0.2.2.2.2.2.2.2.2.2.2.2.2.2.2.2.2.2.2.2.2.2.2.2.2.2.2.2.1.2.2.2.1)==0) else false))
 let m2_3:=(bif (bif (bif (p0.2.2.2.2.2.2.2.2.2.2.2.2.1.1 !=0) then true else (p0.2.2.2.2.2.2.2.2.2.2.2.2.1.2.1 !=0)) then true else ((len p0.2.2.2.2.2.2.2.2.2.2.2.2.1.2.2.1)!=0)) then false else (bif v54 then false else (bif (bif v73 then true else (p0.2.2.2.2.2.2.2.2.2.2.2.2.2.2.2.2.2.2.2.2.2.2.1 !=0)) then false else m2)))
 (True,(bif v17 then false else m2_3))
def sG0 p0:=(pH p0).1
def f108 p0:=(pH p0).2
instance (p0):Decidable (sG0 p0):=by unfold sG0 pH;dsimp only;infer_instance
theorem pH0:SK 108 (sp1 (.val T52) vB sG0 f108):=fb Tryz.func108 120
def pH1 (p0:D52):Prop×D52:=
 let s_1:=(p0.1,p0.2.1,p0.2.2.1,p0.2.2.2.1,p0.2.2.2.2.1,p0.2.2.2.2.2.1,p0.2.2.2.2.2.2.1,p0.2.2.2.2.2.2.2.1,p0.2.2.2.2.2.2.2.2.1,p0.2.2.2.2.2.2.2.2.2.1,((0:Int),(0:Int),(0:Int),(0:Int),(0:Int),(0:Int),()),p0.2.2.2.2.2.2.2.2.2.2.2)
 let m1:=(bif (f102 p0.2.1) then s_1 else p0)
 let s_2:=(m1.1,m1.2.1,m1.2.2.1,m1.2.2.2.1,m1.2.2.2.2.1,m1.2.2.2.2.2.1,m1.2.2.2.2.2.2.1,m1.2.2.2.2.2.2.2.1,m1.2.2.2.2.2.2.2.2.1,m1.2.2.2.2.2.2.2.2.2.1,m1.2.2.2.2.2.2.2.2.2.2.1,(0:Int),m1.2.2.2.2.2.2.2.2.2.2.2.2)
 let m1_1:=(bif (f105 m1.2.1) then s_2 else m1)
 let s_4:=(m1_1.1,m1_1.2.1,m1_1.2.2.1,m1_1.2.2.2.1,m1_1.2.2.2.2.1,m1_1.2.2.2.2.2.1,m1_1.2.2.2.2.2.2.1,m1_1.2.2.2.2.2.2.2.1,m1_1.2.2.2.2.2.2.2.2.1,m1_1.2.2.2.2.2.2.2.2.2.1,m1_1.2.2.2.2.2.2.2.2.2.2.1,m1_1.2.2.2.2.2.2.2.2.2.2.2.1,((0:Int),(0:Int),([]:List D45),()),m1_1.2.2.2.2.2.2.2.2.2.2.2.2.2)
 let s_6:=(m1_1.1,m1_1.2.1,m1_1.2.2.1,m1_1.2.2.2.1,m1_1.2.2.2.2.1,m1_1.2.2.2.2.2.1,m1_1.2.2.2.2.2.2.1,m1_1.2.2.2.2.2.2.2.1,m1_1.2.2.2.2.2.2.2.2.1,m1_1.2.2.2.2.2.2.2.2.2.1,m1_1.2.2.2.2.2.2.2.2.2.2.1,m1_1.2.2.2.2.2.2.2.2.2.2.2.1,m1_1.2.2.2.2.2.2.2.2.2.2.2.2.1,((0:Int),(0:Int),(0:Int),(0:Int),()),m1_1.2.2.2.2.2.2.2.2.2.2.2.2.2.2)
 let s_10:=(m1_1.1,m1_1.2.1,m1_1.2.2.1,m1_1.2.2.2.1,m1_1.2.2.2.2.1,m1_1.2.2.2.2.2.1,m1_1.2.2.2.2.2.2.1,m1_1.2.2.2.2.2.2.2.1,m1_1.2.2.2.2.2.2.2.2.1,m1_1.2.2.2.2.2.2.2.2.2.1,m1_1.2.2.2.2.2.2.2.2.2.2.1,m1_1.2.2.2.2.2.2.2.2.2.2.2.1,m1_1.2.2.2.2.2.2.2.2.2.2.2.2.1,m1_1.2.2.2.2.2.2.2.2.2.2.2.2.2.1,(0:Int),([]:List Int),(0:Int),([]:List D127),m1_1.2.2.2.2.2.2.2.2.2.2.2.2.2.2.2.2.2.2)
 let s_17:=(m1_1.1,m1_1.2.1,m1_1.2.2.1,m1_1.2.2.2.1,m1_1.2.2.2.2.1,m1_1.2.2.2.2.2.1,m1_1.2.2.2.2.2.2.1,m1_1.2.2.2.2.2.2.2.1,m1_1.2.2.2.2.2.2.2.2.1,m1_1.2.2.2.2.2.2.2.2.2.1,m1_1.2.2.2.2.2.2.2.2.2.2.1,m1_1.2.2.2.2.2.2.2.2.2.2.2.1,m1_1.2.2.2.2.2.2.2.2.2.2.2.2.1,((0:Int),(0:Int),(0:Int),(0:Int),()),m1_1.2.2.2.2.2.2.2.2.2.2.2.2.2.2.1,m1_1.2.2.2.2.2.2.2.2.2.2.2.2.2.2.2.1,m1_1.2.2.2.2.2.2.2.2.2.2.2.2.2.2.2.2.1,m1_1.2.2.2.2.2.2.2.2.2.2.2.2.2.2.2.2.2.1,([]:List D130),(0:Int),(0:Int),(0:Int),(0:Int),m1_1.2.2.2.2.2.2.2.2.2.2.2.2.2.2.2.2.2.2.2.2.2.2.2)
 let s_22:=(m1_1.1,m1_1.2.1,m1_1.2.2.1,m1_1.2.2.2.1,m1_1.2.2.2.2.1,m1_1.2.2.2.2.2.1,m1_1.2.2.2.2.2.2.1,m1_1.2.2.2.2.2.2.2.1,m1_1.2.2.2.2.2.2.2.2.1,m1_1.2.2.2.2.2.2.2.2.2.1,m1_1.2.2.2.2.2.2.2.2.2.2.1,m1_1.2.2.2.2.2.2.2.2.2.2.2.1,m1_1.2.2.2.2.2.2.2.2.2.2.2.2.1,((0:Int),(0:Int),(0:Int),(0:Int),()),m1_1.2.2.2.2.2.2.2.2.2.2.2.2.2.2.1,m1_1.2.2.2.2.2.2.2.2.2.2.2.2.2.2.2.1,m1_1.2.2.2.2.2.2.2.2.2.2.2.2.2.2.2.2.1,m1_1.2.2.2.2.2.2.2.2.2.2.2.2.2.2.2.2.2.1,m1_1.2.2.2.2.2.2.2.2.2.2.2.2.2.2.2.2.2.2.1,m1_1.2.2.2.2.2.2.2.2.2.2.2.2.2.2.2.2.2.2.2.1,m1_1.2.2.2.2.2.2.2.2.2.2.2.2.2.2.2.2.2.2.2.2.1,m1_1.2.2.2.2.2.2.2.2.2.2.2.2.2.2.2.2.2.2.2.2.2.1,m1_1.2.2.2.2.2.2.2.2.2.2.2.2.2.2.2.2.2.2.2.2.2.2.1,([]:List UInt8),(0:Int),(0:Int),m1_1.2.2.2.2.2.2.2.2.2.2.2.2.2.2.2.2.2.2.2.2.2.2.2.2.2.2)
 let s_25:=(m1_1.1,m1_1.2.1,m1_1.2.2.1,m1_1.2.2.2.1,m1_1.2.2.2.2.1,m1_1.2.2.2.2.2.1,m1_1.2.2.2.2.2.2.1,m1_1.2.2.2.2.2.2.2.1,m1_1.2.2.2.2.2.2.2.2.1,m1_1.2.2.2.2.2.2.2.2.2.1,m1_1.2.2.2.2.2.2.2.2.2.2.1,m1_1.2.2.2.2.2.2.2.2.2.2.2.1,m1_1.2.2.2.2.2.2.2.2.2.2.2.2.1,m1_1.2.2.2.2.2.2.2.2.2.2.2.2.2.1,(0:Int),([]:List Int),m1_1.2.2.2.2.2.2.2.2.2.2.2.2.2.2.2.2.1,([]:List D127),m1_1.2.2.2.2.2.2.2.2.2.2.2.2.2.2.2.2.2.2)
 let s_27:=(m1_1.1,m1_1.2.1,m1_1.2.2.1,m1_1.2.2.2.1,m1_1.2.2.2.2.1,m1_1.2.2.2.2.2.1,m1_1.2.2.2.2.2.2.1,m1_1.2.2.2.2.2.2.2.1,m1_1.2.2.2.2.2.2.2.2.1,m1_1.2.2.2.2.2.2.2.2.2.1,m1_1.2.2.2.2.2.2.2.2.2.2.1,m1_1.2.2.2.2.2.2.2.2.2.2.2.1,m1_1.2.2.2.2.2.2.2.2.2.2.2.2.1,m1_1.2.2.2.2.2.2.2.2.2.2.2.2.2.1,(0:Int),([]:List Int),m1_1.2.2.2.2.2.2.2.2.2.2.2.2.2.2.2.2)
 let v54:=(m1_1.2.1==9)
 let s_28:=(m1_1.1,m1_1.2.1,m1_1.2.2.1,m1_1.2.2.2.1,m1_1.2.2.2.2.1,m1_1.2.2.2.2.2.1,m1_1.2.2.2.2.2.2.1,m1_1.2.2.2.2.2.2.2.1,m1_1.2.2.2.2.2.2.2.2.1,m1_1.2.2.2.2.2.2.2.2.2.1,m1_1.2.2.2.2.2.2.2.2.2.2.1,m1_1.2.2.2.2.2.2.2.2.2.2.2.1,m1_1.2.2.2.2.2.2.2.2.2.2.2.2.1,m1_1.2.2.2.2.2.2.2.2.2.2.2.2.2.1,m1_1.2.2.2.2.2.2.2.2.2.2.2.2.2.2.1,m1_1.2.2.2.2.2.2.2.2.2.2.2.2.2.2.2.1,m1_1.2.2.2.2.2.2.2.2.2.2.2.2.2.2.2.2.1,m1_1.2.2.2.2.2.2.2.2.2.2.2.2.2.2.2.2.2.1,m1_1.2.2.2.2.2.2.2.2.2.2.2.2.2.2.2.2.2.2.1,m1_1.2.2.2.2.2.2.2.2.2.2.2.2.2.2.2.2.2.2.2.1,m1_1.2.2.2.2.2.2.2.2.2.2.2.2.2.2.2.2.2.2.2.2.1,m1_1.2.2.2.2.2.2.2.2.2.2.2.2.2.2.2.2.2.2.2.2.2.1,m1_1.2.2.2.2.2.2.2.2.2.2.2.2.2.2.2.2.2.2.2.2.2.2.1,m1_1.2.2.2.2.2.2.2.2.2.2.2.2.2.2.2.2.2.2.2.2.2.2.2.1,m1_1.2.2.2.2.2.2.2.2.2.2.2.2.2.2.2.2.2.2.2.2.2.2.2.2.1,m1_1.2.2.2.2.2.2.2.2.2.2.2.2.2.2.2.2.2.2.2.2.2.2.2.2.2.1,(0:Int),m1_1.2.2.2.2.2.2.2.2.2.2.2.2.2.2.2.2.2.2.2.2.2.2.2.2.2.2.2.1,())
 let s_30:=(m1_1.1,m1_1.2.1,m1_1.2.2.1,m1_1.2.2.2.1,m1_1.2.2.2.2.1,m1_1.2.2.2.2.2.1,m1_1.2.2.2.2.2.2.1,m1_1.2.2.2.2.2.2.2.1,m1_1.2.2.2.2.2.2.2.2.1,m1_1.2.2.2.2.2.2.2.2.2.1,m1_1.2.2.2.2.2.2.2.2.2.2.1,m1_1.2.2.2.2.2.2.2.2.2.2.2.1,m1_1.2.2.2.2.2.2.2.2.2.2.2.2.1,m1_1.2.2.2.2.2.2.2.2.2.2.2.2.2.1,m1_1.2.2.2.2.2.2.2.2.2.2.2.2.2.2.1,m1_1.2.2.2.2.2.2.2.2.2.2.2.2.2.2.2.1,m1_1.2.2.2.2.2.2.2.2.2.2.2.2.2.2.2.2.1,m1_1.2.2.2.2.2.2.2.2.2.2.2.2.2.2.2.2.2.1,m1_1.2.2.2.2.2.2.2.2.2.2.2.2.2.2.2.2.2.2.1,m1_1.2.2.2.2.2.2.2.2.2.2.2.2.2.2.2.2.2.2.2.1,m1_1.2.2.2.2.2.2.2.2.2.2.2.2.2.2.2.2.2.2.2.2.1,m1_1.2.2.2.2.2.2.2.2.2.2.2.2.2.2.2.2.2.2.2.2.2.1,m1_1.2.2.2.2.2.2.2.2.2.2.2.2.2.2.2.2.2.2.2.2.2.2.1,m1_1.2.2.2.2.2.2.2.2.2.2.2.2.2.2.2.2.2.2.2.2.2.2.2.1,m1_1.2.2.2.2.2.2.2.2.2.2.2.2.2.2.2.2.2.2.2.2.2.2.2.2.1,m1_1.2.2.2.2.2.2.2.2.2.2.2.2.2.2.2.2.2.2.2.2.2.2.2.2.2.1,m1_1.2.2.2.2.2.2.2.2.2.2.2.2.2.2.2.2.2.2.2.2.2.2.2.2.2.2.1,((0:Int),(0:Int),(0:Int),([]:List D99),()),())
 let m1_6:=(bif (m1_1.2.1==6) then s_22 else (bif (m1_1.2.1==7) then s_25 else (bif (m1_1.2.1==8) then s_27 else (bif (bif v54 then v54 else (m1_1.2.1==10)) then s_28 else (bif (m1_1.2.1==11) then s_30 else m1_1)))))
 (((tM5 p0.2.1)∧(tM7 m1.2.1)),(bif (m1_1.2.1==2) then s_4 else (bif (m1_1.2.1==3) then s_6 else (bif (m1_1.2.1==4) then s_10 else (bif (m1_1.2.1==5) then s_17 else m1_6)))))
def sG1 p0:=(pH1 p0).1
def f109 p0:=(pH1 p0).2
instance (p0):Decidable (sG1 p0):=by unfold sG1 pH1;dsimp only;infer_instance
theorem pH2:SK 109 (sp1 (.val T52) (.val T52) sG1 f109):=fb Tryz.func109 62 [kb rU9,kb rV2]
def f86t (p0:D52)(p1:Int)(p2:Int):Prop×Int:=
 let v15:=(f101 p0 p1 p2)
 let v17:=(v15 !=0)
 let v21:=(f102 p0.2.1)
 let v24:=(f103 p0.2.2.2.2.2.2.2.2.2.2.1)
 let v26:=(v24 !=0)
 let v31:=(f104 p0.2.2.2.2.2.2.2.2.2.2.1)
 let v35:=(v31.2.1 !=0)
 let v39:=(f105 p0.2.1)
 let v45:=(bif v39 then (!(f106 p0.2.2.2.2.2.2.2.2.2.2.2.1)) else false)
 let v47:=(f107 p0)
 let v49:=(v47 !=0)
 let v52:=(f109 p0)
 let m6_5:=(bif v17 then v15 else (bif ((v26||((!v26)&&v35))&&v21) then (bif v26 then v24 else v31.2.1) else (bif v45 then (8:Int) else (bif v49 then v47 else (bif (!(f108 v52)) then (1:Int) else (0:Int))))))
 (((tY5 p0 p1 p2)∧((!v17)=true→((tM5 p0.2.1)∧((v21=true→((uD0 p0.2.2.2.2.2.2.2.2.2.2.1)∧((!v26)=true→(tY6 p0.2.2.2.2.2.2.2.2.2.2.1))))∧((bif v21 then ((!v26)&&(!v35)) else true)=true→((tM7 p0.2.1)∧((v39=true→(tY7 p0.2.2.2.2.2.2.2.2.2.2.2.1))∧((!v45)=true→((sG p0)∧((!v49)=true→((sG1 p0)∧(sG0 v52)))))))))))),m6_5)
def sX4 p0 p1 p2:=(f86t p0 p1 p2).1
def f86 p0 p1 p2:=(f86t p0 p1 p2).2
instance (p0 p1 p2):Decidable (sX4 p0 p1 p2):=by unfold sX4 f86t;dsimp only;infer_instance
theorem pN:SK 86 (sp3 (.val T52) vI vI vI sX4 f86):=fb Tryz.func86 55 [kb qX,kb rU9,kb sQ3,kb qX9,kb rV2,kb qY1,kb pG9,kb pH0,kb pH2]
abbrev vJ7:Type:=((List (Int×Int×Unit))×Int×D28×Unit)
abbrev vC8:Type:=(Int×Unit)
def vP1 (y:vJ7)(x:vC8):Prop×Bool×vC8×Bool×Bool:=
 let a2:=y.2.1
 let a3:=y.2.2.1
 let a7:=x.1
 let v16:=(a7 !=0)
 let v24:=(a7==(nth a3.2.2.2.1 a2 Z52).2.2.1)
 let v29:=(Option.getD (yR8 (.int .i64) (.int .i64) a7 y.1) (0:Int))
 ((v16=true→(InB a2 (len a3.2.2.2.1)∧((!v24)=true→InB v29 (len a3.2.2.2.1)))),(v16&&(!v24)),((nth a3.2.2.2.1 v29 Z52).2.2.1,()),(v16&&v24),(!v16))
def vR3 y x:=(vP1 y x).1
def vZ7 y x:=(vP1 y x).2.1
def vJ3 y x:=(vP1 y x).2.2.1
def uS0 y x:=(vP1 y x).2.2.2.1
def sX5 y x:=(vP1 y x).2.2.2.2
instance (y x):Decidable (vR3 y x):=by unfold vR3 vP1;dsimp only;infer_instance
def tB0 (y:vJ7)(x:vC8):Bool:=
 true
def tS6:List (Nat×Sh):=[(1,(.own (xS (.int .i64) (.int .i64)) 400100 true)),(6,vB)]
def tS7:List (Nat×Sh):=[(1,(.own (xS (.int .i64) (.int .i64)) 400100 true))]
def sX6:=li [(1,(.own (xS (.int .i64) (.int .i64)) 400100 true)),(2,vI),(3,(.box T28 (.val T28)))] [(7,vI)] vZ7 vJ3 vR3 (fun y x=>[ex 1 (some (uS0 y x)) tS6 (y.1,(tB0 y x),()),ex 2 (some (sX5 y x)) tS7 (y.1,())]) [tS6,tS7]
def sG2 (p0:D28)(p1:(List (Int×Int×Unit)))(p2:Int):Prop×Bool×((List (Int×Int×Unit))×Unit):=
 let v11:=(p2-1)
 let y2:=(p1,p2,p0,())
 let x2:=((nth p0.2.2.2.1 v11 Z52).1,())
 let e2:=(zC4 (vZ7 y2) (vJ3 y2) x2)
 let q2_1:=(uS0 y2 e2)
 ((InR (p2-1)∧(InB v11 (len p0.2.2.2.1)∧(xQ5 (vZ7 y2) (vJ3 y2) (vR3 y2) x2))),(bif q2_1 then (tB0 y2 e2) else false),((bif q2_1 then p1 else p1),()))
def uS1 p0 p1 p2:=(sG2 p0 p1 p2).1
def rX1 p0 p1 p2:=(sG2 p0 p1 p2).2.1
def uK8 p0 p1 p2:=(sG2 p0 p1 p2).2.2
instance (p0 p1 p2):Decidable (uS1 p0 p1 p2):=by unfold uS1 sG2;dsimp only;infer_instance
theorem rX2:SK 87 (fnSpec [(0,(.val T28)),(1,(.own (xS (.int .i64) (.int .i64)) 400100 true)),(2,vI)] vB [(1,(.own (xS (.int .i64) (.int .i64)) 400100 true))] (fun x=>uS1 x.1 x.2.1 x.2.2.1) (fun x=>rX1 x.1 x.2.1 x.2.2.1) (fun x=>uK8 x.1 x.2.1 x.2.2.1)):=fx (fun c=>{ c with maps:=maps }) Tryz.func87 33 [] [(2,sX6)] [] false [1]
abbrev uK9:Type:=(D28×(List D52)×Int×Unit)
abbrev vQ2:Type:=((List (Int×Int×Unit))×(List Int)×Int×Unit)
def tD0 (y:uK9)(x:vQ2):Prop×Bool×vQ2×Bool×Bool:=
 let a1:=y.1
 let a18:=y.2.1
 let a3:=x.1
 let a4:=x.2.1
 let a20:=x.2.2.1
 let v21:=(decide (a20<y.2.2.1))
 let v23:=(nth a18 a20 Z52)
 let v32:=((f86 v23 a1.1 a1.2.1)!=0)
 let v43:=(bif (decide (v23.1<1)) then true else (decide (v23.1≥a1.2.2.2.2.1)))
 let v50:=(Option.isSome (yR8 (.int .i64) (.int .i64) v23.1 a3))
 let l1004:=(List.set a4 (Int.toNat a20) (1:Int))
 let v57:=(v23.2.2.1 !=0)
 let v63:=(Option.getD (yR8 (.int .i64) (.int .i64) v23.2.2.1 a3) (0:Int))
 let v66:=(!(Option.isSome (yR8 (.int .i64) (.int .i64) v23.2.2.1 a3)))
 let v75:=(bif v66 then true else ((nth a1.2.2.2.1 v63 Z52).2.1 !=1))
 let v80:=(!(rX1 a1 a3 a20))
 let v86:=(nth l1004 v63 (0:Int))
 let c_3:=(bif v57 then ((!v75)&&(!v80)) else true)
 let m4:=(bif v57 then (List.set l1004 (Int.toNat a20) (v86+1)) else l1004)
 let v93:=(decide ((nth m4 a20 (0:Int))>8))
 let c_14:=((!v32)&&((!v43)&&((!v50)&&(c_3&&(!v93)))))
 ((v21=true→(InB a20 (len a18)∧((sX4 v23 a1.1 a1.2.1)∧(((!v32)=true→((!v43)=true→((!v50)=true→(InB a20 (len a4)∧(a20<len a4∧((v57=true→(((!v66)=true→InB v63 (len a1.2.2.2.1))∧((!v75)=true→((uS1 a1 a3 a20)∧(0<List.length a3∧(List.length a3=List.length a3∧(List.length a3=List.length a3∧(List.length a3=List.length a3∧(List.length a3=List.length a3∧((!v80)=true→(InB v63 (len l1004)∧(v63<len l1004∧(InR (v86+1)∧(InB a20 (len l1004)∧a20<len l1004))))))))))))))∧(c_3=true→(InB a20 (len m4)∧a20<len m4))))))))∧(c_14=true→InR (a20+1)))))),(v21&&c_14),((wD8 (.int .i64) (.int .i64) v23.1 a20 (bif v57 then (uK8 a1 a3 a20).1 else a3)),m4,(a20+1),()),(v21&&(v32||((!v32)&&(v43||((!v43)&&(v50||((!v50)&&(((v75||((!v75)&&v80))&&v57)||(c_3&&v93))))))))),(!v21))
def uG8 y x:=(tD0 y x).1
def uZ y x:=(tD0 y x).2.1
def vP2 y x:=(tD0 y x).2.2.1
def sX7 y x:=(tD0 y x).2.2.2.1
def rX3 y x:=(tD0 y x).2.2.2.2
instance (y x):Decidable (uG8 y x):=by unfold uG8 tD0;dsimp only;infer_instance
def sG3 (y:uK9)(x:vQ2):Int:=
 let a1:=y.1
 let a3:=x.1
 let a20:=x.2.2.1
 let v23:=(nth y.2.1 a20 Z52)
 let v30:=(f86 v23 a1.1 a1.2.1)
 let v75:=(bif (!(Option.isSome (yR8 (.int .i64) (.int .i64) v23.2.2.1 a3))) then true else ((nth a1.2.2.2.1 (Option.getD (yR8 (.int .i64) (.int .i64) v23.2.2.1 a3) (0:Int)) Z52).2.1 !=1))
 let m2_2:=(bif (Option.isSome (yR8 (.int .i64) (.int .i64) v23.1 a3)) then (10:Int) else (bif ((v75||((!v75)&&(!(rX1 a1 a3 a20))))&&(v23.2.2.1 !=0)) then (bif v75 then (9:Int) else (24:Int)) else (12:Int)))
 (bif (v30 !=0) then v30 else (bif (bif (decide (v23.1<1)) then true else (decide (v23.1≥a1.2.2.2.2.1))) then (2:Int) else m2_2))
def rX4:=li [(1,(.box T28 (.val T28))),(18,(.val (.sl T52))),(19,vI)] [(3,(.own (xS (.int .i64) (.int .i64)) 1003 true)),(4,(.own (.int .i64) 1004 true)),(20,vI)] uZ vP2 uG8 (fun y x=>[ex 1 (some (sX7 y x)) [(2,vI)] ((sG3 y x),()),ex 2 (some (rX3 y x)) [] ()]) [[(2,vI)],[]]
def f61t (p0:D28):Prop×Int:=
 let v15:=(len p0.2.2.2.1)
 let y4:=(p0,p0.2.2.2.1,(len p0.2.2.2.1),())
 let x4:=(([]:List (Int×Int×Unit)),(List.replicate (Int.toNat v15) (0:Int)),(0:Int),())
 let e4:=(zC4 (uZ y4) (vP2 y4) x4)
 (((0≤v15∧v15≤v15∧v15≤4294967296)∧(xQ5 (uZ y4) (vP2 y4) (uG8 y4) x4)),(bif (sX7 y4 e4) then (sG3 y4 e4) else (0:Int)))
def sX8 p0:=(f61t p0).1
def f61 p0:=(f61t p0).2
instance (p0):Decidable (sX8 p0):=by unfold sX8 f61t;dsimp only;infer_instance
theorem pN0:SK 61 (sp1 (.val T28) vI sX8 f61):=fx (fun c=>{ c with wants:=[(87,[1])],maps:=maps }) Tryz.func61 99 [kb pN,kb rX2] [(4,rX4)] [(3,[(4,0,12,1003)]),(5,[(4,0,16,1004)])] false [] [16]
abbrev uZ0:Type:=(D28×D52×(List D52)×Int×Int×Unit)
abbrev uL:Type:=(Int×Unit)
def sG4 (y:uZ0)(x:uL):Prop×Bool×uL:=
 let a1:=y.1
 let a5:=x.1
 let v20:=(decide (a5≥0))
 let v30:=((nth a1.2.2.2.1 a5 Z52).2.2.1 !=y.2.1.2.2.1)
 let v39:=(bif v20 then (bif v30 then true else (nth a1.2.2.2.1 a5 Z52).2.2.2.2.2.2.1) else false)
 (((v20=true→InB a5 (len a1.2.2.2.1))∧(((v20&&(!v30))=true→InB a5 (len a1.2.2.2.1))∧(v39=true→InR (a5-1)))),v39,((a5-1),()))
def uG9 y x:=(sG4 y x).1
def vT7 y x:=(sG4 y x).2.1
def vF1 y x:=(sG4 y x).2.2
instance (y x):Decidable (uG9 y x):=by unfold uG9 sG4;dsimp only;infer_instance
def tD1 (y:uZ0)(x:uL):Int:=
 x.1
def sX9:List (Nat×Sh):=[(1,(.box T28 (.val T28))),(5,vI),(7,(.val (.sl T52))),(8,vI),(9,vI)]
def rX5:=li [(1,(.box T28 (.val T28))),(4,(.box T52 (.val T52))),(7,(.val (.sl T52))),(8,vI),(9,vI)] [(5,vI)] vT7 vF1 uG9 (fun y x=>[ex 4 none sX9 (y.1,(tD1 y x),y.2.2.1,y.2.2.2.1,y.2.2.2.2.1,())]) [sX9]
abbrev uL0:Type:=(Unit)
abbrev vT8:Type:=(D28×(List D52)×Int×Int×Unit)
def tD2 (y:uL0)(x:vT8):Prop×Bool×vT8×Bool×Bool:=
 let a1:=x.1
 let a7:=x.2.1
 let a8:=x.2.2.1
 let a9:=x.2.2.2.1
 let v10:=(decide (a9<a8))
 let v12:=(nth a7 a9 Z52)
 let v16:=(!v12.2.2.2.2.2.2.1)
 let y6:=(a1,v12,a7,a8,a9,())
 let x6:=((a9-1),())
 let r6_4_0:=(tD1 y6 (zC4 (vT7 y6) (vF1 y6) x6))
 let v43:=(decide (r6_4_0<0))
 let v47:=(nth a1.2.2.2.1 r6_4_0 Z52)
 let v49:=(f88 v47)
 let c_5:=(v16||((!v16)&&((!v43)&&(!v49))))
 let m9:=(bif v16 then a9 else a9)
 ((v10=true→(InB a9 (len a7)∧(((!v16)=true→(InR (a9-1)∧((xQ5 (vT7 y6) (vF1 y6) (uG9 y6) x6)∧((!v43)=true→(InB r6_4_0 (len a1.2.2.2.1)∧(tY v47))))))∧(c_5=true→InR (m9+1))))),(v10&&c_5),((bif v16 then a1 else a1),(bif v16 then a7 else a7),(bif v16 then a8 else a8),(m9+1),()),(v10&&((!v16)&&(v43||((!v43)&&v49)))),(!v10))
def uS2 y x:=(tD2 y x).1
def tV4 y x:=(tD2 y x).2.1
def vP3 y x:=(tD2 y x).2.2.1
def sY y x:=(tD2 y x).2.2.2.1
def rX6 y x:=(tD2 y x).2.2.2.2
instance (y x):Decidable (uS2 y x):=by unfold uS2 tD2;dsimp only;infer_instance
def sG5 (y:uL0)(x:vT8):Int:=
 let a7:=x.2.1
 let a9:=x.2.2.2.1
 let y6:=(x.1,(nth a7 a9 Z52),a7,x.2.2.1,a9,())
 (bif (decide ((tD1 y6 (zC4 (vT7 y6) (vF1 y6) ((a9-1),())))<0)) then (14:Int) else (8:Int))
def rX7:=li [] [(1,(.box T28 (.val T28))),(7,(.val (.sl T52))),(8,vI),(9,vI)] tV4 vP3 uS2 (fun y x=>[ex 1 (some (sY y x)) [(2,vI)] ((sG5 y x),()),ex 2 (some (rX6 y x)) [] ()]) [[(2,vI)],[]]
def f62t (p0:D28):Prop×Int:=
 let x2:=(p0,p0.2.2.2.1,(len p0.2.2.2.1),(0:Int),())
 let e2:=(zC4 (tV4 ()) (vP3 ()) x2)
 ((xQ5 (tV4 ()) (vP3 ()) (uS2 ()) x2),(bif (sY () e2) then (sG5 () e2) else (0:Int)))
def sY0 p0:=(f62t p0).1
def f62 p0:=(f62t p0).2
instance (p0):Decidable (sY0 p0):=by unfold sY0 f62t;dsimp only;infer_instance
theorem pN1:SK 62 (sp1 (.val T28) vI sY0 f62):=fb Tryz.func62 51 [kb rU8] [(2,rX7),(6,rX5)]
abbrev uL1:Type:=((List UInt8)×Int×Unit)
abbrev vT9:Type:=(Int×Unit)
def tO5 (y:uL1)(x:vT9):Prop×Bool×vT9×Bool×Bool:=
 let a0:=y.1
 let a14:=x.1
 let v15:=(decide (a14<y.2.1))
 let v20:=(decide ((wT5 a0 a14)<33))
 let v26:=(bif v20 then true else (decide ((wT5 a0 a14)>126)))
 ((v15=true→(InB a14 (len a0)∧(((!v20)=true→InB a14 (len a0))∧((!v26)=true→InR (a14+1))))),(v15&&(!v26)),((a14+1),()),(v15&&v26),(!v15))
def tI8 y x:=(tO5 y x).1
def sR1 y x:=(tO5 y x).2.1
def tD3 y x:=(tO5 y x).2.2.1
def sY1 y x:=(tO5 y x).2.2.2.1
def rX8 y x:=(tO5 y x).2.2.2.2
instance (y x):Decidable (tI8 y x):=by unfold tI8 tO5;dsimp only;infer_instance
def sG6 (y:uL1)(x:vT9):Bool:=
 false
def rX9:=li [(0,vS),(13,vI)] [(14,vI)] sR1 tD3 tI8 (fun y x=>[ex 1 (some (sY1 y x)) [(2,vB)] ((sG6 y x),()),ex 2 (some (rX8 y x)) [] ()]) [[(2,vB)],[]]
def f89t (p0:List UInt8):Prop×Bool:=
 let v11:=(bif (decide ((len p0)<1)) then true else (decide ((len p0)>32)))
 let y4:=(p0,(len p0),())
 let x4:=((0:Int),())
 let e4:=(zC4 (sR1 y4) (tD3 y4) x4)
 (((!v11)=true→(xQ5 (sR1 y4) (tD3 y4) (tI8 y4) x4)),(bif v11 then false else (bif (sY1 y4 e4) then (sG6 y4 e4) else true)))
def sY2 p0:=(f89t p0).1
def f89 p0:=(f89t p0).2
instance (p0):Decidable (sY2 p0):=by unfold sY2 f89t;dsimp only;infer_instance
theorem pN2:SK 89 (sp1 vS vB sY2 f89):=fb Tryz.func89 28 [] [(4,rX9)]
abbrev uL2:Type:=(D28×D82×(List D82)×Int×Int×(List D82)×Int×Unit)
abbrev vU:Type:=(Int×Unit)
def tO6 (y:uL2)(x:vU):Prop×Bool×vU×Bool×Bool:=
 let a4:=y.2.1
 let a53:=y.2.2.2.2.2.1
 let a55:=x.1
 let v56:=(decide (a55<y.2.2.2.2.2.2.1))
 let v57:=(nth a53 a55 Z82)
 let v70:=(bif (v57.1==a4.1) then true else (v57.2.1==a4.2.1))
 ((v56=true→(InB a55 (len a53)∧((!v70)=true→InR (a55+1)))),(v56&&(!v70)),((a55+1),()),(v56&&v70),(!v56))
def tI9 y x:=(tO6 y x).1
def tV5 y x:=(tO6 y x).2.1
def uL3 y x:=(tO6 y x).2.2.1
def sG7 y x:=(tO6 y x).2.2.2.1
def sY3 y x:=(tO6 y x).2.2.2.2
instance (y x):Decidable (tI9 y x):=by unfold tI9 tO6;dsimp only;infer_instance
def sG8 (y:uL2)(x:vU):Int:=
 (10:Int)
def sY4:List (Nat×Sh):=[(1,(.box T28 (.val T28))),(4,(.box T82 (.val T82))),(9,(.val (.sl T82))),(10,vI),(11,vI)]
def rY:=li [(1,(.box T28 (.val T28))),(4,(.box T82 (.val T82))),(9,(.val (.sl T82))),(10,vI),(11,vI),(53,(.val (.sl T82))),(54,vI)] [(55,vI)] tV5 uL3 tI9 (fun y x=>[ex 1 (some (sG7 y x)) [(2,vI)] ((sG8 y x),()),ex 4 (some (sY3 y x)) sY4 (y.1,y.2.1,y.2.2.1,y.2.2.2.1,y.2.2.2.2.1,())]) [[(2,vI)],sY4]
abbrev uL4:Type:=(D28×(List D82)×Int×Unit)
abbrev vU0:Type:=(Int×Unit)
def tO7 (y:uL4)(x:vU0):Prop×Bool×vU0×Bool×Bool:=
 let a1:=y.1
 let a9:=y.2.1
 let a10:=y.2.2.1
 let a11:=x.1
 let v12:=(decide (a11<a10))
 let v14:=(nth a9 a11 Z82)
 let v19:=(!(f89 v14.2.1))
 let v44:=(bif (bif (bif (bif (decide (v14.1<1)) then true else (decide (v14.1≥a1.2.2.2.2.1))) then true else (decide (v14.2.2.1<0))) then true else (decide (v14.2.2.1>2))) then true else (decide (v14.2.2.2.1<1)))
 let v49:=(bif v44 then true else (decide (v14.2.2.2.1>1073741824)))
 let v53:=(List.take (Int.toNat a11) a1.2.2.2.2.2.2.2.1)
 let y9:=(a1,v14,a9,a10,a11,v53,(len v53),())
 let x9:=((0:Int),())
 let e9:=(zC4 (tV5 y9) (uL3 y9) x9)
 let q9_4:=(sY3 y9 e9)
 let v76:=((f57 v14.2.2.2.2.1)!=0)
 let c_8:=((!v19)&&((!v49)&&(q9_4&&(!v76))))
 ((v12=true→(InB a11 (len a9)∧((sY2 v14.2.1)∧(((!v19)=true→((!v49)=true→((0≤a11∧a11≤len a1.2.2.2.2.2.2.2.1)∧((xQ5 (tV5 y9) (uL3 y9) (tI9 y9) x9)∧(q9_4=true→(tQ2 v14.2.2.2.2.1))))))∧(c_8=true→InR (a11+1)))))),(v12&&c_8),((a11+1),()),(v12&&(v19||((!v19)&&(v49||((!v49)&&((sG7 y9 e9)||(q9_4&&v76))))))),(!v12))
def tJ y x:=(tO7 y x).1
def sR2 y x:=(tO7 y x).2.1
def tD4 y x:=(tO7 y x).2.2.1
def sY5 y x:=(tO7 y x).2.2.2.1
def rY0 y x:=(tO7 y x).2.2.2.2
instance (y x):Decidable (tJ y x):=by unfold tJ tO7;dsimp only;infer_instance
def sG9 (y:uL4)(x:vU0):Int:=
 let a1:=y.1
 let a9:=y.2.1
 let a11:=x.1
 let v14:=(nth a9 a11 Z82)
 let v44:=(bif (bif (bif (bif (decide (v14.1<1)) then true else (decide (v14.1≥a1.2.2.2.2.1))) then true else (decide (v14.2.2.1<0))) then true else (decide (v14.2.2.1>2))) then true else (decide (v14.2.2.2.1<1)))
 let v53:=(List.take (Int.toNat a11) a1.2.2.2.2.2.2.2.1)
 let y9:=(a1,v14,a9,y.2.2.1,a11,v53,(len v53),())
 let e9:=(zC4 (tV5 y9) (uL3 y9) ((0:Int),()))
 let m2_2:=(bif (!(f89 v14.2.1)) then (13:Int) else (bif (bif v44 then true else (decide (v14.2.2.2.1>1073741824))) then (2:Int) else (bif (sG7 y9 e9) then (sG8 y9 e9) else (f57 v14.2.2.2.2.1))))
 m2_2
def rY1:=li [(1,(.box T28 (.val T28))),(9,(.val (.sl T82))),(10,vI)] [(11,vI)] sR2 tD4 tJ (fun y x=>[ex 1 (some (sY5 y x)) [(2,vI)] ((sG9 y x),()),ex 2 (some (rY0 y x)) [] ()]) [[(2,vI)],[]]
def f63t (p0:D28):Prop×Int:=
 let y2:=(p0,p0.2.2.2.2.2.2.2.1,(len p0.2.2.2.2.2.2.2.1),())
 let x2:=((0:Int),())
 let e2:=(zC4 (sR2 y2) (tD4 y2) x2)
 ((xQ5 (sR2 y2) (tD4 y2) (tJ y2) x2),(bif (sY5 y2 e2) then (sG9 y2 e2) else (0:Int)))
def sY6 p0:=(f63t p0).1
def f63 p0:=(f63t p0).2
instance (p0):Decidable (sY6 p0):=by unfold sY6 f63t;dsimp only;infer_instance
theorem pN3:SK 63 (sp1 (.val T28) vI sY6 f63):=fb Tryz.func63 79 [kb rV5,kb pN2] [(2,rY1),(9,rY)]
def sR3 (p0:D52)(p1:Int):Prop×Bool:=
 (True,(p0.1==p1))
def uZ1 p0 p1:=(sR3 p0 p1).1
def rY2 p0 p1:=(sR3 p0 p1).2
instance (p0 p1):Decidable (uZ1 p0 p1):=by unfold uZ1 sR3;dsimp only;infer_instance
theorem rR:SK 112 (sp2 (.val T52) (.val (.ptr (.int .i64))) vB uZ1 rY2):=fb Tryz.func112 8
abbrev vF2:Type:=((List D52)×(Int×Unit)×Int×Unit)
abbrev vA2:Type:=(Int×Unit)
def vP4 (y:vF2)(x:vA2):Prop×Bool×vA2×Bool×Bool:=
 let a0:=y.1
 let a1:=y.2.1
 let a8:=x.1
 let v9:=(decide (a8<y.2.2.1))
 let v14:=(nth a0 a8 Z52)
 let v16:=(rY2 v14 a1.1)
 ((v9=true→(InB a8 (len a0)∧((uZ1 v14 a1.1)∧((!v16)=true→InR (a8+1))))),(v9&&(!v16)),((a8+1),()),(v9&&v16),(!v9))
def vI6 y x:=(vP4 y x).1
def wY6 y x:=(vP4 y x).2.1
def wW4 y x:=(vP4 y x).2.2.1
def vM7 y x:=(vP4 y x).2.2.2.1
def sR4 y x:=(vP4 y x).2.2.2.2
instance (y x):Decidable (vI6 y x):=by unfold vI6 vP4;dsimp only;infer_instance
def vM8 (y:vF2)(x:vA2):Int:=
 x.1
def sR5:=li [(0,(.val (.sl T52))),(1,(.fn 112 (.cons (.val (.ptr (.int .i64))) .nl))),(7,vI)] [(8,vI)] wY6 wW4 vI6 (fun y x=>[ex 1 (some (vM7 y x)) [(4,vI)] ((vM8 y x),()),ex 2 (some (sR4 y x)) [] ()]) [[(4,vI)],[]]
def sR6 (p0:List D52)(p1:(Int×Unit)):Prop×Int:=
 let y2:=(p0,(p1.1,()),(len p0),())
 let x2:=((0:Int),())
 let e2:=(zC4 (wY6 y2) (wW4 y2) x2)
 ((xQ5 (wY6 y2) (wW4 y2) (vI6 y2) x2),(bif (vM7 y2 e2) then (vM8 y2 e2) else (-1:Int)))
def uZ2 p0 p1:=(sR6 p0 p1).1
def rY3 p0 p1:=(sR6 p0 p1).2
instance (p0 p1):Decidable (uZ2 p0 p1):=by unfold uZ2 sR6;dsimp only;infer_instance
theorem rR0:SK 111 (sp2 (.val (.sl T52)) (.fn 112 (.cons (.val (.ptr (.int .i64))) .nl)) vI uZ2 rY3):=fb Tryz.func111 19 [kb rR] [(2,sR5)]
def f92t (p0:D28)(p1:Int):Prop×Int:=
 let s:=(p1,())
 ((uZ2 p0.2.2.2.1 s),(rY3 p0.2.2.2.1 s))
def sN7 p0 p1:=(f92t p0 p1).1
def f92 p0 p1:=(f92t p0 p1).2
instance (p0 p1):Decidable (sN7 p0 p1):=by unfold sN7 f92t;dsimp only;infer_instance
theorem qR0:SK 92 (sp2 (.val T28) vI vI sN7 f92):=fb Tryz.func92 9 [kb rR0] [] [(2,[(3,3,0,0)])]
def rF8 (p0:D82)(p1:D52):Prop×Bool:=
 (True,(p0.1==p1.2.2.2.2.2.2.2.2.2.2.2.2.2.2.2.2.2.2.2.2.2.2.2.2.2.2.1))
def tJ0 p0 p1:=(rF8 p0 p1).1
def qR1 p0 p1:=(rF8 p0 p1).2
instance (p0 p1):Decidable (tJ0 p0 p1):=by unfold tJ0 rF8;dsimp only;infer_instance
theorem rY4:SK 91 (sp2 (.val T82) (.val (.ptr T52)) vB tJ0 qR1):=fb Tryz.func91 9
abbrev vF3:Type:=((List D82)×(D52×Unit)×Int×Unit)
abbrev vA3:Type:=(Int×Unit)
def vP5 (y:vF3)(x:vA3):Prop×Bool×vA3×Bool×Bool:=
 let a0:=y.1
 let a1:=y.2.1
 let a8:=x.1
 let v9:=(decide (a8<y.2.2.1))
 let v14:=(nth a0 a8 Z82)
 let v16:=(qR1 v14 a1.1)
 ((v9=true→(InB a8 (len a0)∧((tJ0 v14 a1.1)∧((!v16)=true→InR (a8+1))))),(v9&&(!v16)),((a8+1),()),(v9&&v16),(!v9))
def vU1 y x:=(vP5 y x).1
def uS3 y x:=(vP5 y x).2.1
def vZ8 y x:=(vP5 y x).2.2.1
def tJ1 y x:=(vP5 y x).2.2.2.1
def sR7 y x:=(vP5 y x).2.2.2.2
instance (y x):Decidable (vU1 y x):=by unfold vU1 vP5;dsimp only;infer_instance
def uS4 (y:vF3)(x:vA3):Int:=
 x.1
def sR8:=li [(0,(.val (.sl T82))),(1,(.fn 91 (.cons (.val (.ptr T52)) .nl))),(7,vI)] [(8,vI)] uS3 vZ8 vU1 (fun y x=>[ex 1 (some (tJ1 y x)) [(4,vI)] ((uS4 y x),()),ex 2 (some (sR7 y x)) [] ()]) [[(4,vI)],[]]
def sR9 (p0:List D82)(p1:(D52×Unit)):Prop×Int:=
 let y2:=(p0,(p1.1,()),(len p0),())
 let x2:=((0:Int),())
 let e2:=(zC4 (uS3 y2) (vZ8 y2) x2)
 ((xQ5 (uS3 y2) (vZ8 y2) (vU1 y2) x2),(bif (tJ1 y2 e2) then (uS4 y2 e2) else (-1:Int)))
def uH p0 p1:=(sR9 p0 p1).1
def rY5 p0 p1:=(sR9 p0 p1).2
instance (p0 p1):Decidable (uH p0 p1):=by unfold uH sR9;dsimp only;infer_instance
theorem rR1:SK 110 (sp2 (.val (.sl T82)) (.fn 91 (.cons (.val (.ptr T52)) .nl)) vI uH rY5):=fb Tryz.func110 19 [kb rY4] [(2,sR8)]
def rF9 (p0:List D82)(p1:(D52×Unit)):Prop×Bool:=
 let s:=(p1.1,())
 ((uH p0 s),(decide ((rY5 p0 s)≥0)))
def uS5 p0 p1:=(rF9 p0 p1).1
def qR2 p0 p1:=(rF9 p0 p1).2
instance (p0 p1):Decidable (uS5 p0 p1):=by unfold uS5 rF9;dsimp only;infer_instance
theorem rY6:SK 90 (sp2 (.val (.sl T82)) (.fn 91 (.cons (.val (.ptr T52)) .nl)) vB uS5 qR2):=fb Tryz.func90 9 [kb rR1]
abbrev uL5:Type:=(D28×(List D52)×Int×Unit)
abbrev vU2:Type:=(Int×Unit)
def tO8 (y:uL5)(x:vU2):Prop×Bool×vU2×Bool×Bool:=
 let a1:=y.1
 let a7:=y.2.1
 let a9:=x.1
 let v10:=(decide (a9<y.2.2.1))
 let v11:=(nth a7 a9 Z52)
 let v16:=(v11.2.1==9)
 let s:=(v11,())
 let v21:=(!(qR2 a1.2.2.2.2.2.2.2.1 s))
 let v23:=(v11.2.1==10)
 let v27:=(f92 a1 v11.2.2.2.2.2.2.2.2.2.2.2.2.2.2.2.2.2.2.2.2.2.2.2.2.2.2.1)
 let v29:=(decide (v27<0))
 let v33:=(nth a1.2.2.2.1 v27 Z52)
 let v35:=(f88 v33)
 let c_6:=(bif v16 then (!v21) else (bif v23 then ((!v29)&&(!v35)) else true))
 ((v10=true→(InB a9 (len a7)∧((v16=true→(uS5 a1.2.2.2.2.2.2.2.1 s))∧((v16=false→(v23=true→((sN7 a1 v11.2.2.2.2.2.2.2.2.2.2.2.2.2.2.2.2.2.2.2.2.2.2.2.2.2.2.1)∧((!v29)=true→(InB v27 (len a1.2.2.2.1)∧(tY v33))))))∧(c_6=true→InR (a9+1)))))),(v10&&c_6),((a9+1),()),(v10&&(bif v16 then v21 else ((v29||((!v29)&&v35))&&v23))),(!v10))
def tJ2 y x:=(tO8 y x).1
def sS y x:=(tO8 y x).2.1
def tD5 y x:=(tO8 y x).2.2.1
def sY7 y x:=(tO8 y x).2.2.2.1
def rY7 y x:=(tO8 y x).2.2.2.2
instance (y x):Decidable (tJ2 y x):=by unfold tJ2 tO8;dsimp only;infer_instance
def sH (y:uL5)(x:vU2):Int:=
 let v11:=(nth y.2.1 x.1 Z52)
 (bif (v11.2.1==9) then (9:Int) else (bif (decide ((f92 y.1 v11.2.2.2.2.2.2.2.2.2.2.2.2.2.2.2.2.2.2.2.2.2.2.2.2.2.2.1)<0)) then (9:Int) else (8:Int)))
def rY8:=li [(1,(.box T28 (.val T28))),(7,(.val (.sl T52))),(8,vI)] [(9,vI)] sS tD5 tJ2 (fun y x=>[ex 1 (some (sY7 y x)) [(2,vI)] ((sH y x),()),ex 2 (some (rY7 y x)) [] ()]) [[(2,vI)],[]]
def f64t (p0:D28):Prop×Int:=
 let y2:=(p0,p0.2.2.2.1,(len p0.2.2.2.1),())
 let x2:=((0:Int),())
 let e2:=(zC4 (sS y2) (tD5 y2) x2)
 ((xQ5 (sS y2) (tD5 y2) (tJ2 y2) x2),(bif (sY7 y2 e2) then (sH y2 e2) else (0:Int)))
def sY8 p0:=(f64t p0).1
def f64 p0:=(f64t p0).2
instance (p0):Decidable (sY8 p0):=by unfold sY8 f64t;dsimp only;infer_instance
theorem pN4:SK 64 (sp1 (.val T28) vI sY8 f64):=fb Tryz.func64 37 [kb rU8,kb rY6,kb qR0] [(2,rY8)] [(12,[(3,4,0,0)])]
abbrev tJ3:Type:=(Int×D28×(List D52)×Int×Unit)
abbrev uC4:Type:=((List Int)×Int×Unit)
def sS0 (y:tJ3)(x:uC4):Prop×Bool×uC4:=
 let a1:=y.1
 let a2:=y.2.1
 let a18:=y.2.2.1
 let a5:=x.1
 let a20:=x.2.1
 let v21:=(decide (a20<y.2.2.2.1))
 let v33:=((nth a18 a20 Z52).2.2.1==(nth a2.2.2.2.1 a1 Z52).1)
 let v36:=([a20]:List Int)
 ((v21=true→(InB a20 (len a18)∧(InB a1 (len a2.2.2.2.1)∧((v33=true→((List.length a5+List.length v36:Nat):Int)≤4294967296)∧InR (a20+1))))),v21,((bif v33 then (a5++v36) else a5),(a20+1),()))
def uH0 y x:=(sS0 y x).1
def uZ3 y x:=(sS0 y x).2.1
def vP6 y x:=(sS0 y x).2.2
instance (y x):Decidable (uH0 y x):=by unfold uH0 sS0;dsimp only;infer_instance
def tD6 (y:tJ3)(x:uC4):(List Int):=
 x.1
def sY9:List (Nat×Sh):=[(5,(.own (.int .i64) 1005 false))]
def rY9:=li [(1,vI),(2,(.box T28 (.val T28))),(18,(.val (.sl T52))),(19,vI)] [(5,(.own (.int .i64) 1005 false)),(20,vI)] uZ3 vP6 uH0 (fun y x=>[ex 3 none sY9 ((tD6 y x),())]) [sY9]
def f94t (p0:D28)(p1:Int):Prop×(List Int):=
 let v12:=(nth p0.2.2.2.1 p1 Z52)
 let v16:=(v12.2.1==1)
 let y5:=(p1,p0,p0.2.2.2.1,(len p0.2.2.2.1),())
 let x5:=(([]:List Int),(0:Int),())
 let v40:=(v12.2.1==10)
 let v45:=(nth p0.2.2.2.1 p1 Z52)
 let v48:=(f92 p0 v45.2.2.2.2.2.2.2.2.2.2.2.2.2.2.2.2.2.2.2.2.2.2.2.2.2.2.1)
 let v50:=(decide (v48≥0))
 let v53:=([v48]:List Int)
 ((InB p1 (len p0.2.2.2.1)∧((v16=true→(xQ5 (uZ3 y5) (vP6 y5) (uH0 y5) x5))∧(v16=false→(v40=true→(InB p1 (len p0.2.2.2.1)∧((sN7 p0 v45.2.2.2.2.2.2.2.2.2.2.2.2.2.2.2.2.2.2.2.2.2.2.2.2.2.2.1)∧(v50=true→(List.length v53:Int)≤4294967296))))))),(bif v16 then (tD6 y5 (zC4 (uZ3 y5) (vP6 y5) x5)) else (bif v40 then (bif v50 then v53 else []) else [])))
def sN8 p0 p1:=(f94t p0 p1).1
def f94 p0 p1:=(f94t p0 p1).2
instance (p0 p1):Decidable (sN8 p0 p1):=by unfold sN8 f94t;dsimp only;infer_instance
def qI9:=sp2 (.val T28) vI (.own (.int .i64) 0 false) sN8 f94
theorem pN5:SK 94 (sp2 (.val T28) vI (.own (.int .i64) 0 false) sN8 f94):=fb Tryz.func94 56 [kb qR0] [(5,rY9)] [(17,[(4,0,37,1005)]),(27,[(4,0,54,1005)]),(29,[(4,0,1005,0)])]
abbrev wW9:Type:=Int→(List Bool)→(List Bool)→D28→Unit→Prop×Bool×((List Bool)×(List Bool)×D28×Unit)
def uH1 (r:wW9):Am.Spec:=fnSpec [(0,vI),(1,(.box (.sl .bool) (.own .bool 400100 true))),(2,(.box (.sl .bool) (.own .bool 400200 true))),(3,(.box T28 (.val T28))),(4,(.fptr 93 [some (1,(.sl .bool)),some (2,(.sl .bool)),some (3,T28),none]))] vB [(1,(.box (.sl .bool) (.own .bool 400100 true))),(2,(.box (.sl .bool) (.own .bool 400200 true))),(3,(.box T28 (.val T28)))] (fun x=>(r x.1 x.2.1 x.2.2.1 x.2.2.2.1 x.2.2.2.2.1).1) (fun x=>(r x.1 x.2.1 x.2.2.1 x.2.2.2.1 x.2.2.2.2.1).2.1) (fun x=>(r x.1 x.2.1 x.2.2.1 x.2.2.2.1 x.2.2.2.2.1).2.2)
abbrev wX4:Type:=(Int×Unit×(List Int)×Int×Unit)
abbrev wW0:Type:=((List Bool)×(List Bool)×D28×Int×Unit)
def vW2 (r:wW9)(y:wX4)(x:wW0):Prop×Bool×wW0×Bool×Bool:=
 let a29:=y.2.2.1
 let a1:=x.1
 let a2:=x.2.1
 let a3:=x.2.2.1
 let a31:=x.2.2.2.1
 let v32:=(decide (a31<y.2.2.2.1))
 let v33:=(nth a29 a31 (0:Int))
 let v37:=(r v33 a1 a2 a3 ()).2.1
 let v37o:=(r v33 a1 a2 a3 ()).2.2
 ((v32=true→(InB a31 (len a29)∧((r v33 a1 a2 a3 ()).1∧((!v37)=true→InR (a31+1))))),(v32&&(!v37)),(v37o.1,v37o.2.1,v37o.2.2.1,(a31+1),()),(v32&&v37),(!v32))
def vF4 (r:wW9)(y:wX4)(x:wW0):Prop:=((vW2 r) y x).1
def vA8 (r:wW9)(y:wX4)(x:wW0):Bool:=((vW2 r) y x).2.1
def wX2 (r:wW9)(y:wX4)(x:wW0):wW0:=((vW2 r) y x).2.2.1
def uS6 (r:wW9)(y:wX4)(x:wW0):Bool:=((vW2 r) y x).2.2.2.1
def tS8 (r:wW9)(y:wX4)(x:wW0):Bool:=((vW2 r) y x).2.2.2.2
instance (r:wW9) [∀ q0 q1 q2 q3 q4,Decidable (r q0 q1 q2 q3 q4).1] (y:wX4)(x:wW0):Decidable ((vF4 r) y x):=by
 unfold vF4 vW2
 try dsimp only
 infer_instance
def uD1 (r:wW9)(y:wX4)(x:wW0):(List Bool):=
 ((r (nth y.2.2.1 x.2.2.2.1 (0:Int)) x.1 x.2.1 x.2.2.1 ()).2.2).1
def uD2 (r:wW9)(y:wX4)(x:wW0):(List Bool):=
 ((r (nth y.2.2.1 x.2.2.2.1 (0:Int)) x.1 x.2.1 x.2.2.1 ()).2.2).2.1
def uD3 (r:wW9)(y:wX4)(x:wW0):D28:=
 ((r (nth y.2.2.1 x.2.2.2.1 (0:Int)) x.1 x.2.1 x.2.2.1 ()).2.2).2.2.1
def tB1 (r:wW9)(y:wX4)(x:wW0):Bool:=
 true
def tS9:List (Nat×Sh):=[(1,(.box (.sl .bool) (.own .bool 400100 true))),(2,(.box (.sl .bool) (.own .bool 400200 true))),(3,(.box T28 (.val T28))),(6,vB)]
def uD4 (r:wW9)(y:wX4)(x:wW0):(List Bool):=
 x.1
def uD5 (r:wW9)(y:wX4)(x:wW0):(List Bool):=
 x.2.1
def uD6 (r:wW9)(y:wX4)(x:wW0):D28:=
 x.2.2.1
def tT:List (Nat×Sh):=[(0,vI),(1,(.box (.sl .bool) (.own .bool 400100 true))),(2,(.box (.sl .bool) (.own .bool 400200 true))),(3,(.box T28 (.val T28)))]
def tB2 (r:wW9):St→Option Out:=wB4 [(0,vI),(4,(.fptr 93 [some (1,(.sl .bool)),some (2,(.sl .bool)),some (3,T28),none])),(29,(.own (.int .i64) 29 false)),(30,vI)] [(1,(.box (.sl .bool) (.own .bool 400100 true))),(2,(.box (.sl .bool) (.own .bool 400200 true))),(3,(.box T28 (.val T28))),(31,vI)] (vA8 r) (wX2 r) (vF4 r) fun y x=>[ex 1 (some ((uS6 r) y x)) tS9 (((uD1 r) y x),((uD2 r) y x),((uD3 r) y x),((tB1 r) y x),()),ex 2 (some ((tS8 r) y x)) tT (y.1,((uD4 r) y x),((uD5 r) y x),((uD6 r) y x),())]
def uS7 (r:wW9)(p0:Int)(p1:List Bool)(p2:List Bool)(p3:D28)(p4:Unit):Prop×Bool×((List Bool)×(List Bool)×D28×Unit):=
 let v12:=(nth p1 p0 false)
 let v18:=(bif v12 then true else (nth p2 p0 false))
 let v29:=(f94 p3 p0)
 let y5:=(p0,(),v29,(len v29),())
 let x5:=(p1,(List.set p2 (Int.toNat p0) true),p3,(0:Int),())
 let e5:=(zC4 ((vA8 r) y5) ((wX2 r) y5) x5)
 let q5_1:=((uS6 r) y5 e5)
 let r5_2_0:=((uD4 r) y5 e5)
 ((InB p0 (len p1)∧(p0<len p1∧(((!v12)=true→InB p0 (len p2))∧(((!v12)=true→p0<len p2)∧((v18=true→(InB p0 (len p1)∧p0<len p1))∧((!v18)=true→(InB p0 (len p2)∧(p0<len p2∧((sN8 p3 p0)∧((xQ5 ((vA8 r) y5) ((wX2 r) y5) ((vF4 r) y5) x5)∧(((tS8 r) y5 e5)=true→(InB p0 (len r5_2_0)∧p0<len r5_2_0)))))))))))),(bif v18 then (!(nth p1 p0 false)) else (bif q5_1 then ((tB1 r) y5 e5) else false)),((bif v18 then p1 else (bif q5_1 then ((uD1 r) y5 e5) else (List.set r5_2_0 (Int.toNat p0) true))),(bif v18 then p2 else (bif q5_1 then ((uD2 r) y5 e5) else ((uD5 r) y5 e5))),(bif v18 then p3 else (bif q5_1 then ((uD3 r) y5 e5) else ((uD6 r) y5 e5))),()))
def sN9 (r:wW9):Ctx:={ Cx tys [(93,uH1 r),(94,qI9)] [(5,(tB2 r))] [] false 42 [1,2,3] [] with wants:=[(93,[])],fts:=fts }
theorem sO (r:wW9)(hr:SpecOk Tryz.prog 93 (uH1 r)):CtxOk Tryz.prog (sN9 r):=cq ⟨hr,pN5,trivial⟩
noncomputable def rG:Code:=Tryz.f93.body.getD .skip
noncomputable def sZ:Code:=wS9 rG 0
theorem sZ0 (r:wW9)(hr:SpecOk Tryz.prog 93 (uH1 r)):xH8 Tryz.prog (sN9 r) sZ:=lq (sO r hr) (sp:=(tB2 r)) rfl [tS9,tT]
instance (r:wW9) [∀ q0 q1 q2 q3 q4,Decidable (r q0 q1 q2 q3 q4).1] (p0:Int)(p1:List Bool)(p2:List Bool)(p3:D28)(p4:Unit):Decidable (uS7 r p0 p1 p2 p3 p4).1:=by
 unfold uS7
 try dsimp only
 infer_instance
theorem rG0 (r:wW9)(hr:SpecOk Tryz.prog 93 (uH1 r)):SpecOk Tryz.prog 93 (uH1 (uS7 r)):=wU5 (sO r hr) mixed Tryz.func93 (by kernel_rfl) (bs:=[sZ]) (by kernel_rfl) ⟨sZ0 r hr,trivial⟩ fun x=>by kernel_rfl
def vI7:Nat→wW9
 |0=>fun _ _ _ _ _=>(False,false,(([]:List Bool),([]:List Bool),Z28,()))
 |k+1=>uS7 (vI7 k)
theorem sO0:∀ k,SpecOk Tryz.prog 93 (uH1 (vI7 k))
 |0=>wO3 Tryz.func93 (by kernel_rfl) (by decide)
 |k+1=>rG0 _ (sO0 k)
def tV6 (p0:Int)(p1:List Bool)(p2:List Bool)(p3:D28)(p4:Unit):Nat:=(List.length p1+1)
def tJ4 (p0:Int)(p1:List Bool)(p2:List Bool)(p3:D28)(p4:Unit):Prop:=(vI7 (tV6 p0 p1 p2 p3 p4) p0 p1 p2 p3 p4).1
def qR3 (p0:Int)(p1:List Bool)(p2:List Bool)(p3:D28)(p4:Unit):Bool:=(vI7 (tV6 p0 p1 p2 p3 p4) p0 p1 p2 p3 p4).2.1
def sS1 (p0:Int)(p1:List Bool)(p2:List Bool)(p3:D28)(p4:Unit):((List Bool)×(List Bool)×D28×Unit):=(vI7 (tV6 p0 p1 p2 p3 p4) p0 p1 p2 p3 p4).2.2
def sO1:∀ (k:Nat) (p0:Int) (p1:List Bool) (p2:List Bool) (p3:D28) (p4:Unit),Decidable (vI7 k p0 p1 p2 p3 p4).1
 |0,_,_,_,_,_=>isFalse id
 |k+1,p0,p1,p2,p3,p4=>by
  have:∀ (q0:Int) (q1:List Bool) (q2:List Bool) (q3:D28) (q4:Unit),Decidable (vI7 k q0 q1 q2 q3 q4).1:=sO1 k;exact inferInstanceAs (Decidable (uS7 (vI7 k) p0 p1 p2 p3 p4).1)
instance (p0:Int)(p1:List Bool)(p2:List Bool)(p3:D28)(p4:Unit):Decidable (tJ4 p0 p1 p2 p3 p4):=sO1 _ p0 p1 p2 p3 p4
def rG1:Am.Spec:=fnSpec [(0,vI),(1,(.box (.sl .bool) (.own .bool 400100 true))),(2,(.box (.sl .bool) (.own .bool 400200 true))),(3,(.box T28 (.val T28))),(4,(.fptr 93 [some (1,(.sl .bool)),some (2,(.sl .bool)),some (3,T28),none]))] vB [(1,(.box (.sl .bool) (.own .bool 400100 true))),(2,(.box (.sl .bool) (.own .bool 400200 true))),(3,(.box T28 (.val T28)))] (fun x=>tJ4 x.1 x.2.1 x.2.2.1 x.2.2.2.1 x.2.2.2.2.1) (fun x=>qR3 x.1 x.2.1 x.2.2.1 x.2.2.2.1 x.2.2.2.2.1) (fun x=>sS1 x.1 x.2.1 x.2.2.1 x.2.2.2.1 x.2.2.2.2.1)
theorem rZ:SpecOk Tryz.prog 93 rG1:=wQ (ps:=[(0,vI),(1,(.box (.sl .bool) (.own .bool 400100 true))),(2,(.box (.sl .bool) (.own .bool 400200 true))),(3,(.box T28 (.val T28))),(4,(.fptr 93 [some (1,(.sl .bool)),some (2,(.sl .bool)),some (3,T28),none]))]) (rs:=vB) (os:=[(1,(.box (.sl .bool) (.own .bool 400100 true))),(2,(.box (.sl .bool) (.own .bool 400200 true))),(3,(.box T28 (.val T28)))]) (R:=fun k x=>vI7 k x.1 x.2.1 x.2.2.1 x.2.2.2.1 x.2.2.2.2.1) sO0 fun x=>tV6 x.1 x.2.1 x.2.2.1 x.2.2.2.1 x.2.2.2.2.1
abbrev uL6:Type:=(Unit×Int×Unit)
abbrev vM9:Type:=(D28×(List Bool)×(List Bool)×Int×Unit)
def tO9 (y:uL6)(x:vM9):Prop×Bool×vM9×Bool×Bool:=
 let a1:=x.1
 let a3:=x.2.1
 let a4:=x.2.2.1
 let a19:=x.2.2.2.1
 let v20:=(decide (a19<y.2.1))
 let v24:=(qR3 a19 a4 a3 a1 ())
 let v24o:=(sS1 a19 a4 a3 a1 ())
 ((v20=true→((tJ4 a19 a4 a3 a1 ())∧((!v24)=true→InR (a19+1)))),(v20&&(!v24)),(v24o.2.2.1,v24o.2.1,v24o.1,(a19+1),()),(v20&&v24),(!v20))
def uS8 y x:=(tO9 y x).1
def tV7 y x:=(tO9 y x).2.1
def uL7 y x:=(tO9 y x).2.2.1
def sZ1 y x:=(tO9 y x).2.2.2.1
def rZ0 y x:=(tO9 y x).2.2.2.2
instance (y x):Decidable (uS8 y x):=by unfold uS8 tO9;dsimp only;infer_instance
def sH0 (y:uL6)(x:vM9):Bool:=
 true
def rZ1:=li [(5,(.fptr 93 [some (4,(.sl .bool)),some (3,(.sl .bool)),some (1,T28),none])),(18,vI)] [(1,(.box T28 (.val T28))),(3,(.box (.sl .bool) (.own .bool 400300 true))),(4,(.box (.sl .bool) (.own .bool 400400 true))),(19,vI)] tV7 uL7 uS8 (fun y x=>[ex 1 (some (sZ1 y x)) [(2,vB)] ((sH0 y x),()),ex 2 (some (rZ0 y x)) [] ()]) [[(2,vB)],[]]
def f65t (p0:D28):Prop×Bool:=
 let v9:=(len p0.2.2.2.1)
 let v13:=(len p0.2.2.2.1)
 let y6:=((),(len p0.2.2.2.1),())
 let x6:=(p0,(List.replicate (Int.toNat v9) false),(List.replicate (Int.toNat v13) false),(0:Int),())
 let e6:=(zC4 (tV7 y6) (uL7 y6) x6)
 (((0≤v9∧v9≤v9∧v9≤4294967296)∧((0≤v13∧v13≤v13∧v13≤4294967296)∧(xQ5 (tV7 y6) (uL7 y6) (uS8 y6) x6))),(bif (sZ1 y6 e6) then (sH0 y6 e6) else false))
def sZ2 p0:=(f65t p0).1
def f65 p0:=(f65t p0).2
instance (p0):Decidable (sZ2 p0):=by unfold sZ2 f65t;dsimp only;infer_instance
theorem pN6:SK 65 (sp1 (.val T28) vB sZ2 f65):=fx (fun c=>{ c with wants:=[(93,[])],fts:=fts }) Tryz.func65 26 [kb rZ] [(6,rZ1)] [(3,[(4,0,10,400300)]),(5,[(4,0,14,400400)])] false [] [10,14]
abbrev vZ9:Type:=((List UInt8)×Int×Int×Unit)
abbrev vN:Type:=(Int×Unit)
def uZ4 (y:vZ9)(x:vN):Prop×Bool×vN×Bool×Bool:=
 let a0:=y.1
 let a19:=x.1
 let v20:=(decide (a19<y.2.2.1))
 let v26:=(decide ((wT5 a0 a19)<y.2.1))
 let v32:=(bif v26 then true else (decide ((wT5 a0 a19)>126)))
 ((v20=true→(InB a19 (len a0)∧(((!v26)=true→InB a19 (len a0))∧((!v32)=true→InR (a19+1))))),(v20&&(!v32)),((a19+1),()),(v20&&v32),(!v20))
def uZ5 y x:=(uZ4 y x).1
def sH1 y x:=(uZ4 y x).2.1
def uS9 y x:=(uZ4 y x).2.2.1
def sO2 y x:=(uZ4 y x).2.2.2.1
def rR2 y x:=(uZ4 y x).2.2.2.2
instance (y x):Decidable (uZ5 y x):=by unfold uZ5 uZ4;dsimp only;infer_instance
def tT0 (y:vZ9)(x:vN):Bool:=
 false
def rR3:=li [(0,vS),(2,(.val (.int .u8))),(18,vI)] [(19,vI)] sH1 uS9 uZ5 (fun y x=>[ex 1 (some (sO2 y x)) [(6,vB)] ((tT0 y x),()),ex 2 (some (rR2 y x)) [] ()]) [[(6,vB)],[]]
def pH3 (p0:List UInt8)(p1:Int)(p2:Int):Prop×Bool:=
 let v16:=(bif (decide ((len p0)<1)) then true else (decide ((len p0)>p1)))
 let y4:=(p0,p2,(len p0),())
 let x4:=((0:Int),())
 let e4:=(zC4 (sH1 y4) (uS9 y4) x4)
 (((!v16)=true→(xQ5 (sH1 y4) (uS9 y4) (uZ5 y4) x4)),(bif v16 then false else (bif (sO2 y4 e4) then (tT0 y4 e4) else true)))
def tP p0 p1 p2:=(pH3 p0 p1 p2).1
def f133 p0 p1 p2:=(pH3 p0 p1 p2).2
instance (p0 p1 p2):Decidable (tP p0 p1 p2):=by unfold tP pH3;dsimp only;infer_instance
theorem rZ2:SK 133 (sp3 vS vI (.val (.int .u8)) vB tP f133):=fb Tryz.func133 34 [] [(4,rR3)]
def pH4 (p0:List UInt8):Prop×Bool:=
 ((tP p0 (32:Int) (33:Int)),(f133 p0 (32:Int) (33:Int)))
def sS2 p0:=(pH4 p0).1
def f113 p0:=(pH4 p0).2
instance (p0):Decidable (sS2 p0):=by unfold sS2 pH4;dsimp only;infer_instance
theorem pH5:SK 113 (sp1 vS vB sS2 f113):=fb Tryz.func113 5 [kb rZ2]
def pH6 (p0:List UInt8):Prop×Bool:=
 ((tP p0 (256:Int) (32:Int)),(f133 p0 (256:Int) (32:Int)))
def sS3 p0:=(pH6 p0).1
def f114 p0:=(pH6 p0).2
instance (p0):Decidable (sS3 p0):=by unfold sS3 pH6;dsimp only;infer_instance
theorem pH7:SK 114 (sp1 vS vB sS3 f114):=fb Tryz.func114 5 [kb rZ2]
def f95t (p0:List D80)(p1:D80):Prop×Int:=
 let v8:=(!(f113 p1.1))
 let v12:=(!(f114 p1.2.1))
 let v15:=(decide ((len p0)>0))
 let v21:=(len p0)
 let v22:=(v21-1)
 let v23:=(nth p0 v22 Z80)
 (((sS2 p1.1)∧((!v8)=true→((sS3 p1.2.1)∧((!v12)=true→((v15=true→InR (v21-1))∧(v15=true→InB v22 (len p0))))))),(bif v8 then (13:Int) else (bif v12 then (4:Int) else (bif (bif v15 then (Op.bytesLess p1.1 v23.1||p1.1==v23.1) else false) then (24:Int) else (0:Int)))))
def sZ3 p0 p1:=(f95t p0 p1).1
def f95 p0 p1:=(f95t p0 p1).2
instance (p0 p1):Decidable (sZ3 p0 p1):=by unfold sZ3 f95t;dsimp only;infer_instance
theorem pN7:SK 95 (sp2 (.val (.sl T80)) (.val T80) vI sZ3 f95):=fb Tryz.func95 28 [kb pH5,kb pH7]
abbrev uL8:Type:=((List D80)×(List D80)×Int×Unit)
abbrev vU3:Type:=(Int×Unit)
def tP0 (y:uL8)(x:vU3):Prop×Bool×vU3×Bool×Bool:=
 let a0:=y.1
 let a9:=y.2.1
 let a11:=x.1
 let v12:=(decide (a11<y.2.2.1))
 let v14:=(nth a9 a11 Z80)
 let v18:=(List.take (Int.toNat a11) a0)
 let v22:=((f95 v18 v14)!=0)
 ((v12=true→(InB a11 (len a9)∧((0≤a11∧a11≤len a0)∧((sZ3 v18 v14)∧((!v22)=true→InR (a11+1)))))),(v12&&(!v22)),((a11+1),()),(v12&&v22),(!v12))
def tJ5 y x:=(tP0 y x).1
def sS4 y x:=(tP0 y x).2.1
def tD7 y x:=(tP0 y x).2.2.1
def sZ4 y x:=(tP0 y x).2.2.2.1
def rZ3 y x:=(tP0 y x).2.2.2.2
instance (y x):Decidable (tJ5 y x):=by unfold tJ5 tP0;dsimp only;infer_instance
def sH2 (y:uL8)(x:vU3):Int:=
 let a11:=x.1
 (f95 (List.take (Int.toNat a11) y.1) (nth y.2.1 a11 Z80))
def rZ4:=li [(0,(.val (.sl T80))),(9,(.val (.sl T80))),(10,vI)] [(11,vI)] sS4 tD7 tJ5 (fun y x=>[ex 1 (some (sZ4 y x)) [(2,vI)] ((sH2 y x),()),ex 2 (some (rZ3 y x)) [] ()]) [[(2,vI)],[]]
def f66t (p0:List D80):Prop×Int:=
 let v8:=(decide ((len p0)>16))
 let y4:=(p0,p0,(len p0),())
 let x4:=((0:Int),())
 let e4:=(zC4 (sS4 y4) (tD7 y4) x4)
 (((!v8)=true→(xQ5 (sS4 y4) (tD7 y4) (tJ5 y4) x4)),(bif v8 then (3:Int) else (bif (sZ4 y4 e4) then (sH2 y4 e4) else (0:Int))))
def sZ5 p0:=(f66t p0).1
def f66 p0:=(f66t p0).2
instance (p0):Decidable (sZ5 p0):=by unfold sZ5 f66t;dsimp only;infer_instance
theorem pN8:SK 66 (sp1 (.val (.sl T80)) vI sZ5 f66):=fb Tryz.func66 25 [kb pN7] [(4,rZ4)]
def f24t (p0:D28):Prop×Int:=
 let v10:=(f60 p0)
 let v12:=(v10 !=0)
 let v23:=(bif (decide ((len p0.2.2.2.1)>64)) then true else (decide ((len p0.2.2.2.2.2.2.2.1)>8)))
 let v31:=(bif (decide (p0.2.2.2.2.1<1)) then true else (decide (p0.2.2.2.2.1>1073741824)))
 let v33:=(f61 p0)
 let v35:=(v33 !=0)
 let v38:=(f62 p0)
 let v40:=(v38 !=0)
 let v43:=(f63 p0)
 let v45:=(v43 !=0)
 let v48:=(f64 p0)
 let v50:=(v48 !=0)
 let v53:=(f65 p0)
 let v56:=(f40 p0.2.2.2.2.2.1)
 let v58:=(v56 !=0)
 let v79:=(bif (p0.2.2.2.2.2.1.1 !=0) then (bif (p0.2.2.2.2.2.1.1 !=p0.1) then true else (p0.2.2.2.2.2.1.2.1 !=p0.2.1)) else false)
 let m2_6:=(bif v35 then v33 else (bif v40 then v38 else (bif v45 then v43 else (bif v50 then v48 else (bif v53 then (11:Int) else (bif v58 then v56 else (bif v79 then (15:Int) else (f66 p0.2.2.2.2.2.2.1))))))))
 (((sK7 p0)∧((!v12)=true→((!v23)=true→((!v31)=true→((sX8 p0)∧((!v35)=true→((sY0 p0)∧((!v40)=true→((sY6 p0)∧((!v45)=true→((sY8 p0)∧((!v50)=true→((sZ2 p0)∧((!v53)=true→((tQ0 p0.2.2.2.2.2.1)∧((!v58)=true→((!v79)=true→(sZ5 p0.2.2.2.2.2.2.1)))))))))))))))))),(bif v12 then v10 else (bif v23 then (3:Int) else (bif v31 then (2:Int) else m2_6))))
def tJ6 p0:=(f24t p0).1
def f24 p0:=(f24t p0).2
instance (p0):Decidable (tJ6 p0):=by unfold tJ6 f24t;dsimp only;infer_instance
theorem qR4:SK 24 (sp1 (.val T28) vI tJ6 f24):=fb Tryz.func24 83 [kb rU7,kb pM8,kb pN0,kb pN1,kb pN3,kb pN4,kb pN6,kb pN8]
abbrev vP7:Type:=(Unit)
abbrev vF5:Type:=((List Int)×Int×Unit)
def uZ6 (y:vP7)(x:vF5):Prop×Bool×vF5:=
 let a0:=x.1
 let a1:=x.2.1
 let v6:=(decide (a1≥128))
 let v11:=([(ior .u8 (IntKind.wrap .u8 a1) (128:Int))]:List Int)
 ((v6=true→((List.length a0+List.length v11:Nat):Int)≤4294967296),v6,((a0++v11),(wV1 a1 (7:Int) 64),()))
def vR4 y x:=(uZ6 y x).1
def wX y x:=(uZ6 y x).2.1
def wW1 y x:=(uZ6 y x).2.2
instance (y x):Decidable (vR4 y x):=by unfold vR4 uZ6;dsimp only;infer_instance
def tB3 (y:vP7)(x:vF5):(List Int):=
 x.1
def tB4 (y:vP7)(x:vF5):Int:=
 x.2.1
def tT1:List (Nat×Sh):=[(0,(.own (.int .u8) 400000 false)),(1,(.val (.int .u64)))]
def sZ6:=li [] [(0,(.own (.int .u8) 400000 false)),(1,(.val (.int .u64)))] wX wW1 vR4 (fun y x=>[ex 2 none tT1 ((tB3 y x),(tB4 y x),())]) [tT1]
def rG2 (p0:List Int)(p1:Int):Prop×(List Int):=
 let x1:=(p0,p1,())
 let e1:=(zC4 (wX ()) (wW1 ()) x1)
 let r1_2_0:=(tB3 () e1)
 let v18:=([(IntKind.wrap .u8 (tB4 () e1))]:List Int)
 (((xQ5 (wX ()) (wW1 ()) (vR4 ()) x1)∧((List.length r1_2_0+List.length v18:Nat):Int)≤4294967296),(r1_2_0++v18))
def vN0 p0 p1:=(rG2 p0 p1).1
def uH2 p0 p1:=(rG2 p0 p1).2
instance (p0 p1):Decidable (vN0 p0 p1):=by unfold vN0 rG2;dsimp only;infer_instance
theorem sZ7:SK 72 (sp2 (.own (.int .u8) 400000 false) (.val (.int .u64)) (.own (.int .u8) 0 false) vN0 uH2):=fb Tryz.func72 20 [] [(1,sZ6)] [(5,[(4,0,12,400000)]),(9,[(4,0,19,0)])] true
def f71t (p0:Int):Prop×(List UInt8):=
 ((vN0 ([]:List Int) p0),(xC3 (uH2 ([]:List Int) p0)))
def tJ7 p0:=(f71t p0).1
def f71 p0:=(f71t p0).2
instance (p0):Decidable (tJ7 p0):=by unfold tJ7 f71t;dsimp only;infer_instance
theorem rZ5:SK 71 (sp1 (.val (.int .u64)) vS tJ7 f71):=fb Tryz.func71 6 [kb sZ7]
def f34t (p0:List UInt8):Prop×(List UInt8):=
 let v5:=(IntKind.wrap .u64 (len p0))
 let v6:=(f71 v5)
 (((tJ7 v5)∧((List.length v6+List.length p0:Nat):Int)≤9223372036854775807),(v6++p0))
def vJ4 p0:=(f34t p0).1
def f34 p0:=(f34t p0).2
instance (p0):Decidable (vJ4 p0):=by unfold vJ4 f34t;dsimp only;infer_instance
theorem rZ6:SK 34 (sp1 vS vS vJ4 f34):=fb Tryz.func34 9 [kb rZ5]
abbrev uT:Type:=((List Int)×(List Int)×Int×Int×Unit)
abbrev uA:Type:=(Int×Int×Unit)
def tV8 (y:uT)(x:uA):Prop×Bool×uA:=
 let a3:=x.1
 let a9:=x.2.1
 let v10:=(decide (a9<8))
 ((v10=true→InR (a9+1)),v10,((bif ((wU8 .u32 a3 (1:Int))==1) then (wU9 .u32 (wV1 a3 (1:Int) 32) (3988292384:Int)) else (wV1 a3 (1:Int) 32)),(a9+1),()))
def uZ7 y x:=(tV8 y x).1
def sH3 y x:=(tV8 y x).2.1
def uT0 y x:=(tV8 y x).2.2
instance (y x):Decidable (uZ7 y x):=by unfold uZ7 tV8;dsimp only;infer_instance
def tT2 (y:uT)(x:uA):Int:=
 x.1
def sO3:List (Nat×Sh):=[(0,(.box (.arr 256 (.int .u32)) (.val (.arr 256 (.int .u32))))),(1,(.box (.arr 256 (.int .u32)) (.val (.arr 256 (.int .u32))))),(2,vI),(3,(.val (.int .u32))),(4,vI)]
def rR4:=li [(0,(.box (.arr 256 (.int .u32)) (.val (.arr 256 (.int .u32))))),(1,(.box (.arr 256 (.int .u32)) (.val (.arr 256 (.int .u32))))),(2,vI),(4,vI)] [(3,(.val (.int .u32))),(9,vI)] sH3 uT0 uZ7 (fun y x=>[ex 4 none sO3 (y.1,y.2.1,y.2.2.1,(tT2 y x),y.2.2.2.1,())]) [sO3]
abbrev uT1:Type:=((List Int)×Unit)
abbrev uA0:Type:=((List Int)×Int×Unit)
def tV9 (y:uT1)(x:uA0):Prop×Bool×uA0:=
 let a1:=x.1
 let a4:=x.2.1
 let v5:=(decide (a4<256))
 let y7:=(y.1,a1,a4,a4,())
 let x7:=((IntKind.wrap .u32 a4),(0:Int),())
 ((v5=true→((xQ5 (sH3 y7) (uT0 y7) (uZ7 y7) x7)∧(InB a4 256∧InR (a4+1)))),v5,((List.set a1 (Int.toNat a4) (tT2 y7 (zC4 (sH3 y7) (uT0 y7) x7))),(a4+1),()))
def uZ8 y x:=(tV9 y x).1
def sH4 y x:=(tV9 y x).2.1
def uT2 y x:=(tV9 y x).2.2
instance (y x):Decidable (uZ8 y x):=by unfold uZ8 tV9;dsimp only;infer_instance
def tT3 (y:uT1)(x:uA0):(List Int):=
 x.1
def sO4:List (Nat×Sh):=[(0,(.box (.arr 256 (.int .u32)) (.val (.arr 256 (.int .u32))))),(1,(.box (.arr 256 (.int .u32)) (.val (.arr 256 (.int .u32)))))]
def rR5:=li [(0,(.box (.arr 256 (.int .u32)) (.val (.arr 256 (.int .u32)))))] [(1,(.box (.arr 256 (.int .u32)) (.val (.arr 256 (.int .u32))))),(4,vI)] sH4 uT2 uZ8 (fun y x=>[ex 2 none sO4 (y.1,(tT3 y x),())]) [sO4]
def pH8 :Prop×(List Int):=
 let y3:=((List.replicate 256 (0:Int)),())
 let x3:=((List.replicate 256 (0:Int)),(0:Int),())
 ((xQ5 (sH4 y3) (uT2 y3) (uZ8 y3) x3),(tT3 y3 (zC4 (sH4 y3) (uT2 y3) x3)))
def tP1 :Prop:=(pH8).1
def f115 :List Int:=(pH8).2
instance:Decidable tP1:=by unfold tP1 pH8;dsimp only;infer_instance
def rZ7:Am.Spec:=fnSpec [] (.val (.arr 256 (.int .u32))) [] (fun x=>tP1 ) (fun x=>f115 ) (fun _=>())
theorem pH9:SK 115 (fnSpec [] (.val (.arr 256 (.int .u32))) [] (fun x=>tP1 ) (fun x=>f115 ) (fun _=>())):=fb Tryz.func115 25 [] [(3,rR5),(7,rR4)]
abbrev tJ8:Type:=((List UInt8)×(List Int)×Int×Unit)
abbrev uL9:Type:=(Int×Int×Unit)
def sS5 (y:tJ8)(x:uL9):Prop×Bool×uL9:=
 let a0:=y.1
 let a4:=x.1
 let a9:=x.2.1
 let v10:=(decide (a9<y.2.2.1))
 let v19:=(wU9 .u8 (IntKind.wrap .u8 a4) (wT5 a0 a9))
 ((v10=true→(InB a9 (len a0)∧(InB v19 256∧InR (a9+1)))),v10,((wU9 .u32 (wV1 a4 (8:Int) 32) (nth y.2.1 v19 (0:Int))),(a9+1),()))
def uH3 y x:=(sS5 y x).1
def uZ9 y x:=(sS5 y x).2.1
def vJ8 y x:=(sS5 y x).2.2
instance (y x):Decidable (uH3 y x):=by unfold uH3 sS5;dsimp only;infer_instance
def sH5 (y:tJ8)(x:uL9):Int:=
 x.1
def sH6:St→Option Out:=wB4 [(0,vS),(3,(.box (.arr 256 (.int .u32)) (.val (.arr 256 (.int .u32))))),(8,vI)] [(4,(.val (.int .u32))),(9,vI)] uZ9 vJ8 uH3 fun y x=>[ex 2 none [(4,(.val (.int .u32)))] ((sH5 y x),())]
def f96t (p0:List UInt8):Prop×Int:=
 let y4:=(p0,f115,(len p0),())
 let x4:=((4294967295:Int),(0:Int),())
 ((tP1∧(xQ5 (uZ9 y4) (vJ8 y4) (uH3 y4) x4)),(wV .u32 (sH5 y4 (zC4 (uZ9 y4) (vJ8 y4) x4))))
def sZ8 p0:=(f96t p0).1
def f96 p0:=(f96t p0).2
instance (p0):Decidable (sZ8 p0):=by unfold sZ8 f96t;dsimp only;infer_instance
def qJ:=sp1 vS (.val (.int .u32)) sZ8 f96
def rZ8:=Cy [(115,rZ7)] [(4,sH6)] [] 26
theorem rZ9:CtxOk Tryz.prog rZ8:=cq ⟨pH9,trivial⟩
noncomputable def qJ0:Code:=Tryz.f96.body.getD .skip
noncomputable def qR5:Code:=wS9 qJ0 0
theorem qA:xH8 Tryz.prog rZ8 qR5:=lq rZ9 (sp:=sH6) rfl [[(4,(.val (.int .u32)))]]
theorem pN9:SK 96 qJ:=fl rZ9 Tryz.func96 (bs:=[qR5]) ⟨qA,trivial⟩
def f67t (p0:List UInt8):Prop×(List UInt8):=
 let v5:=(f96 p0)
 ((sZ8 p0),(xC3 ([(IntKind.wrap .u8 v5),(IntKind.wrap .u8 (wV1 v5 (8:Int) 32)),(IntKind.wrap .u8 (wV1 v5 (16:Int) 32)),(IntKind.wrap .u8 (wV1 v5 (24:Int) 32))]:List Int)))
def sH7 p0:=(f67t p0).1
def f67 p0:=(f67t p0).2
instance (p0):Decidable (sH7 p0):=by unfold sH7 f67t;dsimp only;infer_instance
theorem qR6:SK 67 (sp1 vS vS sH7 f67):=fb Tryz.func67 19 [kb pN9]
def f25t (p0:List UInt8):Prop×((List UInt8)×Int×Unit):=
 let v7:=(decide ((len p0)>1048576))
 let v9:=(f34 p0)
 let v12:=(f67 v9)
 (((!v7)=true→((vJ4 p0)∧((sH7 v9)∧((List.length v9+List.length v12:Nat):Int)≤9223372036854775807))),((bif v7 then ([]:List UInt8) else (v9++v12)),(bif v7 then (3:Int) else (0:Int)),()))
def sZ9 p0:=(f25t p0).1
def f25 p0:=(f25t p0).2
instance (p0):Decidable (sZ9 p0):=by unfold sZ9 f25t;dsimp only;infer_instance
theorem pO:SK 25 (sp1 vS (.tup (.cons vS (.cons vI .nl))) sZ9 f25):=fb Tryz.func25 14 [kb rZ6,kb qR6]
def f38t (p0:Int):Prop×(List UInt8):=
 let v4:=(IntKind.wrap .u64 p0)
 ((tJ7 v4),(f71 v4))
def vD3 p0:=(f38t p0).1
def f38 p0:=(f38t p0).2
instance (p0):Decidable (vD3 p0):=by unfold vD3 f38t;dsimp only;infer_instance
theorem sO5:SK 38 (sp1 vI vS vD3 f38):=fb Tryz.func38 6 [kb rZ5]
def f42t (p0:Int):Prop×(List Int):=
 (True,([p0]:List Int))
def rA p0:=(f42t p0).1
def f42 p0:=(f42t p0).2
instance (p0):Decidable (rA p0):=by unfold rA f42t;dsimp only;infer_instance
theorem pO0:SK 42 (sp1 vI (.own (.int .i64) 0 false) rA f42):=fb Tryz.func42 5 [] [] [(3,[(4,0,4,0)])]
abbrev uA1:Type:=((List Int)×(Unit)×(List UInt8)×Int×Unit)
abbrev vJ9:Type:=(Int×Unit)
def tA (y:uA1)(x:vJ9):Prop×Bool×vJ9:=
 let a2:=y.1
 let a10:=y.2.2.2.1
 let a11:=x.1
 let v29:=(decide (a11<(len a2)))
 let v40:=(bif v29 then ((nth a2 a11 (0:Int))==(nth a2 a10 (0:Int))) else false)
 (((v29=true→InB a11 (len a2))∧((v29=true→InB a10 (len a2))∧(v40=true→InR (a11+1)))),v40,((a11+1),()))
def vR5 y x:=(tA y x).1
def wW7 y x:=(tA y x).2.1
def wV6 y x:=(tA y x).2.2
instance (y x):Decidable (vR5 y x):=by unfold vR5 tA;dsimp only;infer_instance
def tB5 (y:uA1)(x:vJ9):Int:=
 x.1
def tT4:List (Nat×Sh):=[(2,(.val (.sl (.int .i64)))),(3,(.fn 42 .nl)),(9,(.bld 89 5 9)),(10,vI),(11,vI)]
def rA0:=li [(2,(.val (.sl (.int .i64)))),(3,(.fn 42 .nl)),(9,(.bld 89 5 9)),(10,vI)] [(11,vI)] wW7 wV6 vR5 (fun y x=>[ex 4 none tT4 (y.1,y.2.1,y.2.2.1,y.2.2.2.1,(tB5 y x),())]) [tT4]
abbrev vR6:Type:=((List Int)×(Unit)×Int×(List Int)×Int×Unit)
abbrev vF6:Type:=((List UInt8)×Int×Unit)
def uM (y:vR6)(x:vF6):Prop×Bool×vF6:=
 let a54:=y.2.2.2.1
 let a9:=x.1
 let a56:=x.2.1
 let v57:=(decide (a56<y.2.2.2.2.1))
 let v58:=(nth a54 a56 (0:Int))
 let v61:=(f38 v58)
 ((v57=true→(InB a56 (len a54)∧((vD3 v58)∧(((List.length a9+List.length v61:Nat):Int)≤4294967296∧InR (a56+1))))),v57,((a9++v61),(a56+1),()))
def vC9 y x:=(uM y x).1
def vF7 y x:=(uM y x).2.1
def wZ5 y x:=(uM y x).2.2
instance (y x):Decidable (vC9 y x):=by unfold vC9 uM;dsimp only;infer_instance
def uT3 (y:vR6)(x:vF6):(List UInt8):=
 x.1
def tJ9:List (Nat×Sh):=[(2,(.val (.sl (.int .i64)))),(3,(.fn 42 .nl)),(9,(.bld 89 5 9)),(11,vI)]
def sS6:=li [(2,(.val (.sl (.int .i64)))),(3,(.fn 42 .nl)),(11,vI),(54,(.own (.int .i64) 54 false)),(55,vI)] [(9,(.bld 89 5 9)),(56,vI)] vF7 wZ5 vC9 (fun y x=>[ex 6 none tJ9 (y.1,y.2.1,(uT3 y x),y.2.2.1,())]) [tJ9]
abbrev uA2:Type:=((List Int)×(Unit)×Unit)
abbrev vK:Type:=((List UInt8)×Int×Unit)
def tA0 (y:uA2)(x:vK):Prop×Bool×vK:=
 let a2:=y.1
 let a9:=x.1
 let a10:=x.2.1
 let v23:=(decide (a10<(len a2)))
 let y7:=(a2,(),a9,a10,())
 let x7:=((a10+1),())
 let r7_4_0:=(tB5 y7 (zC4 (wW7 y7) (wV6 y7) x7))
 let v45:=(r7_4_0-a10)
 let v46:=(v45-1)
 let v47:=(f38 v46)
 let v52:=(nth a2 a10 (0:Int))
 let v54:=(f42 v52)
 let y11:=(a2,(),r7_4_0,v54,(len v54),())
 let x11:=((a9++v47),(0:Int),())
 ((v23=true→(InR (a10+1)∧((xQ5 (wW7 y7) (wV6 y7) (vR5 y7) x7)∧(InR (r7_4_0-a10)∧(InR (v45-1)∧((vD3 v46)∧(((List.length a9+List.length v47:Nat):Int)≤4294967296∧(InB a10 (len a2)∧((rA v52)∧(xQ5 (vF7 y11) (wZ5 y11) (vC9 y11) x11)))))))))),v23,((uT3 y11 (zC4 (vF7 y11) (wZ5 y11) x11)),r7_4_0,()))
def vF8 y x:=(tA0 y x).1
def vA9 y x:=(tA0 y x).2.1
def vB0 y x:=(tA0 y x).2.2
instance (y x):Decidable (vF8 y x):=by unfold vF8 tA0;dsimp only;infer_instance
def tB6 (y:uA2)(x:vK):(List UInt8):=
 x.1
def rA1:=li [(2,(.val (.sl (.int .i64)))),(3,(.fn 42 .nl))] [(9,(.bld 89 5 9)),(10,vI)] vA9 vB0 vF8 (fun y x=>[ex 2 none [(9,(.bld 89 5 9))] ((tB6 y x),())]) [[(9,(.bld 89 5 9))]]
def rG3 (p0:Int)(p1:Int)(p2:List Int)(p3:(Unit)):Prop×(List UInt8):=
 let v15:=(f38 p0)
 let b9:=(([]:List UInt8)++v15)
 let v18:=(f38 p1)
 let y5:=(p2,(),())
 let x5:=((b9++v18),(0:Int),())
 (((vD3 p0)∧(((List.length ([]:List UInt8)+List.length v15:Nat):Int)≤4294967296∧((vD3 p1)∧(((List.length b9+List.length v18:Nat):Int)≤4294967296∧(xQ5 (vA9 y5) (vB0 y5) (vF8 y5) x5))))),(tB6 y5 (zC4 (vA9 y5) (vB0 y5) x5)))
def uT4 p0 p1 p2 p3:=(rG3 p0 p1 p2 p3).1
def qA0 p0 p1 p2 p3:=(rG3 p0 p1 p2 p3).2
instance (p0 p1 p2 p3):Decidable (uT4 p0 p1 p2 p3):=by unfold uT4 rG3;dsimp only;infer_instance
theorem qA1:SK 41 (sp4 vI vI (.val (.sl (.int .i64))) (.fn 42 .nl) vS uT4 qA0):=fy (fun c=>{ c with blds:=[(89,5,32,39)] }) Tryz.func41 66 [kb sO5,kb pO0] [(5,rA1),(7,rA0),(11,sS6)]
def f12t (p0:D24):Prop×(List UInt8):=
 let m1:=(bif ((f40 p0)!=0) then ((0:Int),(0:Int),([]:List Int),()) else p0)
 (((tQ0 p0)∧(uT4 m1.1 m1.2.1 m1.2.2.1 ())),(qA0 m1.1 m1.2.1 m1.2.2.1 ()))
def sH8 p0:=(f12t p0).1
def f12 p0:=(f12t p0).2
instance (p0):Decidable (sH8 p0):=by unfold sH8 f12t;dsimp only;infer_instance
theorem qA2:SK 12 (sp1 (.val T24) vS sH8 f12):=fb Tryz.func12 14 [kb rU7,kb qA1]
end Go.Proofs.YtmbjipigimohbaaGreatDoor.Am
