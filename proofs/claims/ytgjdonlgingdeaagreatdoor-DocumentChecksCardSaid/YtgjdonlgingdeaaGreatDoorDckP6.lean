/- Printed by program, part 6. No condition. -/
import Derived.Test.YtgjdonlgingdeaaGreatDoorDckP5
set_option linter.unusedVariables false
set_option synthInstance.maxSize 4000
set_option synthInstance.maxHeartbeats 400000
namespace Go.Proofs.YtgjdonlgingdeaaGreatDoor.Am
open Go Go.Am Go.Proofs
open _root_.Int (toNat)
open _root_.List (drop length set take)
open _root_.Option (getD isSome)
def nC4 (a:Unit):Prop×(List C0):=
 ((!true)=true->((length ([]:List C0)+length ([]:List C0):Nat):Int)<=4294967296,cond true [] (([]:List C0)++([]:List C0)))
def qK3 a:=(nC4 a).1
def lW7 a:=(nC4 a).2
instance (a):Decidable (qK3 a):=by unfold qK3 nC4;dsimp only;infer_instance
theorem nP6:SK 107 (AP (.nn true) Df qK3 lW7):=fb Tryz.func107 8 [] [] [(7,[(4,0,7,0)])] false [] [5,7]
def nC5 (a:Unit):Prop×(List C0):=
 ((!false)=true->((length ([]:List C0)+length ([]:List C0):Nat):Int)<=4294967296,cond false [] (([]:List C0)++([]:List C0)))
def qK4 a:=(nC5 a).1
def lW8 a:=(nC5 a).2
instance (a):Decidable (qK4 a):=by unfold qK4 nC5;dsimp only;infer_instance
theorem nP7:SK 107 (AP (.nn false) Df qK4 lW8):=fb Tryz.func107 8 [] [] [(7,[(4,0,7,0)])] false [] [5,7]
def nC6 (a:List C0):Prop×(List C0):=
 (0<length a/\((!false)=true->((length ([]:List C0)+length a:Nat):Int)<=4294967296),cond false [] (([]:List C0)++a))
def qK5 a:=(nC6 a).1
def lW9 a:=(nC6 a).2
instance (a):Decidable (qK5 a):=by unfold qK5 nC6;dsimp only;infer_instance
theorem nP8:SK 107 (AP Be Df qK5 lW9):=fb Tryz.func107 8 [] [] [(7,[(4,0,7,0)])] false [] [5,7]
def Ru (a:List C0):List C0:=a
def UU (a:List C0):Prop:=(length a:Int)<=4294967296
def mV3:List (Nat×Sh):=[(0,Be)]
def nC7:Sh:=Df
def mV4:List (Nat×Sh):=[]
def nC8:Am.Spec:=fnSpec mV3 nC7 mV4 (λx=>UU x.1) (λx=>Ru x.1) (λ_=>())
theorem mV5:SpecOk Tryz.prog 107 nC8:=OS (rs:=nC7) (F:=Ru) (ok:=UU) nP6 nP7 nP8 (jF (by kernel_rfl)) (jF (by kernel_rfl)) (λl h hp=>⟨hp,λ_=>by simpa[UU] using h⟩) rfl rfl (λ_=>rfl)
abbrev sD8:Type:=(AS×(Int×Int×Int×(List AK)×Int×(Int×Int×(List Int)×Unit)×(List BZ)×(List C0)×Unit)×(List AK)×Int×Unit)
abbrev UW:Type:=((Int×Int×Int×(List AK)×Int×Ge×(List BZ)×(List C0)×Unit)×Int×Unit)
def qK6 (y:sD8)(x:UW):Prop×Bool×UW:=
 let c:=y.2.2.1
 let b:=x.1
 let a:=x.2.1
 let d:=decide (a<y.2.2.2.1)
 let e:=nth c a A9
 (d=true->A6 a (len c)/\US e/\A6 a (len b.2.2.2.1)/\a<len b.2.2.2.1/\A5 (a+1),d,((b.1,b.2.1,b.2.2.1,set b.2.2.2.1 (toNat a) (f73 e),b.2.2.2.2),a+1,()))
def sD9 y x:=(qK6 y x).1
def qK7 y x:=(qK6 y x).2.1
def tS7 y x:=(qK6 y x).2.2
def rO1 (y:sD8)(x:UW):(Int×Int×Int×(List AK)×Int×Ge×(List BZ)×(List C0)×Unit):=
 let a:=x.1
 (a.1,a.2.1,a.2.2.1,a.2.2.2.1,a.2.2.2.2.1,(Q1 a).1,(Q3 a).1,(Q0 a).1,())
def qU6:List (Nat×Sh):=[(1,Ag),(2,Ab),(3,Aw)]
def nC9:=li [(1,Ag),(2,Ab),(15,Au),(16,vI)] [(3,Aw),(17,vI)] qK7 tS7 sD9 (λy x=>[ex 2 none qU6 (y.1,y.2.1,(rO1 y x),())]) [qU6]
abbrev tF8:Type:=((Int×Int×Int×(List AK)×Int×(Int×Int×(List Int)×Unit)×(List BZ)×(List C0)×Unit)×(List C0)×Int×Unit)
def sY2 (y:tF8)(x:UW):Prop×Bool×UW:=
 let c:=y.2.1
 let b:=x.1
 let a:=x.2.1
 let d:=decide (a<y.2.2.1)
 let e:=nth c a Fj
 let f:=((nth (Q0 b).1 a Fj).1,(nth (Q0 b).1 a Fj).2.1,(nth (Q0 b).1 a Fj).2.2.1,(nth (Q0 b).1 a Fj).2.2.2.1,((nth (Q0 b).1 a Fj).2.2.2.2.1.1,(nth (Q0 b).1 a Fj).2.2.2.2.1.2.1,M3 e.2.2.2.2.1.2.2.1,()),())
 (d=true->A6 a (len c)/\Ro e.2.2.2.2.1.2.2.1/\A6 a (len (Q0 b).1)/\a<len (Q0 b).1/\A5 (a+1),d,((b.1,b.2.1,b.2.2.1,b.2.2.2.1,b.2.2.2.2.1,(Q1 b).1,(Q3 b).1,set (Q0 b).1 (toNat a) f,()),a+1,()))
def tL5 y x:=(sY2 y x).1
def rO2 y x:=(sY2 y x).2.1
def tF9 y x:=(sY2 y x).2.2
def sU8 (y:tF8)(x:UW):(Int×Int×Int×(List AK)×Int×Ge×(List BZ)×(List C0)×Unit):=
 let a:=x.1
 (a.1,a.2.1,a.2.2.1,a.2.2.2.1,a.2.2.2.2.1,(Q1 a).1,(Q3 a).1,(Q0 a).1,())
def rZ6:List (Nat×Sh):=[(2,Ab),(3,Av)]
def oG6:=li [(2,Ab),(44,Be),(45,vI)] [(3,Av),(46,vI)] rO2 tF9 tL5 (λy x=>[ex 4 none rZ6 (y.1,(sU8 y x),())]) [rZ6]
def Rv (i:AS):Prop×(Int×Int×Int×(List AK)×Int×Ge×(List BZ)×(List C0)×Unit):=
 let d:=len i.2.2.2.1
 let e:=(i,((0:Int),(0:Int),(0:Int),([]:List AK),(0:Int),((0:Int),(0:Int),([]:List Int),()),([]:List BZ),([]:List C0),()),i.2.2.2.1,len i.2.2.2.1,())
 let h:=((i.1,i.2.1,i.2.2.1,List.replicate (toNat d) A9,i.2.2.2.2),(0:Int),())
 let b:=rO1 e (A3 (qK7 e) (tS7 e) h)
 let g:=(b.1,b.2.1,b.2.2.1,b.2.2.2.1,b.2.2.2.2.1,((Q1 b).1.1,(Q1 b).1.2.1,K4 (Q1 i).1.2.2.1,()),Rt (Q3 i).1,Ru (Q0 i).1,())
 let c:=(((0:Int),(0:Int),(0:Int),([]:List AK),(0:Int),((0:Int),(0:Int),([]:List Int),()),([]:List BZ),([]:List C0),()),(Q0 i).1,len (Q0 i).1,())
 let f:=(g,(0:Int),())
 let a:=sU8 c (A3 (rO2 c) (tF9 c) f)
 ((0<=d/\d<=d/\d<=4294967296)/\Am.Ends (qK7 e) (tS7 e) (sD9 e) h/\Ox (Q1 i).1.2.2.1/\UT (Q3 i).1/\UU (Q0 i).1/\Am.Ends (rO2 c) (tF9 c) (tL5 c) f,(a.1,a.2.1,a.2.2.1,a.2.2.2.1,a.2.2.2.2.1,(Q1 a).1,(Q3 a).1,(Q0 a).1,()))
def Rw a:=(Rv a).1
def aK a:=(Rv a).2
def nP9:=AP Ao (.agg (.cons Aa (.cons Aa (.cons Aa (.cons Cu (.cons Aa (.cons Ij (.cons Cv (.cons Cw .nl)))))))) (.cons vI (.cons vI (.cons vI (.cons Co (.cons vI (.cons Ca (.cons Bn (.cons Dw .nl))))))))) Rw aK
theorem nD:SK 72 (AP Ao (.agg (.cons Aa (.cons Aa (.cons Aa (.cons Cu (.cons Aa (.cons Ij (.cons Cv (.cons Cw .nl)))))))) (.cons vI (.cons vI (.cons vI (.cons Co (.cons vI (.cons Ca (.cons Bn (.cons Dw .nl))))))))) Rw aK):=fb Tryz.func72 63 [kb nB9,kb oZ9,kb mV2,kb mV5,kb nA4] [(4,nC9),(12,oG6)] [(5,[(4,0,12,400300)]),(19,[(4,0,37,400302)]),(21,[(4,0,41,400303)]),(33,[(4,0,400300,0),(4,0,400302,2),(4,0,400303,3)])] false [] [12]
def f74 (a:List AK)(b:Int)(c:List AK):List AK:=take (toNat b) a++(c++drop (toNat b) a)
def UX (a:List AK)(b:Int)(c:List AK):Prop:=0<=b/\b<=(length a:Int)/\0<length c/\((length a+length c:Nat):Int)<=4294967296
def lQ:List (Nat×Sh):=[(0,(.own Fv 400000 true)),(1,Dx),(2,(.own Fv 400200 true))]
def lQ0:Sh:=Co
def lQ1:List (Nat×Sh):=[]
def pO8:Am.Spec:=fnSpec lQ lQ0 lQ1 (λx=>UX x.1 x.2.1 x.2.2.1) (λx=>f74 x.1 x.2.1 x.2.2.1) (λ_=>())
theorem nD0:SpecOk Tryz.prog 74 pO8:=nK9 rfl ⟨_,Tryz.func74,by kernel_rfl,by decide⟩ lD6
abbrev uU1:Type:=((List Int)×(List (Int×Bool×Unit))×Int×Unit)
def qK8 (y:uP)(x:uU1):Prop×Bool×uU1:=
 let d:=y.2.1
 let g:=x.1
 let h:=x.2.1
 let a:=x.2.2.1
 let e:=decide (a<y.2.2.1)
 let b:=nth d a A9
 let c:=cond (b.2.2.1==y.1) true (getD (E0 Aa .bool b.2.2.1 h) false)
 let f:=([b.1]:List Int)
 (e=true->A6 a (len d)/\(c=true->((length g+length f:Nat):Int)<=4294967296)/\A5 (a+1),e,(cond c (g++f) g,cond c (H0 Aa .bool b.1 true h) h,a+1,()))
def sE0 y x:=(qK8 y x).1
def qK9 y x:=(qK8 y x).2.1
def tS8 y x:=(qK8 y x).2.2
def rO4 (y:uP)(x:uU1):(List Int):=
 x.1
def qU7:List (Nat×Sh):=[(5,Bg)]
def nD1:=li [(1,vI),(11,Au),(12,vI)] [(5,Bg),(6,(.own (GR Aa .bool) 1006 true)),(13,vI)] qK9 tS8 sE0 (λy x=>[ex 2 none qU7 ((rO4 y x),())]) [qU7]
def Rx (c:AS)(d:Int):Prop×(List Int):=
 let a:=(d,c.2.2.2.1,len c.2.2.2.1,())
 let b:=(([]:List Int),([]:List (Int×Bool×Unit)),(0:Int),())
 (Am.Ends (qK9 a) (tS8 a) (sE0 a) b,rO4 a (A3 (qK9 a) (tS8 a) b))
def Ry a b:=(Rx a b).1
def aL a b:=(Rx a b).2
def nQ:=BG Ao vI Bk Ry aL
theorem nD2:SK 16 (BG Ao vI Bk Ry aL):=fx (λc=>{ c with maps:=maps }) Tryz.func16 37 [] [(4,nD1)] [(5,[(4,0,9,1006)]),(17,[(4,0,34,1005)]),(21,[(4,0,1005,0)])]
def Rz (h:AS)(i j:Int):Prop×Int:=
 let a:=f14 h i
 let b:=decide (j<len a)
 let c:=nth a j (0:Int)
 let d:=i==0
 let e:=BU h i
 let f:=e+1
 let g:=len (aL h i)
 (UN h i/\(b=true->A6 j (len a)/\HN h c)/\((!b)=true->(!d)=true->HN h i/\A5 (e+1)/\Ry h i/\A5 (f+g)),cond b (BU h c) (cond d (len h.2.2.2.1) (f+g)))
def UY a b c:=(Rz a b c).1
def f75 a b c:=(Rz a b c).2
def nQ0:=DN Ao vI vI vI UY f75
theorem nZ3:SK 75 (DN Ao vI vI vI UY f75):=fb Tryz.func75 35 [kb PV,kb nZ1,kb nD2] [] [(3,[(4,0,10,1007)])]
def R1 (c:AS):Prop×(AS×Int×Unit):=
 let a:=f7 c
 let b:=a !=0
 (Jl c,(cond b ((0:Int),(0:Int),(0:Int),([]:List AK),(0:Int),((0:Int),(0:Int),([]:List Int),()),([]:List BZ),([]:List C0),()) c,cond b a (0:Int),()))
def UZ a:=(R1 a).1
def f76 a:=(R1 a).2
def nQ1:=AP Ao (.tup (.cons Ao (.cons vI .nl))) UZ f76
theorem nZ4:SK 76 (AP Ao (.tup (.cons Ao (.cons vI .nl))) UZ f76):=fb Tryz.func76 12 [kb Qv]
def R2 (p:AS)(s:AK)(t u:Int):Prop×(AS×Int×Int×Unit):=
 let k:=f7 p
 let b:=k !=0
 let l:=f71 p t
 let c:=l !=0
 let m:=decide (u<0)
 let d:=cond m true (decide (u>len (oZ2 p t)))
 let e:=cond (decide (len p.2.2.2.1≥64)) true (p.2.2.2.2.1==1073741824)
 let a:=aK p
 let n:=f73 s
 let r:=(p.2.2.2.2.1,n.2.1,t,n.2.2.2)
 let o:=f75 p t u
 let q:=([r]:List AK)
 let j:=(a.1,a.2.1,a.2.2.1,f74 a.2.2.2.1 o q,a.2.2.2.2.1+1,(Q1 a))
 let f:=f76 j
 let g:=f.2.1 !=0
 let h:=cond e ((0:Int),(0:Int),(0:Int),([]:List AK),(0:Int),((0:Int),(0:Int),([]:List Int),()),([]:List BZ),([]:List C0),()) (cond g ((0:Int),(0:Int),(0:Int),([]:List AK),(0:Int),((0:Int),(0:Int),([]:List Int),()),([]:List BZ),([]:List C0),()) f.1)
 let i:=cond c ((0:Int),(0:Int),(0:Int),([]:List AK),(0:Int),((0:Int),(0:Int),([]:List Int),()),([]:List BZ),([]:List C0),()) (cond d ((0:Int),(0:Int),(0:Int),([]:List AK),(0:Int),((0:Int),(0:Int),([]:List Int),()),([]:List BZ),([]:List C0),()) h)
 (Jl p/\((!b)=true->UO p t/\((!c)=true->((!m)=true->aI p t)/\((!d)=true->(!e)=true->Rw p/\US s/\UY p t u/\UX a.2.2.2.1 o q/\A5 (a.2.2.2.2.1+1)/\UZ j))),(cond b ((0:Int),(0:Int),(0:Int),([]:List AK),(0:Int),((0:Int),(0:Int),([]:List Int),()),([]:List BZ),([]:List C0),()) i,cond b (0:Int) (cond c (0:Int) (cond d (0:Int) (cond e (0:Int) (cond g (0:Int) p.2.2.2.2.1)))),cond b k (cond c l (cond d (2:Int) (cond e (3:Int) (cond g f.2.1 (0:Int))))),()))
def R3 a b c d:=(R2 a b c d).1
def aM a b c d:=(R2 a b c d).2
theorem lQ2:SK 39 (Fw Ao Bb vI vI (.tup (.cons Ao (.cons vI (.cons vI .nl)))) R3 aM):=fx (λc=>{ c with wants:=[(74,[0,2])] }) Tryz.func39 84 [kb Qv,kb qU5,kb nZ2,kb nD,kb nB9,kb nD0,kb nZ3,kb nZ4] [] [(23,[(4,0,50,401300),(4,0,300050,401303)]),(31,[(4,0,66,401300)]),(34,[(1,13,3,0),(1,13,7,0)])] false [] [65]
abbrev aN:Type:=((List AK)×Int×Unit)
def qL (y:aN)(x:Gi):Prop×Bool×Gi:=
 let e:=y.1
 let d:=x.1
 let a:=x.2.1
 let b:=decide (a<y.2.1)
 let c:=([(nth e a A9).1]:List Int)
 (b=true->A6 a (len e)/\((length d+length c:Nat):Int)<=4294967296/\A5 (a+1),b,(d++c,a+1,()))
def sE2 y x:=(qL y x).1
def qL0 y x:=(qL y x).2.1
def tS9 y x:=(qL y x).2.2
def rO7 (y:aN)(x:Gi):(List Int):=
 x.1
def qU8:List (Nat×Sh):=[(3,(.own Aa 1003 false))]
def nD3:=li [(7,Au),(8,vI)] [(3,(.own Aa 1003 false)),(9,vI)] qL0 tS9 sE2 (λy x=>[ex 2 none qU8 ((rO7 y x),())]) [qU8]
def R4 (c:AS):Prop×(List Int):=
 let a:=(c.2.2.2.1,len c.2.2.2.1,())
 let b:=(([]:List Int),(0:Int),())
 (Am.Ends (qL0 a) (tS9 a) (sE2 a) b,rO7 a (A3 (qL0 a) (tS9 a) b))
def qA a:=(R4 a).1
def f40 a:=(R4 a).2
theorem lQ3:SK 40 (AP Ao Bk qA f40):=fb Tryz.func40 20 [] [(3,nD3)] [(11,[(4,0,17,1003)]),(15,[(4,0,1003,0)])]
def Vh (y:U1)(x:AA):Prop×Bool×AA×Bool×Bool:=
 let d:=y.1
 let b:=x.1
 let c:=decide (b<y.2.2.1)
 let a:=y.2.1==nth d b (0:Int)
 (c=true->A6 b (len d)/\((!a)=true->A5 (b+1)),c&&(!a),(b+1,()),c&&a,!c)
def tL7 y x:=(Vh y x).1
def rO8 y x:=(Vh y x).2.1
def tG y x:=(Vh y x).2.2.1
def qA0 y x:=(Vh y x).2.2.2.1
def oG7 y x:=(Vh y x).2.2.2.2
def sU9 (y:U1)(x:AA):Int:=
 x.1
def oG8:=li [(0,Ak),(1,vI),(7,vI)] [(8,vI)] rO8 tG tL7 (λy x=>[ex 1 (some (qA0 y x)) [(4,vI)] ((sU9 y x),()),ex 2 (some (oG7 y x)) [] ()]) [[(4,vI)],[]]
def mV6 (d:List Int)(e:Int):Prop×Int:=
 let a:=(d,e,len d,())
 let c:=((0:Int),())
 let b:=A3 (rO8 a) (tG a) c
 (Am.Ends (rO8 a) (tG a) (tL7 a) c,cond (qA0 a b) (sU9 a b) (-1:Int))
def qL1 a b:=(mV6 a b).1
def aO a b:=(mV6 a b).2
theorem mV7:SK 112 (BG Ak vI vI qL1 aO):=fb Tryz.func112 19 [] [(2,oG8)]
def R5 (a:List Int)(b:Int):Prop×Bool:=
 (qL1 a b,decide (aO a b≥0))
def aP a b:=(R5 a b).1
def f77 a b:=(R5 a b).2
def nQ2:=BG Ak vI vB aP f77
theorem lQ4:SK 77 (BG Ak vI vB aP f77):=fb Tryz.func77 9 [kb mV7]
def f79 (a:List AK)(b c:Int):List AK:=take (toNat b) a++drop (toNat c) a
def pO9 (a:List AK)(b c:Int):Prop:=0<=b/\b<c/\c<=(length a:Int)
def lQ5:List (Nat×Sh):=[(0,(.own Fv 400000 true)),(1,Dx),(2,Dx)]
def lQ6:Sh:=Co
def lQ7:List (Nat×Sh):=[]
def pP:Am.Spec:=fnSpec lQ5 lQ6 lQ7 (λx=>pO9 x.1 x.2.1 x.2.2.1) (λx=>f79 x.1 x.2.1 x.2.2.1) (λ_=>())
theorem lQ8:SpecOk Tryz.prog 79 pP:=nL rfl ⟨_,Tryz.func79,by kernel_rfl,by decide⟩ lD5
def R7 (p:AS)(D E F:Int):Prop×(AS×Int×Unit):=
 let t:=f7 p
 let g:=t !=0
 let b:=BU p D
 let h:=decide (b<0)
 let u:=f71 p E
 let i:=u !=0
 let j:=aL p D
 let v:=E==D
 let k:=cond v true (f77 j E)
 let a:=aK p
 let w:=b+1
 let z:=len j
 let e:=w+z
 let c:=drop (toNat b) (take (toNat e) a.2.2.2.1)
 let s:=((nth c (0:Int) A9).1,(nth c (0:Int) A9).2.1,E,(nth c (0:Int) A9).2.2.2)
 let d:=set c (toNat (0:Int)) s
 let f:=f79 a.2.2.2.1 b e
 let A:=decide (F<0)
 let o:=(a.1,a.2.1,a.2.2.1,f,a.2.2.2.2)
 let l:=cond A true (decide (F>len (f14 o E)))
 let q:=(a.1,a.2.1,a.2.2.1,f,a.2.2.2.2)
 let B:=f75 q E F
 let r:=(a.1,a.2.1,a.2.2.1,f74 f B d,a.2.2.2.2)
 let C:=f76 r
 let m:=cond k ((0:Int),(0:Int),(0:Int),([]:List AK),(0:Int),((0:Int),(0:Int),([]:List Int),()),([]:List BZ),([]:List C0),()) (cond l ((0:Int),(0:Int),(0:Int),([]:List AK),(0:Int),((0:Int),(0:Int),([]:List Int),()),([]:List BZ),([]:List C0),()) C.1)
 let n:=cond h ((0:Int),(0:Int),(0:Int),([]:List AK),(0:Int),((0:Int),(0:Int),([]:List Int),()),([]:List BZ),([]:List C0),()) (cond i ((0:Int),(0:Int),(0:Int),([]:List AK),(0:Int),((0:Int),(0:Int),([]:List Int),()),([]:List BZ),([]:List C0),()) m)
 (Jl p/\((!g)=true->HN p D/\((!h)=true->UO p E/\((!i)=true->Ry p D/\((!v)=true->aP j E)/\((!k)=true->Rw p/\A5 (b+1)/\A5 (w+z)/\(0<=b/\b<=e/\e<=len a.2.2.2.1)/\(0<length c/\(length c:Int)<=4294967296)/\A6 (0:Int) (len c)/\(0:Int)<len c/\pO9 a.2.2.2.1 b e/\((!A)=true->UN o E)/\((!l)=true->UY q E F/\UX f B d/\UZ r))))),(cond g ((0:Int),(0:Int),(0:Int),([]:List AK),(0:Int),((0:Int),(0:Int),([]:List Int),()),([]:List BZ),([]:List C0),()) n,cond g t (cond h (9:Int) (cond i u (cond k (11:Int) (cond l (2:Int) C.2.1)))),()))
def qV a b c d:=(R7 a b c d).1
def f41 a b c d:=(R7 a b c d).2
def nQ3:=Fw Ao vI vI vI (.tup (.cons Ao (.cons vI .nl))) qV f41
def mV8:Ctx:={ Cx tys [(7,oQ1),(11,nM9),(14,nN8),(16,nQ),(71,nN9),(72,nP9),(74,pO8),(75,nQ0),(76,nQ1),(77,nQ2),(79,pP)] [] [(21,[(4,0,38,1013)]),(27,[(4,0,49,401400),(4,0,300049,401403)]),(31,[(4,0,60,1016)]),(35,[(4,0,69,401400)]),(41,[(4,0,89,401400)]),(42,[(1,14,3,0),(1,14,7,0)])] false 95 [] [] with wants:=[(74,[0,2]),(79,[0])],clones:=[(78,43)] }
theorem mV9:CtxOk Tryz.prog mV8:=xZ8 OV rfl ⟨Qv,PV,nZ1,nD2,nZ2,nD,nD0,nZ3,nZ4,lQ4,lQ8,trivial⟩ rfl (by kernel_rfl) rfl nL4
theorem lQ9:SK 41 nQ3:=fl mV9 Tryz.func41 (bs:=[]) trivial
abbrev tG0:Type:=(AS×(Int×Int×Int×(List AK)×Int×(Int×Int×(List Int)×Unit)×(List BZ)×(List C0)×Unit)×Int×Int×Int×Unit)
abbrev uD3:Type:=((List (Int×Int×Unit))×Int×Unit)
def sY3 (y:tG0)(x:uD3):Prop×Bool×uD3:=
 let d:=y.1
 let e:=y.2.2.1
 let a:=x.2.1
 let b:=decide (a<y.2.2.2.2.1)
 let c:=e+a
 (b=true->A5 (e+a)/\A6 c (len d.2.2.2.1)/\A5 (d.2.2.2.2.1+a)/\A5 (a+1),b,(H0 Aa Aa (nth d.2.2.2.1 c A9).1 (d.2.2.2.2.1+a) x.1,a+1,()))
def tL8 y x:=(sY3 y x).1
def rO9 y x:=(sY3 y x).2.1
def tG1 y x:=(sY3 y x).2.2
def sV (y:tG0)(x:uD3):(List (Int×Int×Unit)):=
 x.1
def qA1:List (Nat×Sh):=[(2,Ag),(4,Ab),(8,vI),(9,vI),(10,Cs)]
def oG9:=li [(2,Ag),(4,Ab),(8,vI),(9,vI),(52,vI)] [(10,Cs),(53,vI)] rO9 tG1 tL8 (λy x=>[ex 2 none qA1 (y.1,y.2.1,y.2.2.1,y.2.2.2.1,(sV y x),())]) [qA1]
abbrev tG2:Type:=(AS×(Int×Int×Int×(List AK)×Int×(Int×Int×(List Int)×Unit)×(List BZ)×(List C0)×Unit)×Int×Int×(List (Int×Int×Unit))×Int×Unit)
def sY4 (y:tG2)(x:aN):Prop×Bool×aN:=
 let m:=y.1
 let n:=y.2.2.1
 let d:=y.2.2.2.2.1
 let e:=x.1
 let b:=x.2.1
 let g:=decide (b<(Q1 y).1)
 let h:=n+b
 let i:=nth m.2.2.2.1 h A9
 let c:=f73 i
 let j:=getD (E0 Aa Aa c.1 d) (0:Int)
 let s:=(j,c.2)
 let k:=(j,c.2.1,getD (E0 Aa Aa c.2.2.1 d) (0:Int),c.2.2.2)
 let a:=cond (isSome (E0 Aa Aa c.2.2.1 d)) k s
 let l:=(Vf a (getD (E0 Aa Aa (Qh a).1 d) (0:Int)) ((Qk a).1,()))
 let f:=set e (toNat b) (cond (cond (isSome (E0 Aa Aa (Qh a).1 d)) (a.2.1==10) false) l a)
 (g=true->A5 (n+b)/\A6 h (len m.2.2.2.1)/\US i/\A6 b (len e)/\b<len e/\A5 (b+1),g,(f,b+1,()))
def tL9 y x:=(sY4 y x).1
def rP y x:=(sY4 y x).2.1
def tG3 y x:=(sY4 y x).2.2
def sV0 (y:tG2)(x:aN):(List AK):=
 x.1
def qA2:List (Nat×Sh):=[(2,Ag),(4,Ab),(8,vI),(9,vI),(12,(.own Fv 1012 true))]
def oH:=li [(2,Ag),(4,Ab),(8,vI),(9,vI),(10,Cs),(73,vI)] [(12,(.own Fv 1012 true)),(74,vI)] rP tG3 tL9 (λy x=>[ex 4 none qA2 (y.1,y.2.1,y.2.2.1,y.2.2.2.1,(sV0 y x),())]) [qA2]
def R8 (p:AS)(u:Int):Prop×((Int×Int×Int×(List AK)×Int×Ge×(List BZ)×(List C0)×Unit)×Int×Int×Unit):=
 let l:=f7 p
 let c:=l !=0
 let i:=BU p u
 let d:=decide (i<0)
 let m:=len (aL p u)
 let a:=1+m
 let n:=len p.2.2.2.1
 let o:=decide ((n+a)>64)
 let e:=cond o true (decide ((p.2.2.2.2.1+a)>1073741824))
 let g:=(p,((0:Int),(0:Int),(0:Int),([]:List AK),(0:Int),((0:Int),(0:Int),([]:List Int),()),([]:List BZ),([]:List C0),()),i,a,a,())
 let r:=(([]:List (Int×Int×Unit)),(0:Int),())
 let q:=List.replicate (toNat a) A9
 let h:=(p,((0:Int),(0:Int),(0:Int),([]:List AK),(0:Int),((0:Int),(0:Int),([]:List Int),()),([]:List BZ),([]:List C0),()),i,a,sV g (A3 (rO9 g) (tG1 g) r),len q,())
 let s:=(q,(0:Int),())
 let f:=sV0 h (A3 (rP h) (tG3 h) s)
 let b:=aK p
 let j:=i+a
 let k:=cond c ((0:Int),(0:Int),([]:List Int),()) (cond d ((0:Int),(0:Int),([]:List Int),()) (cond e ((0:Int),(0:Int),([]:List Int),()) (Q1 b).1))
 let t:=(cond c (0:Int) (cond d (0:Int) (cond e (0:Int) b.1)),cond c (0:Int) (cond d (0:Int) (cond e (0:Int) b.2.1)),cond c (0:Int) (cond d (0:Int) (cond e (0:Int) b.2.2.1)),cond c [] (cond d [] (cond e [] (f74 b.2.2.2.1 j f))),cond c (0:Int) (cond d (0:Int) (cond e (0:Int) (b.2.2.2.2.1+a))),k,cond c [] (cond d [] (cond e [] (Q3 b).1)),cond c [] (cond d [] (cond e [] (Q0 b).1)),())
 (Jl p/\((!c)=true->HN p u/\((!d)=true->Ry p u/\A5 (1+m)/\A5 (n+a)/\((!o)=true->A5 (p.2.2.2.2.1+a))/\((!e)=true->Am.Ends (rO9 g) (tG1 g) (tL8 g) r/\(0<=a/\a<=a/\a<=4294967296)/\Am.Ends (rP h) (tG3 h) (tL9 h) s/\Rw p/\A5 (i+a)/\UX b.2.2.2.1 j f/\A5 (b.2.2.2.2.1+a)))),(t,cond c (0:Int) (cond d (0:Int) (cond e (0:Int) p.2.2.2.2.1)),cond c l (cond d (9:Int) (cond e (3:Int) (0:Int))),()))
def pP0 a b:=(R8 a b).1
def f42 a b:=(R8 a b).2
theorem lR:SK 42 (BG Ao vI (.tup (.cons (.agg (.cons Aa (.cons Aa (.cons Aa (.cons Cu (.cons Aa (.cons Ij (.cons Cv (.cons Cw .nl)))))))) (.cons vI (.cons vI (.cons vI (.cons Co (.cons vI (.cons Ca (.cons Bn (.cons Dw .nl))))))))) (.cons vI (.cons vI .nl)))) pP0 f42):=fx (λc=>{ c with wants:=[(74,[0,2])],maps:=maps }) Tryz.func42 138 [kb Qv,kb PV,kb nD2,kb nD,kb nB9,kb nD0] [(12,oG9),(18,oH)] [(21,[(4,0,51,1010)]),(33,[(4,0,71,1012)]),(61,[(4,0,121,401900),(4,0,300121,401903)]),(63,[(4,0,128,401900)]),(67,[(4,0,401900,0),(4,0,401903,3)])] false [] [71]
def R9 :Prop×Bool:=
 let s:=((5:Int),(0:Int),(0:Int),(9:Int),())
 let c:=f5 (4:Int) (4:Int) (0:Int)
 let C:=cond (cond (cond (c.2.1 !=0) true (c.1.1 !=4)) true (c.1.2.1 !=4)) true (c.1.2.2.2.2.1 !=1)
 let A:=((0:Int),(1:Int),(0:Int),([103]:List UInt8),false,false,false,(65535:Int),(0:Int),((0:Int),(0:Int),([]:List Int),()),KU,(0:Int),((0:Int),(0:Int),([]:List CE),()),Ik,(0:Int),([]:List Int),(0:Int),([]:List AW),([]:List A8),(0:Int),(0:Int),(0:Int),(0:Int),([]:List UInt8),(0:Int),(0:Int),(0:Int),((0:Int),(0:Int),(0:Int),([]:List A0),()),())
 let h:=aM c.1 A (0:Int) (0:Int)
 let E:=cond (h.2.2.1 !=0) true (h.2.1 !=1)
 let B:=((0:Int),(3:Int),(0:Int),([102]:List UInt8),false,false,false,(65535:Int),(0:Int),((0:Int),(0:Int),([]:List Int),()),KU,(0:Int),((0:Int),(0:Int),([]:List CE),()),s,(0:Int),([]:List Int),(0:Int),([]:List AW),([]:List A8),(0:Int),(0:Int),(0:Int),(0:Int),([]:List UInt8),(0:Int),(0:Int),(0:Int),((0:Int),(0:Int),(0:Int),([]:List A0),()),())
 let i:=aM h.1 B (1:Int) (0:Int)
 let F:=cond (i.2.2.1 !=0) true (i.2.1 !=2)
 let j:=((0:Int),(3:Int),(0:Int),([102]:List UInt8),false,false,false,(65535:Int),(0:Int),((0:Int),(0:Int),([]:List Int),()),KU,(0:Int),((0:Int),(0:Int),([]:List CE),()),s,(0:Int),([]:List Int),(0:Int),([]:List AW),([]:List A8),(0:Int),(0:Int),(0:Int),(0:Int),([]:List UInt8),(0:Int),(0:Int),(0:Int),((0:Int),(0:Int),(0:Int),([]:List A0),()),())
 let b:=aM i.1 j (0:Int) (0:Int)
 let v:=cond (b.2.2.1 !=0) true (b.2.1 !=3)
 let H:=f40 b.1
 let J:=([(3:Int),(1:Int),(2:Int)]:List Int)
 let w:=cond v true (!(aH H J))
 let K:=oZ2 b.1 (0:Int)
 let L:=([(3:Int),(1:Int)]:List Int)
 let M:=cond w true (!(aH K L))
 let N:=cond M true (f20 b.1 (2:Int)!=2)
 let O:=cond N true (f7 b.1!=0)
 let d:=f41 b.1 (3:Int) (1:Int) (1:Int)
 let e:=d.2.1 !=0
 let m:=f40 d.1
 let n:=([(1:Int),(2:Int),(3:Int)]:List Int)
 let o:=cond e true (!(aH m n))
 let q:=(f41 b.1 (1:Int) (1:Int) (0:Int)).2.1 !=11
 let k:=((0:Int),(3:Int),(0:Int),([102]:List UInt8),false,false,true,(65535:Int),(0:Int),((0:Int),(0:Int),([]:List Int),()),KU,(0:Int),((0:Int),(0:Int),([]:List CE),()),s,(0:Int),([]:List Int),(0:Int),([]:List AW),([]:List A8),(0:Int),(0:Int),(0:Int),(0:Int),([]:List UInt8),(0:Int),(0:Int),(0:Int),((0:Int),(0:Int),(0:Int),([]:List A0),()),())
 let r:=(aM b.1 k (0:Int) (0:Int)).2.2.1 !=14
 let a:=f42 b.1 (1:Int)
 let f:=cond (a.2.2.1==0) (a.2.1==4) false
 let l:=(a.1.1,a.1.2.1,a.1.2.2.1,a.1.2.2.2.1,a.1.2.2.2.2.1,(Q1 a.1).1,(Q3 a.1).1,(Q0 a.1).1,())
 let t:=f40 l
 let u:=([(3:Int),(1:Int),(2:Int),(4:Int),(5:Int)]:List Int)
 let g:=cond (cond f (aH t u) false) (a.1.2.2.2.2.1==6) false
 let z:=cond F false (cond O false (cond o false (cond q false (cond r false (cond g ((nth a.1.2.2.2.1 (4:Int) A9).2.2.1==4) false)))))
 (Pd (4:Int) (4:Int) (0:Int)/\((!C)=true->R3 c.1 A (0:Int) (0:Int)/\((!E)=true->R3 h.1 B (1:Int) (0:Int)/\((!F)=true->R3 i.1 j (0:Int) (0:Int)/\((!v)=true->qA b.1)/\((!v)=true->Rk H J)/\((!w)=true->aI b.1 (0:Int))/\((!w)=true->Rk K L)/\((!M)=true->pO7 b.1 (2:Int))/\((!N)=true->Jl b.1)/\((!O)=true->qV b.1 (3:Int) (1:Int) (1:Int)/\((!e)=true->qA d.1)/\((!e)=true->Rk m n)/\((!o)=true->qV b.1 (1:Int) (1:Int) (0:Int)/\((!q)=true->R3 b.1 k (0:Int) (0:Int)/\((!r)=true->pP0 b.1 (1:Int)/\(f=true->qA l)/\(f=true->Rk t u)/\(g=true->A6 (4:Int) (len a.1.2.2.2.1))/\(g=true->(4:Int)<len a.1.2.2.2.1)))))))),cond C false (cond E false z))
def Vi :Prop:=(R9).1
def aQ :Bool:=(R9).2
def nQ4:Am.Spec:=fnSpec [] vB [] (λx=>Vi ) (λx=>aQ ) (λ_=>())
theorem lR0:SK 10 (fnSpec [] vB [] (λx=>Vi ) (λx=>aQ ) (λ_=>())):=fb Tryz.func10 160 [kb lE1,kb Qv,kb lP8,kb qU5,kb lP9,kb lQ2,kb lQ3,kb lQ9,kb lR] [] [(51,[(4,0,131,400900),(4,0,300131,400903)])]
def f3t (e:AS):Prop×Bool:=
 let a:=f5 e.1 e.2.1 e.2.2.1
 let b:=f6 e.1 e.2.1 e.2.2.1
 let c:=f7 e==f8 e
 let d:=cond c (f9 a.1 a.2.1 b.1 b.2.1) false
 (Pd e.1 e.2.1 e.2.2.1/\fY e.1 e.2.1 e.2.2.1/\Jl e/\nN7 e/\(c=true->aG a.1 a.2.1 b.1 b.2.1)/\(d=true->Vi),cond d aQ false)
def f3_ok a:=(f3t a).1
def f3 a:=(f3t a).2
def mW:=AP Ao vB f3_ok f3
def lR1:=Cy [(5,mE2),(6,oK7),(7,oQ1),(8,mT5),(9,mT6),(10,nQ4)] [] [] 42
theorem f3_is:SK 3 mW:=fq (c:=lR1) Tryz.func3 ⟨lE1,lE4,Qv,lU9,lV,lR0,trivial⟩
end Go.Proofs.YtgjdonlgingdeaaGreatDoor.Am
