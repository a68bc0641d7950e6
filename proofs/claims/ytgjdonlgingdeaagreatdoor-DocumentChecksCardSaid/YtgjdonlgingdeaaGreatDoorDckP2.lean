/- Printed by program, part 2. No condition. -/
import Derived.Test.YtgjdonlgingdeaaGreatDoorDckL
set_option linter.unusedVariables false
set_option synthInstance.maxSize 4000
set_option synthInstance.maxHeartbeats 400000
namespace Go.Proofs.YtgjdonlgingdeaaGreatDoor.Am
open Go Go.Am Go.Proofs
open Go.IntKind (wrap)
open _root_.Int (sub tdiv tmod toNat)
open _root_.List (length replicate set)
def Pb :Prop×Int:=
 (True,(4:Int))
def SI :Prop:=(Pb).1
def W4 :Int:=(Pb).2
def nM1:Am.Spec:=fnSpec [] vI [] (λx=>SI ) (λx=>W4 ) (λ_=>())
theorem lE0:SK 47 (fnSpec [] vI [] (λx=>SI ) (λx=>W4 ) (λ_=>())):=fb Tryz.func47 1
def LD (c:AS):Prop×Int:=
 let a:=cond (cond (cond (decide (c.1<1)) true (decide (c.1>256))) true (decide (c.2.1<1))) true (decide (c.2.1>256))
 let b:=decide (c.2.2.1<0)
 ((!a)=true->(!b)=true->SI,cond a (15:Int) (cond (cond b true (decide (c.2.2.1≥W4))) (2:Int) (0:Int)))
def Pc a:=(LD a).1
def Nr a:=(LD a).2
def nM2:=AP Ao vI Pc Nr
def mE1:=Cy [(47,nM1)] [] [] 30
theorem nX5:SK 22 nM2:=fq (c:=mE1) Tryz.func22 ⟨lE0,trivial⟩
def fV (e f g:Int):Prop×(AS×Int×Unit):=
 let b:=(e,f,g,([]:List AK),(1:Int),((0:Int),(0:Int),([]:List Int),()),([]:List BZ),([]:List C0),())
 let c:=Nr b
 let a:=c !=0
 let d:=(cond a (0:Int) e,cond a (0:Int) f,cond a (0:Int) g,([]:List AK),cond a (0:Int) (1:Int),(cond a (0:Int) (0:Int),cond a (0:Int) (0:Int),([]:List Int),()),([]:List BZ),([]:List C0),())
 (Pc b,(d,cond a c (0:Int),()))
def Pd a b c:=(fV a b c).1
def f5 a b c:=(fV a b c).2
def mE2:=DN vI vI vI (.tup (.cons Ao (.cons vI .nl))) Pd f5
theorem lE1:SK 5 (DN vI vI vI (.tup (.cons Ao (.cons vI .nl))) Pd f5):=fb Tryz.func5 21 [kb nX5]
def W5 :Prop×Int:=
 (True,(4:Int))
def oK6 :Prop:=(W5).1
def fX :Int:=(W5).2
def nM3:Am.Spec:=fnSpec [] vI [] (λx=>oK6 ) (λx=>fX ) (λ_=>())
theorem lE2:SK 23 (fnSpec [] vI [] (λx=>oK6 ) (λx=>fX ) (λ_=>())):=fb Tryz.func23 1
def f6t (e f g:Int):Prop×(AS×Int×Unit):=
 let a:=cond (cond (cond (decide (e<1)) true (decide (e>256))) true (decide (f<1))) true (decide (f>256))
 let c:=decide (g<0)
 let b:=cond c true (decide (g≥fX))
 let d:=(cond a (0:Int) (cond b (0:Int) e),cond a (0:Int) (cond b (0:Int) f),cond a (0:Int) (cond b (0:Int) g),([]:List AK),cond a (0:Int) (cond b (0:Int) (1:Int)),(cond a (0:Int) (cond b (0:Int) (0:Int)),cond a (0:Int) (cond b (0:Int) (0:Int)),([]:List Int),()),([]:List BZ),([]:List C0),())
 ((!a)=true->(!c)=true->oK6,(d,cond a (15:Int) (cond b (2:Int) (0:Int)),()))
def fY a b c:=(f6t a b c).1
def f6 a b c:=(f6t a b c).2
def oK7:=DN vI vI vI (.tup (.cons Ao (.cons vI .nl))) fY f6
def lE3:=Cy [(23,nM3)] [] [] 35
theorem lE4:SK 6 oK7:=fq (c:=lE3) Tryz.func6 ⟨lE2,trivial⟩
def Pe (a:Int):Prop×Bool:=
 (True,cond (decide (a≥0)) (decide (a<=65535)) false)
def W6 a:=(Pe a).1
def f57 a:=(Pe a).2
theorem lE5:SK 57 (AP vI vB W6 f57):=fb Tryz.func57 9
abbrev Gi:Type:=((List Int)×Int×Unit)
def SJ (y:Gi)(x:AA):Prop×Bool×AA×Bool×Bool:=
 let d:=y.1
 let a:=x.1
 let b:=decide (a<y.2.1)
 let e:=nth d a (0:Int)
 let c:=!(f57 e)
 (b=true->A6 a (len d)/\W6 e/\((!c)=true->A5 (a+1)),b&&(!c),(a+1,()),b&&c,!b)
def W7 y x:=(SJ y x).1
def fZ y x:=(SJ y x).2.1
def jU y x:=(SJ y x).2.2.1
def qQ y x:=(SJ y x).2.2.2.1
def oK8 y x:=(SJ y x).2.2.2.2
def rB2 (y:Gi)(x:AA):Int:=
 (2:Int)
def oK9:=li [(42,Ak),(43,vI)] [(44,vI)] fZ jU W7 (λy x=>[ex 1 (some (qQ y x)) [(2,vI)] ((rB2 y x),()),ex 2 (some (oK8 y x)) [] ()]) [[(2,vI)],[]]
def Pf (g:Ge):Prop×Int:=
 let b:=cond (cond (cond (decide (g.1<0)) true (decide (g.1>256))) true (decide (g.2.1<0))) true (decide (g.2.1>256))
 let c:=!(Ty.eqb .bool (g.1==0) (g.2.1==0))
 let d:=cond c true (len g.2.2.1!=(g.1*g.2.1))
 let a:=(g.2.2.1,len g.2.2.1,())
 let f:=((0:Int),())
 let e:=A3 (fZ a) (jU a) f
 ((!b)=true->((!c)=true->A5 (g.1*g.2.1))/\((!d)=true->Am.Ends (fZ a) (jU a) (W7 a) f),cond b (15:Int) (cond d (15:Int) (cond (qQ a e) (rB2 a e) (0:Int))))
def Ns a:=(Pf a).1
def SL a:=(Pf a).2
theorem nX6:SK 29 (AP Ca vI Ns SL):=fb Tryz.func29 52 [kb lE5] [(6,oK9)]
def Pg (a:AK):Prop×Bool:=
 (True,cond (cond (a.2.1==7) true (a.2.1==8)) true (a.2.1==11))
def Ph a:=(Pg a).1
def Jf a:=(Pg a).2
theorem oL:SK 50 (AP Bb vB Ph Jf):=fb Tryz.func50 16
def jV (o:Int):Prop×(List UInt8):=
 let l:=o==1
 let m:=o==2
 let n:=o==3
 let e:=o==4
 let f:=o==5
 let g:=o==6
 let h:=o==7
 let i:=o==8
 let j:=o==9
 let k:=o==10
 let c:=cond i ([102,105,108,116,101,114]:List UInt8) (cond j ([108,105,110,107]:List UInt8) (cond k ([99,108,111,110,101]:List UInt8) ([119,97,114,112]:List UInt8)))
 let d:=cond e ([103,114,97,100,105,101,110,116]:List UInt8) (cond f ([112,97,116,104]:List UInt8) (cond g ([116,101,120,116]:List UInt8) (cond h ([97,100,106,117,115,116]:List UInt8) c)))
 let b:=cond n true (cond e true (cond f true (cond g true (cond h true (cond i true (cond j true (cond k true (o==11))))))))
 let a:=cond (cond l true (cond m true b)) (cond l ([103,114,111,117,112]:List UInt8) (cond m ([105,109,97,103,101]:List UInt8) (cond n ([102,105,108,108]:List UInt8) d))) ([]:List UInt8)
 (True,a)
def qY5 a:=(jV a).1
def Hc a:=(jV a).2
theorem mE3:SK 113 (AP vI vS qY5 Hc):=fb Tryz.func113 26
abbrev Nt:Type:=((List UInt8)×Int×Unit)
def tU (y:Nt)(x:AA):Prop×Bool×AA×Bool×Bool:=
 let e:=y.1
 let a:=x.1
 let b:=decide (a<y.2.1)
 let d:=decide (BN e a<33)
 let c:=cond d true (decide (BN e a>126))
 (b=true->A6 a (len e)/\((!d)=true->A6 a (len e))/\((!c)=true->A5 (a+1)),b&&(!c),(a+1,()),b&&c,!b)
def rS y x:=(tU y x).1
def SM y x:=(tU y x).2.1
def SN y x:=(tU y x).2.2.1
def rS0 y x:=(tU y x).2.2.2.1
def pW8 y x:=(tU y x).2.2.2.2
def sO (y:Nt)(x:AA):Bool:=
 false
def pW9:=li [(0,vS),(13,vI)] [(14,vI)] SM SN rS (λy x=>[ex 1 (some (rS0 y x)) [(2,vB)] ((sO y x),()),ex 2 (some (pW8 y x)) [] ()]) [[(2,vB)],[]]
def lE6 (e:List UInt8):Prop×Bool:=
 let b:=cond (decide (len e<1)) true (decide (len e>32))
 let a:=(e,len e,())
 let d:=((0:Int),())
 let c:=A3 (SM a) (SN a) d
 ((!b)=true->Am.Ends (SM a) (SN a) (rS a) d,cond b false (cond (rS0 a c) (sO a c) true))
def qY6 a:=(lE6 a).1
def LF a:=(lE6 a).2
theorem mE4:SK 114 (AP vS vB qY6 LF):=fb Tryz.func114 28 [] [(4,pW9)]
def lE7 (a:Int):Prop×Bool:=
 (True,cond (decide (a≥0)) (decide (a<=1073741824)) false)
def jW a:=(lE7 a).1
def Pj a:=(lE7 a).2
theorem mE5:SK 115 (AP vI vB jW Pj):=fb Tryz.func115 9
def lE8 (a:Int):Prop×Bool:=
 (True,cond (decide (a≥0)) (decide (a<=65535)) false)
def qY7 a:=(lE8 a).1
def W8 a:=(lE8 a).2
theorem mE6:SK 116 (AP vI vB qY7 W8):=fb Tryz.func116 9
def lE9 (a:Int):Prop×Bool:=
 (True,cond (decide (a≥0)) (decide (a<18)) false)
def qY8 a:=(lE9 a).1
def Pk a:=(lE9 a).2
theorem mE7:SK 117 (AP vI vB qY8 Pk):=fb Tryz.func117 9
def Pl (k:AK)(l m:Int):Prop×Int:=
 let b:=cond (cond (cond (decide (l<1)) true (decide (l>256))) true (decide (m<1))) true (decide (m>256))
 let c:=Hc k.2.1==([]:List UInt8)
 let d:=!(LF k.2.2.2.1)
 let e:=!(Pj k.1)
 let f:=cond e true (!(Pj k.2.2.1))
 let g:=cond f true (!(W8 (Q0 k).1))
 let h:=!(Pk (Q5 k).1)
 let i:=cond h true (cond (Jf k) ((Q5 k).1 !=0) false)
 let j:=SL (Q4 k).1
 let a:=cond (j !=0) j (cond (cond ((Q4 k).1.1 !=0) (cond ((Q4 k).1.1 !=l) true ((Q4 k).1.2.1 !=m)) false) (15:Int) (0:Int))
 ((!b)=true->qY5 k.2.1/\((!c)=true->qY6 k.2.2.2.1/\((!d)=true->jW k.1/\((!e)=true->jW k.2.2.1)/\((!f)=true->qY7 (Q0 k).1)/\((!g)=true->qY8 (Q5 k).1/\((!h)=true->Ph k)/\((!i)=true->Ns (Q4 k).1)))),cond b (15:Int) (cond c (8:Int) (cond d (13:Int) (cond g (2:Int) (cond i (8:Int) a)))))
def oL0 a b c:=(Pl a b c).1
def KV a b c:=(Pl a b c).2
theorem lF:SK 80 (DN Bb vI vI vI oL0 KV):=fb Tryz.func80 83 [kb nX6,kb oL,kb mE3,kb mE4,kb mE5,kb mE6,kb mE7]
def Pm (e:Int):Prop×Bool:=
 let a:=e==2
 let b:=e==5
 let c:=e==6
 let d:=e==9
 (True,cond (cond a a (cond b b (cond c c (cond d d (e==10))))) true false)
def jX a:=(Pm a).1
def Nu a:=(Pm a).2
theorem nX7:SK 81 (AP vI vB jX Nu):=fb Tryz.func81 10
def W9 (a b c:Int):Prop×Int:=
 (True,G7 c (wC a b))
def Nv a b c:=(W9 a b c).1
def DC a b c:=(W9 a b c).2
theorem qY9:SK 194 (DN vI vI vI vI Nv DC):=fb Tryz.func194 12 [] [] [] true
def lF0 (a:Int):Prop×Int:=
 (Nv a (-16777216:Int) (16777216:Int),DC a (-16777216:Int) (16777216:Int))
def SO a:=(lF0 a).1
def JN a:=(lF0 a).2
theorem mE8:SK 155 (AP vI vI SO JN):=fb Tryz.func155 5 [kb qY9]
def lF1 (a:Int):Prop×Int:=
 (Nv a (-1099511627776:Int) (1099511627776:Int),DC a (-1099511627776:Int) (1099511627776:Int))
def Nw a:=(lF1 a).1
def Gj a:=(lF1 a).2
theorem oL2:SK 156 (AP vI vI Nw Gj):=fb Tryz.func156 5 [kb qY9] [] [] true
def lF2 (a:C4):Prop×C4:=
 (SO a.1/\SO a.2.1/\SO a.2.2.1/\SO a.2.2.2.1/\Nw a.2.2.2.2.1/\Nw (Q1 a).1,(JN a.1,JN a.2.1,JN a.2.2.1,JN a.2.2.2.1,Gj a.2.2.2.2.1,Gj (Q1 a).1,()))
def jY a:=(lF2 a).1
def JO a:=(lF2 a).2
theorem oL3:SK 118 (AP Ay Ay jY JO):=fb Tryz.func118 22 [kb mE8,kb oL2] [] [] true
def WA (a:C4):Prop×Int:=
 (jY a,cond (!(Ty.eqb H9 a (JO a))) (2:Int) (0:Int))
def Nx a:=(WA a).1
def EM a:=(WA a).2
theorem jZ:SK 82 (AP Ay vI Nx EM):=fb Tryz.func82 7 [kb oL3]
def mE9 (d e f g:Int):Prop×Int:=
 let a:=f157 e (65536:Int)
 let b:=f157 g (65536:Int)
 let c:=wrap .i64 (wrap .i64 (d*wrap .i64 (e-(wrap .i64 (a*65536))))+wrap .i64 (f*wrap .i64 (g-(wrap .i64 (b*65536)))))
 (OX e (65536:Int)/\OX g (65536:Int)/\Ed c (65536:Int),wrap .i64 (wrap .i64 (wrap .i64 (d*a)+wrap .i64 (f*b))+AM c (65536:Int)))
def SP a b c d:=(mE9 a b c d).1
def Hd a b c d:=(mE9 a b c d).2
theorem oL4:SK 120 (Fw vI vI vI vI vI SP Hd):=fb Tryz.func120 37 [kb JL,kb oJ9] [] [] true
def Pn (p:C4):Prop×(C4×Int×Unit):=
 let v:=EM p
 let c:=v !=0
 let a:=wrap .i64 (wrap .i64 (p.1*p.2.2.2.1)-(wrap .i64 (p.2.1*p.2.2.1)))
 let d:=a==0
 let l:=wrap .i64 (p.2.2.2.1*4294967296)
 let e:=AM l a
 let m:=wrap .i64 (wrap .i64 (sub 0 p.2.1)*4294967296)
 let f:=AM m a
 let n:=wrap .i64 (wrap .i64 (sub 0 p.2.2.1)*4294967296)
 let g:=AM n a
 let o:=wrap .i64 (p.1*4294967296)
 let h:=AM o a
 let k:=(e,f,g,h,(0:Int),(0:Int),())
 let i:=EM k !=0
 let q:=wrap .i64 (sub 0 e)
 let r:=wrap .i64 (sub 0 g)
 let s:=wrap .i64 (sub 0 f)
 let t:=wrap .i64 (sub 0 h)
 let b:=(e,f,g,h,Hd q p.2.2.2.2.1 r (Q1 p).1,Hd s p.2.2.2.2.1 t (Q1 p).1,())
 let u:=EM b !=0
 let j:=cond d ((0:Int),(0:Int),(0:Int),(0:Int),(0:Int),(0:Int),()) (cond i ((0:Int),(0:Int),(0:Int),(0:Int),(0:Int),(0:Int),()) (cond u ((0:Int),(0:Int),(0:Int),(0:Int),(0:Int),(0:Int),()) b))
 (Nx p/\((!c)=true->(!d)=true->Ed l a/\Ed m a/\Ed n a/\Ed o a/\Nx k/\((!i)=true->SP q p.2.2.2.2.1 r (Q1 p).1/\SP s p.2.2.2.2.1 t (Q1 p).1/\Nx b)),(cond c ((0:Int),(0:Int),(0:Int),(0:Int),(0:Int),(0:Int),()) j,cond c v (cond d (17:Int) (cond i (17:Int) (cond u (17:Int) (0:Int)))),()))
def oL5 a:=(Pn a).1
def SQ a:=(Pn a).2
theorem lF3:SK 83 (AP Ay (.tup (.cons Ay (.cons vI .nl))) oL5 SQ):=fb Tryz.func83 83 [kb jZ,kb JL,kb oL4] [] [] true
def Po (d:Int):Prop×Bool:=
 let a:=d==2
 let b:=d==9
 let c:=d==10
 (True,cond (cond a a (cond b b (cond c c (d==11)))) true false)
def j6 a:=(Po a).1
def Ny a:=(Po a).2
theorem nX8:SK 84 (AP vI vB j6 Ny):=fb Tryz.func84 9
def WB (a:Int):Prop×Bool:=
 (True,cond (decide (a≥0)) (decide (a<=4)) false)
def oL6 a:=(WB a).1
def j7 a:=(WB a).2
theorem lF4:SK 85 (AP vI vB oL6 j7):=fb Tryz.func85 9
def LG (a b:Int):Prop×Bool:=
 (True,cond (cond (cond (cond (decide (a≥0)) (decide (a<=256)) false) (decide (b≥0)) false) (decide (b<=256)) false) (Ty.eqb .bool (a==0) (b==0)) false)
def WC a b:=(LG a b).1
def SR a b:=(LG a b).2
theorem lF5:SK 89 (BG vI vI vB WC SR):=fb Tryz.func89 26
def mF (a:Int):Prop×Int:=
 (Nv a (0:Int) (65535:Int),DC a (0:Int) (65535:Int))
def Nz a:=(mF a).1
def JP a:=(mF a).2
theorem mF0:SK 172 (AP vI vI Nz JP):=fb Tryz.func172 5 [kb qY9]
def mF1 (a:CE):Prop×CE:=
 (Nz a.1/\Nz a.2.1/\Nz a.2.2.1/\Nz a.2.2.2.1,(JP a.1,JP a.2.1,JP a.2.2.1,JP a.2.2.2.1,()))
def WD a:=(mF1 a).1
def WE a:=(mF1 a).2
theorem mF2:SK 128 (AP Cj Cj WD WE):=fb Tryz.func128 16 [kb mF0]
def Pp (a:CE):Prop×Bool:=
 (WD a,Ty.eqb Gf a (WE a))
def N0 a:=(Pp a).1
def N1 a:=(Pp a).2
theorem j8:SK 90 (AP Cj vB N0 N1):=fb Tryz.func90 7 [kb mF2]
abbrev uM5:Type:=((List CE)×Int×Unit)
def SS (y:uM5)(x:AA):Prop×Bool×AA×Bool×Bool:=
 let d:=y.1
 let a:=x.1
 let b:=decide (a<y.2.1)
 let e:=nth d a Ik
 let c:=!(N1 e)
 (b=true->A6 a (len d)/\N0 e/\((!c)=true->A5 (a+1)),b&&(!c),(a+1,()),b&&c,!b)
def WG y x:=(SS y x).1
def j9 y x:=(SS y x).2.1
def k7 y x:=(SS y x).2.2.1
def qQ1 y x:=(SS y x).2.2.2.1
def oL7 y x:=(SS y x).2.2.2.2
def rB5 (y:uM5)(x:AA):Int:=
 (2:Int)
def oL8:=li [(23,Dy),(24,vI)] [(25,vI)] j9 k7 WG (λy x=>[ex 1 (some (qQ1 y x)) [(2,vI)] ((rB5 y x),()),ex 2 (some (oL7 y x)) [] ()]) [[(2,vI)],[]]
def Pq (f:HD):Prop×Int:=
 let b:=!(SR f.1 f.2.1)
 let c:=cond b true (len f.2.2.1!=(f.1*f.2.1))
 let a:=(f.2.2.1,len f.2.2.1,())
 let e:=((0:Int),())
 let d:=A3 (j9 a) (k7 a) e
 (WC f.1 f.2.1/\((!b)=true->A5 (f.1*f.2.1))/\((!c)=true->Am.Ends (j9 a) (k7 a) (WG a) e),cond c (15:Int) (cond (qQ1 a d) (rB5 a d) (0:Int)))
def Pr a:=(Pq a).1
def KW a:=(Pq a).2
theorem nX9:SK 52 (AP Cd vI Pr KW):=fb Tryz.func52 33 [kb lF5,kb j8] [(4,oL8)]
def lF6 (a:CE):Prop×Int:=
 (N0 a,cond (!(N1 a)) (2:Int) (0:Int))
def sG a:=(lF6 a).1
def He a:=(lF6 a).2
def oL9:=AP Cj vI sG He
theorem qZ:SK 121 (AP Cj vI sG He):=fb Tryz.func121 6 [kb j8]
def mF3 (a b:Int):Prop×Bool:=
 (True,cond (a==1) (b==4) (b==3))
def qZ0 a b:=(mF3 a b).1
def f195 a b:=(mF3 a b).2
theorem mF4:SK 195 (BG vI vI vB qZ0 f195):=fb Tryz.func195 11
abbrev vV6:Type:=(Int×(List Int)×(List Int)×Int×Unit)
def WH (y:vV6)(x:AA):Prop×Bool×AA×Bool×Bool:=
 let d:=y.2.2.1
 let a:=x.1
 let b:=decide (a<y.2.2.2.1)
 let e:=nth d a (0:Int)
 let c:=cond (decide (e<(-1048576))) true (decide (e>1048576))
 (b=true->A6 a (len d)/\((!c)=true->A5 (a+1)),b&&(!c),(a+1,()),b&&c,!b)
def rS1 y x:=(WH y x).1
def k8 y x:=(WH y x).2.1
def lZ y x:=(WH y x).2.2.1
def rS2 y x:=(WH y x).2.2.2.1
def rS3 y x:=(WH y x).2.2.2.2
def sO2 (y:vV6)(x:AA):Int:=
 (2:Int)
def rS4:List (Nat×Sh):=[(0,vI),(1,Ak)]
def pX:=li [(0,vI),(1,Ak),(36,Ak),(37,vI)] [(38,vI)] k8 lZ rS1 (λy x=>[ex 1 (some (rS2 y x)) [(8,vI)] ((sO2 y x),()),ex 2 (some (rS3 y x)) rS4 (y.1,y.2.1,())]) [[(8,vI)],rS4]
def lF7 (j:Int)(k:List Int)(l m:Int):Prop×Int:=
 let c:=cond (cond (cond (decide (j<1)) true (decide (j>4))) true (decide (l<0))) true (decide (l>2))
 let d:=len k
 let e:=cond (!(f195 j d)) true (m==0)
 let f:=decide (m>16)
 let a:=(j,k,k,len k,())
 let i:=((0:Int),())
 let h:=A3 (k8 a) (lZ a) i
 let g:=cond (j==2) true (j==4)
 let b:=cond e (1:Int) (cond f (3:Int) (cond (rS2 a h) (sO2 a h) (cond (cond g (decide (nth k (2:Int) (0:Int)<0)) false) (2:Int) (0:Int))))
 ((!c)=true->qZ0 j d/\((!e)=true->(!f)=true->Am.Ends (k8 a) (lZ a) (rS1 a) i/\(rS3 a h=true->g=true->A6 (2:Int) (len k))),cond c (8:Int) b)
def qZ1 a b c d:=(lF7 a b c d).1
def JQ a b c d:=(lF7 a b c d).2
theorem mF5:SK 158 (Fw vI Ak vI vI vI qZ1 JQ):=fb Tryz.func158 61 [kb mF4] [(8,pX)]
abbrev vV7:Type:=((List AW)×(List AW)×Int×Unit)
def Ps (y:vV7)(x:AA):Prop×Bool×AA×Bool×Bool:=
 let j:=y.1
 let k:=y.2.1
 let c:=x.1
 let i:=decide (c<y.2.2.1)
 let a:=nth k c CO
 let f:=cond (decide (a.1<0)) true (decide (a.1>65535))
 let b:=cond f true (!(N1 a.2.1))
 let d:=decide (c>0)
 let g:=c-1
 let h:=cond d (decide (a.1<=(nth j g CO).1)) false
 let e:=(!b)&&(!h)
 (i=true->A6 c (len k)/\((!f)=true->N0 a.2.1)/\((!b)=true->(d=true->A5 (c-1))/\(d=true->A6 g (len j)))/\(e=true->A5 (c+1)),i&&e,(c+1,()),i&&(b||((!b)&&h)),!i)
def rS5 y x:=(Ps y x).1
def l5 y x:=(Ps y x).2.1
def uW9 y x:=(Ps y x).2.2.1
def sG0 y x:=(Ps y x).2.2.2.1
def pX0 y x:=(Ps y x).2.2.2.2
def uX (y:vV7)(x:AA):Int:=
 let a:=nth y.2.1 x.1 CO
 (cond (cond (cond (decide (a.1<0)) true (decide (a.1>65535))) true (!(N1 a.2.1))) (2:Int) (24:Int))
def pX1:=li [(0,An),(5,An),(6,vI)] [(7,vI)] l5 uW9 rS5 (λy x=>[ex 1 (some (sG0 y x)) [(2,vI)] ((uX y x),()),ex 2 (some (pX0 y x)) [] ()]) [[(2,vI)],[]]
def mF6 (d:List AW):Prop×Int:=
 let a:=(d,d,len d,())
 let c:=((0:Int),())
 let b:=A3 (l5 a) (uW9 a) c
 (Am.Ends (l5 a) (uW9 a) (rS5 a) c,cond (sG0 a b) (uX a b) (0:Int))
def l6 a:=(mF6 a).1
def JR a:=(mF6 a).2
theorem mF7:SK 159 (AP An vI l6 JR):=fb Tryz.func159 40 [kb j8] [(2,pX1)]
def lF8 (d:Int)(e:List Int)(f:Int)(g:List AW):Prop×Int:=
 let a:=len g
 let b:=JQ d e f a
 let c:=b !=0
 (qZ1 d e f a/\((!c)=true->l6 g),cond c b (JR g))
def qZ2 a b c d:=(lF8 a b c d).1
def LH a b c d:=(lF8 a b c d).2
theorem mF8:SK 122 (Fw vI Ak vI An vI qZ2 LH):=fb Tryz.func122 21 [kb mF5,kb mF7]
def mF9 (c:Int):Prop×Int:=
 let a:=c==3
 let b:=c==4
 (True,cond (cond a true (cond b true (c==5))) (cond a (2:Int) (cond b (3:Int) (0:Int))) (1:Int))
def l7 a:=(mF9 a).1
def BM a:=(mF9 a).2
theorem oM:SK 197 (AP vI vI l7 BM):=fb Tryz.func197 10
def WI (a:A0):Prop×Bool:=
 (True,cond (cond (cond (decide (a.1<(-16777216))) true (decide (a.1>16777216))) true (decide (a.2.1<(-16777216)))) true (decide (a.2.1>16777216)))
def SU a:=(WI a).1
def f199 a:=(WI a).2
theorem qZ3:SK 199 (AP Aq vB SU f199):=fb Tryz.func199 21
abbrev vL8:Type:=((List A8)×Int×A8×(List A8)×Int×Int×(List A0)×Unit)
def Pt (y:vL8)(x:AA):Prop×Bool×AA×Bool×Bool:=
 let f:=y.2.2.1
 let a:=x.1
 let b:=decide (a<3)
 let c:=nth (Q3 y).1 a A1
 let e:=f199 c
 let d:=cond e true (cond (decide (a≥BM f.1)) (!(Ty.eqb AN c ((0:Int),(0:Int),()))) false)
 (b=true->A6 a 3/\SU c/\((!e)=true->l7 f.1)/\((!d)=true->A5 (a+1)),b&&(!d),(a+1,()),b&&d,!b)
def l8 y x:=(Pt y x).1
def Io y x:=(Pt y x).2.1
def KX y x:=(Pt y x).2.2.1
def WJ y x:=(Pt y x).2.2.2.1
def l9 y x:=(Pt y x).2.2.2.2
def uE (y:vL8)(x:AA):Int:=
 (2:Int)
def rS6:List (Nat×Sh):=[(0,Ai),(3,vI),(4,Bh),(10,Ai),(11,vI),(12,vI)]
def pX2:=li [(0,Ai),(3,vI),(4,Bh),(10,Ai),(11,vI),(12,vI),(26,(.val (.arr 3 AN)))] [(27,vI)] Io KX l8 (λy x=>[ex 1 (some (WJ y x)) [(2,vI)] ((uE y x),()),ex 4 (some (l9 y x)) rS6 (y.1,y.2.1,y.2.2.1,y.2.2.2.1,y.2.2.2.2.1,(Q1 y).1,())]) [[(2,vI)],rS6]
abbrev SV:Type:=((List A8)×(List A8)×Int×Unit)
def KY (y:SV)(x:AA):Prop×Bool×AA×Bool×Bool:=
 let n:=y.1
 let f:=y.2.1
 let j:=y.2.2.1
 let a:=x.1
 let d:=decide (a<j)
 let c:=nth f a A4
 let e:=cond (decide (c.1<1)) true (decide (c.1>5))
 let i:=(n,a,c,f,j,a,c.2.1,())
 let q:=((0:Int),())
 let o:=A3 (Io i) (KX i) q
 let b:=l9 i o
 let g:=c.1 !=1
 let h:=a==0
 let l:=a-1
 let m:=cond g (cond h true ((nth n l A4).1==5)) false
 let k:=(!e)&&(b&&(!m))
 (d=true->A6 a (len f)/\((!e)=true->Am.Ends (Io i) (KX i) (l8 i) q/\(b=true->((g&&(!h))=true->A5 (a-1))/\((g&&(!h))=true->A6 l (len n))))/\(k=true->A5 (a+1)),d&&k,(a+1,()),d&&(e||((!e)&&(WJ i o||(b&&m)))),!d)
def sG2 y x:=(KY y x).1
def Ip y x:=(KY y x).2.1
def LI y x:=(KY y x).2.2.1
def Pu y x:=(KY y x).2.2.2.1
def pX3 y x:=(KY y x).2.2.2.2
def WK (y:SV)(x:AA):Int:=
 let c:=y.2.1
 let b:=x.1
 let a:=nth c b A4
 let d:=(y.1,b,a,c,y.2.2.1,b,a.2.1,())
 let e:=A3 (Io d) (KX d) ((0:Int),())
 (cond (cond (decide (a.1<1)) true (decide (a.1>5))) (8:Int) (cond (WJ d e) (uE d e) (24:Int)))
def pX4:=li [(0,Ai),(10,Ai),(11,vI)] [(12,vI)] Ip LI sG2 (λy x=>[ex 1 (some (Pu y x)) [(2,vI)] ((WK y x),()),ex 2 (some (pX3 y x)) [] ()]) [[(2,vI)],[]]
def mG (e:List A8):Prop×Int:=
 let c:=decide (len e>128)
 let a:=(e,e,len e,())
 let d:=((0:Int),())
 let b:=A3 (Ip a) (LI a) d
 ((!c)=true->Am.Ends (Ip a) (LI a) (sG2 a) d,cond c (3:Int) (cond (Pu a b) (WK a b) (0:Int)))
def Pv a:=(mG a).1
def BE a:=(mG a).2
theorem n4:SK 196 (AP Ai vI Pv BE):=fb Tryz.func196 63 [kb oM,kb qZ3] [(4,pX4),(9,pX2)]
def lF9 (f:C4)(g:A0):Prop×A0:=
 let a:=JO f
 let b:=Gj g.1
 let c:=Gj g.2.1
 let d:=wrap .i64 (Hd a.1 b a.2.2.1 c+a.2.2.2.2.1)
 let e:=wrap .i64 (Hd a.2.1 b a.2.2.2.1 c+(Q1 a).1)
 (jY f/\Nw g.1/\Nw g.2.1/\SP a.1 b a.2.2.1 c/\Nw d/\SP a.2.1 b a.2.2.2.1 c/\Nw e,(Gj d,Gj e,()))
def qZ4 a b:=(lF9 a b).1
def JS a b:=(lF9 a b).2
theorem mG0:SK 226 (BG Ay Aq Aq qZ4 JS):=fb Tryz.func226 38 [kb oL3,kb oL4,kb oL2] [] [] true
def mG1 (b:C4)(c:A0):Prop×A0:=
 let s:=(wrap .i64 (4096*c.1),wrap .i64 (4096*c.2.1),())
 let a:=JS b s
 (qZ4 b s/\Ed a.1 (4096:Int)/\Ed a.2.1 (4096:Int),(AM a.1 (4096:Int),AM a.2.1 (4096:Int),()))
def n5 a b:=(mG1 a b).1
def DO a b:=(mG1 a b).2
theorem oM1:SK 198 (BG Ay Aq Aq n5 DO):=fb Tryz.func198 22 [kb JL,kb mG0] [] [] true
abbrev SW:Type:=(C4×Int×A8×(List A8)×Int×Int×Int×Unit)
abbrev Ee:Type:=((List A8)×Int×Unit)
def WL (y:SW)(x:Ee):Prop×Bool×Ee×Bool×Bool:=
 let h:=y.1
 let f:=y.2.1
 let e:=x.1
 let a:=x.2.1
 let b:=decide (a<(Q3 y).1)
 let g:=nth y.2.2.1.2.1 a A1
 let d:=DO h g
 let c:=f199 d
 (b=true->A6 a 3/\n5 h g/\SU d/\((!c)=true->A6 f (len e)/\A6 a 3/\f<len e)/\((!c)=true->A5 (a+1)),b&&(!c),(set e (toNat f) ((nth e f A4).1,set (nth e f A4).2.1 (toNat a) d,()),a+1,()),b&&c,!b)
def vH y x:=(WL y x).1
def Ef y x:=(WL y x).2.1
def El y x:=(WL y x).2.2.1
def WM y x:=(WL y x).2.2.2.1
def KZ y x:=(WL y x).2.2.2.2
def uM9 (y:SW)(x:Ee):(List A8):=
 ([]:List A8)
def tU3 (y:SW)(x:Ee):Int:=
 (2:Int)
def rB7:List (Nat×Sh):=[(4,Bj),(5,vI)]
def tU4 (y:SW)(x:Ee):(List A8):=
 x.1
def rB8:List (Nat×Sh):=[(3,Bp),(8,Ci),(26,Ai),(27,vI),(28,vI)]
def qZ5:=li [(3,Bp),(9,vI),(10,Bh),(26,Ai),(27,vI),(28,vI),(41,vI)] [(8,Ci),(42,vI)] Ef El vH (λy x=>[ex 1 (some (WM y x)) rB7 ((uM9 y x),(tU3 y x),()),ex 4 (some (KZ y x)) rB8 (y.1,(tU4 y x),y.2.2.2.1,y.2.2.2.2.1,(Q1 y).1,())]) [rB7,rB8]
abbrev WN:Type:=(C4×(List A8)×Int×Unit)
def WO (y:WN)(x:Ee):Prop×Bool×Ee×Bool×Bool:=
 let f:=y.2.1
 let h:=y.2.2.1
 let j:=x.1
 let a:=x.2.1
 let d:=decide (a<h)
 let e:=nth f a A4
 let b:=(y.1,a,e,f,h,a,BM e.1,())
 let i:=(set j (toNat a) (e.1,(nth j a A4).2.1,()),(0:Int),())
 let g:=A3 (Ef b) (El b) i
 let c:=KZ b g
 (d=true->A6 a (len f)/\A6 a (len j)/\a<len j/\l7 e.1/\Am.Ends (Ef b) (El b) (vH b) i/\(c=true->A5 (a+1)),d&&c,(tU4 b g,a+1,()),d&&WM b g,!d)
def N2 y x:=(WO y x).1
def Gk y x:=(WO y x).2.1
def Fx y x:=(WO y x).2.2.1
def N3 y x:=(WO y x).2.2.2.1
def pX5 y x:=(WO y x).2.2.2.2
def n9 (y:WN)(x:Ee):(List A8):=
 let d:=y.2.1
 let e:=x.1
 let a:=x.2.1
 let b:=nth d a A4
 let c:=(y.1,a,b,d,y.2.2.1,a,BM b.1,())
 (uM9 c (A3 (Ef c) (El c) (set e (toNat a) (b.1,(nth e a A4).2.1,()),(0:Int),())))
def uX1 (y:WN)(x:Ee):Int:=
 let d:=y.2.1
 let e:=x.1
 let a:=x.2.1
 let b:=nth d a A4
 let c:=(y.1,a,b,d,y.2.2.1,a,BM b.1,())
 (tU3 c (A3 (Ef c) (El c) (set e (toNat a) (b.1,(nth e a A4).2.1,()),(0:Int),())))
def rS7:List (Nat×Sh):=[(4,Bj),(5,vI)]
def vM (y:WN)(x:Ee):(List A8):=
 x.1
def pX6:=li [(3,Bp),(26,Ai),(27,vI)] [(8,Ci),(28,vI)] Gk Fx N2 (λy x=>[ex 1 (some (N3 y x)) rS7 ((n9 y x),(uX1 y x),()),ex 2 (some (pX5 y x)) [(8,Ci)] ((vM y x),())]) [rS7,[(8,Ci)]]
def LJ (j:List A8)(k:C4):Prop×((List A8)×Int×Unit):=
 let f:=BE j
 let d:=f !=0
 let g:=EM k
 let e:=g !=0
 let a:=len j
 let b:=(k,j,len j,())
 let i:=(replicate (toNat a) A4,(0:Int),())
 let h:=A3 (Gk b) (Fx b) i
 let c:=N3 b h
 (Pv j/\((!d)=true->Nx k/\((!e)=true->(0<=a/\a<=a/\a<=4294967296)/\Am.Ends (Gk b) (Fx b) (N2 b) i)),(cond d [] (cond e [] (cond c (n9 b h) (vM b h))),cond d f (cond e g (cond c (uX1 b h) (0:Int))),()))
def qZ6 a b:=(LJ a b).1
def BO a b:=(LJ a b).2
theorem mG2:SK 160 (BG Ai Ay (.tup (.cons Ai (.cons vI .nl))) qZ6 BO):=fb Tryz.func160 63 [kb jZ,kb n4,kb oM,kb oM1,kb qZ3] [(9,pX6),(13,qZ5)] [(15,[(4,0,25,1008)]),(43,[(1,4,0,0),(4,0,1008,0)])] false [] [25]
def qD (e:A0)(f:List A0):Prop×(Unit)×((List A0)×Unit):=
 let c:=len f
 let d:=c-1
 let a:=!(Ty.eqb AN e (nth f d A1))
 let b:=([e]:List A0)
 (A5 (c-1)/\A6 d (len f)/\(a=true->((length f+length b:Nat):Int)<=4294967296),(),(cond a (f++b) f,()))
def SX a b:=(qD a b).1
def mG3 a b:=(qD a b).2.1
def JT a b:=(qD a b).2.2
theorem pX7:SK 227 (fnSpec [(0,Aq),(1,Dt)] (.tup .nl) [(1,Dt)] (λx=>SX x.1 x.2.1) (λx=>mG3 x.1 x.2.1) (λx=>JT x.1 x.2.1)):=fb Tryz.func227 15 [] [] [(5,[(4,0,14,400100)])] false [1]
abbrev o6:Type:=(A8×A0×(Unit×Unit)×Unit)
abbrev CW:Type:=((List A0)×Int×Unit)
def tO7 (y:o6)(x:CW):Prop×Bool×CW:=
 let z:=y.1
 let A:=y.2.1
 let B:=x.1
 let b:=x.2.1
 let f:=decide (b<=8)
 let a:=8-b
 let c:=a*a
 let g:=2*b
 let d:=g*a
 let e:=b*b
 let h:=c*A.1
 let i:=(nth z.2.1 (0:Int) A1).1
 let j:=d*i
 let k:=h+j
 let l:=(nth z.2.1 (1:Int) A1).1
 let m:=e*l
 let n:=k+m
 let o:=c*A.2.1
 let q:=(nth z.2.1 (0:Int) A1).2.1
 let r:=d*q
 let t:=o+r
 let u:=(nth z.2.1 (1:Int) A1).2.1
 let v:=e*u
 let w:=t+v
 let s:=(AM n (64:Int),AM w (64:Int),())
 (f=true->A5 (8-b)/\A5 (a*a)/\A5 (2*b)/\A5 (g*a)/\A5 (b*b)/\A5 (c*A.1)/\A6 (0:Int) 3/\A5 (d*i)/\A5 (h+j)/\A6 (1:Int) 3/\A5 (e*l)/\A5 (k+m)/\Ed n (64:Int)/\A5 (c*A.2.1)/\A6 (0:Int) 3/\A5 (d*q)/\A5 (o+r)/\A6 (1:Int) 3/\A5 (e*u)/\A5 (t+v)/\Ed w (64:Int)/\SX s B/\A5 (b+1),f,((JT s B).1,b+1,()))
def tU6 y x:=(tO7 y x).1
def Pw y x:=(tO7 y x).2.1
def Px y x:=(tO7 y x).2.2
def uX2 (y:o6)(x:CW):(List A0):=
 x.1
def tU7:List (Nat×Sh):=[(2,Cb)]
def qD0:=li [(3,Bh),(5,Bz),(6,(.fn 227 (.cons (.ref 2 Ad) .nl)))] [(2,Cb),(7,vI)] Pw Px tU6 (λy x=>[ex 3 none tU7 ((uX2 y x),())]) [tU7]
def uX3 (y:o6)(x:CW):Prop×Bool×CW:=
 let N:=y.1
 let Q:=y.2.1
 let R:=x.1
 let b:=x.2.1
 let O:=decide (b<=16)
 let a:=16-b
 let g:=a*a
 let c:=g*a
 let h:=3*b
 let i:=h*a
 let d:=i*a
 let j:=3*b
 let k:=j*b
 let e:=k*a
 let l:=b*b
 let f:=l*b
 let m:=c*Q.1
 let n:=(nth N.2.1 (0:Int) A1).1
 let o:=d*n
 let q:=m+o
 let r:=(nth N.2.1 (1:Int) A1).1
 let t:=e*r
 let u:=q+t
 let v:=(nth N.2.1 (2:Int) A1).1
 let w:=f*v
 let z:=u+w
 let A:=c*Q.2.1
 let B:=(nth N.2.1 (0:Int) A1).2.1
 let C:=d*B
 let E:=A+C
 let F:=(nth N.2.1 (1:Int) A1).2.1
 let H:=e*F
 let J:=E+H
 let K:=(nth N.2.1 (2:Int) A1).2.1
 let L:=f*K
 let M:=J+L
 let s:=(AM z (4096:Int),AM M (4096:Int),())
 (O=true->A5 (16-b)/\A5 (a*a)/\A5 (g*a)/\A5 (3*b)/\A5 (h*a)/\A5 (i*a)/\A5 (3*b)/\A5 (j*b)/\A5 (k*a)/\A5 (b*b)/\A5 (l*b)/\A5 (c*Q.1)/\A6 (0:Int) 3/\A5 (d*n)/\A5 (m+o)/\A6 (1:Int) 3/\A5 (e*r)/\A5 (q+t)/\A6 (2:Int) 3/\A5 (f*v)/\A5 (u+w)/\Ed z (4096:Int)/\A5 (c*Q.2.1)/\A6 (0:Int) 3/\A5 (d*B)/\A5 (A+C)/\A6 (1:Int) 3/\A5 (e*F)/\A5 (E+H)/\A6 (2:Int) 3/\A5 (f*K)/\A5 (J+L)/\Ed M (4096:Int)/\SX s R/\A5 (b+1),O,((JT s R).1,b+1,()))
def tM7 y x:=(uX3 y x).1
def Py y x:=(uX3 y x).2.1
def Pz y x:=(uX3 y x).2.2
def uV1 (y:o6)(x:CW):(List A0):=
 x.1
def tM8:List (Nat×Sh):=[(2,Cb)]
def rQ9:=li [(3,Bh),(5,Bz),(6,(.fn 227 (.cons (.ref 2 Ad) .nl)))] [(2,Cb),(12,vI)] Py Pz tM7 (λy x=>[ex 5 none tM8 ((uV1 y x),())]) [tM8]
def pM5 (m:List A0)(n:A8):Prop×(List A0):=
 let f:=len m
 let g:=f-1
 let h:=nth m g A1
 let b:=n.1==2
 let i:=nth n.2.1 (0:Int) A1
 let c:=n.1==3
 let d:=(n,h,((),()),())
 let l:=(m,(1:Int),())
 let j:=n.1==4
 let a:=(n,h,((),()),())
 let k:=(m,(1:Int),())
 let e:=cond b (JT i m).1 (cond c (uX2 d (A3 (Pw d) (Px d) l)) (cond j (uV1 a (A3 (Py a) (Pz a) k)) m))
 (A5 (f-1)/\A6 g (len m)/\(b=true->A6 (0:Int) 3/\SX i m)/\(b=false->(c=true->Am.Ends (Pw d) (Px d) (tU6 d) l)/\(c=false->j=true->Am.Ends (Py a) (Pz a) (tM7 a) k)),e)
def o7 a b:=(pM5 a b).1
def GJ a b:=(pM5 a b).2
theorem pX8:SK 200 (BG (.own AN 400000 false) Dd Bx o7 GJ):=fx (λc=>{ c with wants:=[(227,[])] }) Tryz.func200 179 [kb JL,kb pX7] [(8,qD0),(15,rQ9)] [(1,[(4,0,400000,400200)]),(41,[(4,0,400200,0)])]
abbrev vW:Type:=((List (List A0))×(List A0)×Int×Unit)
def qD1 (y:SV)(x:vW):Prop×Bool×vW:=
 let k:=y.1
 let e:=y.2.1
 let l:=x.1
 let m:=x.2.1
 let a:=x.2.2.1
 let f:=decide (a<y.2.2.1)
 let b:=nth e a A4
 let c:=b.1==1
 let n:=cond c ([nth b.2.1 (0:Int) A1]:List A0) (GJ m b)
 let g:=len k
 let d:=a==(g-1)
 let h:=a+1
 let i:=cond d true ((nth k h A4).1==1)
 let j:=([n]:List (List A0))
 (f=true->A6 a (len e)/\(c=true->A6 (0:Int) 3)/\(c=false->o7 m b)/\A5 (g-1)/\((!d)=true->A5 (a+1))/\((!d)=true->A6 h (len k))/\(i=true->((length l+length j:Nat):Int)<=4294967296)/\A5 (a+1),f,(cond i (l++j) l,n,a+1,()))
def rS8 y x:=(qD1 y x).1
def LK y x:=(qD1 y x).2.1
def La y x:=(qD1 y x).2.2
def o8 (y:SV)(x:vW):(List (List A0)):=
 x.1
def rS9:List (Nat×Sh):=[(5,(.own Ad 1005 false))]
def pX9:=li [(0,Ai),(14,Ai),(15,vI)] [(5,(.own Ad 1005 false)),(6,Cc),(16,vI)] LK La rS8 (λy x=>[ex 2 none rS9 ((o8 y x),())]) [rS9]
def mG4 (e:List A8):Prop×((List (List A0))×Int×Unit):=
 let c:=BE e
 let a:=c !=0
 let b:=(e,e,len e,())
 let d:=(([]:List (List A0)),([]:List A0),(0:Int),())
 (Pv e/\((!a)=true->Am.Ends (LK b) (La b) (rS8 b) d),(cond a [] (o8 b (A3 (LK b) (La b) d)),cond a c (0:Int),()))
def WQ a:=(mG4 a).1
def BF a:=(mG4 a).2
theorem oM2:SK 161 (AP Ai (.tup (.cons At (.cons vI .nl))) WQ BF):=fx (λc=>{ c with wants:=[(200,[0])] }) Tryz.func161 51 [kb n4,kb pX8] [(7,pX9)] [(21,[(4,0,27,1006)]),(23,[(4,0,30,1006)]),(27,[(4,0,48,1005)]),(31,[(4,0,1005,0)])]
abbrev FP:Type:=((List Bool)×Int×Unit)
def sW (y:SV)(x:FP):Prop×Bool×FP:=
 let i:=y.1
 let c:=y.2.1
 let j:=x.1
 let a:=x.2.1
 let d:=decide (a<y.2.2.1)
 let e:=len i
 let b:=a==(e-1)
 let f:=a+1
 let g:=cond b true ((nth i f A4).1==1)
 let h:=([(nth c a A4).1 !=5]:List Bool)
 (d=true->A6 a (len c)/\A5 (e-1)/\((!b)=true->A5 (a+1))/\((!b)=true->A6 f (len i))/\(g=true->((length j+length h:Nat):Int)<=4294967296)/\A5 (a+1),d,(cond g (j++h) j,a+1,()))
def sG3 y x:=(sW y x).1
def SY y x:=(sW y x).2.1
def P0 y x:=(sW y x).2.2
def sO3 (y:SV)(x:FP):(List Bool):=
 x.1
def pY:=li [(0,Ai),(13,Ai),(14,vI)] [(5,Dh),(15,vI)] SY P0 sG3 (λy x=>[ex 2 none [(5,Dh)] ((sO3 y x),())]) [[(5,Dh)]]
def mG5 (e:List A8):Prop×((List Bool)×Int×Unit):=
 let c:=BE e
 let a:=c !=0
 let b:=(e,e,len e,())
 let d:=(([]:List Bool),(0:Int),())
 (Pv e/\((!a)=true->Am.Ends (SY b) (P0 b) (sG3 b) d),(cond a [] (sO3 b (A3 (SY b) (P0 b) d)),cond a c (0:Int),()))
def qZ7 a:=(mG5 a).1
def Ex a:=(mG5 a).2
theorem mG6:SK 162 (AP Ai (.tup (.cons (.own .bool 0 false) (.cons vI .nl))) qZ7 Ex):=fb Tryz.func162 42 [kb n4] [(6,pY)] [(19,[(4,0,39,1005)]),(23,[(4,0,1005,0)])]
abbrev vW0:Type:=((List (List A0))×(List (List A0))×Int×Unit)
abbrev vC:Type:=(Int×Int×Unit)
def WR (y:vW0)(x:vC):Prop×Bool×vC×Bool×Bool:=
 let d:=y.2.1
 let g:=x.1
 let a:=x.2.1
 let b:=decide (a<y.2.2.1)
 let e:=len (nth d a ([]:List A0))
 let f:=g+e
 let c:=decide (f>4096)
 (b=true->A6 a (len d)/\A5 (g+e)/\((!c)=true->A5 (a+1)),b&&(!c),(f,a+1,()),b&&c,!b)
def rT y x:=(WR y x).1
def LM y x:=(WR y x).2.1
def LN y x:=(WR y x).2.2.1
def WS y x:=(WR y x).2.2.2.1
def o9 y x:=(WR y x).2.2.2.2
def sO4 (y:vW0)(x:vC):Int:=
 (3:Int)
def pY0:=li [(0,Aj),(18,Aj),(19,vI)] [(5,vI),(20,vI)] LM LN rT (λy x=>[ex 1 (some (WS y x)) [(4,vI)] ((sO4 y x),()),ex 2 (some (o9 y x)) [(0,Aj)] (y.1,())]) [[(4,vI)],[(0,Aj)]]
abbrev vH0:Type:=((List (List A0))×Int×Int×(List A0)×Int×Unit)
def WT (y:vH0)(x:AA):Prop×Bool×AA×Bool×Bool:=
 let e:=y.2.2.2.1
 let a:=x.1
 let b:=decide (a<y.2.2.2.2.1)
 let c:=nth e a A1
 let d:=cond (cond (cond (decide (c.1<(-16777216))) true (decide (c.1>16777216))) true (decide (c.2.1<(-16777216)))) true (decide (c.2.1>16777216))
 (b=true->A6 a (len e)/\((!d)=true->A5 (a+1)),b&&(!d),(a+1,()),b&&d,!b)
def tO8 y x:=(WT y x).1
def N4 y x:=(WT y x).2.1
def N5 y x:=(WT y x).2.2.1
def tO9 y x:=(WT y x).2.2.2.1
def tP y x:=(WT y x).2.2.2.2
def tU9 (y:vH0)(x:AA):Int:=
 (2:Int)
def rC:List (Nat×Sh):=[(31,Aj),(32,vI),(33,vI)]
def qZ8:=li [(31,Aj),(32,vI),(33,vI),(37,Bc),(38,vI)] [(39,vI)] N4 N5 tO8 (λy x=>[ex 1 (some (tO9 y x)) [(4,vI)] ((tU9 y x),()),ex 6 (some (tP y x)) rC (y.1,y.2.1,y.2.2.1,())]) [[(4,vI)],rC]
abbrev CH:Type:=((List (List A0))×Int×Unit)
def WU (y:CH)(x:AA):Prop×Bool×AA×Bool×Bool:=
 let e:=y.1
 let f:=y.2.1
 let b:=x.1
 let d:=decide (b<f)
 let h:=nth e b ([]:List A0)
 let a:=(e,f,b,h,len h,())
 let i:=((0:Int),())
 let g:=A3 (N4 a) (N5 a) i
 let c:=tP a g
 (d=true->A6 b (len e)/\Am.Ends (N4 a) (N5 a) (tO8 a) i/\(c=true->A5 (b+1)),d&&c,(b+1,()),d&&tO9 a g,!d)
def uN y x:=(WU y x).1
def vA y x:=(WU y x).2.1
def N6 y x:=(WU y x).2.2.1
def p7 y x:=(WU y x).2.2.2.1
def qZ9 y x:=(WU y x).2.2.2.2
def tV (y:CH)(x:AA):Int:=
 let b:=y.1
 let c:=x.1
 let d:=nth b c ([]:List A0)
 let a:=(b,y.2.1,c,d,len d,())
 (tU9 a (A3 (N4 a) (N5 a) ((0:Int),())))
def pA0:=li [(31,Aj),(32,vI)] [(33,vI)] vA N6 uN (λy x=>[ex 1 (some (p7 y x)) [(4,vI)] ((tV y x),()),ex 4 (some (qZ9 y x)) [] ()]) [[(4,vI)],[]]
def mG7 (h:(List (List A0)))(i:Int):Prop×Int:=
 let d:=cond (i !=0) (i !=1) false
 let b:=(h,h,len h,())
 let g:=((0:Int),(0:Int),())
 let f:=A3 (LM b) (LN b) g
 let a:=(h,len h,())
 let e:=((0:Int),())
 let c:=A3 (vA a) (N6 a) e
 ((!d)=true->Am.Ends (LM b) (LN b) (rT b) g/\(o9 b f=true->Am.Ends (vA a) (N6 a) (uN a) e),cond d (8:Int) (cond (WS b f) (sO4 b f) (cond (p7 a c) (tV a c) (0:Int))))
def P1 a b:=(mG7 a b).1
def DR a b:=(mG7 a b).2
def oM3:=BG Aj vI vI P1 DR
theorem pA1:SK 164 (BG Aj vI vI P1 DR):=fb Tryz.func164 63 [] [(5,pY0),(12,pA0),(15,qZ8)]
def lG (b c d:Int):Prop×Int:=
 let a:=cond (cond (decide (b<1)) true (decide (b>4096))) (2:Int) (cond (cond (decide (c<0)) true (decide (c>2))) (8:Int) (cond (cond (decide (d<0)) true (decide (d>2))) (8:Int) (0:Int)))
 (True,a)
def pA2 a b c:=(lG a b c).1
def Fy a b c:=(lG a b c).2
theorem mG8:SK 201 (DN vI vI vI vI pA2 Fy):=fb Tryz.func201 25
abbrev uX8:Type:=(Bool×(List A0)×Int×Unit)
def p8 (y:uX8)(x:CW):Prop×Bool×CW:=
 let j:=y.2.1
 let b:=x.1
 let a:=x.2.1
 let d:=decide (a<y.2.2.1)
 let e:=nth j a A1
 let c:=len b==0
 let f:=len b
 let g:=f-1
 let h:=cond c true (!(Ty.eqb AN e (nth b g A1)))
 let i:=([e]:List A0)
 (d=true->A6 a (len j)/\((!c)=true->A5 (f-1))/\((!c)=true->A6 g (len b))/\(h=true->((length b+length i:Nat):Int)<=4294967296)/\A5 (a+1),d,(cond h (b++i) b,a+1,()))
def p9 y x:=(p8 y x).1
def N7 y x:=(p8 y x).2.1
def LO y x:=(p8 y x).2.2
def sO5 (y:uX8)(x:CW):(List A0):=
 x.1
def rT0:List (Nat×Sh):=[(1,vB),(5,Bq)]
def pY1:=li [(1,vB),(8,Bc),(9,vI)] [(5,Bq),(10,vI)] N7 LO p9 (λy x=>[ex 2 none rT0 (y.1,(sO5 y x),())]) [rT0]
abbrev r0:Type:=(Bool×Unit)
abbrev N8:Type:=((List A0)×Unit)
def qD2 (y:r0)(x:N8):Prop×Bool×N8:=
 let a:=x.1
 let b:=cond (!y.1) (decide (len a>1)) false
 let d:=len a
 let e:=d-1
 let f:=cond b (Ty.eqb AN (nth a e A1) (nth a (0:Int) A1)) false
 let g:=len a
 let c:=g-1
 ((b=true->A5 (d-1))/\(b=true->A6 e (len a))/\(b=true->A6 (0:Int) (len a))/\(f=true->A5 (g-1)/\0<=c/\c<=len a),f,(List.take (toNat c) a,()))
def r8 y x:=(qD2 y x).1
def P2 y x:=(qD2 y x).2.1
def N9 y x:=(qD2 y x).2.2
def sO6 (y:r0)(x:N8):(List A0):=
 x.1
def pY2:=li [(1,vB)] [(5,Bc)] P2 N9 r8 (λy x=>[ex 4 none [(5,Bc)] ((sO6 y x),())]) [[(5,Bc)]]
def lG0 (e:List A0)(f:Bool):Prop×(List A0):=
 let a:=(f,e,len e,())
 let c:=(([]:List A0),(0:Int),())
 let b:=(f,())
 let d:=(sO5 a (A3 (N7 a) (LO a) c),())
 (Am.Ends (N7 a) (LO a) (p9 a) c/\Am.Ends (P2 b) (N9 b) (r8 b) d,sO6 b (A3 (P2 b) (N9 b) d))
def pA3 a b:=(lG0 a b).1
def CK a b:=(lG0 a b).2
theorem mG9:SK 228 (BG Bc vB Bc pA3 CK):=fb Tryz.func228 57 [] [(3,pY1),(8,pY2)] [(13,[(4,0,30,1005)])]
def lG1 (a b:A0):Prop×A0:=
 (True,(wrap .i64 (a.1-b.1),wrap .i64 (a.2.1-b.2.1),()))
def Hf a b:=(lG1 a b).1
def AL a b:=(lG1 a b).2
theorem sE:SK 233 (BG Aq Aq Aq Hf AL):=fb Tryz.func233 16 [] [] [] true
def mH (g h:Int):Prop×(Int×Int×Unit):=
 let a:=Fu .u64 g (4294967295:Int)
 let b:=ER g (32:Int) 64
 let c:=Fu .u64 h (4294967295:Int)
 let d:=ER h (32:Int) 64
 let e:=wrap .u64 (wrap .u64 (b*c)+ER (wrap .u64 (a*c)) (32:Int) 64)
 let f:=wrap .u64 (wrap .u64 (wrap .u64 (b*d)+ER e (32:Int) 64)+ER (wrap .u64 (Fu .u64 e (4294967295:Int)+wrap .u64 (a*d))) (32:Int) 64)
 (True,(f,wrap .u64 (g*h),()))
def SZ a b:=(mH a b).1
def BA a b:=(mH a b).2
def oM4:=BG Ap Ap (.tup (.cons Ap (.cons Ap .nl))) SZ BA
theorem mH0:SK 282 (BG Ap Ap (.tup (.cons Ap (.cons Ap .nl))) SZ BA):=fb Tryz.func282 51 [] [] [] true
def lG2 (a:Int):Prop×Int:=
 (True,cond (decide (a<0)) (wrap .u64 (sub 0 (wrap .u64 a))) (wrap .u64 a))
def P3 a:=(lG2 a).1
def AD a:=(lG2 a).2
def oM5:=AP vI Ap P3 AD
theorem mH1:SK 283 (AP vI Ap P3 AD):=fb Tryz.func283 10 [] [] [] true
def qD4 (y x:vC):Prop×Bool×vC:=
 let f:=y.1
 let d:=x.1
 let b:=x.2.1
 let e:=b !=0
 let a:=ior .u64 d b
 let c:=BA a a
 (e=true->SZ a a,e,(cond (cond (decide (c.1<f)) true (cond (c.1==f) (decide (c.2.1<=y.2.1)) false)) a d,ER b (1:Int) 64,()))
def tI y x:=(qD4 y x).1
def P4 y x:=(qD4 y x).2.1
def LP y x:=(qD4 y x).2.2
def sO7 (y x:vC):Int:=
 x.1
def sO8:St->Option Out:=Ih [(5,Ap),(6,Ap)] [(10,Ap),(11,Ap)] P4 LP tI λy x=>[ex 2 none [(10,Ap)] ((sO7 y x),())]
def mH2 (k l:Int):Prop×Int:=
 let f:=AD k
 let g:=AD k
 let b:=BA f g
 let h:=AD l
 let i:=AD l
 let c:=BA h i
 let d:=(((toNat b.2.1+toNat c.2.1+toNat (0:Int)) / 18446744073709551616:Nat):Int)
 let e:=((((toNat b.1+toNat c.1+toNat d) % 18446744073709551616:Nat):Int),(((toNat b.2.1+toNat c.2.1+toNat (0:Int)) % 18446744073709551616:Nat):Int),())
 let j:=((0:Int),(9223372036854775808:Int),())
 let a:=sO7 e (A3 (P4 e) (LP e) j)
 (P3 k/\P3 k/\SZ f g/\P3 l/\P3 l/\SZ h i/\(0<=(0:Int)/\(0:Int)<=1)/\(0<=d/\d<=1)/\Am.Ends (P4 e) (LP e) (tI e) j,cond (decide (a>9223372036854775807)) (9223372036854775807:Int) (wrap .i64 a))
def s7 a b:=(mH2 a b).1
def f270 a b:=(mH2 a b).2
def oM6:=BG vI vI vI s7 f270
def pM6:Ctx:={ Cx tys [(282,oM4),(283,oM5)] [(7,sO8)] [] true 73 [] [] with exts:=[(284,fB)] }
theorem pM7:CtxOk Tryz.prog pM6:=xZ7 OV rfl ⟨mH0,mH1,trivial⟩ ⟨mC0,trivial⟩ (by kernel_rfl)
noncomputable def oM7:Code:=Tryz.f270.body.getD .skip
noncomputable def oM8:Code:=S6 oM7 0
theorem pY3:JD Tryz.prog pM6 oM8:=lq pM7 (sp:=sO8) rfl [[(10,Ap)]]
theorem oM9:SK 270 oM6:=fl pM7 Tryz.func270 (bs:=[oM8]) ⟨pY3,trivial⟩
def lG3 (i j:A0)(k:Int):Prop×CV:=
 let b:=AL j i
 let c:=wrap .i64 (16*b.1)
 let d:=wrap .i64 (16*b.2.1)
 let a:=f270 c d
 let e:=wrap .i64 (wrap .i64 ((-8)*k)*b.2.1)
 let f:=wrap .i64 (wrap .i64 (8*k)*b.1)
 let g:=wrap .i64 (wrap .i64 (8*k)*b.1)
 let h:=wrap .i64 (wrap .i64 (8*k)*b.2.1)
 (Hf j i/\s7 c d/\Ed e a/\Ed f a/\Ed g a/\Ed h a,(i,j,b,(AM e a,AM f a,()),(AM g a,AM h a,()),()))
def s8 a b c:=(lG3 a b c).1
def f266 a b c:=(lG3 a b c).2
theorem mH3:SK 266 (DN Aq Aq vI Do s8 f266):=fb Tryz.func266 53 [kb JL,kb sE,kb oM9] [] [] true
abbrev uY:Type:=((List A0)×Bool×Int×Unit)
abbrev vW5:Type:=((List CV)×Int×Unit)
def s9 (y:uY)(x:vW5):Prop×Bool×vW5:=
 let b:=y.1
 let h:=y.2.2.1
 let i:=x.1
 let a:=x.2.1
 let c:=decide (a<len b)
 let d:=a-1
 let e:=nth b d A1
 let f:=nth b a A1
 let g:=([f266 e f h]:List CV)
 (c=true->A5 (a-1)/\A6 d (len b)/\A6 a (len b)/\s8 e f h/\((length i+length g:Nat):Int)<=4294967296/\A5 (a+1),c,(i++g,a+1,()))
def uB y x:=(s9 y x).1
def HE y x:=(s9 y x).2.1
def Hg y x:=(s9 y x).2.2
def uD (y:uY)(x:vW5):(List CV):=
 x.1
def rT1:List (Nat×Sh):=[(0,Bc),(1,vB),(2,vI),(7,Bu)]
def pY4:=li [(0,Bc),(1,vB),(2,vI)] [(7,Bu),(8,vI)] HE Hg uB (λy x=>[ex 2 none rT1 (y.1,y.2.1,y.2.2.1,(uD y x),())]) [rT1]
def mH4 (j:List A0)(k:Bool)(l:Int):Prop×(List CV):=
 let b:=(j,k,l,())
 let i:=(([]:List CV),(1:Int),())
 let a:=uD b (A3 (HE b) (Hg b) i)
 let c:=cond (!k) (decide (len j>1)) false
 let d:=len j
 let e:=d-1
 let f:=nth j e A1
 let g:=nth j (0:Int) A1
 let h:=([f266 f g l]:List CV)
 (Am.Ends (HE b) (Hg b) (uB b) i/\(c=true->A5 (d-1)/\A6 e (len j)/\A6 (0:Int) (len j)/\s8 f g l/\((length a+length h:Nat):Int)<=4294967296),cond c (a++h) a)
def pA4 a b c:=(mH4 a b c).1
def f229 a b c:=(mH4 a b c).2
theorem mH5:SK 229 (DN Bc vB vI (.own JG 0 false) pA4 f229):=fb Tryz.func229 51 [kb mH3] [(3,pY4)] [(11,[(4,0,28,1007)]),(15,[(4,0,49,1007)]),(17,[(4,0,1007,0)])]
abbrev uY0:Type:=((List A0)×(List A0)×Int×Unit)
def uS (y:uY0)(x:vC):Prop×Bool×vC:=
 let g:=y.1
 let h:=y.2.1
 let a:=x.2.1
 let b:=decide (a<y.2.2.1)
 let c:=nth h a A1
 let d:=len g
 let e:=tmod (wrap .i64 (a+1)) d
 let f:=nth g e A1
 (b=true->A6 a (len h)/\d≠0/\A6 e (len g),b,(wrap .i64 (x.1+wrap .i64 (wrap .i64 (c.1*f.2.1)-(wrap .i64 (f.1*c.2.1)))),wrap .i64 (a+1),()))
def rT2 y x:=(uS y x).1
def rC0 y x:=(uS y x).2.1
def uT y x:=(uS y x).2.2
def sO9 (y:uY0)(x:vC):Int:=
 x.1
def pY5:=li [(0,Bc),(7,Bc),(8,vI)] [(3,vI),(9,vI)] rC0 uT rT2 (λy x=>[ex 2 none [(3,vI)] ((sO9 y x),())]) [[(3,vI)]]
def lG4 (c:List A0):Prop×Int:=
 let a:=(c,c,len c,())
 let b:=((0:Int),(0:Int),())
 (Am.Ends (rC0 a) (uT a) (rT2 a) b,sO9 a (A3 (rC0 a) (uT a) b))
def pA5 a:=(lG4 a).1
def DJ a:=(lG4 a).2
theorem mH6:SK 268 (AP Bc vI pA5 DJ):=fb Tryz.func268 37 [] [(3,pY5)] [] true
def f269 (_p0:List A0):Unit:=()
def uU (a:List A0):(List A0)×Unit:=(List.reverse a,())
def pA6 (_p0:List A0):Prop:=True
instance (a:List A0):Decidable (pA6 a):=isTrue trivial
def mH7:List (Nat×Sh):=[(0,Bi)]
def mH8:Sh:=(.tup .nl)
def mH9:List (Nat×Sh):=[(0,Bi)]
def oN:Am.Spec:=fnSpec mH7 mH8 mH9 (λx=>pA6 x.1) (λx=>f269 x.1) (λx=>uU x.1)
theorem mI:SpecOk Tryz.prog 269 oN:=nK8 (by decide) rfl ⟨_,Tryz.func269,by kernel_rfl,by decide⟩ lD7
def lG5 (a b:A0):Prop×A0:=
 (True,(wrap .i64 (a.1+b.1),wrap .i64 (a.2.1+b.2.1),()))
def Fz a b:=(lG5 a b).1
def AG a b:=(lG5 a b).2
theorem WV:SK 232 (BG Aq Aq Aq Fz AG):=fb Tryz.func232 16 [] [] [] true
def lG6 (e:Int):Prop×Int:=
 let a:=wrap .i64 (tdiv e (256:Int))
 let d:=decide (a≥64)
 let b:=wrap .i64 (a+1)
 let c:=wrap .i64 (wrap .i64 (nth G5 b (0:Int)-(nth G5 a (0:Int)))*wrap .i64 (e-(wrap .i64 (256*a))))
 ((d=true->A6 (64:Int) 65)/\((!d)=true->A6 a 65/\A6 b 65/\A6 a 65/\Ed c (256:Int)),cond d (nth G5 (64:Int) (0:Int)) (wrap .i64 (nth G5 a (0:Int)+AM c (256:Int))))
def Ta a:=(lG6 a).1
def JU a:=(lG6 a).2
theorem mI0:SK 301 (AP vI vI Ta JU):=fb Tryz.func301 28 [kb JL] [] [] true
def mI1 (i:Int):Prop×Int:=
 let h:=wrap .i64 (tdiv i (16384:Int))
 let a:=wrap .i64 (i-(wrap .i64 (16384*h)))
 let b:=h==0
 let c:=h==1
 let f:=wrap .i64 (16384-a)
 let d:=h==2
 let g:=wrap .i64 (16384-a)
 let e:=cond (cond b true (cond c true d)) (cond b (JU a) (cond c (JU f) (wrap .i64 (sub 0 (JU a))))) (wrap .i64 (sub 0 (JU g)))
 ((b=true->Ta a)/\(b=false->(c=true->Ta f)/\(c=false->d=true->Ta a))/\((((!d)&&(!c))&&(!b))=true->Ta g),e)
def Tb a:=(mI1 a).1
def P5 a:=(mI1 a).2
theorem mI2:SK 295 (AP vI vI Tb P5):=fb Tryz.func295 30 [kb mI0] [] [] true
def lG7 (c:Int):Prop×(Int×Int×Unit):=
 let b:=Fu .i64 c (65535:Int)
 let a:=tmod (wrap .i64 (b+16384)) (65536:Int)
 (Tb b/\Tb a,(P5 b,P5 a,()))
def pA7 a:=(lG7 a).1
def Iq a:=(lG7 a).2
theorem mI3:SK 281 (AP vI (.tup (.cons vI (.cons vI .nl))) pA7 Iq):=fb Tryz.func281 13 [kb mI2] [] [] true
abbrev uY1:Type:=(Int×A0×Int×Unit)
def u7 (y:uY1)(x:CW):Prop×Bool×CW:=
 let h:=y.1
 let i:=y.2.1
 let g:=x.1
 let a:=x.2.1
 let b:=decide (a<y.2.2.1)
 let c:=wrap .i64 (4096*a)
 let d:=Iq c
 let e:=wrap .i64 (h*d.2.1)
 let f:=wrap .i64 (h*d.1)
 let s:=(AM e (131072:Int),AM f (131072:Int),())
 (b=true->pA7 c/\Ed e (131072:Int)/\Ed f (131072:Int)/\Fz i s/\A6 a (len g)/\a<len g,b,(set g (toNat a) (AG i s),wrap .i64 (a+1),()))
def Tc y x:=(u7 y x).1
def JV y x:=(u7 y x).2.1
def F3 y x:=(u7 y x).2.2
def u9 (y:uY1)(x:CW):(List A0):=
 x.1
def pY6:=li [(1,vI),(2,Bz),(11,vI)] [(5,Dm),(12,vI)] JV F3 Tc (λy x=>[ex 2 none [(5,Dm)] ((u9 y x),())]) [[(5,Dm)]]
def vE (d:A0)(e:Int):Prop×(List A0):=
 let b:=replicate (toNat (16:Int)) A1
 let a:=(e,d,len b,())
 let c:=(b,(0:Int),())
 ((0<=(16:Int)/\(16:Int)<=(16:Int)/\(16:Int)<=4294967296)/\Am.Ends (JV a) (F3 a) (Tc a) c,u9 a (A3 (JV a) (F3 a) c))
def Td a b:=(vE a b).1
def f267 a b:=(vE a b).2
theorem pA8:SK 267 (BG Aq vI Du Td f267):=fb Tryz.func267 37 [kb JL,kb WV,kb mI3] [(3,pY6)] [(3,[(4,0,9,1005)]),(17,[(4,0,1005,0)])] true [] [9]
def vF (f:(Int×Int×Int×(List (List A0))×Int×Unit))(g:List A0):Prop×(Unit)×((Int×Int×Int×(List (List A0))×Int×Unit)×Unit):=
 let e:=DJ g
 let a:=e==0
 let b:=decide (e<0)
 let d:=cond b (uU g).1 g
 let c:=([d]:List (List A0))
 let s:=(cond a f.1 f.1,cond a f.2.1 f.2.1,cond a f.2.2.1 f.2.2.1,cond a f.2.2.2.1 (f.2.2.2.1++c),cond a f.2.2.2.2.1 (wrap .i64 (f.2.2.2.2.1+len d)),())
 (pA5 g/\((!a)=true->(b=true->pA6 g/\0<length g/\length g=length g/\length g=length g/\length g=length g)/\((length f.2.2.2.1+length c:Nat):Int)<=4294967296),(),(s,()))
def FQ a b:=(vF a b).1
def mI4 a b:=(vF a b).2.1
def C7 a b:=(vF a b).2.2
theorem vJ:SK 231 (fnSpec [(0,Ac),(1,(.own AN 400100 true))] (.tup .nl) [(0,Ac)] (λx=>FQ x.1 x.2.1) (λx=>mI4 x.1 x.2.1) (λx=>C7 x.1 x.2.1)):=fx (λc=>{ c with wants:=[(269,[0])] }) Tryz.func231 32 [kb mH6,kb mI] [] [(8,[(1,1,0,0)]),(9,[(4,0,20,400000)])] true [0]
def vL (o:(Int×Int×Int×(List (List A0))×Int×Unit))(p:A0):Prop×(Unit)×((Int×Int×Int×(List (List A0))×Int×Unit)×Unit):=
 let d:=o.2.2.1==1
 let l:=f267 p o.1
 let f:=o
 let a:=C7 f l
 let e:=o.2.2.1==2
 let b:=AM o.1 (2:Int)
 let g:=(wrap .i64 (sub 0 b),wrap .i64 (sub 0 b),())
 let h:=(b,wrap .i64 (sub 0 b),())
 let i:=(b,b,())
 let j:=(wrap .i64 (sub 0 b),b,())
 let m:=([AG p g,AG p h,AG p i,AG p j]:List A0)
 let k:=o
 let c:=C7 k m
 let n:=(cond d a.1.1 (cond e c.1.1 o.1),cond d a.1.2.1 (cond e c.1.2.1 o.2.1),cond d a.1.2.2.1 (cond e c.1.2.2.1 o.2.2.1),cond d a.1.2.2.2.1 (cond e c.1.2.2.2.1 o.2.2.2.1),cond d a.1.2.2.2.2.1 (cond e c.1.2.2.2.2.1 o.2.2.2.2.1),())
 ((d=true->Td p o.1/\FQ f l)/\(d=false->e=true->Ed o.1 (2:Int)/\Fz p g/\Fz p h/\Fz p i/\Fz p j/\FQ k m),(),(n,()))
def sG8 a b:=(vL a b).1
def mI5 a b:=(vL a b).2.1
def P6 a b:=(vL a b).2.2
theorem pY7:SK 230 (fnSpec [(0,Ac),(1,Aq)] (.tup .nl) [(0,Ac)] (λx=>sG8 x.1 x.2.1) (λx=>mI5 x.1 x.2.1) (λx=>P6 x.1 x.2.1)):=fx (λc=>{ c with wants:=[(231,[1])] }) Tryz.func230 53 [kb JL,kb vJ,kb WV,kb pA8] [] [] true [0] [51]
def vP (p:(Int×Int×Int×(List (List A0))×Int×Unit))(D G:CV):Prop×(Unit)×((Int×Int×Int×(List (List A0))×Int×Unit)×Unit):=
 let e:=p.2.1==1
 let C:=f267 G.1 p.1
 let v:=p
 let f:=C7 v C
 let E:=([G.1,AG G.1 D.2.2.2.1,AG G.1 G.2.2.2.1]:List A0)
 let z:=p
 let g:=C7 z E
 let F:=([G.1,AL G.1 D.2.2.2.1,AL G.1 G.2.2.2.1]:List A0)
 let A:=(g.1.1,g.1.2.1,g.1.2.2.1,g.1.2.2.2.1,g.1.2.2.2.2.1,())
 let a:=C7 A F
 let H:=wrap .i64 (wrap .i64 (D.2.2.1.1*G.2.2.1.2.1)-(wrap .i64 (D.2.2.1.2.1*G.2.2.1.1)))
 let u:=wrap .i64 (a.1.1*a.1.1)
 let l:=wrap .i64 (u+wrap .i64 (4*wrap .i64 (wrap .i64 (D.2.2.2.1.1*G.2.2.2.1.1)+wrap .i64 (D.2.2.2.1.2.1*G.2.2.2.1.2.1))))
 let i:=cond (cond (a.1.2.1==2) true (H==0)) true (decide (l<=0))
 let o:=wrap .i64 (u*wrap .i64 (D.2.2.2.1.1+G.2.2.2.1.1))
 let j:=AM o l
 let q:=wrap .i64 (u*wrap .i64 (D.2.2.2.1.2.1+G.2.2.2.1.2.1))
 let k:=AM q l
 let m:=(j,k,())
 let r:=decide (f270 j k>wrap .i64 (4*a.1.1))
 let b:=decide (H>0)
 let s:=([G.1,AL G.1 D.2.2.2.1,AL G.1 m,AL G.1 G.2.2.2.1]:List A0)
 let B:=(a.1.1,a.1.2.1,a.1.2.2.1,a.1.2.2.2.1,a.1.2.2.2.2.1,())
 let c:=C7 B s
 let t:=([G.1,AG G.1 D.2.2.2.1,AG G.1 m,AG G.1 G.2.2.2.1]:List A0)
 let n:=(a.1.1,a.1.2.1,a.1.2.2.1,a.1.2.2.2.1,a.1.2.2.2.2.1,())
 let d:=C7 n t
 let h:=e||((!e)&&(i||((!i)&&r)))
 let w:=(cond h (cond e f.1.1 a.1.1) (cond b c.1.1 d.1.1),cond h (cond e f.1.2.1 a.1.2.1) (cond b c.1.2.1 d.1.2.1),cond h (cond e f.1.2.2.1 a.1.2.2.1) (cond b c.1.2.2.1 d.1.2.2.1),cond h (cond e f.1.2.2.2.1 a.1.2.2.2.1) (cond b c.1.2.2.2.1 d.1.2.2.2.1),cond h (cond e f.1.2.2.2.2.1 a.1.2.2.2.2.1) (cond b c.1.2.2.2.2.1 d.1.2.2.2.2.1),())
 ((e=true->Td G.1 p.1/\FQ v C)/\((!e)=true->Fz G.1 D.2.2.2.1/\Fz G.1 G.2.2.2.1/\FQ z E/\Hf G.1 D.2.2.2.1/\Hf G.1 G.2.2.2.1/\FQ A F/\((!i)=true->Ed o l/\Ed q l/\s7 j k/\((!r)=true->(b=true->Hf G.1 D.2.2.2.1/\Hf G.1 m/\Hf G.1 G.2.2.2.1/\FQ B s)/\(b=false->Fz G.1 D.2.2.2.1/\Fz G.1 m/\Fz G.1 G.2.2.2.1/\FQ n t)))),(),(w,()))
def Te a b c:=(vP a b c).1
def mI6 a b c:=(vP a b c).2.1
def HG a b c:=(vP a b c).2.2
theorem pY8:SK 234 (fnSpec [(0,Ac),(1,Do),(2,Do)] (.tup .nl) [(0,Ac)] (λx=>Te x.1 x.2.1 x.2.2.1) (λx=>mI6 x.1 x.2.1 x.2.2.1) (λx=>HG x.1 x.2.1 x.2.2.1)):=fx (λc=>{ c with wants:=[(231,[1])] }) Tryz.func234 161 [kb JL,kb vJ,kb WV,kb sE,kb pA8,kb oM9] [] [] true [0] [40,50,146,159]
def WW (p:(Int×Int×Int×(List (List A0))×Int×Unit))(s t:CV):Prop×(Unit)×((Int×Int×Int×(List (List A0))×Int×Unit)×Unit):=
 let e:=p.2.2.1==1
 let m:=f267 s.1 p.1
 let i:=p
 let a:=C7 i m
 let n:=f267 t.2.1 a.1.1
 let j:=(a.1.1,a.1.2.1,a.1.2.2.1,a.1.2.2.2.1,a.1.2.2.2.2.1,())
 let b:=C7 j n
 let f:=p.2.2.1==2
 let g:=AL s.1 s.2.2.2.2.1
 let o:=([AG g s.2.2.2.1,AG s.1 s.2.2.2.1,AL s.1 s.2.2.2.1,AL g s.2.2.2.1]:List A0)
 let k:=p
 let c:=C7 k o
 let h:=AG t.2.1 t.2.2.2.2.1
 let q:=([AG t.2.1 t.2.2.2.1,AG h t.2.2.2.1,AL h t.2.2.2.1,AL t.2.1 t.2.2.2.1]:List A0)
 let l:=(c.1.1,c.1.2.1,c.1.2.2.1,c.1.2.2.2.1,c.1.2.2.2.2.1,())
 let d:=C7 l q
 let r:=(cond e b.1.1 (cond f d.1.1 p.1),cond e b.1.2.1 (cond f d.1.2.1 p.2.1),cond e b.1.2.2.1 (cond f d.1.2.2.1 p.2.2.1),cond e b.1.2.2.2.1 (cond f d.1.2.2.2.1 p.2.2.2.1),cond e b.1.2.2.2.2.1 (cond f d.1.2.2.2.2.1 p.2.2.2.2.1),())
 ((e=true->Td s.1 p.1/\FQ i m/\Td t.2.1 a.1.1/\FQ j n)/\(e=false->f=true->Hf s.1 s.2.2.2.2.1/\Fz g s.2.2.2.1/\Fz s.1 s.2.2.2.1/\Hf s.1 s.2.2.2.1/\Hf g s.2.2.2.1/\FQ k o/\Fz t.2.1 t.2.2.2.2.1/\Fz t.2.1 t.2.2.2.1/\Fz h t.2.2.2.1/\Hf h t.2.2.2.1/\Hf t.2.1 t.2.2.2.1/\FQ l q),(),(r,()))
def vT a b c:=(WW a b c).1
def mI7 a b c:=(WW a b c).2.1
def LQ a b c:=(WW a b c).2.2
theorem pY9:SK 235 (fnSpec [(0,Ac),(1,Do),(2,Do)] (.tup .nl) [(0,Ac)] (λx=>vT x.1 x.2.1 x.2.2.1) (λx=>mI7 x.1 x.2.1 x.2.2.1) (λx=>LQ x.1 x.2.1 x.2.2.1)):=fx (λc=>{ c with wants:=[(231,[1])] }) Tryz.func235 85 [kb vJ,kb WV,kb sE,kb pA8] [] [] true [0] [57,83]
abbrev vM3:Type:=(Bool×(List CV)×(List CV)×Int×Unit)
abbrev FR:Type:=((Int×Int×Int×(List (List A0))×Int×Unit)×Int×Unit)
def tP2 (y:vM3)(x:FR):Prop×Bool×FR:=
 let e:=y.2.2.1
 let d:=x.1
 let c:=x.2.1
 let g:=decide (c<y.2.2.2.1)
 let a:=nth e c BX
 let h:=([AG a.1 a.2.2.2.1,AG a.2.1 a.2.2.2.1,AL a.2.1 a.2.2.2.1,AL a.1 a.2.2.2.1]:List A0)
 let f:=d
 let b:=C7 f h
 (g=true->A6 c (len e)/\Fz a.1 a.2.2.2.1/\Fz a.2.1 a.2.2.2.1/\Hf a.2.1 a.2.2.2.1/\Hf a.1 a.2.2.2.1/\FQ f h/\A5 (c+1),g,((b.1.1,b.1.2.1,b.1.2.2.1,b.1.2.2.2.1,b.1.2.2.2.2.1,()),c+1,()))
def vX y x:=(tP2 y x).1
def JW y x:=(tP2 y x).2.1
def JX y x:=(tP2 y x).2.2
def vW8 (y:vM3)(x:FR):(Int×Int×Int×(List (List A0))×Int×Unit):=
 let a:=x.1
 a
def tV1:List (Nat×Sh):=[(0,Ac),(2,vB),(7,Bu)]
def qD7:=li [(2,vB),(7,Bu),(32,Bu),(33,vI)] [(0,Ac),(34,vI)] JW JX vX (λy x=>[ex 2 none tV1 ((vW8 y x),y.1,y.2.1,())]) [tV1]
abbrev vC3:Type:=(Bool×(List CV)×Unit)
def uY2 (y:vC3)(x:FR):Prop×Bool×FR:=
 let d:=y.2.1
 let c:=x.1
 let b:=x.2.1
 let f:=decide (b<len d)
 let g:=b-1
 let h:=nth d g BX
 let i:=nth d b BX
 let e:=c
 let a:=HG e h i
 (f=true->A5 (b-1)/\A6 g (len d)/\A6 b (len d)/\Te e h i/\A5 (b+1),f,((a.1.1,a.1.2.1,a.1.2.2.1,a.1.2.2.2.1,a.1.2.2.2.2.1,()),b+1,()))
def v7 y x:=(uY2 y x).1
def Jg y x:=(uY2 y x).2.1
def wF y x:=(uY2 y x).2.2
def vP4 (y:vC3)(x:FR):(Int×Int×Int×(List (List A0))×Int×Unit):=
 let a:=x.1
 a
def tM9:List (Nat×Sh):=[(0,Ac),(2,vB),(7,Bu)]
def rR:=li [(2,vB),(7,Bu)] [(0,Ac),(10,vI)] Jg wF v7 (λy x=>[ex 4 none tM9 ((vP4 y x),y.1,y.2.1,())]) [tM9]
def WX (p:(Int×Int×Int×(List (List A0))×Int×Unit))(D:List A0)(G:Bool):Prop×(Unit)×((Int×Int×Int×(List (List A0))×Int×Unit)×Unit):=
 let k:=CK D G
 let c:=f229 k G p.1
 let g:=len c==0
 let h:=len k==1
 let s:=nth k (0:Int) A1
 let o:=p
 let e:=P6 o s
 let n:=(G,c,c,len c,())
 let F:=(p,(0:Int),())
 let b:=vW8 n (A3 (JW n) (JX n) F)
 let i:=!G
 let t:=len c
 let u:=t-1
 let v:=nth c u BX
 let w:=nth c (0:Int) BX
 let q:=b
 let f:=HG q v w
 let C:=(cond i f.1.1 b.1,cond i f.1.2.1 b.2.1,cond i f.1.2.2.1 b.2.2.1,cond i f.1.2.2.2.1 b.2.2.2.1,cond i f.1.2.2.2.2.1 b.2.2.2.2.1,())
 let j:=(G,c,())
 let B:=(C,(1:Int),())
 let a:=vP4 j (A3 (Jg j) (wF j) B)
 let z:=nth c (0:Int) BX
 let A:=len c
 let l:=A-1
 let m:=nth c l BX
 let r:=a
 let d:=LQ r z m
 let E:=(cond g (cond h e.1.1 p.1) (cond G d.1.1 a.1),cond g (cond h e.1.2.1 p.2.1) (cond G d.1.2.1 a.2.1),cond g (cond h e.1.2.2.1 p.2.2.1) (cond G d.1.2.2.1 a.2.2.1),cond g (cond h e.1.2.2.2.1 p.2.2.2.1) (cond G d.1.2.2.2.1 a.2.2.2.1),cond g (cond h e.1.2.2.2.2.1 p.2.2.2.2.1) (cond G d.1.2.2.2.2.1 a.2.2.2.2.1),())
 (pA3 D G/\pA4 k G p.1/\(g=true->h=true->A6 (0:Int) (len k)/\sG8 o s)/\((!g)=true->Am.Ends (JW n) (JX n) (vX n) F/\(i=true->A5 (t-1)/\A6 u (len c)/\A6 (0:Int) (len c)/\Te q v w)/\Am.Ends (Jg j) (wF j) (v7 j) B/\(G=true->A6 (0:Int) (len c)/\A5 (A-1)/\A6 l (len c)/\vT r z m)),(),(E,()))
def WY a b c:=(WX a b c).1
def mI8 a b c:=(WX a b c).2.1
def Ir a b c:=(WX a b c).2.2
theorem pZ:SK 202 (fnSpec [(0,Ac),(1,Bc),(2,vB)] (.tup .nl) [(0,Ac)] (λx=>WY x.1 x.2.1 x.2.2.1) (λx=>mI8 x.1 x.2.1 x.2.2.1) (λx=>Ir x.1 x.2.1 x.2.2.1)):=fx (λc=>{ c with wants:=[(230,[]),(231,[1]),(234,[]),(235,[])] }) Tryz.func202 104 [kb mG9,kb mH5,kb pY7,kb vJ,kb WV,kb sE,kb pY8,kb pY9] [(6,qD7),(13,rR)] [(3,[(4,0,20,1007)])] false [0] [59]
abbrev v8:Type:=((List Bool)×Unit×(List (List A0))×Int×Unit)
def P7 (y:v8)(x:FR):Prop×Bool×FR×Bool×Bool:=
 let j:=y.1
 let f:=y.2.2.1
 let c:=x.1
 let b:=x.2.1
 let d:=decide (b<y.2.2.2.1)
 let h:=nth f b ([]:List A0)
 let i:=nth j b false
 let g:=c
 let a:=Ir g h i
 let e:=decide (a.1.2.2.2.2.1>4096)
 (d=true->A6 b (len f)/\A6 b (len j)/\WY g h i/\((!e)=true->A5 (b+1)),d&&(!e),((a.1.1,a.1.2.1,a.1.2.2.1,a.1.2.2.2.1,a.1.2.2.2.2.1,()),b+1,()),d&&e,!d)
def Tf y x:=(P7 y x).1
def Jh y x:=(P7 y x).2.1
def HH y x:=(P7 y x).2.2.1
def P8 y x:=(P7 y x).2.2.2.1
def pA9 y x:=(P7 y x).2.2.2.2
def uN1 (y:v8)(x:FR):(List (List A0)):=
 ([]:List (List A0))
def tV3 (y:v8)(x:FR):Int:=
 (3:Int)
def rC2:List (Nat×Sh):=[(10,At),(11,vI)]
def uN2 (y:v8)(x:FR):(Int×Int×Int×(List (List A0))×Int×Unit):=
 let a:=x.1
 a
def rC3:List (Nat×Sh):=[(14,(.ref 38 Im)),(38,Bo)]
def pB0:=li [(1,Dz),(14,(.ref 38 Im)),(39,Aj),(40,vI)] [(38,Bo),(41,vI)] Jh HH Tf (λy x=>[ex 1 (some (P8 y x)) rC2 ((uN1 y x),(tV3 y x),()),ex 2 (some (pA9 y x)) rC3 (y.2.1,(uN2 y x),())]) [rC2,rC3]
def mI9 (j:(List (List A0)))(k:List Bool)(l m n:Int):Prop×((List (List A0))×Int×Unit):=
 let g:=Fy l m n
 let d:=g !=0
 let h:=DR j (0:Int)
 let e:=h !=0
 let f:=len k !=len j
 let a:=(k,(),j,len j,())
 let i:=((l,m,n,([]:List (List A0)),(0:Int),()),(0:Int),())
 let c:=A3 (Jh a) (HH a) i
 let b:=P8 a c
 (pA2 l m n/\((!d)=true->P1 j (0:Int)/\((!e)=true->(!f)=true->Am.Ends (Jh a) (HH a) (Tf a) i)),(cond d [] (cond e [] (cond f [] (cond b (uN1 a c) (uN2 a c).2.2.2.1))),cond d g (cond e h (cond f (15:Int) (cond b (tV3 a c) (0:Int)))),()))
def pB1 a b c d e:=(mI9 a b c d e).1
def F4 a b c d e:=(mI9 a b c d e).2
theorem mJ:SK 163 (sp5 Aj Dz vI vI vI (.tup (.cons At (.cons vI .nl))) pB1 F4):=fx (λc=>{ c with wants:=[(202,[])] }) Tryz.func163 63 [kb pA1,kb mG8,kb pZ] [(11,pB0)] [(35,[(4,0,403800,0)])]
def lG8 (p:AK):Prop×Int:=
 let a:=BO (Q8 p).1 (Q2 p).1
 let i:=a.2.1 !=0
 let j:=cond ((Qi p).1 !=0) ((Qi p).1 !=1) false
 let k:=cond ((Qb p).1==0) (cond ((Qf p).1 !=0) true ((Qg p).1 !=0)) false
 let b:=BF a.1
 let l:=b.2.1 !=0
 let c:=(Qb p).1 !=0
 let e:=Ex a.1
 let d:=e.2.1 !=0
 let g:=F4 b.1 e.1 (Qb p).1 (Qf p).1 (Qg p).1
 let m:=g.2.1 !=0
 let f:=cond c g.1 b.1
 let q:=cond c (0:Int) (Qi p).1
 let n:=DR f q
 let o:=n !=0
 let h:=cond k (1:Int) (cond l b.2.1 (cond ((d||((!d)&&m))&&c) (cond d e.2.1 g.2.1) (cond o n (He (Q9 p).1))))
 (qZ6 (Q8 p).1 (Q2 p).1/\((!i)=true->(!j)=true->(!k)=true->WQ a.1/\((!l)=true->(c=true->qZ7 a.1/\((!d)=true->pB1 b.1 e.1 (Qb p).1 (Qf p).1 (Qg p).1))/\((cond c ((!d)&&(!m)) true)=true->P1 f q/\((!o)=true->sG (Q9 p).1)))),cond i a.2.1 (cond j (8:Int) h))
def pB2 a:=(lG8 a).1
def JY a:=(lG8 a).2
theorem mJ0:SK 123 (AP Bb vI pB2 JY):=fb Tryz.func123 87 [kb qZ,kb mG2,kb oM2,kb mG6,kb mJ,kb pA1] [] [(17,[(4,0,44,1005)]),(27,[(4,0,57,1007)]),(33,[(5,0,1005,0),(4,0,72,1005)])]
def Ji (a b c:Int):Prop×Bool:=
 (True,cond (decide (a≥b)) (decide (a<=c)) false)
def Lb a b c:=(Ji a b c).1
def BI a b c:=(Ji a b c).2
theorem pB3:SK 237 (DN vI vI vI vB Lb BI):=fb Tryz.func237 15
abbrev vH3:Type:=((List A8)×Int×Int×(List A0)×Unit)
def uJ (y:vH3)(x:AA):Prop×Bool×AA×Bool×Bool:=
 let a:=x.1
 let b:=decide (a<3)
 let c:=nth y.2.2.2.1 a A1
 let e:=!(BI c.1 (-65536:Int) (65536:Int))
 let d:=cond e true (!(BI c.2.1 (-65536:Int) (65536:Int)))
 (b=true->A6 a 3/\Lb c.1 (-65536:Int) (65536:Int)/\((!e)=true->Lb c.2.1 (-65536:Int) (65536:Int))/\((!d)=true->A5 (a+1)),b&&(!d),(a+1,()),b&&d,!b)
def rC4 y x:=(uJ y x).1
def P9 y x:=(uJ y x).2.1
def Tg y x:=(uJ y x).2.2.1
def tP3 y x:=(uJ y x).2.2.2.1
def tP4 y x:=(uJ y x).2.2.2.2
def tV4 (y:vH3)(x:AA):Int:=
 (2:Int)
def rC5:List (Nat×Sh):=[(19,Ai),(20,vI),(21,vI)]
def pB4:=li [(19,Ai),(20,vI),(21,vI),(26,(.val (.arr 3 AN)))] [(27,vI)] P9 Tg rC4 (λy x=>[ex 1 (some (tP3 y x)) [(2,vI)] ((tV4 y x),()),ex 4 (some (tP4 y x)) rC5 (y.1,y.2.1,y.2.2.1,())]) [[(2,vI)],rC5]
def NA (y:Ee)(x:AA):Prop×Bool×AA×Bool×Bool:=
 let e:=y.1
 let f:=y.2.1
 let b:=x.1
 let d:=decide (b<f)
 let a:=(e,f,b,(nth e b A4).2.1,())
 let h:=((0:Int),())
 let g:=A3 (P9 a) (Tg a) h
 let c:=tP4 a g
 (d=true->A6 b (len e)/\Am.Ends (P9 a) (Tg a) (rC4 a) h/\(c=true->A5 (b+1)),d&&c,(b+1,()),d&&tP3 a g,!d)
def rT3 y x:=(NA y x).1
def wX y x:=(NA y x).2.1
def NB y x:=(NA y x).2.2.1
def WZ y x:=(NA y x).2.2.2.1
def pZ0 y x:=(NA y x).2.2.2.2
def sP (y:Ee)(x:AA):Int:=
 let b:=y.1
 let c:=x.1
 let a:=(b,y.2.1,c,(nth b c A4).2.1,())
 (tV4 a (A3 (P9 a) (Tg a) ((0:Int),())))
def pZ1:=li [(19,Ai),(20,vI)] [(21,vI)] wX NB rT3 (λy x=>[ex 1 (some (WZ y x)) [(2,vI)] ((sP y x),()),ex 2 (some (pZ0 y x)) [] ()]) [[(2,vI)],[]]
def lG9 (g:C5):Prop×Int:=
 let b:=!(BI g.2.1 (0:Int) (65536:Int))
 let c:=BE g.2.2.1
 let d:=c !=0
 let a:=(g.2.2.1,len g.2.2.1,())
 let f:=((0:Int),())
 let e:=A3 (wX a) (NB a) f
 (Lb g.2.1 (0:Int) (65536:Int)/\((!b)=true->Pv g.2.2.1/\((!d)=true->Am.Ends (wX a) (NB a) (rT3 a) f)),cond b (2:Int) (cond d c (cond (WZ a e) (sP a e) (0:Int))))
def pB5 a:=(lG9 a).1
def F5 a:=(lG9 a).2
theorem mJ1:SK 271 (AP (.val GX) vI pB5 F5):=fb Tryz.func271 42 [kb n4,kb pB3] [(7,pZ1),(10,pB4)]
def mJ2 (a b:DB):Prop×Bool:=
 (True,cond (decide (a.1>b.1)) true (cond (a.1==b.1) (decide (a.2.1>b.2.1)) false))
def oN0 a b:=(mJ2 a b).1
def Is a b:=(mJ2 a b).2
theorem mJ3:SK 272 (BG (.val GY) (.val GY) vB oN0 Is):=fb Tryz.func272 24
abbrev vX0:Type:=(A7×(List C5)×Int×Unit)
def NC (y:vX0)(x:AA):Prop×Bool×AA×Bool×Bool:=
 let j:=y.1
 let f:=y.2.1
 let a:=x.1
 let b:=decide (a<y.2.2.1)
 let d:=nth f a BC
 let e:=decide (a>0)
 let h:=a-1
 let c:=cond e (decide (d.1<=(nth j.2.2.2.1 h BC).1)) false
 let i:=F5 d !=0
 let g:=(!c)&&(!i)
 (b=true->A6 a (len f)/\(e=true->A5 (a-1))/\(e=true->A6 h (len j.2.2.2.1))/\((!c)=true->pB5 d)/\(g=true->A5 (a+1)),b&&g,(a+1,()),b&&(c||((!c)&&i)),!b)
def rT4 y x:=(NC y x).1
def Th y x:=(NC y x).2.1
def wQ y x:=(NC y x).2.2.1
def wW y x:=(NC y x).2.2.2.1
def rT5 y x:=(NC y x).2.2.2.2
def uY3 (y:vX0)(x:AA):Int:=
 let a:=x.1
 let b:=nth y.2.1 a BC
 (cond (cond (decide (a>0)) (decide (b.1<=(nth y.1.2.2.2.1 (a-1) BC).1)) false) (24:Int) (F5 b))
def pZ2:=li [(1,Ah),(35,(.val Di)),(36,vI)] [(37,vI)] Th wQ rT4 (λy x=>[ex 1 (some (wW y x)) [(2,vI)] ((uY3 y x),()),ex 2 (some (rT5 y x)) [(1,Ah)] (y.1,())]) [[(2,vI)],[(1,Ah)]]
abbrev vH5:Type:=(A7×(List DB)×Int×Unit)
def ND (y:vH5)(x:AA):Prop×Bool×AA×Bool×Bool:=
 let k:=y.1
 let f:=y.2.1
 let a:=x.1
 let b:=decide (a<y.2.2.1)
 let c:=nth f a BT
 let d:=decide (a>0)
 let h:=a-1
 let i:=nth k.2.2.2.2.1 h BT
 let e:=cond d (!(Is c i)) false
 let j:=!(BI c.2.2.1 (-65536:Int) (65536:Int))
 let g:=(!e)&&(!j)
 (b=true->A6 a (len f)/\(d=true->A5 (a-1))/\(d=true->A6 h (len k.2.2.2.2.1))/\(d=true->oN0 c i)/\((!e)=true->Lb c.2.2.1 (-65536:Int) (65536:Int))/\(g=true->A5 (a+1)),b&&g,(a+1,()),b&&(e||((!e)&&j)),!b)
def rC6 y x:=(ND y x).1
def Ti y x:=(ND y x).2.1
def y5 y x:=(ND y x).2.2.1
def y8 y x:=(ND y x).2.2.2.1
def pB6 y x:=(ND y x).2.2.2.2
def z8 (y:vH5)(x:AA):Int:=
 let a:=x.1
 (cond (cond (decide (a>0)) (!(Is (nth y.2.1 a BT) (nth y.1.2.2.2.2.1 (a-1) BT))) false) (24:Int) (2:Int))
def pB7:=li [(1,Ah),(63,(.val Ds)),(64,vI)] [(65,vI)] Ti y5 rC6 (λy x=>[ex 1 (some (y8 y x)) [(2,vI)] ((z8 y x),()),ex 4 (some (pB6 y x)) [] ()]) [[(2,vI)],[]]
def lH (k:A7):Prop×Int:=
 let d:=!(BI k.1 (1:Int) (65536:Int))
 let e:=cond d true (!(BI k.2.1 (0:Int) (65536:Int)))
 let f:=cond e true (!(BI k.2.2.1 (0:Int) (65536:Int)))
 let g:=cond (decide (len k.2.2.2.1>256)) true (decide (len k.2.2.2.2.1>256))
 let b:=(k,k.2.2.2.1,len k.2.2.2.1,())
 let j:=((0:Int),())
 let i:=A3 (Th b) (wQ b) j
 let a:=(k,k.2.2.2.2.1,len k.2.2.2.2.1,())
 let h:=((0:Int),())
 let c:=A3 (Ti a) (y5 a) h
 (Lb k.1 (1:Int) (65536:Int)/\((!d)=true->Lb k.2.1 (0:Int) (65536:Int))/\((!e)=true->Lb k.2.2.1 (0:Int) (65536:Int))/\((!f)=true->(!g)=true->Am.Ends (Th b) (wQ b) (rT4 b) j/\(rT5 b i=true->Am.Ends (Ti a) (y5 a) (rC6 a) h)),cond f (2:Int) (cond g (3:Int) (cond (wW b i) (uY3 b i) (cond (y8 a c) (z8 a c) (0:Int)))))
def qD8 a:=(lH a).1
def CF a:=(lH a).2
theorem mJ4:SK 236 (AP Bm vI qD8 CF):=fb Tryz.func236 88 [kb pB3,kb mJ1,kb mJ3] [(6,pZ2),(15,pB7)]
abbrev vX1:Type:=((List UInt8)×Int×Int×Int×Unit)
def NF (y:vX1)(x:AA):Prop×Bool×AA×Bool×Bool:=
 let d:=y.1
 let a:=x.1
 let b:=decide (a<y.2.2.2.1)
 let e:=decide (BN d a<32)
 let f:=cond e true (decide (BN d a>126))
 let c:=cond f (BN d a !=10) false
 (b=true->A6 a (len d)/\((!e)=true->A6 a (len d))/\(f=true->A6 a (len d))/\((!c)=true->A5 (a+1)),b&&(!c),(a+1,()),b&&c,!b)
def rT6 y x:=(NF y x).1
def PA y x:=(NF y x).2.1
def Xa y x:=(NF y x).2.2.1
def tI4 y x:=(NF y x).2.2.2.1
def rT7 y x:=(NF y x).2.2.2.2
def sP0 (y:vX1)(x:AA):Int:=
 (4:Int)
def pZ3:=li [(1,vS),(2,vI),(3,vI),(17,vI)] [(18,vI)] PA Xa rT6 (λy x=>[ex 1 (some (tI4 y x)) [(8,vI)] ((sP0 y x),()),ex 2 (some (rT7 y x)) [(1,vS),(2,vI),(3,vI)] (y.1,y.2.1,y.2.2.1,())]) [[(8,vI)],[(1,vS),(2,vI),(3,vI)]]
def mJ5 (i:A7)(j:List UInt8)(k l:Int):Prop×Int:=
 let c:=CF i
 let d:=c !=0
 let a:=(j,k,l,len j,())
 let h:=((0:Int),())
 let g:=A3 (PA a) (Xa a) h
 let e:=decide (len j>128)
 let f:=!(BI k (1:Int) (1048576:Int))
 let b:=cond d c (cond (tI4 a g) (sP0 a g) (cond e (3:Int) (cond (cond f true (!(BI l (0:Int) (1048576:Int)))) (2:Int) (0:Int))))
 (qD8 i/\((!d)=true->Am.Ends (PA a) (Xa a) (rT6 a) h/\(rT7 a g=true->(!e)=true->Lb k (1:Int) (1048576:Int)/\((!f)=true->Lb l (0:Int) (1048576:Int)))),b)
def qD9 a b c d:=(mJ5 a b c d).1
def JZ a b c d:=(mJ5 a b c d).2
theorem mJ6:SK 203 (Fw Bm vS vI vI vI qD9 JZ):=fb Tryz.func203 49 [kb mJ4,kb pB3] [(5,pZ3)]
abbrev uY4:Type:=(A7×Unit×(A7×(List Int)×Unit)×(List C5)×Int×Unit)
def qE (y:uY4)(x:vC):Prop×Bool×vC:=
 let b:=y.2.2.2.1
 let a:=x.2.1
 let c:=decide (a<y.2.2.2.2.1)
 (c=true->A6 a (len b)/\A5 (a+1),c,(cond ((nth b a BC).1==63) a x.1,a+1,()))
def rT8 y x:=(qE y x).1
def Xb y x:=(qE y x).2.1
def Xc y x:=(qE y x).2.2
def uY6 (y:uY4)(x:vC):Int:=
 x.1
def rT9:List (Nat×Sh):=[(1,Ah),(3,Cn),(4,vI),(12,Al)]
def pZ4:=li [(1,Ah),(3,Cn),(12,Al),(14,(.val Di)),(15,vI)] [(4,vI),(16,vI)] Xb Xc rT8 (λy x=>[ex 2 none rT9 (y.1,y.2.1,(uY6 y x),y.2.2.1,())]) [rT9]
abbrev uJ2:Type:=(A7×Unit×Int×Unit)
abbrev Tj:Type:=((A7×(List Int)×Unit)×Int×Unit)
def rC7 (y:uJ2)(x:Tj):Prop×Bool×Tj:=
 let b:=x.1
 let a:=x.2.1
 let c:=decide (a<256)
 (c=true->A6 a 256/\A5 (a+1),c,((b.1,set b.2.1 (toNat a) y.2.2.1,()),a+1,()))
def rC8 y x:=(rC7 y x).1
def Xd y x:=(rC7 y x).2.1
def Xe y x:=(rC7 y x).2.2
def uN4 (y:uJ2)(x:Tj):(A7×(List Int)×Unit):=
 let a:=x.1
 (a.1,a.2.1,())
def rC9:List (Nat×Sh):=[(1,Ah),(3,Cn),(12,Al)]
def pB8:=li [(1,Ah),(3,Cn),(4,vI)] [(12,Al),(26,vI)] Xd Xe rC8 (λy x=>[ex 4 none rC9 (y.1,y.2.1,(uN4 y x),())]) [rC9]
abbrev uJ4:Type:=(Unit×(List C5)×Int×Unit)
def rD (y:uJ4)(x:Tj):Prop×Bool×Tj:=
 let c:=y.2.1
 let b:=x.1
 let a:=x.2.1
 let d:=decide (a<y.2.2.1)
 let e:=nth c a BC
 (d=true->A6 a (len c)/\A6 e.1 256/\A5 (a+1),d,((b.1,set b.2.1 (toNat e.1) a,()),a+1,()))
def rD0 y x:=(rD y x).1
def Xf y x:=(rD y x).2.1
def Xg y x:=(rD y x).2.2
def uN5 (y:uJ4)(x:Tj):(A7×(List Int)×Unit):=
 let a:=x.1
 (a.1,a.2.1,())
def rD1:List (Nat×Sh):=[(3,Cn),(12,Al)]
def pB9:=li [(3,Cn),(37,(.val Di)),(38,vI)] [(12,Al),(39,vI)] Xf Xg rD0 (λy x=>[ex 6 none rD1 (y.1,(uN5 y x),())]) [rD1]
def mJ7 (i:A7):Prop×AQ:=
 let e:=(i,(),(i,replicate 256 (0:Int),()),i.2.2.2.1,len i.2.2.2.1,())
 let h:=((-1:Int),(0:Int),())
 let c:=(i,(),uY6 e (A3 (Xb e) (Xc e) h),())
 let f:=((i,replicate 256 (0:Int),()),(0:Int),())
 let a:=uN4 c (A3 (Xd c) (Xe c) f)
 let d:=((),i.2.2.2.1,len i.2.2.2.1,())
 let g:=((a.1,a.2.1,()),(0:Int),())
 let b:=uN5 d (A3 (Xf d) (Xg d) g)
 (Am.Ends (Xb e) (Xc e) (rT8 e) h/\Am.Ends (Xd c) (Xe c) (rC8 c) f/\Am.Ends (Xf d) (Xg d) (rD0 d) g,(b.1,b.2.1,()))
def Xh a:=(mJ7 a).1
def B9 a:=(mJ7 a).2
theorem mJ8:SK 204 (AP Bm Az Xh B9):=fb Tryz.func204 53 [] [(4,pZ4),(10,pB8),(15,pB9)] [(39,[(3,12,0,0)])]
end Go.Proofs.YtgjdonlgingdeaaGreatDoor.Am
