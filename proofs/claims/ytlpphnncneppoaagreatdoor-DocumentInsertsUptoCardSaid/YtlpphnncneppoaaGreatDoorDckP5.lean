/- Printed by program, part 5. No condition. -/
import Derived.Test.YtlpphnncneppoaaGreatDoorDckP4
set_option linter.unusedVariables false
set_option synthInstance.maxSize 4000
set_option synthInstance.maxHeartbeats 400000
namespace Go.Proofs.YtlpphnncneppoaaGreatDoor.Am
open Go Go.Am Go.Proofs
open Go.IntKind (wrap)
open _root_.Int (sub tdiv tmod toNat)
open _root_.List (length set take)
abbrev uA6:Type:=((List (List A0))×Unit)
def Zn (y:uA6)(x:CU):Vm CU:=
 let f:=y.1
 let g:=x.1
 let c:=x.2.1
 let a:Bool:=c<len f
 let d:=len (nth f c [])
 let e:=g+d
 let b:Bool:=e>4096
 (a->A7 c (len f)/\A6 (g+d)/\(!b->A6 (c+1)),a&&(!b),(e,c+1,()),a&&b,!a)
def sK4 y x:=(Zn y x).1
def QY y x:=(Zn y x).2.1
def QZ y x:=(Zn y x).2.2.1
def tL8 y x:=(Zn y x).2.2.2.1
def sK5 y x:=(Zn y x).2.2.2.2
def sT2 (y:uA6)(x:CU):Int:=
 3
def oG5:=li [(0,Aj)] [(5,vI),(6,vI)] QY QZ sK4 (λy x=>[ex 1 (some (tL8 y x)) [(4,vI)] ((sT2 y x),()),ex 2 (some (sK5 y x)) [(0,Aj)] (y.1,())]) [[(4,vI)],[(0,Aj)]]
def Zo (y:Ft)(x:AD):Vm AD:=
 let h:=y.1
 let d:=y.2.1
 let i:=y.2.2.1
 let e:=x.1
 let a:Bool:=e<len (nth h i [])
 let f:=nth h i []
 let b:=nth f e A1
 let g:=cond (b.1<sub 0 d) true (b.1>d)
 let c:=cond (cond g true (b.2.1<sub 0 d)) true (b.2.1>d)
 (A7 i (len h)/\(a->A7 i (len h)/\A7 e (len f)/\A6 (sub 0 d)/\(!g->A6 (sub 0 d))/\(!c->A6 (e+1))),a&&(!c),(e+1,()),a&&c,!a)
def uQ9 y x:=(Zo y x).1
def Ra y x:=(Zo y x).2.1
def Rb y x:=(Zo y x).2.2.1
def rJ3 y x:=(Zo y x).2.2.2.1
def rJ4 y x:=(Zo y x).2.2.2.2
def sB1 (y:Ft)(x:AD):Int:=
 2
def rJ5:List (Nat×Sh):=[(0,Aj),(7,vI),(8,vI)]
def pI6:=li [(0,Aj),(7,vI),(8,vI)] [(9,vI)] Ra Rb uQ9 (λy x=>[ex 1 (some (rJ3 y x)) [(4,vI)] ((sB1 y x),()),ex 6 (some (rJ4 y x)) rJ5 (y.1,y.2.1,y.2.2.1,())]) [[(4,vI)],rJ5]
def Zp (y:CL)(x:AD):Vm AD:=
 let g:=y.1
 let f:=x.1
 let c:Bool:=f<len g
 let a:=(g,y.2.1,f,())
 let e:=((0:Int),())
 let d:=A3 (Ra a) (Rb a) e
 let b:=rJ4 a d
 (c->AB (Ra a) (Rb a) (uQ9 a) e/\(b->A6 (f+1)),c&&b,(f+1,()),c&&rJ3 a d,!c)
def tS3 y x:=(Zp y x).1
def UF y x:=(Zp y x).2.1
def UG y x:=(Zp y x).2.2.1
def uR y x:=(Zp y x).2.2.2.1
def pI7 y x:=(Zp y x).2.2.2.2
def sB2 (y:CL)(x:AD):Int:=
 let a:=(y.1,y.2.1,x.1,())
 (sB1 a (A3 (Ra a) (Rb a) (0,())))
def pI8:=li [(0,Aj),(7,vI)] [(8,vI)] UF UG tS3 (λy x=>[ex 1 (some (uR y x)) [(4,vI)] ((sB2 y x),()),ex 4 (some (pI7 y x)) [] ()]) [[(4,vI)],[]]
def mW (h:(List (List A0)))(i:Int):Prop×Int:=
 let d:=cond (i !=0) (i !=1) false
 let b:=(h,())
 let g:=((0:Int),(0:Int),())
 let f:=A3 (QY b) (QZ b) g
 let a:=(h,(16777216:Int),())
 let e:=((0:Int),())
 let c:=A3 (UF a) (UG a) e
 (!d->AB (QY b) (QZ b) (sK4 b) g/\(sK5 b f->AB (UF a) (UG a) (tS3 a) e),cond d 8 (cond (tL8 b f) (sT2 b f) (cond (uR a c) (sB2 a c) 0)))
def O3 a b:=(mW a b).1
def Ev a b:=(mW a b).2
def oV8:=BF Aj vI vI O3 Ev
theorem pI9:SK 190 (BF Aj vI vI O3 Ev):=fb Tryz.func190 78 [] [(5,oG5),(12,pI8),(15,pI6)]
def qJ0 (y:O1)(x:vC):Vn vC:=
 let c:=y.1
 let j:=x.1
 let a:=x.2.1
 let e:Bool:=a<len c
 let f:=(nth c a A5).1==1
 let g:=([true]:List Bool)
 let d:=cond f (j++g) j
 let h:=(nth c a A5).1==5
 let i:=len d
 let b:=i-1
 (e->A7 a (len c)/\(f->((length j+length g:Nat):Int)<=4294967296)/\A7 a (len c)/\(h->A6 (i-1)/\A7 b (len d)/\b<len d)/\A6 (a+1),e,(cond h (set d (toNat b) false) d,a+1,()))
def sK6 y x:=(qJ0 y x).1
def Zq y x:=(qJ0 y x).2.1
def UH y x:=(qJ0 y x).2.2
def sT3 (y:O1)(x:vC):(List Bool):=
 x.1
def oG6:=li [(0,Ai)] [(5,Dj),(6,vI)] Zq UH sK6 (λy x=>[ex 2 none [(5,Dj)] ((sT3 y x),())]) [[(5,Dj)]]
def lR7 (e:List A9):Prop×((List Bool)×Int×Unit):=
 let c:=f219 e
 let a:=c !=0
 let b:=(e,())
 let d:=(([]:List Bool),(0:Int),())
 (sK e/\(!a->AB (Zq b) (UH b) (sK6 b) d),(cond a [] (sT3 b (A3 (Zq b) (UH b) d)),cond a c 0,()))
def qJ1 a:=(lR7 a).1
def H6 a:=(lR7 a).2
theorem mW0:SK 191 (AU Ai (.tup (.cons Dz (.cons vI .nl))) qJ1 H6):=fb Tryz.func191 40 [kb qI7] [(6,oG6)] [(9,[(4,0,12,1005)]),(19,[(4,0,27,1005)]),(25,[(1,2,0,0),(4,0,1005,0)])] false [] [12,26,27]
def lR8 (b c d:Int):Prop×Int:=
 let a:=cond (cond (b<1) true (b>4096)) (2:Int) (cond (cond (cond (cond (c<0) true (c>2)) true (d<0)) true (d>2)) 8 0)
 (True,a)
def oV9 a b c:=(lR8 a b c).1
def f224 a b c:=(lR8 a b c).2
theorem mW1:SK 224 (DU vI vI vI vI oV9 f224):=fb Tryz.func224 27
def qJ2 (y:CZ)(x:CU):Vn CU:=
 let a:=y.1
 let c:=x.2.1
 let e:Bool:=c<y.2.1
 let d:=len a
 let b:=tmod (wrap .i64 (c+1)) d
 (e->d≠0/\A7 c (len a)/\A7 b (len a)/\A7 c (len a)/\A7 b (len a),e,(wrap .i64 (x.1+wrap .i64 (wrap .i64 ((nth a c A1).1*(nth a b A1).2.1)-(wrap .i64 ((nth a c A1).2.1*(nth a b A1).1)))),wrap .i64 (c+1),()))
def sK7 y x:=(qJ2 y x).1
def Zr y x:=(qJ2 y x).2.1
def vO y x:=(qJ2 y x).2.2
def sT4 (y:CZ)(x:CU):Int:=
 x.1
def oG7:=li [(0,Bd),(7,vI)] [(3,vI),(8,vI)] Zr vO sK7 (λy x=>[ex 2 none [(3,vI)] ((sT4 y x),())]) [[(3,vI)]]
def lR9 (c:List A0):Prop×Int:=
 let a:=(c,len c,())
 let b:=((0:Int),(0:Int),())
 (AB (Zr a) (vO a) (sK7 a) b,sT4 a (A3 (Zr a) (vO a) b))
def pJ a:=(lR9 a).1
def G8 a:=(lR9 a).2
theorem mW2:SK 285 (AU Bd vI pJ G8):=fb Tryz.func285 43 [] [(3,oG7)] [] true
def mW3 :Prop×(List Int):=
 let a:=([(0:Int),(1608:Int),(3216:Int),(4821:Int),(6424:Int),(8022:Int),(9616:Int),(11204:Int),(12785:Int),(14359:Int),(15924:Int),(17479:Int),(19024:Int),(20557:Int),(22078:Int),(23586:Int),(25080:Int),(26558:Int),(28020:Int),(29466:Int),(30893:Int),(32303:Int),(33692:Int),(35062:Int),(36410:Int),(37736:Int),(39040:Int),(40320:Int),(41576:Int),(42806:Int),(44011:Int),(45190:Int),(46341:Int),(47464:Int),(48559:Int),(49624:Int),(50660:Int),(51665:Int),(52639:Int),(53581:Int),(54491:Int),(55368:Int),(56212:Int),(57022:Int),(57798:Int),(58538:Int),(59244:Int),(59914:Int),(60547:Int),(61145:Int),(61705:Int),(62228:Int),(62714:Int),(63162:Int),(63572:Int),(63944:Int),(64277:Int),(64571:Int),(64827:Int),(65043:Int),(65220:Int),(65358:Int),(65457:Int),(65516:Int),(65536:Int)]:List Int)
 (True,a)
def Zs :Prop:=(mW3).1
def f312 :List Int:=(mW3).2
def oW:Am.Spec:=fnSpec [] (.val Dv) [] (λx=>Zs ) (λx=>f312 ) (λ_=>())
theorem mW4:SK 312 (fnSpec [] (.val Dv) [] (λx=>Zs ) (λx=>f312 ) (λ_=>())):=fb Tryz.func312 2
def mW5 (e:Int):Prop×Int:=
 let d:=e==16384
 let a:=wrap .i64 (tdiv e 256)
 let b:=wrap .i64 (a+1)
 let c:=wrap .i64 (wrap .i64 (nth f312 b 0-(nth f312 a 0))*wrap .i64 (e-(wrap .i64 (256*a))))
 (Zs/\(d->A7 64 65)/\(!d->A7 a 65/\A7 b 65/\A7 a 65/\wH c 256),cond d (nth f312 64 0) (wrap .i64 (nth f312 a 0+AZ c 256)))
def Rd a:=(mW5 a).1
def K8 a:=(mW5 a).2
def oW0:=AU vI vI Rd K8
def nO4:=Cz [(153,oU6),(312,oW)] [] [] 30
theorem mW6:SK 307 oW0:=fq (c:=nO4) Tryz.func307 ⟨ID,mW4,trivial⟩
def mW7 (h:Int):Prop×Int:=
 let g:=wrap .i64 (tdiv h 16384)
 let a:=wrap .i64 (h-(wrap .i64 (16384*g)))
 let b:=g==0
 let c:=g==1
 let e:=wrap .i64 (16384-a)
 let d:=g==2
 let f:=wrap .i64 (16384-a)
 ((b->Rd a)/\(!b->(c->Rd e)/\(!c->(d->Rd a)/\(!d->Rd f))),cond b (K8 a) (cond c (K8 e) (cond d (wrap .i64 (sub 0 (K8 a))) (wrap .i64 (sub 0 (K8 f))))))
def Zt a:=(mW7 a).1
def Re a:=(mW7 a).2
theorem mW8:SK 301 (AU vI vI Zt Re):=fb Tryz.func301 29 [kb mW6] [] [] true
def mW9 (d:Int):Prop×(Int×Int×Unit):=
 let c:=tmod d 65536
 let b:=cond (c<0) (wrap .i64 (c+65536)) c
 let a:=tmod (wrap .i64 (b+16384)) 65536
 (Zt b/\Zt a,(Re b,Re a,()))
def UI a:=(mW9 a).1
def IG a:=(mW9 a).2
theorem mX:SK 286 (AU vI (.tup (.cons vI (.cons vI .nl))) UI IG):=fb Tryz.func286 17 [kb mW8] [] [] true
abbrev tE9:Type:=(Int×A0×Unit)
def qJ3 (y:tE9)(x:CZ):Vn CZ:=
 let h:=y.1
 let i:=y.2.1
 let j:=x.1
 let g:=x.2.1
 let a:Bool:=g<16
 let b:=wrap .i64 (4096*g)
 let c:=IG b
 let d:=wrap .i64 (h*c.2.1)
 let e:=wrap .i64 (h*c.1)
 let f:=([(wrap .i64 (i.1+AZ d 131072),wrap .i64 (i.2.1+AZ e 131072),())]:List A0)
 (a->UI b/\wH d 131072/\wH e 131072/\((length j+length f:Nat):Int)<=4294967296,a,(j++f,wrap .i64 (g+1),()))
def sK9 y x:=(qJ3 y x).1
def tF y x:=(qJ3 y x).2.1
def UJ y x:=(qJ3 y x).2.2
def tF0 (y:tE9)(x:CZ):(List A0):=
 x.1
def oG8:=li [(1,vI),(2,Bz)] [(5,Bq),(6,vI)] tF UJ sK9 (λy x=>[ex 2 none [(5,Bq)] ((tF0 y x),())]) [[(5,Bq)]]
def mX0 (c:A0)(d:Int):Prop×(List A0):=
 let a:=(d,c,())
 let b:=(([]:List A0),(0:Int),())
 (AB (tF a) (UJ a) (sK9 a) b,tF0 a (A3 (tF a) (UJ a) b))
def sL a b:=(mX0 a b).1
def Ef a b:=(mX0 a b).2
theorem pJ0:SK 263 (BF Aq vI Bx sL Ef):=fb Tryz.func263 38 [kb ID,kb mX] [(3,oG8)] [(13,[(4,0,36,1005)]),(15,[(4,0,1005,0)])] true
def mX1 (g h:Int):Prop×(Int×Int×Unit):=
 let a:=F5 .u64 g 4294967295
 let b:=EW g 32 64
 let c:=F5 .u64 h 4294967295
 let d:=EW h 32 64
 let e:=wrap .u64 (wrap .u64 (b*c)+EW (wrap .u64 (a*c)) 32 64)
 let f:=wrap .u64 (wrap .u64 (wrap .u64 (b*d)+EW e 32 64)+EW (wrap .u64 (wrap .u64 (a*d)+F5 .u64 e 4294967295)) 32 64)
 (True,(f,wrap .u64 (g*h),()))
def Zu a b:=(mX1 a b).1
def CA a b:=(mX1 a b).2
theorem mX2:SK 299 (BF Ap Ap (.tup (.cons Ap (.cons Ap .nl))) Zu CA):=fb Tryz.func299 48 [] [] [] true
def lS (c d:Int)(e:Bool):Prop×Int:=
 let a:=cond (c>0) true (d>9223372036854775808)
 let b:=cond ((a||(!a))&&e) (cond a (-9223372036854775808:Int) (wrap .i64 (wrap .u64 (0-d)))) (cond (cond (c>0) true (d>9223372036854775807)) 9223372036854775807 (wrap .i64 d))
 (True,b)
def oW1 a b c:=(lS a b c).1
def Rf a b c:=(lS a b c).2
theorem mX3:SK 300 (DU Ap Ap vB vI oW1 Rf):=fb Tryz.func300 25 [] [] [] true
def qJ4 (y x:CU):Vn CU:=
 let d:=y.2.1
 let b:=x.1
 let a:=x.2.1
 let e:Bool:=a>0
 let f:=ior .u64 b a
 let g:=ior .u64 b a
 let c:=CA f g
 (e->Zu f g,e,(cond (cond (c.1<d) true (cond (c.1==d) (decide (c.2.1<=y.1)) false)) (ior .u64 b a) b,EW a 1 64,()))
def tL9 y x:=(qJ4 y x).1
def uB y x:=(qJ4 y x).2.1
def wT y x:=(qJ4 y x).2.2
def sT5 (y x:CU):Int:=
 x.1
def oG9:=li [(9,Ap),(10,Ap)] [(11,Ap),(12,Ap)] uB wT tL9 (λy x=>[ex 2 none [(11,Ap)] ((sT5 y x),())]) [[(11,Ap)]]
def lS0 (l m:Int):Prop×Int:=
 let d:=BB l
 let e:=BB l
 let b:=CA d e
 let f:=BB m
 let g:=BB m
 let h:=CA f g
 let i:=wrap .u64 (b.2.1+h.2.1)
 let j:=wrap .u64 (b.1+h.1)
 let c:=(i,cond (i<b.2.1) (wrap .u64 (j+1)) j,())
 let k:=((0:Int),(9223372036854775808:Int),())
 let a:=sT5 c (A3 (uB c) (wT c) k)
 (M6 l/\M6 l/\Zu d e/\M6 m/\M6 m/\Zu f g/\AB (uB c) (wT c) (tL9 c) k/\oW1 0 a false,Rf 0 a false)
def Zv a b:=(lS0 a b).1
def EY a b:=(lS0 a b).2
theorem pJ1:SK 284 (BF vI vI vI Zv EY):=fb Tryz.func284 74 [kb oU4,kb mX2,kb mX3] [(9,oG9)] [] true
def lS1 (f g:A0)(h:Int):Prop×A0:=
 let b:=wrap .i64 (16*wrap .i64 (g.1-f.1))
 let c:=wrap .i64 (16*wrap .i64 (g.2.1-f.2.1))
 let a:=EY b c
 let d:=wrap .i64 (wrap .i64 ((-8)*h)*wrap .i64 (g.2.1-f.2.1))
 let e:=wrap .i64 (wrap .i64 (8*h)*wrap .i64 (g.1-f.1))
 (Zv b c/\wH d a/\wH e a,(AZ d a,AZ e a,()))
def Rh a b c:=(lS1 a b c).1
def B3 a b c:=(lS1 a b c).2
theorem oW2:SK 259 (DU Aq Aq vI Aq Rh B3):=fb Tryz.func259 42 [kb ID,kb pJ1] [] [] true
def lS2 (a b:A0)(c:Int):Prop×A0:=
 (True,(wrap .i64 (a.1+wrap .i64 (c*b.1)),wrap .i64 (a.2.1+wrap .i64 (c*b.2.1)),()))
def ET a b c:=(lS2 a b c).1
def f261 a b c:=(lS2 a b c).2
theorem oW3:SK 261 (DU Aq Aq vI Aq ET f261):=fb Tryz.func261 22 [] [] [] true
def lS3 (f g:A0)(h:Int):Prop×A0:=
 let b:=wrap .i64 (16*wrap .i64 (g.1-f.1))
 let c:=wrap .i64 (16*wrap .i64 (g.2.1-f.2.1))
 let a:=EY b c
 let d:=wrap .i64 (wrap .i64 (8*h)*wrap .i64 (g.1-f.1))
 let e:=wrap .i64 (wrap .i64 (8*h)*wrap .i64 (g.2.1-f.2.1))
 (Zv b c/\wH d a/\wH e a,(AZ d a,AZ e a,()))
def qJ5 a b c:=(lS3 a b c).1
def FJ a b c:=(lS3 a b c).2
theorem mX4:SK 264 (DU Aq Aq vI Aq qJ5 FJ):=fb Tryz.func264 42 [kb ID,kb pJ1] [] [] true
def qJ6 (y:uZ3)(x:CZ):Vn CZ:=
 let i:=y.1
 let b:=x.1
 let c:=x.2.1
 let d:Bool:=c<y.2.2.1
 let a:=len b==0
 let e:=len b
 let f:=e-1
 let g:=cond a true (!(Ty.eqb AQ (nth b f A1) (nth i c A1)))
 let h:=([nth i c A1]:List A0)
 (d->(!a->A6 (e-1))/\(!a->A7 f (len b))/\(!a->A7 c (len i))/\(g->A7 c (len i)/\((length b+length h:Nat):Int)<=4294967296)/\A6 (c+1),d,(cond g (b++h) b,c+1,()))
def sL0 y x:=(qJ6 y x).1
def Zw y x:=(qJ6 y x).2.1
def Zx y x:=(qJ6 y x).2.2
def sT6 (y:uZ3)(x:CZ):(List A0):=
 x.1
def rZ7:List (Nat×Sh):=[(1,vB),(5,Bq)]
def oH:=li [(0,Bd),(1,vB),(8,vI)] [(5,Bq),(9,vI)] Zw Zx sL0 (λy x=>[ex 2 none rZ7 (y.2.1,(sT6 y x),())]) [rZ7]
def qJ7 (y:uZ2)(x:NV):Vn NV:=
 let a:=x.1
 let b:=cond (!y.1) (decide (len a>1)) false
 let d:=len a
 let e:=d-1
 let f:=cond b (Ty.eqb AQ (nth a e A1) (nth a 0 A1)) false
 let g:=len a
 let c:=g-1
 ((b->A6 (d-1))/\(b->A7 e (len a))/\(b->A7 0 (len a))/\(f->A6 (g-1)/\0<=c/\c<=len a),f,(take (toNat c) a,()))
def rZ8 y x:=(qJ7 y x).1
def sB3 y x:=(qJ7 y x).2.1
def uG5 y x:=(qJ7 y x).2.2
def sT7 (y:uZ2)(x:NV):(List A0):=
 x.1
def oH0:=li [(1,vB)] [(5,Bd)] sB3 uG5 rZ8 (λy x=>[ex 4 none [(5,Bd)] ((sT7 y x),())]) [[(5,Bd)]]
def lS4 (e:List A0)(f:Bool):Prop×(List A0):=
 let a:=(e,f,len e,())
 let c:=(([]:List A0),(0:Int),())
 let b:=(f,())
 let d:=(sT6 a (A3 (Zw a) (Zx a) c),())
 (AB (Zw a) (Zx a) (sL0 a) c/\AB (sB3 b) (uG5 b) (rZ8 b) d,sT7 b (A3 (sB3 b) (uG5 b) d))
def qJ8 a b:=(lS4 a b).1
def Fj a b:=(lS4 a b).2
theorem mX5:SK 226 (BF Bd vB Bd qJ8 Fj):=fb Tryz.func226 61 [] [(3,oH),(8,oH0)] [(13,[(4,0,34,1005)])]
def qJ9 (y:CL)(x:CU):Vn CU:=
 let b:=y.1
 let a:=x.2.1
 let c:Bool:=a<y.2.1
 (c->A7 a (len b),c,(wrap .i64 (x.1+len (nth b a [])),wrap .i64 (a+1),()))
def sL1 y x:=(qJ9 y x).1
def UK y x:=(qJ9 y x).2.1
def UL y x:=(qJ9 y x).2.2
def sT8 (y:CL)(x:CU):Int:=
 x.1
def oH1:=li [(0,Aj),(6,vI)] [(3,vI),(7,vI)] UK UL sL1 (λy x=>[ex 2 none [(3,vI)] ((sT8 y x),())]) [[(3,vI)]]
def lS5 (c:(List (List A0))):Prop×Int:=
 let a:=(c,len c,())
 let b:=((0:Int),(0:Int),())
 (AB (UK a) (UL a) (sL1 a) b,sT8 a (A3 (UK a) (UL a) b))
def qK a:=(lS5 a).1
def H7 a:=(lS5 a).2
theorem mX6:SK 227 (AU Aj vI qK H7):=fb Tryz.func227 19 [] [(3,oH1)] [] true
abbrev vO2:Type:=((List (List A0))×(List A0)×Unit)
def tS6 (y:vO2)(x:CZ):Vn CZ:=
 let d:=y.2.1
 let e:=x.1
 let a:=x.2.1
 let b:Bool:=a≥0
 let c:=([nth d a A1]:List A0)
 (b->A7 a (len d)/\((length e+length c:Nat):Int)<=4294967296/\A6 (a-1),b,(e++c,a-1,()))
def vR5 y x:=(tS6 y x).1
def wN y x:=(tS6 y x).2.1
def MB y x:=(tS6 y x).2.2
def tF6 (y:vO2)(x:CZ):(List A0):=
 x.1
def sB4:List (Nat×Sh):=[(0,Bg),(6,Cc)]
def qK0:=li [(0,Bg),(1,Bd)] [(6,Cc),(7,vI)] wN MB vR5 (λy x=>[ex 2 none sB4 (y.1,(tF6 y x),())]) [sB4]
def pP9 (i:(List (List A0)))(j:List A0):Prop×(List (List A0)):=
 let g:=G8 j
 let c:=g==0
 let a:Bool:=g<0
 let d:=len j
 let b:=(i,j,())
 let h:=(([]:List A0),d-1,())
 let f:=cond a i i
 let e:=([cond a (tF6 b (A3 (wN b) (MB b) h)) j]:List (List A0))
 (pJ j/\(!c->(a->A6 (d-1)/\AB (wN b) (MB b) (vR5 b) h)/\((length f+length e:Nat):Int)<=4294967296),cond c i (f++e))
def IH a b:=(pP9 a b).1
def CV a b:=(pP9 a b).2
theorem sL2:SK 260 (BF Bg Bd Au IH CV):=fb Tryz.func260 34 [kb mW2] [(7,qK0)] [(7,[(4,0,400000,0)]),(19,[(4,0,28,1006)]),(21,[(4,0,1006,400100)]),(23,[(4,0,33,0)])]
def pQ (f:(List (List A0)))(g:A0)(h i:Int):Prop×(List (List A0)):=
 let b:=i==1
 let c:=Ef g h
 let d:=i==2
 let a:=AZ h 2
 let e:=([(wrap .i64 (g.1-a),wrap .i64 (g.2.1-a),()),(wrap .i64 (g.1+a),wrap .i64 (g.2.1-a),()),(wrap .i64 (g.1+a),wrap .i64 (g.2.1+a),()),(wrap .i64 (g.1-a),wrap .i64 (g.2.1+a),())]:List A0)
 ((b->sL g h/\IH f c)/\(!b->d->wH h 2/\IH f e),cond b (CV f c) (cond d (CV f e) f))
def sL3 a b c d:=(pQ a b c d).1
def MC a b c d:=(pQ a b c d).2
theorem oH2:SK 258 (FA Bg Aq vI vI Au sL3 MC):=fx (λc=>{ c with wants:=[(260,[0])] }) Tryz.func258 61 [kb ID,kb sL2,kb pJ0] [] [(5,[(4,0,16,0)]),(11,[(4,0,59,0)]),(13,[(4,0,400000,0)])] true
def pQ0 (p:(List (List A0)))(u v w:A0)(z A:Int):Prop×(List (List A0)):=
 let m:=A==1
 let n:=Ef v z
 let a:=B3 u v z
 let b:=B3 v w z
 let o:=([v,f261 v a 1,f261 v b 1]:List A0)
 let q:=CV p o
 let r:=([v,f261 v a (-1:Int),f261 v b (-1:Int)]:List A0)
 let g:=CV q r
 let t:=wrap .i64 (wrap .i64 (wrap .i64 (v.1-u.1)*wrap .i64 (w.2.1-v.2.1))-(wrap .i64 (wrap .i64 (v.2.1-u.2.1)*wrap .i64 (w.1-v.1))))
 let f:=wrap .i64 (wrap .i64 (z*z)+wrap .i64 (4*wrap .i64 (wrap .i64 (a.1*b.1)+wrap .i64 (a.2.1*b.2.1))))
 let h:=cond (cond (A !=0) true (t==0)) true (f<=0)
 let i:=wrap .i64 (wrap .i64 (z*z)*wrap .i64 (a.1+b.1))
 let d:=AZ i f
 let j:=wrap .i64 (wrap .i64 (z*z)*wrap .i64 (a.2.1+b.2.1))
 let e:=AZ j f
 let s:=(d,e,())
 let k:Bool:=EY d e>wrap .i64 (4*z)
 let c:=cond (t>0) (-1:Int) 1
 let l:=([v,f261 v a c,f261 v s c,f261 v b c]:List A0)
 ((m->sL v z/\IH p n)/\(!m->Rh u v z/\Rh v w z/\ET v a 1/\ET v b 1/\IH p o/\ET v a (-1:Int)/\ET v b (-1:Int)/\IH q r/\(!h->wH i f/\wH j f/\Zv d e/\(!k->ET v a c/\ET v s c/\ET v b c/\IH g l))),cond m (CV p n) (cond h g (cond k g (CV g l))))
def sL4 a b c d e f:=(pQ0 a b c d e f).1
def UM a b c d e f:=(pQ0 a b c d e f).2
theorem oH3:SK 262 (sp6 Bg Aq Aq Aq vI vI Au sL4 UM):=fx (λc=>{ c with wants:=[(260,[0])] }) Tryz.func262 154 [kb ID,kb oW2,kb sL2,kb oW3,kb pJ0,kb pJ1] [] [(5,[(4,0,25,0)]),(9,[(4,0,43,400000)]),(11,[(4,0,53,400000)]),(19,[(4,0,400000,0)]),(25,[(4,0,400000,0)]),(33,[(4,0,153,0)])] true
abbrev vF1:Type:=((List A0)×Bool×Int×Int×Int×Int×Int×Unit)
def tF7 (y:vF1)(x:CL):Vn CL:=
 let i:=y.1
 let k:=y.2.2.1
 let e:=(Q1 y).1
 let j:=x.1
 let b:=x.2.1
 let f:Bool:=b<(Q3 y).1
 let c:=nth i b A1
 let g:=tmod (b+1) e
 let d:=nth i g A1
 let a:=B3 c d k
 let h:=([f261 c a 1,f261 d a 1,f261 d a (-1:Int),f261 c a (-1:Int)]:List A0)
 (f->A7 b (len i)/\A6 (b+1)/\e≠0/\A7 g (len i)/\Rh c d k/\ET c a 1/\ET d a 1/\ET d a (-1:Int)/\ET c a (-1:Int)/\IH j h/\A6 (b+1),f,(CV j h,b+1,()))
def vL4 y x:=(tF7 y x).1
def JA y x:=(tF7 y x).2.1
def JC y x:=(tF7 y x).2.2
def Zy (y:vF1)(x:CL):(List (List A0)):=
 x.1
def tP6:List (Nat×Sh):=[(0,Bg),(1,Bd),(2,vB),(3,vI),(4,vI),(5,vI),(13,vI)]
def rT4:=li [(1,Bd),(2,vB),(3,vI),(4,vI),(5,vI),(13,vI),(14,vI)] [(0,Bg),(15,vI)] JA JC vL4 (λy x=>[ex 2 none tP6 ((Zy y x),y.1,y.2.1,y.2.2.1,y.2.2.2.1,y.2.2.2.2.1,(Q1 y).1,())]) [tP6]
abbrev vF2:Type:=((List A0)×Bool×Int×Int×Int×Int×Unit)
def tF8 (y:vF2)(x:CL):Vn CL:=
 let h:=y.1
 let o:=y.2.2.1
 let q:=y.2.2.2.1
 let b:=(Q1 y).1
 let n:=x.1
 let a:=x.2.1
 let i:Bool:=a<b
 let j:=!y.2.1
 let k:Bool:=a>0
 let l:=cond j true (cond k (decide (a<(b-1))) false)
 let m:=a+b
 let c:=tmod (m-1) b
 let d:=nth h c A1
 let e:=nth h a A1
 let f:=tmod (a+1) b
 let g:=nth h f A1
 (i->(((!j)&&k)->A6 (b-1))/\(l->A6 (a+b)/\A6 (m-1)/\b≠0/\A7 c (len h)/\A7 a (len h)/\A6 (a+1)/\b≠0/\A7 f (len h)/\sL4 n d e g o q)/\A6 (a+1),i,(cond l (UM n d e g o q) n,a+1,()))
def Zz y x:=(tF8 y x).1
def K9 y x:=(tF8 y x).2.1
def KA y x:=(tF8 y x).2.2
def wY (y:vF2)(x:CL):(List (List A0)):=
 x.1
def tP7:List (Nat×Sh):=[(0,Bg),(1,Bd),(2,vB),(3,vI),(5,vI),(13,vI)]
def rT5:=li [(1,Bd),(2,vB),(3,vI),(4,vI),(5,vI),(13,vI)] [(0,Bg),(19,vI)] K9 KA Zz (λy x=>[ex 4 none tP7 ((wY y x),y.1,y.2.1,y.2.2.1,y.2.2.2.2.1,(Q1 y).1,())]) [tP7]
def pQ1 (p:(List (List A0)))(D:List A0)(G:Bool)(I S T:Int):Prop×(List (List A0)):=
 let d:=len D
 let N:=d==0
 let M:=d==1
 let O:=nth D 0 A1
 let i:=(D,G,I,S,T,d,cond G (d-1) d,())
 let Q:=(p,(0:Int),())
 let j:=(D,G,I,S,T,d,())
 let R:=(Zy i (A3 (JA i) (JC i) Q),(0:Int),())
 let c:=wY j (A3 (K9 j) (KA j) R)
 let l:=cond (!G) true (T==0)
 let k:=T==1
 let m:=nth D 0 A1
 let n:=Ef m I
 let o:=CV c n
 let q:=d-1
 let r:=nth D q A1
 let s:=Ef r I
 let a:=nth D 0 A1
 let t:=d-1
 let b:=nth D t A1
 let u:=nth D 1 A1
 let e:=B3 a u I
 let v:=nth D 1 A1
 let g:=FJ a v I
 let w:=f261 a g (-1:Int)
 let z:=f261 a g (-1:Int)
 let A:=([f261 w e 1,f261 a e 1,f261 a e (-1:Int),f261 z e (-1:Int)]:List A0)
 let B:=CV c A
 let C:=d-2
 let E:=nth D C A1
 let f:=B3 E b I
 let F:=d-2
 let H:=nth D F A1
 let h:=FJ H b I
 let J:=f261 b h 1
 let K:=f261 b h 1
 let L:=([f261 b f 1,f261 J f 1,f261 K f (-1:Int),f261 b f (-1:Int)]:List A0)
 ((!N)->(M->A7 0 (len D)/\sL3 p O I T)/\((!M)->(G->A6 (d-1))/\AB (JA i) (JC i) (vL4 i) Q/\AB (K9 j) (KA j) (Zz j) R/\(!l->(k->A7 0 (len D)/\sL m I/\IH c n/\A6 (d-1)/\A7 q (len D)/\sL r I/\IH o s)/\(!k->A7 0 (len D)/\A6 (d-1)/\A7 t (len D)/\A7 1 (len D)/\Rh a u I/\A7 1 (len D)/\qJ5 a v I/\ET a g (-1:Int)/\ET w e 1/\ET a e 1/\ET a e (-1:Int)/\ET a g (-1:Int)/\ET z e (-1:Int)/\IH c A/\A6 (d-2)/\A7 C (len D)/\Rh E b I/\A6 (d-2)/\A7 F (len D)/\qJ5 H b I/\ET b f 1/\ET b h 1/\ET J f 1/\ET b h 1/\ET K f (-1:Int)/\ET b f (-1:Int)/\IH B L))),cond N p (cond M (MC p O I T) (cond l c (cond k (CV o s) (CV B L)))))
def tM a b c d e f:=(pQ1 a b c d e f).1
def KB a b c d e f:=(pQ1 a b c d e f).2
theorem oH4:SK 225 (sp6 Bg Bd vB vI vI vI Au tM KB):=fx (λc=>{ c with wants:=[(258,[0]),(260,[0]),(262,[0])] }) Tryz.func225 216 [kb oH2,kb oW2,kb sL2,kb oW3,kb oH3,kb pJ0,kb mX4] [(10,rT4),(16,rT5)] [(7,[(4,0,400000,0)]),(11,[(4,0,37,0)]),(29,[(4,0,76,400000)]),(39,[(4,0,117,400000)]),(43,[(4,0,400000,0)]),(47,[(4,0,141,0)]),(53,[(4,0,180,400000)]),(57,[(4,0,215,0)])]
abbrev wV4:Type:=((List (List A0))×(List Bool)×Int×Int×Int×Int×Unit)
def Ri (y:wV4)(x:CL):Vm CL:=
 let k:=y.1
 let j:=y.2.1
 let l:=y.2.2.1
 let m:=y.2.2.2.1
 let n:=y.2.2.2.2.1
 let e:=x.1
 let a:=x.2.1
 let b:Bool:=a<(Q1 y).1
 let f:=nth k a []
 let g:=nth j a false
 let h:=Fj f g
 let i:=nth j a false
 let c:=KB e h i l m n
 let d:Bool:=H7 c>4096
 (b->A7 a (len k)/\A7 a (len j)/\qJ8 f g/\A7 a (len j)/\tM e h i l m n/\qK c/\(!d->A6 (a+1)),b&&(!d),(c,a+1,()),b&&d,!b)
def tS7 y x:=(Ri y x).1
def O4 y x:=(Ri y x).2.1
def L0 y x:=(Ri y x).2.2.1
def Rj y x:=(Ri y x).2.2.2.1
def pJ2 y x:=(Ri y x).2.2.2.2
def sB5 (y:wV4)(x:CL):(List (List A0)):=
 []
def sB6 (y:wV4)(x:CL):Int:=
 3
def rK:List (Nat×Sh):=[(10,Au),(11,vI)]
def sB7 (y:wV4)(x:CL):(List (List A0)):=
 x.1
def rK0:List (Nat×Sh):=[(13,(.own Ad 1013 false))]
def pJ3:=li [(0,Aj),(1,Dz),(2,vI),(3,vI),(4,vI),(33,vI)] [(13,(.own Ad 1013 false)),(34,vI)] O4 L0 tS7 (λy x=>[ex 1 (some (Rj y x)) rK ((sB5 y x),(sB6 y x),()),ex 2 (some (pJ2 y x)) rK0 ((sB7 y x),())]) [rK,rK0]
def lS6 (j:(List (List A0)))(k:List Bool)(l m n:Int):Prop×((List (List A0))×Int×Unit):=
 let g:=f224 l m n
 let d:=g !=0
 let h:=Ev j 0
 let e:=h !=0
 let f:=len k !=len j
 let a:=(j,k,l,m,n,len j,())
 let i:=(([]:List (List A0)),(0:Int),())
 let c:=A3 (O4 a) (L0 a) i
 let b:=Rj a c
 (oV9 l m n/\(!d->O3 j 0/\(!e->!f->AB (O4 a) (L0 a) (tS7 a) i)),(cond d [] (cond e [] (cond f [] (cond b (sB5 a c) (sB7 a c)))),cond d g (cond e h (cond f 15 (cond b (sB6 a c) 0))),()))
def qK1 a b c d e:=(lS6 a b c d e).1
def H8 a b c d e:=(lS6 a b c d e).2
theorem mX7:SK 192 (sp5 Aj Dz vI vI vI (.tup (.cons Au (.cons vI .nl))) qK1 H8):=fx (λc=>{ c with wants:=[(225,[0])] }) Tryz.func192 60 [kb pI9,kb mW1,kb oH4,kb mX5,kb mX6] [(11,pJ3)] [(27,[(4,0,54,1013)]),(35,[(4,0,1013,0)])]
def lS7 (o:AJ):Prop×Int:=
 let a:=DZ (Q8 o).1 (Q2 o).1
 let h:=a.2.1 !=0
 let i:=cond ((Qi o).1 !=0) ((Qi o).1 !=1) false
 let b:=DB a.1
 let f:=(Qc o).1==0
 let c:=cond ((Qf o).1 !=0) true ((Qg o).1 !=0)
 let j:=Ev b.1 (Qi o).1
 let d:=j !=0
 let k:=H6 a.1
 let e:=H8 b.1 k.1 (Qc o).1 (Qf o).1 (Qg o).1
 let l:=e.2.1 !=0
 let m:=Ev e.1 0
 let n:=m !=0
 let g:=cond ((c||((!c)&&(d||(!d))))&&f) (cond c 1 (cond d j (G3 (Q9 o).1))) (cond l e.2.1 (cond n m (G3 (Q9 o).1)))
 (qI8 (Q8 o).1 (Q2 o).1/\(!h->!i->Zm a.1/\(f->!c->O3 b.1 (Qi o).1/\(!d->Oz (Q9 o).1))/\(!f->qJ1 a.1/\qK1 b.1 k.1 (Qc o).1 (Qf o).1 (Qg o).1/\(!l->O3 e.1 0/\(!n->Oz (Q9 o).1)))),cond h a.2.1 (cond i 8 g))
def pJ4 a:=(lS7 a).1
def f157 a:=(lS7 a).2
theorem mX8:SK 157 (AU Ay vI pJ4 f157):=fb Tryz.func157 85 [kb pI,kb mV7,kb oV7,kb pI9,kb mW0,kb mX7] [] [(3,[(4,0,17,1003)]),(31,[(4,0,71,1010)])]
def UN (y:Ek)(x:AD):Vm AD:=
 let f:=y.1
 let g:=y.2.1
 let d:=x.1
 let e:=nth f g A5
 let b:Bool:=d<B6 e.1
 let a:=nth (nth f g A5).2.1 d A1
 let c:Bool:=GI (GI (GI a.1 (sub 0 a.1)) a.2.1) (sub 0 a.2.1)>65536
 (A7 g (len f)/\QV e.1/\(b->A7 g (len f)/\A7 d 3/\A6 (sub 0 a.1)/\A6 (sub 0 a.2.1)/\(!c->A6 (d+1))),b&&(!c),(d+1,()),b&&c,!b)
def rZ9 y x:=(UN y x).1
def Rk y x:=(UN y x).2.1
def UO y x:=(UN y x).2.2.1
def sL6 y x:=(UN y x).2.2.2.1
def sL7 y x:=(UN y x).2.2.2.2
def sT9 (y:Ek)(x:AD):Bool:=
 false
def qA:List (Nat×Sh):=[(0,Ai),(3,vI)]
def oH5:=li [(0,Ai),(3,vI)] [(4,vI)] Rk UO rZ9 (λy x=>[ex 1 (some (sL6 y x)) [(2,vB)] ((sT9 y x),()),ex 4 (some (sL7 y x)) qA (y.1,y.2.1,())]) [[(2,vB)],qA]
def O5 (y:O1)(x:AD):Vm AD:=
 let e:=y.1
 let c:=x.1
 let d:Bool:=c<len e
 let b:=(e,c,())
 let g:=((0:Int),())
 let f:=A3 (Rk b) (UO b) g
 let a:=sL7 b f
 (d->AB (Rk b) (UO b) (rZ9 b) g/\(a->A6 (c+1)),d&&a,(c+1,()),d&&sL6 b f,!d)
def qA0 y x:=(O5 y x).1
def II y x:=(O5 y x).2.1
def KC y x:=(O5 y x).2.2.1
def ZA y x:=(O5 y x).2.2.2.1
def oH6 y x:=(O5 y x).2.2.2.2
def uG7 (y:O1)(x:AD):Bool:=
 let a:=(y.1,x.1,())
 (sT9 a (A3 (Rk a) (UO a) (0,())))
def oH7:=li [(0,Ai)] [(3,vI)] II KC qA0 (λy x=>[ex 1 (some (ZA y x)) [(2,vB)] ((uG7 y x),()),ex 2 (some (oH6 y x)) [] ()]) [[(2,vB)],[]]
def lS8 (d:List A9):Prop×Bool:=
 let a:=(d,())
 let c:=((0:Int),())
 let b:=A3 (II a) (KC a) c
 (AB (II a) (KC a) (qA0 a) c,cond (ZA a b) (uG7 a b) true)
def pJ5 a:=(lS8 a).1
def KD a:=(lS8 a).2
theorem mX9:SK 287 (AU Ai vB pJ5 KD):=fb Tryz.func287 41 [kb YZ] [(2,oH7),(5,oH5)]
abbrev uB8:Type:=(A8×Unit)
def O6 (y:uB8)(x:AD):Vm AD:=
 let h:=y.1
 let f:=x.1
 let b:Bool:=f<len h.2.2.2.1
 let a:=nth h.2.2.2.1 f BG
 let g:Bool:=f>0
 let j:=f-1
 let c:=cond g (decide (a.1<=(nth h.2.2.2.1 j BG).1)) false
 let d:=cond (a.2.1<0) true (a.2.1>65536)
 let e:=f219 a.2.2.1!=0
 let k:=!(KD a.2.2.1)
 let i:=(!c)&&((!d)&&((!e)&&(!k)))
 (b->A7 f (len h.2.2.2.1)/\(g->A6 (f-1))/\(g->A7 j (len h.2.2.2.1))/\(!c->!d->sK a.2.2.1/\(!e->pJ5 a.2.2.1))/\(i->A6 (f+1)),b&&i,(f+1,()),b&&(c||((!c)&&(d||((!d)&&(e||((!e)&&k)))))),!b)
def qA1 y x:=(O6 y x).1
def UP y x:=(O6 y x).2.1
def uG9 y x:=(O6 y x).2.2.1
def tM1 y x:=(O6 y x).2.2.2.1
def qA2 y x:=(O6 y x).2.2.2.2
def uH (y:uB8)(x:AD):Int:=
 let e:=y.1
 let d:=x.1
 let a:=nth e.2.2.2.1 d BG
 let c:=f219 a.2.2.1
 let b:=cond (cond (d>0) (decide (a.1<=(nth e.2.2.2.1 (d-1) BG).1)) false) 24 (cond (cond (a.2.1<0) true (a.2.1>65536)) 2 (cond (c !=0) c 2))
 b
def oH8:=li [(1,Ah)] [(3,vI)] UP uG9 qA1 (λy x=>[ex 1 (some (tM1 y x)) [(2,vI)] ((uH y x),()),ex 2 (some (qA2 y x)) [(1,Ah)] (y.1,())]) [[(2,vI)],[(1,Ah)]]
def O7 (y:uB8)(x:AD):Vm AD:=
 let i:=y.1
 let e:=x.1
 let d:Bool:=e<len i.2.2.2.2.1
 let a:=nth i.2.2.2.2.1 e BV
 let b:Bool:=e>0
 let f:=e-1
 let c:=nth i.2.2.2.2.1 f BV
 let g:=cond (a.1<c.1) true (cond (a.1==c.1) (decide (a.2.1<=c.2.1)) false)
 let j:=cond b (!g) true
 let h:=cond (a.2.2.1<(-65536)) true (a.2.2.1>65536)
 let k:=j&&(!h)
 (d->A7 e (len i.2.2.2.2.1)/\(b->A6 (e-1)/\A7 f (len i.2.2.2.2.1))/\(k->A6 (e+1)),d&&k,(e+1,()),d&&((g&&b)||(j&&h)),!d)
def rK1 y x:=(O7 y x).1
def UQ y x:=(O7 y x).2.1
def vR6 y x:=(O7 y x).2.2.1
def uR1 y x:=(O7 y x).2.2.2.1
def pJ6 y x:=(O7 y x).2.2.2.2
def vR7 (y:uB8)(x:AD):Int:=
 let d:=y.1
 let c:=x.1
 let a:=nth d.2.2.2.2.1 c BV
 let b:=nth d.2.2.2.2.1 (c-1) BV
 (cond ((cond (a.1<b.1) true (cond (a.1==b.1) (decide (a.2.1<=b.2.1)) false))&&(c>0)) (24:Int) 2)
def pJ7:=li [(1,Ah)] [(6,vI)] UQ vR6 rK1 (λy x=>[ex 1 (some (uR1 y x)) [(2,vI)] ((vR7 y x),()),ex 4 (some (pJ6 y x)) [] ()]) [[(2,vI)],[]]
def lS9 (i:A8):Prop×Int:=
 let d:=cond (cond (cond (cond (cond (i.1<1) true (i.1>65536)) true (i.2.1<0)) true (i.2.1>65536)) true (i.2.2.1<0)) true (i.2.2.1>65536)
 let e:=cond (len i.2.2.2.1>256) true (len i.2.2.2.2.1>256)
 let b:=(i,())
 let h:=((0:Int),())
 let g:=A3 (UP b) (uG9 b) h
 let a:=(i,())
 let f:=((0:Int),())
 let c:=A3 (UQ a) (vR6 a) f
 (!d->!e->AB (UP b) (uG9 b) (qA1 b) h/\(qA2 b g->AB (UQ a) (vR6 a) (rK1 a) f),cond d 2 (cond e 3 (cond (tM1 b g) (uH b g) (cond (uR1 a c) (vR7 a c) 0))))
def qK2 a:=(lS9 a).1
def FK a:=(lS9 a).2
theorem oW4:SK 265 (AU Bm vI qK2 FK):=fb Tryz.func265 138 [kb qI7,kb mX9] [(6,oH8),(19,pJ7)]
abbrev uB9:Type:=((List (List UInt8))×Int×Int×Unit)
def sY9 (y:NL)(x:uB9):Vn uB9:=
 let c:=y.1
 let h:=x.1
 let g:=x.2.1
 let a:=x.2.2.1
 let d:Bool:=a<=len c
 let e:=a==len c
 let b:=cond e true (wD c a==y.2.1)
 let f:=([List.drop (toNat g) (take (toNat a) c)]:List (List UInt8))
 (d->(!e->A7 a (len c))/\(b->(0<=g/\g<=a/\a<=len c)/\((length h+length f:Nat):Int)<=4294967296/\A6 (a+1))/\A6 (a+1),d,(cond b (h++f) h,cond b (a+1) g,a+1,()))
def qA3 y x:=(sY9 y x).1
def O8 y x:=(sY9 y x).2.1
def MD y x:=(sY9 y x).2.2
def sU (y:NL)(x:uB9):(List (List UInt8)):=
 x.1
def oH9:=li [(0,vS),(1,Bc)] [(5,Dk),(6,vI),(7,vI)] O8 MD qA3 (λy x=>[ex 2 none [(5,Dk)] ((sU y x),())]) [[(5,Dk)]]
def lT (c:List UInt8)(d:Int):Prop×(List (List UInt8)):=
 let a:=(c,d,())
 let b:=(([]:List (List UInt8)),(0:Int),(0:Int),())
 (AB (O8 a) (MD a) (qA3 a) b,sU a (A3 (O8 a) (MD a) b))
def ZB a b:=(lT a b).1
def f266 a b:=(lT a b).2
theorem mY:SK 266 (BF vS Bc Dq ZB f266):=fb Tryz.func266 36 [] [(4,oH9)] [(3,[(4,0,8,1005)]),(15,[(4,0,32,1005)]),(19,[(4,0,1005,0)])]
abbrev vO5:Type:=(Int×A8×Unit)
def Rl (y:vO5)(x:CU):Vm CU:=
 let d:=y.2.1
 let c:=x.2.1
 let a:Bool:=c<len d.2.2.2.1
 let b:=(nth d.2.2.2.1 c BG).1==y.1
 (a->A7 c (len d.2.2.2.1)/\(!b->A7 c (len d.2.2.2.1))/\(!b->A6 (c+1)),a&&(!b),(cond ((nth d.2.2.2.1 c BG).1==63) c x.1,c+1,()),a&&b,!a)
def qA4 y x:=(Rl y x).1
def L1 y x:=(Rl y x).2.1
def wP y x:=(Rl y x).2.2.1
def ZC y x:=(Rl y x).2.2.2.1
def oI y x:=(Rl y x).2.2.2.2
def sU0 (y:vO5)(x:CU):Int:=
 x.2.1
def sU1 (y:vO5)(x:CU):Int:=
 x.1
def oI0:=li [(1,Bc),(2,Ah)] [(5,vI),(6,vI)] L1 wP qA4 (λy x=>[ex 1 (some (ZC y x)) [(4,vI)] ((sU0 y x),()),ex 2 (some (oI y x)) [(5,vI)] ((sU1 y x),())]) [[(4,vI)],[(5,vI)]]
def lT0 (d:A8)(e:Int):Prop×Int:=
 let a:=(e,d,())
 let c:=((-1:Int),(0:Int),())
 let b:=A3 (L1 a) (wP a) c
 (AB (L1 a) (wP a) (qA4 a) c,cond (ZC a b) (sU0 a b) (sU1 a b))
def pJ8 a b:=(lT0 a b).1
def IJ a b:=(lT0 a b).2
theorem mY0:SK 268 (BF Bm Bc vI pJ8 IJ):=fb Tryz.func268 32 [] [(3,oI0)]
abbrev tG:Type:=((List UInt8)×A8×Unit)
def qK3 (y:tG)(x:Gq):Vn Gq:=
 let g:=y.1
 let i:=y.2.1
 let h:=x.1
 let a:=x.2.1
 let b:=cond (a<len g) (decide (a<128)) false
 let c:=wD g a
 let d:=IJ i c
 let e:Bool:=d≥0
 let f:=([d]:List Int)
 (b->A7 a (len g)/\pJ8 i c/\(e->((length h+length f:Nat):Int)<=4294967296)/\A6 (a+1),b,(cond e (h++f) h,a+1,()))
def qA5 y x:=(qK3 y x).1
def Rm y x:=(qK3 y x).2.1
def ZD y x:=(qK3 y x).2.2
def tG0 (y:tG)(x:Gq):(List Int):=
 x.1
def qA6:List (Nat×Sh):=[(5,Aw)]
def oI1:=li [(1,vS),(2,Ah)] [(5,Aw),(6,vI)] Rm ZD qA5 (λy x=>[ex 2 none qA6 ((tG0 y x),())]) [qA6]
def lT1 (c:A8)(d:List UInt8):Prop×(List Int):=
 let a:=(d,c,())
 let b:=(([]:List Int),(0:Int),())
 (AB (Rm a) (ZD a) (qA5 a) b,tG0 a (A3 (Rm a) (ZD a) b))
def qK4 a b:=(lT1 a b).1
def f229 a b:=(lT1 a b).2
theorem oW5:SK 229 (BF Bm vS Bh qK4 f229):=fb Tryz.func229 31 [kb mY0] [(3,oI1)] [(3,[(4,0,8,1005)]),(15,[(4,0,29,1005)]),(17,[(4,0,1005,0)])]
abbrev uC1:Type:=(Int×Int×A8×Unit)
def UR (y:uC1)(x:AD):Vm AD:=
 let d:=y.2.2.1
 let c:=x.1
 let a:Bool:=c<len d.2.2.2.2.1
 let e:=(nth d.2.2.2.2.1 c BV).1==y.1
 let b:=cond e ((nth d.2.2.2.2.1 c BV).2.1==y.2.1) false
 (a->A7 c (len d.2.2.2.2.1)/\(e->A7 c (len d.2.2.2.2.1))/\(b->A7 c (len d.2.2.2.2.1))/\(!b->A6 (c+1)),a&&(!b),(c+1,()),a&&b,!a)
def qA7 y x:=(UR y x).1
def Rn y x:=(UR y x).2.1
def US y x:=(UR y x).2.2.1
def tM3 y x:=(UR y x).2.2.2.1
def oI2 y x:=(UR y x).2.2.2.2
def sU2 (y:uC1)(x:AD):Int:=
 (nth y.2.2.1.2.2.2.2.1 x.1 BV).2.2.1
def oI3:=li [(1,Bc),(2,Bc),(3,Ah)] [(7,vI)] Rn US qA7 (λy x=>[ex 1 (some (tM3 y x)) [(6,vI)] ((sU2 y x),()),ex 2 (some (oI2 y x)) [] ()]) [[(6,vI)],[]]
def lT2 (d:A8)(e f:Int):Prop×Int:=
 let a:=(e,f,d,())
 let c:=((0:Int),())
 let b:=A3 (Rn a) (US a) c
 (AB (Rn a) (US a) (qA7 a) c,cond (tM3 a b) (sU2 a b) 0)
def pJ9 a b c:=(lT2 a b c).1
def EJ a b c:=(lT2 a b c).2
theorem mY1:SK 269 (DU Bm Bc Bc vI pJ9 EJ):=fb Tryz.func269 39 [] [(2,oI3)]
abbrev uL8:Type:=((List Int)×A8×Unit)
def qK5 (y:uL8)(x:uV3):Vn uV3:=
 let c:=y.1
 let b:=y.2.1
 let r:=x.1
 let o:=x.2.1
 let a:=x.2.2.1
 let d:Bool:=a<len c
 let e:Bool:=a>0
 let f:=a-1
 let g:=nth c f 0
 let h:=nth b.2.2.2.1 g BG
 let i:=nth c a 0
 let j:=nth b.2.2.2.1 i BG
 let k:=EJ b h.1 j.1
 let q:=cond e (o+k) o
 let l:=([q]:List Int)
 let m:=nth c a 0
 let n:=nth b.2.2.2.1 m BG
 (d->(e->A6 (a-1)/\A7 f (len c)/\A7 g (len b.2.2.2.1)/\A7 a (len c)/\A7 i (len b.2.2.2.1)/\pJ9 b h.1 j.1/\A6 (o+k))/\((length r+length l:Nat):Int)<=4294967296/\A7 a (len c)/\A7 m (len b.2.2.2.1)/\A6 (q+n.2.1)/\A6 (a+1),d,(r++l,q+n.2.1,a+1,()))
def qA8 y x:=(qK5 y x).1
def KE y x:=(qK5 y x).2.1
def KF y x:=(qK5 y x).2.2
def ZE (y:uL8)(x:uV3):(List Int):=
 x.1
def uH0 (y:uL8)(x:uV3):Int:=
 x.2.1
def qA9:List (Nat×Sh):=[(5,Aw),(6,vI)]
def oI4:=li [(1,Ak),(2,Ah)] [(5,Aw),(6,vI),(7,vI)] KE KF qA8 (λy x=>[ex 2 none qA9 ((ZE y x),(uH0 y x),())]) [qA9]
def lT3 (f:A8)(g:List Int):Prop×(List Int):=
 let b:=(g,f,())
 let e:=(([]:List Int),(0:Int),(0:Int),())
 let d:=A3 (KE b) (KF b) e
 let a:=ZE b d
 let c:=([uH0 b d]:List Int)
 (AB (KE b) (KF b) (qA8 b) e/\((length a+length c:Nat):Int)<=4294967296,a++c)
def ZF a b:=(lT3 a b).1
def BS a b:=(lT3 a b).2
theorem oW6:SK 230 (BF Bm Ak Bh ZF BS):=fb Tryz.func230 59 [kb mY1] [(4,oI4)] [(3,[(4,0,8,1005)]),(17,[(4,0,43,1005)]),(21,[(4,0,58,0)])]
def lT4 (i:A8)(j:List UInt8)(k:Int):Prop×Int:=
 let b:=FK i !=0
 let c:=f229 i j
 let a:=BS i c
 let d:=len a
 let e:=d-1
 let f:=nth a e 0
 let g:=f218 k 1 1048576
 let h:=f*g
 (qK2 i/\(!b->qK4 i j/\ZF i c/\A6 (d-1)/\A7 e (len a)/\YP k 1 1048576/\A6 (f*g)/\wH h i.1),cond b 0 (AZ h i.1))
def UU a b c:=(lT4 a b c).1
def f267 a b c:=(lT4 a b c).2
theorem mY2:SK 267 (DU Bm vS vI vI UU f267):=fb Tryz.func267 28 [kb ID,kb qI3,kb oW5,kb oW6,kb oW4] [] [(7,[(4,0,15,1007)])]
abbrev vO9:Type:=((List UInt8)×Int×Int×A8×Unit)
def UW (y:vO9)(x:AD):Vm AD:=
 let c:=y.1
 let a:=x.1
 let b:Bool:=a<len c
 let d:=wD c a !=10
 let f:Bool:=wD c a<32
 let e:=cond d (cond f true (wD c a>126)) false
 (b->A7 a (len c)/\(d->A7 a (len c))/\((d&&(!f))->A7 a (len c))/\(!e->A6 (a+1)),b&&(!e),(a+1,()),b&&e,!b)
def sL9 y x:=(UW y x).1
def vP y x:=(UW y x).2.1
def Ro y x:=(UW y x).2.2.1
def sM y x:=(UW y x).2.2.2.1
def qB y x:=(UW y x).2.2.2.2
def sU3 (y:vO9)(x:AD):(List (List UInt8)):=
 []
def sU4 (y:vO9)(x:AD):Int:=
 4
def qB0:List (Nat×Sh):=[(8,Dq),(9,vI)]
def qB1:List (Nat×Sh):=[(1,vS),(2,vI),(3,vI),(4,Ah)]
def oI5:=li [(1,vS),(2,vI),(3,vI),(4,Ah)] [(11,vI)] vP Ro sL9 (λy x=>[ex 1 (some (sM y x)) qB0 ((sU3 y x),(sU4 y x),()),ex 2 (some (qB y x)) qB1 (y.1,y.2.1,y.2.2.1,y.2.2.2.1,())]) [qB0,qB1]
abbrev vV:Type:=(Int×Int×A8×(List (List UInt8))×Int×(List (List UInt8))×Unit)
def rK4 (y:vV)(x:NH):Vn NH:=
 let l:=y.1
 let m:=y.2.1
 let n:=y.2.2.1
 let b:=(Q1 y).1
 let e:=x.1
 let f:=x.2.1
 let a:=x.2.2.1
 let h:Bool:=a<len b
 let i:=f++([32]:List UInt8)
 let j:=nth b a []
 let g:=i++j
 let k:=m==0
 let c:=cond k true (f267 n g l<=m)
 let d:=([f]:List (List UInt8))
 (h->((length f+length ([32]:List UInt8):Nat):Int)<=9223372036854775807/\A7 a (len b)/\((length i+length j:Nat):Int)<=9223372036854775807/\(!k->UU n g l)/\(c=false->((length e+length d:Nat):Int)<=4294967296/\A7 a (len b))/\A6 (a+1),h,(cond c e (e++d),cond c g (nth b a []),a+1,()))
def tS8 y x:=(rK4 y x).1
def ME y x:=(rK4 y x).2.1
def MF y x:=(rK4 y x).2.2
def vR8 (y:vV)(x:NH):(List (List UInt8)):=
 x.1
def uR3 (y:vV)(x:NH):(List UInt8):=
 x.2.1
def rK5:List (Nat×Sh):=[(2,vI),(3,vI),(4,Ah),(12,Ch),(13,Dl),(14,vI),(16,vS)]
def pK:=li [(2,vI),(3,vI),(4,Ah),(13,Dl),(14,vI),(15,(.own .str 1015 false))] [(12,Ch),(16,vS),(17,vI)] ME MF tS8 (λy x=>[ex 6 none rK5 (y.1,y.2.1,y.2.2.1,(vR8 y x),y.2.2.2.1,y.2.2.2.2.1,(uR3 y x),())]) [rK5]
abbrev uL9:Type:=(Int×Int×A8×(List (List UInt8))×Unit)
def sB8 (y:uL9)(x:TG):Vn TG:=
 let d:=y.2.2.2.1
 let c:=x.2.1
 let h:Bool:=c<len d
 let i:=nth d c []
 let f:=f266 i 32
 let b:=(y.1,y.2.1,y.2.2.1,d,c,f,())
 let j:=(x.1,nth f 0 [],(1:Int),())
 let g:=A3 (ME b) (MF b) j
 let a:=vR8 b g
 let e:=([uR3 b g]:List (List UInt8))
 (h->A7 c (len d)/\ZB i 32/\A7 0 (len f)/\AB (ME b) (MF b) (tS8 b) j/\((length a+length e:Nat):Int)<=4294967296/\A6 (c+1),h,(a++e,c+1,()))
def uR4 y x:=(sB8 y x).1
def UX y x:=(sB8 y x).2.1
def MG y x:=(sB8 y x).2.2
def sB9 (y:uL9)(x:TG):(List (List UInt8)):=
 x.1
def pK0:=li [(2,vI),(3,vI),(4,Ah),(13,Dl)] [(12,Ch),(14,vI)] UX MG uR4 (λy x=>[ex 4 none [(12,Ch)] ((sB9 y x),())]) [[(12,Ch)]]
def nO5 (k:A8)(l:List UInt8)(m n:Int):Prop×((List (List UInt8))×Int×Unit):=
 let g:=FK k
 let d:=g !=0
 let b:=(l,m,n,k,())
 let j:=((0:Int),())
 let i:=A3 (vP b) (Ro b) j
 let c:=sM b i
 let e:Bool:=len l>128
 let f:=cond (cond (cond (m<1) true (m>1048576)) true (n<0)) true (n>1048576)
 let a:=(m,n,k,f266 l 10,())
 let h:=(([]:List (List UInt8)),(0:Int),())
 (qK2 k/\(!d->AB (vP b) (Ro b) (sL9 b) j/\(qB b i->!e->!f->ZB l 10/\AB (UX a) (MG a) (uR4 a) h)),(cond d [] (cond c (sU3 b i) (cond e [] (cond f [] (sB9 a (A3 (UX a) (MG a) h))))),cond d g (cond c (sU4 b i) (cond e 3 (cond f 2 0))),()))
def qK6 a b c d:=(nO5 a b c d).1
def MH a b c d:=(nO5 a b c d).2
theorem mY3:SK 228 (FA Bm vS vI vI (.tup (.cons Dq (.cons vI .nl))) qK6 MH):=fb Tryz.func228 117 [kb oW4,kb mY,kb mY2] [(5,oI5),(16,pK0),(21,pK)] [(27,[(4,0,63,1012)]),(29,[(4,0,65,1013)]),(37,[(4,0,76,1015)]),(53,[(4,0,107,1012)]),(57,[(4,0,115,1012)]),(59,[(4,0,1012,0)])]
def qK7 (y:uA6)(x:CU):Vn CU:=
 let c:=y.1
 let d:=x.1
 let a:=x.2.1
 let e:Bool:=a<len c
 let b:=len (nth c a [])
 (e->A7 a (len c)/\A6 (d+b)/\A6 (a+1),e,(d+b,a+1,()))
def sM0 y x:=(qK7 y x).1
def Rp y x:=(qK7 y x).2.1
def Rq y x:=(qK7 y x).2.2
def sU5 (y:uA6)(x:CU):Int:=
 x.1
def oI6:=li [(0,Aj)] [(3,vI),(4,vI)] Rp Rq sM0 (λy x=>[ex 2 none [(3,vI)] ((sU5 y x),())]) [[(3,vI)]]
def lT5 (c:(List (List A0))):Prop×Int:=
 let a:=(c,())
 let b:=((0:Int),(0:Int),())
 (AB (Rp a) (Rq a) (sM0 a) b,sU5 a (A3 (Rp a) (Rq a) b))
def UY a:=(lT5 a).1
def FL a:=(lT5 a).2
theorem oW7:SK 231 (AU Aj vI UY FL):=fb Tryz.func231 19 [] [(3,oI6)]
abbrev uM:Type:=(Int×A8×(List (List UInt8))×(List (List A0))×Int×(List Int)×(List Int)×Int×(List (List A0))×Int×Unit)
def rK6 (y:uM)(x:CZ):Vn CZ:=
 let u:=y.1
 let e:=y.2.1
 let l:=y.2.2.2.2.1
 let m:=(Q3 y).1
 let n:=(Q0 y).1
 let b:=(Q5 y).1
 let c:=(Q4 y).1
 let o:=x.1
 let a:=x.2.1
 let q:Bool:=a<len (nth b c [])
 let r:=nth b c []
 let d:=nth r a A1
 let s:=nth m n 0
 let t:=s+d.1
 let f:=t*u
 let g:=l*e.2.2.1
 let h:=e.2.1+g
 let i:=h-d.2.1
 let j:=i*u
 let k:=([(AZ f e.1,AZ j e.1,())]:List A0)
 (A7 c (len b)/\(q->A7 c (len b)/\A7 a (len r)/\A7 n (len m)/\A6 (s+d.1)/\A6 (t*u)/\wH f e.1/\A6 (l*e.2.2.1)/\A6 (e.2.1+g)/\A6 (h-d.2.1)/\A6 (i*u)/\wH j e.1/\((length o+length k:Nat):Int)<=4294967296/\A6 (a+1)),q,(o++k,a+1,()))
def tS9 y x:=(rK6 y x).1
def L2 y x:=(rK6 y x).2.1
def L3 y x:=(rK6 y x).2.2
def sC (y:uM)(x:CZ):(List A0):=
 x.1
def rK7:List (Nat×Sh):=[(2,vI),(4,Ah),(10,Bv),(12,Az),(13,vI),(14,Ck),(15,Cl),(16,vI),(17,Aj),(19,vI),(20,(.own AQ 1020 false))]
def pK1:=li [(2,vI),(4,Ah),(10,Bv),(12,Az),(13,vI),(14,Ck),(15,Cl),(16,vI),(17,Aj),(19,vI)] [(20,(.own AQ 1020 false)),(21,vI)] L2 L3 tS9 (λy x=>[ex 8 none rK7 (y.1,y.2.1,y.2.2.1,y.2.2.2.1,y.2.2.2.2.1,(Q1 y).1,(Q3 y).1,(Q0 y).1,(Q5 y).1,(Q4 y).1,(sC y x),())]) [rK7]
abbrev uM0:Type:=(Int×A8×(List (List UInt8))×Int×(List Int)×(List Int)×Int×(List (List A0))×Unit)
def rK8 (y:uM0)(x:CL):Vn CL:=
 let e:=(Q0 y).1
 let d:=x.1
 let b:=x.2.1
 let f:Bool:=b<len e
 let a:=(y.1,y.2.1,y.2.2.1,d,y.2.2.2.1,y.2.2.2.2.1,(Q1 y).1,(Q3 y).1,e,b,())
 let g:=(([]:List A0),(0:Int),())
 let c:=([sC a (A3 (L2 a) (L3 a) g)]:List (List A0))
 (f->AB (L2 a) (L3 a) (tS9 a) g/\((length d+length c:Nat):Int)<=4294967296/\A6 (b+1),f,(d++c,b+1,()))
def uR5 y x:=(rK8 y x).1
def JD y x:=(rK8 y x).2.1
def JE y x:=(rK8 y x).2.2
def sC0 (y:uM0)(x:CL):(List (List A0)):=
 x.1
def rK9:List (Nat×Sh):=[(2,vI),(4,Ah),(10,Bv),(12,Az),(13,vI),(14,Ck),(15,Cl),(16,vI)]
def pK2:=li [(2,vI),(4,Ah),(10,Bv),(13,vI),(14,Ck),(15,Cl),(16,vI),(17,Aj)] [(12,Az),(19,vI)] JD JE uR5 (λy x=>[ex 6 none rK9 (y.1,y.2.1,y.2.2.1,(sC0 y x),y.2.2.2.1,y.2.2.2.2.1,(Q1 y).1,(Q3 y).1,())]) [rK9]
abbrev uM1:Type:=(Int×A8×(List (List UInt8))×Int×(List Int)×(List Int)×Unit)
def rL (y:uM1)(x:CL):Vn CL:=
 let h:=y.2.1
 let c:=y.2.2.2.2.1
 let a:=x.2.1
 let d:Bool:=a<len c
 let e:=nth c a 0
 let f:=nth h.2.2.2.1 e BG
 let b:=(y.1,h,y.2.2.1,y.2.2.2.1,c,(Q1 y).1,a,(DB f.2.2.1).1,())
 let g:=(x.1,(0:Int),())
 (d->A7 a (len c)/\A7 e (len h.2.2.2.1)/\Zm f.2.2.1/\AB (JD b) (JE b) (uR5 b) g/\A6 (a+1),d,(sC0 b (A3 (JD b) (JE b) g),a+1,()))
def tT y x:=(rL y x).1
def KG y x:=(rL y x).2.1
def KH y x:=(rL y x).2.2
def sC1 (y:uM1)(x:CL):(List (List A0)):=
 x.1
def rL0:List (Nat×Sh):=[(2,vI),(4,Ah),(10,Bv),(12,Az),(13,vI)]
def pK3:=li [(2,vI),(4,Ah),(10,Bv),(13,vI),(14,Ck),(15,Cl)] [(12,Az),(16,vI)] KG KH tT (λy x=>[ex 4 none rL0 (y.1,y.2.1,y.2.2.1,(sC1 y x),y.2.2.2.1,())]) [rL0]
abbrev tG2:Type:=(Int×A8×(List (List UInt8))×Unit)
def qK8 (y:tG2)(x:CL):Vn CL:=
 let e:=y.2.1
 let c:=y.2.2.1
 let a:=x.2.1
 let f:Bool:=a<len c
 let g:=nth c a []
 let d:=f229 e g
 let b:=(y.1,e,c,a,d,BS e d,())
 let h:=(x.1,(0:Int),())
 (f->A7 a (len c)/\qK4 e g/\ZF e d/\AB (KG b) (KH b) (tT b) h/\A6 (a+1),f,(sC1 b (A3 (KG b) (KH b) h),a+1,()))
def sM2 y x:=(qK8 y x).1
def L4 y x:=(qK8 y x).2.1
def L5 y x:=(qK8 y x).2.2
def sU6 (y:tG2)(x:CL):(List (List A0)):=
 x.1
def qB2:List (Nat×Sh):=[(12,Az)]
def oI7:=li [(2,vI),(4,Ah),(10,Bv)] [(12,Az),(13,vI)] L4 L5 sM2 (λy x=>[ex 2 none qB2 ((sU6 y x),())]) [qB2]
def ZG (g:A8)(h:List UInt8)(i j:Int):Prop×((List (List A0))×Int×Unit):=
 let c:=MH g h i j
 let d:=c.2.1 !=0
 let e:=(i,g,c.1,())
 let f:=(([]:List (List A0)),(0:Int),())
 let a:=sU6 e (A3 (L4 e) (L5 e) f)
 let b:Bool:=FL a>4096
 (qK6 g h i j/\(!d->AB (L4 e) (L5 e) (sM2 e) f/\UY a),(cond d [] (cond b [] a),cond d c.2.1 (cond b 3 0),()))
def O9 a b c d:=(ZG a b c d).1
def G9 a b c d:=(ZG a b c d).2
def oW9:=FA Bm vS vI vI (.tup (.cons Au (.cons vI .nl))) O9 G9
theorem mY4:SK 193 (FA Bm vS vI vI (.tup (.cons Au (.cons vI .nl))) O9 G9):=fb Tryz.func193 131 [kb ID,kb oV7,kb mY3,kb oW5,kb oW6,kb oW7] [(6,oI7),(11,pK3),(15,pK2),(19,pK1)] [(3,[(4,0,28,1010)]),(9,[(4,0,34,1012)]),(17,[(4,0,46,1014)]),(19,[(4,0,49,1015)]),(35,[(4,0,75,1020)]),(45,[(4,0,122,1020)]),(47,[(4,0,126,1012)]),(53,[(4,0,1012,0)])]
def mY5 :Prop×(List UInt8):=
 (True,wD0)
def ZH :Prop:=(mY5).1
def Rr :List UInt8:=(mY5).2
instance:Decidable ZH:=by unfold ZH mY5;dsimp only;infer_instance
def oX:Am.Spec:=fnSpec [] vS [] (λx=>ZH ) (λx=>Rr ) (λ_=>())
theorem mY6:SK 270 (fnSpec [] vS [] (λx=>ZH ) (λx=>Rr ) (λ_=>())):=fb Tryz.func270 1
def mY7 (c:Int):Prop×Int:=
 let b:Bool:=c<=57
 let a:=wrap .i64 (wrap .u8 (c-97))
 (!b->A6 (a+10),cond b (wrap .i64 (wrap .u8 (c-48))) (a+10))
def UZ a:=(mY7 a).1
def MI a:=(mY7 a).2
instance (a):Decidable (UZ a):=by unfold UZ mY7;dsimp only;infer_instance
def oX0:=AU Bc vI UZ MI
theorem mY8:SK 271 (AU Bc vI UZ MI):=fb Tryz.func271 12
def mY9 (a b c:Int):Prop×A9:=
 (True,(a,([(b,c,()),A1,A1]:List A0),()))
def OA a b c:=(mY9 a b c).1
def IK a b c:=(mY9 a b c).2
instance (a b c):Decidable (OA a b c):=by unfold OA mY9;dsimp only;infer_instance
def oX1:=DU vI vI vI Dd OA IK
theorem mZ:SK 272 (DU vI vI vI Dd OA IK):=fb Tryz.func272 13
abbrev OB:Type:=(Int×(List UInt8)×(List A9)×Int×Int×Int×Unit)
def sC2 (y:OB)(x:AD):Vn AD:=
 let c:=x.1
 let a:=c+1
 let b:=F5 .i64 (EW y.2.2.2.2.1 a 64) 1==1
 (A6 (c+1)/\0<=a/\(b->A6 (c+1)),b,(c+1,()))
def uR6 y x:=(sC2 y x).1
def sM4 y x:=(sC2 y x).2.1
def uR7 y x:=(sC2 y x).2.2
instance (y x):Decidable (uR6 y x):=by unfold uR6 sC2;dsimp only;infer_instance
def sC3 (y:OB)(x:AD):Int:=
 x.1
def rL2:List (Nat×Sh):=[(0,vI),(3,vS),(4,Bw),(5,vI),(6,vI),(7,vI),(8,vI)]
def sC4:St->Option Out:=Iu [(0,vI),(3,vS),(4,Bw),(5,vI),(6,vI),(7,vI)] [(8,vI)] sM4 uR7 uR6 λy x=>[ex 6 none rL2 (y.1,y.2.1,y.2.2.1,y.2.2.2.1,y.2.2.2.2.1,(Q1 y).1,(sC3 y x),())]
def sZ (y:HZ)(x:OB):Vn OB:=
 let J:=x.1
 let K:=x.2.1
 let H:=x.2.2.1
 let f:=x.2.2.2.1
 let i:=x.2.2.2.2.1
 let d:=(Q1 x).1
 let j:Bool:=d<7
 let k:=F5 .i64 (EW i d 64) 1==0
 let h:Bool:=d>0
 let g:=!k
 let l:=d-1
 let b:=cond k true (cond h (F5 .i64 (EW i l 64) 1==1) false)
 let e:=(J,K,H,f,i,d,())
 let F:=(d,())
 let a:=sC3 e (A3 (sM4 e) (uR7 e) F)
 let m:=100*f
 let n:=100*d
 let o:=700-n
 let q:=100*f
 let r:=q+100
 let s:=100*d
 let t:=700-s
 let u:=100*f
 let v:=u+100
 let w:=100*a
 let z:=600-w
 let A:=100*f
 let B:=100*a
 let C:=600-B
 let E:=([IK 1 m o,IK 2 r t,IK 2 v z,IK 2 A C,((5:Int),List.replicate 3 A1,())]:List A9)
 let c:=b||(!b)
 let L:=cond b d d
 (j->0<=d/\((g&&h)->A6 (d-1))/\((g&&h)->0<=l)/\(!b->AB (sM4 e) (uR7 e) (uR6 e) F/\A6 (100*f)/\A6 (100*d)/\A6 (700-n)/\OA 1 m o/\A6 (100*f)/\A6 (q+100)/\A6 (100*d)/\A6 (700-s)/\OA 2 r t/\A6 (100*f)/\A6 (u+100)/\A6 (100*a)/\A6 (600-w)/\OA 2 v z/\A6 (100*f)/\A6 (100*a)/\A6 (600-B)/\OA 2 A C/\((length H+length E:Nat):Int)<=4294967296)/\(c->A6 (L+1)),j&&c,(cond b J J,cond b K K,cond b H (H++E),cond b f f,cond b i i,L+1,()))
def tM5 y x:=(sZ y x).1
def rL3 y x:=(sZ y x).2.1
def tG5 y x:=(sZ y x).2.2
instance (y x):Decidable (tM5 y x):=by unfold tM5 sZ;dsimp only;infer_instance
def sU7 (y:HZ)(x:OB):Int:=
 x.1
def sU8 (y:HZ)(x:OB):(List UInt8):=
 x.2.1
def sU9 (y:HZ)(x:OB):(List A9):=
 x.2.2.1
def sV (y:HZ)(x:OB):Int:=
 x.2.2.2.1
def qB3:List (Nat×Sh):=[(0,vI),(3,vS),(4,Bw),(5,vI)]
def sV0:St->Option Out:=Iu [] [(0,vI),(3,vS),(4,Bw),(5,vI),(6,vI),(7,vI)] rL3 tG5 tM5 λy x=>[ex 4 none qB3 ((sU7 y x),(sU8 y x),(sU9 y x),(sV y x),())]
abbrev uC6:Type:=(Int×(List UInt8)×(List A9)×Int×Unit)
def sZ0 (y:HZ)(x:uC6):Vn uC6:=
 let c:=x.1
 let d:=x.2.1
 let b:=x.2.2.2.1
 let e:Bool:=b<5
 let f:=10*c
 let g:=2*b
 let h:=f+g
 let i:=wD d h
 let j:=MI i
 let k:=16*j
 let l:=10*c
 let m:=2*b
 let n:=l+m
 let o:=n+1
 let q:=wD d o
 let r:=MI q
 let t:=(c,d,x.2.2.1,b,k+r,(0:Int),())
 let s:=A3 (rL3 ()) (tG5 ()) t
 let a:=sV () s
 (e->A6 (10*c)/\A6 (2*b)/\A6 (f+g)/\A7 h (len d)/\UZ i/\A6 (16*j)/\A6 (10*c)/\A6 (2*b)/\A6 (l+m)/\A6 (n+1)/\A7 o (len d)/\UZ q/\A6 (k+r)/\AB (rL3 ()) (tG5 ()) (tM5 ()) t/\A6 (a+1),e,(sU7 () s,sU8 () s,sU9 () s,a+1,()))
def tM6 y x:=(sZ0 y x).1
def rL4 y x:=(sZ0 y x).2.1
def tG7 y x:=(sZ0 y x).2.2
instance (y x):Decidable (tM6 y x):=by unfold tM6 sZ0;dsimp only;infer_instance
def sV1 (y:HZ)(x:uC6):(List A9):=
 x.2.2.1
def sV2:St->Option Out:=Iu [] [(0,vI),(3,vS),(4,Bw),(5,vI)] rL4 tG7 tM6 λy x=>[ex 2 none [(4,Bw)] ((sV1 y x),())]
def mZ0 (b:Int):Prop×(List A9):=
 let a:=(b,Rr,([]:List A9),(0:Int),())
 (ZH/\AB (rL4 ()) (tG7 ()) (tM6 ()) a,sV1 () (A3 (rL4 ()) (tG7 ()) a))
def qK9 a:=(mZ0 a).1
def f232 a:=(mZ0 a).2
instance (a):Decidable (qK9 a):=by unfold qK9 mZ0;dsimp only;infer_instance
def oX2:=AU vI Bk qK9 f232
def sZ1:=Cy [(270,oX),(271,oX0),(272,oX1)] [(12,sC4),(8,sV0),(4,sV2)] [(5,[(4,0,10,1004)]),(29,[(4,0,93,1004)]),(31,[(4,0,1004,0)])] 95
theorem sZ2:CtxOk Tryz.prog sZ1:=cq ⟨mY6,mY8,mZ,trivial⟩
noncomputable def oX3:Code:=Tryz.f232.body.getD .skip
noncomputable def pK4:Code:=SN oX3 0
noncomputable def pK5:Code:=SN pK4 0
noncomputable def pQ2:Code:=SN pK5 0
theorem pK6:yY Tryz.prog sZ1 pQ2:=lq sZ2 (sp:=sC4) rfl [rL2]
theorem oI8:yY Tryz.prog sZ1 pK5:=lm sZ2 (sp:=sV0) rfl [qB3] (bs:=[pQ2]) ⟨pK6,trivial⟩
theorem oI9:yY Tryz.prog sZ1 pK4:=lm sZ2 (sp:=sV2) rfl [[(4,Bw)]] (bs:=[pK5]) ⟨oI8,trivial⟩
theorem mZ1:SK 232 oX2:=fl sZ2 Tryz.func232 (bs:=[pK4]) ⟨oI9,trivial⟩
def sZ3 (y:HZ)(x:vN):Vn vN:=
 let c:=x.1
 let b:=x.2.1
 let a:=x.2.2.1
 let d:Bool:=a<95
 let e:=([(wrap .u8 (32+a),(600:Int),f232 a,())]:List C5)
 (d->A6 (32+a)/\qK9 a/\((length b.2.2.2.1+length e:Nat):Int)<=4294967296/\A6 (a+1),d,(c,(b.1,b.2.1,b.2.2.1,b.2.2.2.1++e,b.2.2.2.2.1,()),a+1,()))
def tM7 y x:=(sZ3 y x).1
def rL5 y x:=(sZ3 y x).2.1
def tG8 y x:=(sZ3 y x).2.2
instance (y x):Decidable (tM7 y x):=by unfold tM7 sZ3;dsimp only;infer_instance
def qT8 (y:HZ)(x:vN):(Int×Int×Int×(List C5)×(List DG)×Unit):=
 let a:=x.1
 a
def sV3 (y:HZ)(x:vN):(Int×Int×Int×(List C5)×(List DG)×Unit):=
 let a:=x.2.1
 a
def qB4:List (Nat×Sh):=[(0,Af),(1,Ag)]
def oJ:=li [] [(0,Af),(1,Ag),(2,vI)] rL5 tG8 tM7 (λy x=>[ex 2 none qB4 ((qT8 y x),(sV3 y x),())]) [qB4]
def mZ2 :Prop×A8:=
 let b:=((1000:Int),(800:Int),(1200:Int),([]:List C5),([((65:Int),(86:Int),(-100:Int),()),((76:Int),(84:Int),(-100:Int),()),((84:Int),(97:Int),(-100:Int),()),((86:Int),(65:Int),(-100:Int),())]:List DG),())
 let c:=(((0:Int),(0:Int),(0:Int),([]:List C5),([]:List DG),()),b,(0:Int),())
 let a:=sV3 () (A3 (rL5 ()) (tG8 ()) c)
 (AB (rL5 ()) (tG8 ()) (tM7 ()) c,a)
def Vh :Prop:=(mZ2).1
def H9 :A8:=(mZ2).2
instance:Decidable Vh:=by unfold Vh mZ2;dsimp only;infer_instance
theorem mZ3:SK 194 (fnSpec [] Bm [] (λx=>Vh ) (λx=>H9 ) (λ_=>())):=fb Tryz.func194 25 [kb mZ1] [(3,oJ)] [(3,[(4,0,7,400101)]),(11,[(4,0,22,400100)]),(13,[(4,0,400100,400000),(4,0,400101,400001)])]
def ZI (y:PU)(x:CZ):Vm CZ:=
 let e:=y.1
 let o:=y.2.1
 let f:=y.2.2.2.1
 let q:=x.1
 let a:=x.2.1
 let c:Bool:=a<len (nth e f [])
 let g:=nth e f []
 let h:=nth g a A1
 let b:=!(DY h)
 let i:=nth e f []
 let j:=nth i a A1
 let k:=DR o j
 let d:=cond b true (!(DY k))
 let l:=nth e f []
 let m:=nth l a A1
 let n:=([DR o m]:List A0)
 (A7 f (len e)/\(c->A7 f (len e)/\A7 a (len g)/\Za h/\(!b->A7 f (len e))/\(!b->A7 a (len i))/\(!b->rJ o j)/\(!b->Za k)/\(!d->A7 f (len e)/\A7 a (len l)/\rJ o m/\((length q+length n:Nat):Int)<=4294967296)/\(!d->A6 (a+1))),c&&(!d),(q++n,a+1,()),c&&d,!c)
def uR8 y x:=(ZI y x).1
def HA y x:=(ZI y x).2.1
def HD y x:=(ZI y x).2.2.1
def uR9 y x:=(ZI y x).2.2.2.1
def uS y x:=(ZI y x).2.2.2.2
def sC5 (y:PU)(x:CZ):(List (List A0)):=
 []
def sC6 (y:PU)(x:CZ):Int:=
 2
def rL6:List (Nat×Sh):=[(4,Au),(5,vI)]
def sC7 (y:PU)(x:CZ):(List A0):=
 x.1
def rL7:List (Nat×Sh):=[(0,Aj),(3,Bp),(7,Cr),(8,vI),(9,(.own AQ 1009 false))]
def pK7:=li [(0,Aj),(3,Bp),(7,Cr),(8,vI)] [(9,(.own AQ 1009 false)),(10,vI)] HA HD uR8 (λy x=>[ex 1 (some (uR9 y x)) rL6 ((sC5 y x),(sC6 y x),()),ex 4 (some (uS y x)) rL7 (y.1,y.2.1,y.2.2.1,y.2.2.2.1,(sC7 y x),())]) [rL6,rL7]
abbrev vF7:Type:=((List (List A0))×C3×Unit)
def ZJ (y:vF7)(x:CL):Vm CL:=
 let i:=y.1
 let h:=x.1
 let g:=x.2.1
 let c:Bool:=g<len i
 let a:=(i,y.2.1,h,g,())
 let f:=(([]:List A0),(0:Int),())
 let d:=A3 (HA a) (HD a) f
 let b:=uS a d
 let e:=([sC7 a d]:List (List A0))
 (c->AB (HA a) (HD a) (uR8 a) f/\(b->((length h+length e:Nat):Int)<=4294967296)/\(b->A6 (g+1)),c&&b,(h++e,g+1,()),c&&uR9 a d,!c)
def sM6 y x:=(ZJ y x).1
def OC y x:=(ZJ y x).2.1
def OD y x:=(ZJ y x).2.2.1
def ZK y x:=(ZJ y x).2.2.2.1
def oJ0 y x:=(ZJ y x).2.2.2.2
def sV4 (y:vF7)(x:CL):(List (List A0)):=
 let a:=(y.1,y.2.1,x.1,x.2.1,())
 (sC5 a (A3 (HA a) (HD a) ([],0,())))
def sV5 (y:vF7)(x:CL):Int:=
 let a:=(y.1,y.2.1,x.1,x.2.1,())
 (sC6 a (A3 (HA a) (HD a) ([],0,())))
def qB5:List (Nat×Sh):=[(4,Au),(5,vI)]
def sV6 (y:vF7)(x:CL):(List (List A0)):=
 x.1
def qB6:List (Nat×Sh):=[(7,Cr)]
def oJ1:=li [(0,Aj),(3,Bp)] [(7,Cr),(8,vI)] OC OD sM6 (λy x=>[ex 1 (some (ZK y x)) qB5 ((sV4 y x),(sV5 y x),()),ex 2 (some (oJ0 y x)) qB6 ((sV6 y x),())]) [qB5,qB6]
def lT6 (h:(List (List A0)))(i:C3):Prop×((List (List A0))×Int×Unit):=
 let e:=DX i
 let c:=e !=0
 let d:Bool:=FL h>4096
 let a:=(h,i,())
 let g:=(([]:List (List A0)),(0:Int),())
 let f:=A3 (OC a) (OD a) g
 let b:=ZK a f
 (Oy i/\(!c->UY h/\(!d->AB (OC a) (OD a) (sM6 a) g)),(cond c [] (cond d [] (cond b (sV4 a f) (sV6 a f))),cond c e (cond d 3 (cond b (sV5 a f) 0)),()))
def qL a b:=(lT6 a b).1
def f195 a b:=(lT6 a b).2
def oX4:=BF Aj Ba (.tup (.cons Aj (.cons vI .nl))) qL f195
theorem mZ4:SK 195 (BF Aj Ba (.tup (.cons Aj (.cons vI .nl))) qL f195):=fb Tryz.func195 75 [kb qI5,kb oV5,kb pI2,kb oW7] [(8,oJ1),(12,pK7)] [(13,[(4,0,19,1007)]),(21,[(4,0,26,1009)]),(33,[(4,0,69,1009)]),(35,[(4,0,73,1007)]),(37,[(4,0,1007,0)])]
def pQ3 (k:A8)(g:AJ):Prop×Int:=
 let a:=G9 k (Qk g).1 (Ql g).1 (Qm g).1
 let c:=a.2.1 !=0
 let b:=f195 a.1 (Q2 g).1
 let d:=b.2.1 !=0
 let e:=Ev b.1 0
 let f:=e !=0
 (Vh/\O9 k (Qk g).1 (Ql g).1 (Qm g).1/\(!c->qL a.1 (Q2 g).1/\(!d->O3 b.1 0/\(!f->Oz (Q9 g).1))),cond c a.2.1 (cond d b.2.1 (cond f e (G3 (Q9 g).1))))
def mZ5 (a:AJ):Prop×Int:=pQ3 H9 a
def qL0 a:=(mZ5 a).1
def f158 a:=(mZ5 a).2
def oX5:Am.Spec:=fnSpec [(0,Ay)] vI [] (λx=>qL0 x.1) (λx=>f158 x.1) (λ_=>())
def pQ4 (k:A8):Ctx:=Cx tys [(155,oV2),(190,oV8),(193,oW9),(194,fnSpec [] Bm [] (λ_=>Vh) (λ_=>k) (λ_=>())),(195,oX4)] [] [(3,[(4,0,15,1003)])] false 39 [] []
theorem nO6:CtxOk Tryz.prog (pQ4 H9):=cq ⟨pI,pI9,mY4,mZ3,mZ4,trivial⟩
theorem nO7:∀(k:A8) x,Iv (pQ4 k) (Tryz.f158.body.getD .skip) Tryz.f158.results.toList [(0,Ay)] vI [] x=some ((pQ3 k x.1).1,(pQ3 k x.1).2,()):=λk x=>by kernel_rfl
theorem mZ6:SpecOk Tryz.prog 158 oX5:=WK nO6 mixed Tryz.func158 (by kernel_rfl) (bs:=[]) (by kernel_rfl) trivial (nO7 H9)
def mZ7 (c:Int):Prop×(Int×Int×Unit):=
 let a:=([(0:Int),(0:Int),(5:Int),(4:Int),(2:Int),(3:Int),(1:Int),(1:Int),(9:Int),(3:Int),(0:Int),(2:Int)]:List Int)
 let b:=c==3
 (!b->A7 c (len a)/\A7 c (len a),(cond b 4 (nth a c 0),cond b 16 (nth a c 0),()))
def ZL a:=(mZ7 a).1
def GA a:=(mZ7 a).2
theorem mZ8:SK 196 (AU vI (.tup (.cons vI (.cons vI .nl))) ZL GA):=fb Tryz.func196 16 [] [] [(3,[(4,0,5,1004)])]
def mZ9 (i j:Int):Prop×(Int×Int×Unit):=
 let c:=cond (i==2) (j==2) false
 let d:=cond (cond (i==4) true (cond (i==5) (decide (j>0)) false)) true (cond (i==11) (j==1) false)
 let e:=i==5
 let f:=i==7
 let g:=i==8
 let h:=i==11
 let a:=cond c 1 (cond d (-65535:Int) (cond e (-32768:Int) (cond f 2 (cond g (-262140:Int) (cond h (-128:Int) 0)))))
 let b:=cond c (256:Int) (cond d 65535 (cond e 32768 (cond f 256 (cond g 262140 (cond h 128 65535)))))
 (True,(a,b,()))
def oX6 a b:=(mZ9 a b).1
def MJ a b:=(mZ9 a b).2
theorem lA:SK 197 (BF vI vI (.tup (.cons vI (.cons vI .nl))) oX6 MJ):=fb Tryz.func197 38
abbrev Vi:Type:=(Int×(List Int)×(List B0)×Unit)
def Rs (y:Vi)(x:AD):Vm AD:=
 let g:=y.1
 let d:=y.2.1
 let a:=x.1
 let b:Bool:=a<len d
 let e:=MJ g a
 let f:Bool:=nth d a 0<e.1
 let c:=cond f true (nth d a 0>e.2.1)
 (b->oX6 g a/\A7 a (len d)/\(!f->A7 a (len d))/\(!c->A6 (a+1)),b&&(!c),(a+1,()),b&&c,!b)
def sM7 y x:=(Rs y x).1
def OE y x:=(Rs y x).2.1
def Rt y x:=(Rs y x).2.2.1
def ZM y x:=(Rs y x).2.2.2.1
def sM8 y x:=(Rs y x).2.2.2.2
def sV7 (y:Vi)(x:AD):Int:=
 2
def qB7:List (Nat×Sh):=[(0,vI),(1,Ak),(2,Ao)]
def oJ2:=li [(0,vI),(1,Ak),(2,Ao)] [(9,vI)] OE Rt sM7 (λy x=>[ex 1 (some (ZM y x)) [(6,vI)] ((sV7 y x),()),ex 2 (some (sM8 y x)) qB7 (y.1,y.2.1,y.2.2.1,())]) [[(6,vI)],qB7]
def Ru (y:Vi)(x:AD):Vm AD:=
 let g:=y.2.2.1
 let a:=x.1
 let b:Bool:=a<len g
 let e:Bool:=(nth g a CG).1<0
 let c:=cond e true ((nth g a CG).1>65535)
 let f:=nth g a CG
 let d:=cond c true (!(Gz f.2.1))
 (b->A7 a (len g)/\(!e->A7 a (len g))/\(!c->A7 a (len g))/\(!c->U7 f.2.1)/\(!d->A6 (a+1)),b&&(!d),(a+1,()),b&&d,!b)
def tT0 y x:=(Ru y x).1
def Rv y x:=(Ru y x).2.1
def Vj y x:=(Ru y x).2.2.1
def ZN y x:=(Ru y x).2.2.2.1
def rL9 y x:=(Ru y x).2.2.2.2
def sC9 (y:Vi)(x:AD):Int:=
 2
def rM:List (Nat×Sh):=[(0,vI),(1,Ak),(2,Ao)]
def pK8:=li [(0,vI),(1,Ak),(2,Ao)] [(12,vI)] Rv Vj tT0 (λy x=>[ex 1 (some (ZN y x)) [(6,vI)] ((sC9 y x),()),ex 4 (some (rL9 y x)) rM (y.1,y.2.1,y.2.2.1,())]) [[(6,vI)],rM]
def MK (y:Vi)(x:AD):Vm AD:=
 let e:=y.2.1
 let a:=x.1
 let b:=cond (y.1==3) (decide (a<len e)) false
 let d:=a-2
 let c:Bool:=nth e a 0<=nth e d 0
 (b->A7 a (len e)/\A6 (a-2)/\A7 d (len e)/\(!c->A6 (a+2)),b&&(!c),(a+2,()),b&&c,!b)
def uS1 y x:=(MK y x).1
def L6 y x:=(MK y x).2.1
def Rw y x:=(MK y x).2.2.1
def Vk y x:=(MK y x).2.2.2.1
def rM0 y x:=(MK y x).2.2.2.2
def sD (y:Vi)(x:AD):Int:=
 24
def pK9:=li [(0,vI),(1,Ak),(2,Ao)] [(13,vI)] L6 Rw uS1 (λy x=>[ex 1 (some (Vk y x)) [(6,vI)] ((sD y x),()),ex 6 (some (rM0 y x)) [(2,Ao)] (y.2.2.1,())]) [[(6,vI)],[(2,Ao)]]
def tH (y:vH9)(x:AD):Vm AD:=
 let e:=y.1
 let a:=x.1
 let b:Bool:=a<len e
 let d:=a-1
 let c:Bool:=(nth e a CG).1<=(nth e d CG).1
 (b->A7 a (len e)/\A6 (a-1)/\A7 d (len e)/\(!c->A6 (a+1)),b&&(!c),(a+1,()),b&&c,!b)
def tT1 y x:=(tH y x).1
def Vl y x:=(tH y x).2.1
def Vo y x:=(tH y x).2.2.1
def uS2 y x:=(tH y x).2.2.2.1
def pL y x:=(tH y x).2.2.2.2
def sD0 (y:vH9)(x:AD):Int:=
 24
def pL0:=li [(2,Ao)] [(14,vI)] Vl Vo tT1 (λy x=>[ex 1 (some (uS2 y x)) [(6,vI)] ((sD0 y x),()),ex 8 (some (pL y x)) [] ()]) [[(6,vI)],[]]
def nO8 (p:Int)(A:List Int)(B:List B0):Prop×Int:=
 let l:=cond (p<1) true (p>11)
 let m:=GA p
 let n:=cond (cond (cond (len A<m.1) true (len A>m.2.1)) true (cond (p==3) (tmod (len A) 2==1) false)) true (!(Ty.eqb .bool (decide (len B>0)) (p==10)))
 let o:Bool:=len B>16
 let g:=(p,A,B,())
 let z:=((0:Int),())
 let w:=A3 (OE g) (Rt g) z
 let q:=p==9
 let r:=cond q (nth A 0 0==0) false
 let s:=cond r (nth A 1 0==0) false
 let e:=cond s (nth A 2 0==0) false
 let a:=(p,A,B,())
 let t:=((0:Int),())
 let h:=A3 (Rv a) (Vj a) t
 let d:=p==2
 let f:=cond d (decide (nth A 1 0<=nth A 0 0)) false
 let b:=(p,A,B,())
 let u:=((2:Int),())
 let i:=A3 (L6 b) (Rw b) u
 let c:=(B,())
 let v:=((1:Int),())
 let j:=A3 (Vl c) (Vo c) v
 let k:=cond (ZN a h) (sC9 a h) (cond f 24 (cond (Vk b i) (sD b i) (cond (uS2 c j) (sD0 c j) 0)))
 (!l->ZL p/\(!n->!o->AB (OE g) (Rt g) (sM7 g) z/\(sM8 g w->(q->A7 0 (len A))/\(r->A7 1 (len A))/\(s->A7 2 (len A))/\(!e->AB (Rv a) (Vj a) (tT0 a) t/\(rL9 a h->(d->A7 1 (len A))/\(d->A7 0 (len A))/\(!f->AB (L6 b) (Rw b) (uS1 b) u/\(rM0 b i->AB (Vl c) (Vo c) (tT1 c) v)))))),cond l 8 (cond n 1 (cond o 3 (cond (ZM g w) (sV7 g w) (cond e 2 k)))))
def pL1 a b c:=(nO8 a b c).1
def HE a b c:=(nO8 a b c).2
theorem lA0:SK 159 (DU vI Ak Ao vI pL1 HE):=fb Tryz.func159 181 [kb qI6,kb mZ8,kb lA] [(9,oJ2),(17,pK8),(24,pK9),(29,pL0)]
def lT7 (a b c:Int):Prop×Bool:=
 (True,cond (a≥b) (decide (a<=c)) false)
def L7 a b c:=(lT7 a b c).1
def DJ a b c:=(lT7 a b c).2
theorem lA1:SK 198 (DU vI vI vI vB L7 DJ):=fb Tryz.func198 15
def lT8 (d:Int):Prop×Int:=
 let b:=d==5
 let a:=cond b b (d==6)
 let c:=d==3
 (True,cond (cond a true (cond c c (d==9))) (cond a (0:Int) 2) 1)
def oX7 a:=(lT8 a).1
def f199 a:=(lT8 a).2
theorem lA2:SK 199 (AU vI vI oX7 f199):=fb Tryz.func199 10
def lA3 (p:Int)(z:List Int):Prop×Int:=
 let w:=!(DJ p 1 10)
 let j:=len z !=f199 p
 let k:=p==1
 let l:=p==7
 let a:=cond k k (cond l l (p==8))
 let m:=nth z 0 0
 let b:=p==2
 let n:=nth z 0 0
 let c:=p==4
 let o:=nth z 0 0
 let d:=p==3
 let q:=nth z 0 0
 let e:=DJ q 0 16
 let r:=nth z 1 0
 let f:=p==9
 let s:=nth z 0 0
 let g:=DJ s (-16:Int) 16
 let t:=nth z 1 0
 let u:=p==10
 let v:=nth z 0 0
 let i:=cond d (cond e (DJ r 0 262140) false) (cond f (cond g (DJ t (-16:Int) 16) false) (cond u (DJ v 1 16) true))
 let h:=cond j (1:Int) (cond (!(cond a (DJ m 0 16) (cond b (DJ n 0 7) (cond c (DJ o 0 4) i)))) 2 0)
 (L7 p 1 10/\(!w->oX7 p/\(!j->(a->A7 0 (len z)/\L7 m 0 16)/\(a=false->(b->A7 0 (len z)/\L7 n 0 7)/\(b=false->(c->A7 0 (len z)/\L7 o 0 4)/\(c=false->(d->A7 0 (len z)/\L7 q 0 16/\(e->A7 1 (len z))/\(e->L7 r 0 262140))/\(d=false->(f->A7 0 (len z)/\L7 s (-16:Int) 16/\(g->A7 1 (len z))/\(g->L7 t (-16:Int) 16))/\(f=false->u->A7 0 (len z)/\L7 v 1 16))))))),cond w 8 h)
def pL2 a b:=(lA3 a b).1
def EK a b:=(lA3 a b).2
theorem lA4:SK 160 (BF vI Ak vI pL2 EK):=fb Tryz.func160 67 [kb lA1,kb lA2]
abbrev uD:Type:=(Iw×Int×Unit)
def ZO (y:uD)(x:AD):Vm AD:=
 let c:=y.1
 let a:=x.1
 let b:Bool:=a<y.2.1
 let e:Bool:=(nth c.2.2.2.1 a A1).1<(-1048576)
 let f:=cond e true ((nth c.2.2.2.1 a A1).1>1048576)
 let g:=cond f true ((nth c.2.2.2.1 a A1).2.1<(-1048576))
 let d:=cond g true ((nth c.2.2.2.1 a A1).2.1>1048576)
 (b->A7 a (len c.2.2.2.1)/\(!e->A7 a (len c.2.2.2.1))/\(!f->A7 a (len c.2.2.2.1))/\(!g->A7 a (len c.2.2.2.1))/\(!d->A6 (a+1)),b&&(!d),(a+1,()),b&&d,!b)
def sM9 y x:=(ZO y x).1
def ZP y x:=(ZO y x).2.1
def ZQ y x:=(ZO y x).2.2.1
def sN y x:=(ZO y x).2.2.2.1
def oJ3 y x:=(ZO y x).2.2.2.2
def sV8 (y:uD)(x:AD):Int:=
 2
def oJ4:=li [(1,(.box SS Da)),(45,vI)] [(46,vI)] ZP ZQ sM9 (λy x=>[ex 1 (some (sN y x)) [(2,vI)] ((sV8 y x),()),ex 2 (some (oJ3 y x)) [] ()]) [[(2,vI)],[]]
def lT9 (f:Iw):Prop×Int:=
 let b:=cond (cond (cond (cond (cond (f.1<2) true (f.1>8)) true (f.2.1<2)) true (f.2.1>8)) true (f.2.2.1<1)) true (f.2.2.1>256)
 let c:=cond b true (len f.2.2.2.1!=(f.1*f.2.1))
 let a:=(f,len f.2.2.2.1,())
 let e:=((0:Int),())
 let d:=A3 (ZP a) (ZQ a) e
 ((!b->A6 (f.1*f.2.1))/\(!c->AB (ZP a) (ZQ a) (sM9 a) e),cond c 15 (cond (sN a d) (sV8 a d) 0))
def qL1 a:=(lT9 a).1
def KI a:=(lT9 a).2
theorem lA5:SK 161 (AU Da vI qL1 KI):=fb Tryz.func161 84 [] [(4,oJ4)]
def lA6 (o:AJ):Prop×Int:=
 let m:=o.2.1==2
 let b:=o.2.1==3
 let c:=o.2.1==4
 let d:=o.2.1==5
 let e:=o.2.1==6
 let f:=o.2.1==7
 let g:=o.2.1==8
 let k:=o.2.1==9
 let a:=cond k k (o.2.1==10)
 let l:=o.2.1==11
 let h:=cond f (HE (Qb o).1 (Qa o).1 (Qd o).1) (cond g (EK (Qb o).1 (Qa o).1) (cond a 2 (KI (Qj o).1)))
 let n:=cond d true (cond e true (cond f true (cond g true (cond a (!(Fi (Qh o).1 1 1073741824)) l))))
 let i:=cond c (M8 (Qb o).1 (Qa o).1 (Qe o).1 (Qd o).1) (cond d (f157 o) (cond e (f158 o) h))
 let j:=cond (cond m true (cond b true (cond c true n))) (cond m (Ly (Q6 o).1) (cond b (G3 (Q9 o).1) i)) 0
 ((m->U8 (Q6 o).1)/\(m=false->(b->Oz (Q9 o).1)/\(b=false->(c->pI1 (Qb o).1 (Qa o).1 (Qe o).1 (Qd o).1)/\(c=false->(d->pJ4 o)/\(d=false->(e->qL0 o)/\(e=false->(f->pL1 (Qb o).1 (Qa o).1 (Qd o).1)/\(f=false->(g->pL2 (Qb o).1 (Qa o).1)/\(g=false->(a->tD (Qh o).1 1 1073741824)/\(a=false->l->qL1 (Qj o).1)))))))),j)
def pL3 a:=(lA6 a).1
def IL a:=(lA6 a).2
theorem lA7:SK 121 (AU Ay vI pL3 IL):=fb Tryz.func121 62 [kb nZ9,kb oT7,kb pI,kb mV0,kb mX8,kb mZ6,kb lA0,kb lA4,kb lA5]
end Go.Proofs.YtlpphnncneppoaaGreatDoor.Am
