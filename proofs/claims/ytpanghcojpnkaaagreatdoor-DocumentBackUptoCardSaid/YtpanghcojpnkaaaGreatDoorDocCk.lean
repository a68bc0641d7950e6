/- node.Check does not look at ids, nor at a clone's reference beyond its range. No condition. -/
import Derived.Test.YtpanghcojpnkaaaGreatDoorDocBe
namespace Go.Proofs.YtpanghcojpnkaaaGreatDoor.Am
open Go Go.Am
def cpN (n:D49)(id par ref:Int):D49:=(id,n.2.1,par,n.2.2.2.1,n.2.2.2.2.1,n.2.2.2.2.2.1,n.2.2.2.2.2.2.1,n.2.2.2.2.2.2.2.1,n.2.2.2.2.2.2.2.2.1,n.2.2.2.2.2.2.2.2.2.1,n.2.2.2.2.2.2.2.2.2.2.1,n.2.2.2.2.2.2.2.2.2.2.2.1,n.2.2.2.2.2.2.2.2.2.2.2.2.1,n.2.2.2.2.2.2.2.2.2.2.2.2.2.1,n.2.2.2.2.2.2.2.2.2.2.2.2.2.2.1,n.2.2.2.2.2.2.2.2.2.2.2.2.2.2.2.1,n.2.2.2.2.2.2.2.2.2.2.2.2.2.2.2.2.1,n.2.2.2.2.2.2.2.2.2.2.2.2.2.2.2.2.2.1,n.2.2.2.2.2.2.2.2.2.2.2.2.2.2.2.2.2.2.1,n.2.2.2.2.2.2.2.2.2.2.2.2.2.2.2.2.2.2.2.1,n.2.2.2.2.2.2.2.2.2.2.2.2.2.2.2.2.2.2.2.2.1,n.2.2.2.2.2.2.2.2.2.2.2.2.2.2.2.2.2.2.2.2.2.1,n.2.2.2.2.2.2.2.2.2.2.2.2.2.2.2.2.2.2.2.2.2.2.1,n.2.2.2.2.2.2.2.2.2.2.2.2.2.2.2.2.2.2.2.2.2.2.2.1,n.2.2.2.2.2.2.2.2.2.2.2.2.2.2.2.2.2.2.2.2.2.2.2.2.1,n.2.2.2.2.2.2.2.2.2.2.2.2.2.2.2.2.2.2.2.2.2.2.2.2.2.1,ref,n.2.2.2.2.2.2.2.2.2.2.2.2.2.2.2.2.2.2.2.2.2.2.2.2.2.2.2.1,())
theorem sD4 {b:Bool}{x y:Int}(hb:b=false)(h:y=0):(bif b then x else y)=0:=by subst hb;exact h
theorem oR2 {n:D49}{w h id par ref:Int}(h0:f75 n w h=0)(hi:f104 id=true)(hp:f104 par=true):f75 (cpN n id par ref) w h=0:=by
 have h':(bif (bif (bif (bif (decide (w<1)) then true else (decide (w>256))) then true else (decide (h<1))) then true else (decide (h>256))) then (15:Int) else (bif ((f102 n.2.1)==([]:List UInt8)) then (8:Int) else (bif (!(f103 n.2.2.2.1)) then (13:Int) else
  (bif (bif (bif (!(f104 n.1)) then true else (!(f104 n.2.2.1))) then true else (!(f105 n.2.2.2.2.2.2.2.1))) then (2:Int) else (bif (bif (!(f106 n.2.2.2.2.2.2.2.2.1)) then true else (bif (f54 n) then (n.2.2.2.2.2.2.2.2.1 !=0) else false)) then (8:Int) else
  (bif ((f29 n.2.2.2.2.2.2.2.2.2.1)!=0) then (f29 n.2.2.2.2.2.2.2.2.2.1) else (bif (bif (n.2.2.2.2.2.2.2.2.2.1.1 !=0) then (bif (n.2.2.2.2.2.2.2.2.2.1.1 !=w) then true else (n.2.2.2.2.2.2.2.2.2.1.2.1 !=h)) else false) then (15:Int) else (0:Int))))))))=0:=h0
 obtain⟨a1,h1⟩:=wX1 h' (fun _=>by decide)
 obtain⟨a2,h2⟩:=wX1 h1 (fun _=>by decide)
 obtain⟨a3,h3⟩:=wX1 h2 (fun _=>by decide)
 obtain⟨a4,h4⟩:=wX1 h3 (fun _=>by decide)
 have a5:(!(f105 n.2.2.2.2.2.2.2.1))=false:=by
  simp only[Bool.cond_true_left,jJ] at a4
  exact a4.2
 have a6:(bif (bif (!(f104 id)) then true else (!(f104 par))) then true else (!(f105 n.2.2.2.2.2.2.2.1)))=false:=by
  rw[hi,hp,a5];rfl
 show (bif (bif (bif (bif (decide (w<1)) then true else (decide (w>256))) then true else (decide (h<1))) then true else (decide (h>256))) then (15:Int) else (bif ((f102 n.2.1)==([]:List UInt8)) then (8:Int) else (bif (!(f103 n.2.2.2.1)) then (13:Int) else
  (bif (bif (bif (!(f104 id)) then true else (!(f104 par))) then true else (!(f105 n.2.2.2.2.2.2.2.1))) then (2:Int) else (bif (bif (!(f106 n.2.2.2.2.2.2.2.2.1)) then true else (bif (f54 n) then (n.2.2.2.2.2.2.2.2.1 !=0) else false)) then (8:Int) else
  (bif ((f29 n.2.2.2.2.2.2.2.2.2.1)!=0) then (f29 n.2.2.2.2.2.2.2.2.2.1) else (bif (bif (n.2.2.2.2.2.2.2.2.2.1.1 !=0) then (bif (n.2.2.2.2.2.2.2.2.2.1.1 !=w) then true else (n.2.2.2.2.2.2.2.2.2.1.2.1 !=h)) else false) then (15:Int) else (0:Int))))))))=0
 exact sD4 a1 (sD4 a2 (sD4 a3 (sD4 a6 h4)))
def vB5 (n:D49):Int:=n.2.2.2.2.2.2.2.2.2.2.2.2.2.2.2.2.2.2.2.2.2.2.2.2.2.2.1
theorem oR3 {n:D49}{id par ref:Int}(h0:f81 n=0)(hr:ref=vB5 n∨(n.2.1=10∧1≤ref∧ref≤1073741824)):f81 (cpN n id par ref)=0:=by
 rcases hr with hr|⟨hk,h1,h2⟩
 ·subst hr;exact h0
 ·have e:f81 (cpN n id par ref)=(bif (bif (decide (ref<1)) then true else (decide (ref>1073741824))) then (2:Int) else 0):=by
   simp only[f81,f81t,cpN,hk]
   rfl
  rw[e,decide_eq_false (by omega),decide_eq_false (by omega)];rfl
def cS1 (n:D49):D49:=(n.1,n.2.1,n.2.2.1,n.2.2.2.1,n.2.2.2.2.1,n.2.2.2.2.2.1,n.2.2.2.2.2.2.1,n.2.2.2.2.2.2.2.1,n.2.2.2.2.2.2.2.2.1,n.2.2.2.2.2.2.2.2.2.1,((0:Int),(0:Int),(0:Int),(0:Int),(0:Int),(0:Int),()),n.2.2.2.2.2.2.2.2.2.2.2)
def cS2 (n:D49):D49:=(n.1,n.2.1,n.2.2.1,n.2.2.2.1,n.2.2.2.2.1,n.2.2.2.2.2.1,n.2.2.2.2.2.2.1,n.2.2.2.2.2.2.2.1,n.2.2.2.2.2.2.2.2.1,n.2.2.2.2.2.2.2.2.2.1,n.2.2.2.2.2.2.2.2.2.2.1,(0:Int),n.2.2.2.2.2.2.2.2.2.2.2.2)
def cS4 (n:D49):D49:=(n.1,n.2.1,n.2.2.1,n.2.2.2.1,n.2.2.2.2.1,n.2.2.2.2.2.1,n.2.2.2.2.2.2.1,n.2.2.2.2.2.2.2.1,n.2.2.2.2.2.2.2.2.1,n.2.2.2.2.2.2.2.2.2.1,n.2.2.2.2.2.2.2.2.2.2.1,n.2.2.2.2.2.2.2.2.2.2.2.1,((0:Int),(0:Int),([]:List D42),()),n.2.2.2.2.2.2.2.2.2.2.2.2.2)
def cS6 (n:D49):D49:=(n.1,n.2.1,n.2.2.1,n.2.2.2.1,n.2.2.2.2.1,n.2.2.2.2.2.1,n.2.2.2.2.2.2.1,n.2.2.2.2.2.2.2.1,n.2.2.2.2.2.2.2.2.1,n.2.2.2.2.2.2.2.2.2.1,n.2.2.2.2.2.2.2.2.2.2.1,n.2.2.2.2.2.2.2.2.2.2.2.1,n.2.2.2.2.2.2.2.2.2.2.2.2.1,((0:Int),(0:Int),(0:Int),(0:Int),()),n.2.2.2.2.2.2.2.2.2.2.2.2.2.2)
def cS10 (n:D49):D49:=(n.1,n.2.1,n.2.2.1,n.2.2.2.1,n.2.2.2.2.1,n.2.2.2.2.2.1,n.2.2.2.2.2.2.1,n.2.2.2.2.2.2.2.1,n.2.2.2.2.2.2.2.2.1,n.2.2.2.2.2.2.2.2.2.1,n.2.2.2.2.2.2.2.2.2.2.1,n.2.2.2.2.2.2.2.2.2.2.2.1,n.2.2.2.2.2.2.2.2.2.2.2.2.1,n.2.2.2.2.2.2.2.2.2.2.2.2.2.1,(0:Int),([]:List Int),(0:Int),([]:List D122),n.2.2.2.2.2.2.2.2.2.2.2.2.2.2.2.2.2.2)
def cS17 (n:D49):D49:=(n.1,n.2.1,n.2.2.1,n.2.2.2.1,n.2.2.2.2.1,n.2.2.2.2.2.1,n.2.2.2.2.2.2.1,n.2.2.2.2.2.2.2.1,n.2.2.2.2.2.2.2.2.1,n.2.2.2.2.2.2.2.2.2.1,n.2.2.2.2.2.2.2.2.2.2.1,n.2.2.2.2.2.2.2.2.2.2.2.1,n.2.2.2.2.2.2.2.2.2.2.2.2.1,((0:Int),(0:Int),(0:Int),(0:Int),()),n.2.2.2.2.2.2.2.2.2.2.2.2.2.2.1,n.2.2.2.2.2.2.2.2.2.2.2.2.2.2.2.1,n.2.2.2.2.2.2.2.2.2.2.2.2.2.2.2.2.1,n.2.2.2.2.2.2.2.2.2.2.2.2.2.2.2.2.2.1,([]:List D128),(0:Int),(0:Int),(0:Int),(0:Int),n.2.2.2.2.2.2.2.2.2.2.2.2.2.2.2.2.2.2.2.2.2.2.2)
def cS22 (n:D49):D49:=(n.1,n.2.1,n.2.2.1,n.2.2.2.1,n.2.2.2.2.1,n.2.2.2.2.2.1,n.2.2.2.2.2.2.1,n.2.2.2.2.2.2.2.1,n.2.2.2.2.2.2.2.2.1,n.2.2.2.2.2.2.2.2.2.1,n.2.2.2.2.2.2.2.2.2.2.1,n.2.2.2.2.2.2.2.2.2.2.2.1,n.2.2.2.2.2.2.2.2.2.2.2.2.1,((0:Int),(0:Int),(0:Int),(0:Int),()),n.2.2.2.2.2.2.2.2.2.2.2.2.2.2.1,n.2.2.2.2.2.2.2.2.2.2.2.2.2.2.2.1,n.2.2.2.2.2.2.2.2.2.2.2.2.2.2.2.2.1,n.2.2.2.2.2.2.2.2.2.2.2.2.2.2.2.2.2.1,n.2.2.2.2.2.2.2.2.2.2.2.2.2.2.2.2.2.2.1,n.2.2.2.2.2.2.2.2.2.2.2.2.2.2.2.2.2.2.2.1,n.2.2.2.2.2.2.2.2.2.2.2.2.2.2.2.2.2.2.2.2.1,n.2.2.2.2.2.2.2.2.2.2.2.2.2.2.2.2.2.2.2.2.2.1,n.2.2.2.2.2.2.2.2.2.2.2.2.2.2.2.2.2.2.2.2.2.2.1,([]:List UInt8),(0:Int),(0:Int),n.2.2.2.2.2.2.2.2.2.2.2.2.2.2.2.2.2.2.2.2.2.2.2.2.2.2)
def cS25 (n:D49):D49:=(n.1,n.2.1,n.2.2.1,n.2.2.2.1,n.2.2.2.2.1,n.2.2.2.2.2.1,n.2.2.2.2.2.2.1,n.2.2.2.2.2.2.2.1,n.2.2.2.2.2.2.2.2.1,n.2.2.2.2.2.2.2.2.2.1,n.2.2.2.2.2.2.2.2.2.2.1,n.2.2.2.2.2.2.2.2.2.2.2.1,n.2.2.2.2.2.2.2.2.2.2.2.2.1,n.2.2.2.2.2.2.2.2.2.2.2.2.2.1,(0:Int),([]:List Int),n.2.2.2.2.2.2.2.2.2.2.2.2.2.2.2.2.1,([]:List D122),n.2.2.2.2.2.2.2.2.2.2.2.2.2.2.2.2.2.2)
def cS27 (n:D49):D49:=(n.1,n.2.1,n.2.2.1,n.2.2.2.1,n.2.2.2.2.1,n.2.2.2.2.2.1,n.2.2.2.2.2.2.1,n.2.2.2.2.2.2.2.1,n.2.2.2.2.2.2.2.2.1,n.2.2.2.2.2.2.2.2.2.1,n.2.2.2.2.2.2.2.2.2.2.1,n.2.2.2.2.2.2.2.2.2.2.2.1,n.2.2.2.2.2.2.2.2.2.2.2.2.1,n.2.2.2.2.2.2.2.2.2.2.2.2.2.1,(0:Int),([]:List Int),n.2.2.2.2.2.2.2.2.2.2.2.2.2.2.2.2)
def cS28 (n:D49):D49:=(n.1,n.2.1,n.2.2.1,n.2.2.2.1,n.2.2.2.2.1,n.2.2.2.2.2.1,n.2.2.2.2.2.2.1,n.2.2.2.2.2.2.2.1,n.2.2.2.2.2.2.2.2.1,n.2.2.2.2.2.2.2.2.2.1,n.2.2.2.2.2.2.2.2.2.2.1,n.2.2.2.2.2.2.2.2.2.2.2.1,n.2.2.2.2.2.2.2.2.2.2.2.2.1,n.2.2.2.2.2.2.2.2.2.2.2.2.2.1,n.2.2.2.2.2.2.2.2.2.2.2.2.2.2.1,n.2.2.2.2.2.2.2.2.2.2.2.2.2.2.2.1,n.2.2.2.2.2.2.2.2.2.2.2.2.2.2.2.2.1,n.2.2.2.2.2.2.2.2.2.2.2.2.2.2.2.2.2.1,n.2.2.2.2.2.2.2.2.2.2.2.2.2.2.2.2.2.2.1,n.2.2.2.2.2.2.2.2.2.2.2.2.2.2.2.2.2.2.2.1,n.2.2.2.2.2.2.2.2.2.2.2.2.2.2.2.2.2.2.2.2.1,n.2.2.2.2.2.2.2.2.2.2.2.2.2.2.2.2.2.2.2.2.2.1,n.2.2.2.2.2.2.2.2.2.2.2.2.2.2.2.2.2.2.2.2.2.2.1,n.2.2.2.2.2.2.2.2.2.2.2.2.2.2.2.2.2.2.2.2.2.2.2.1,n.2.2.2.2.2.2.2.2.2.2.2.2.2.2.2.2.2.2.2.2.2.2.2.2.1,n.2.2.2.2.2.2.2.2.2.2.2.2.2.2.2.2.2.2.2.2.2.2.2.2.2.1,(0:Int),n.2.2.2.2.2.2.2.2.2.2.2.2.2.2.2.2.2.2.2.2.2.2.2.2.2.2.2.1,())
def cS30 (n:D49):D49:=(n.1,n.2.1,n.2.2.1,n.2.2.2.1,n.2.2.2.2.1,n.2.2.2.2.2.1,n.2.2.2.2.2.2.1,n.2.2.2.2.2.2.2.1,n.2.2.2.2.2.2.2.2.1,n.2.2.2.2.2.2.2.2.2.1,n.2.2.2.2.2.2.2.2.2.2.1,n.2.2.2.2.2.2.2.2.2.2.2.1,n.2.2.2.2.2.2.2.2.2.2.2.2.1,n.2.2.2.2.2.2.2.2.2.2.2.2.2.1,n.2.2.2.2.2.2.2.2.2.2.2.2.2.2.1,n.2.2.2.2.2.2.2.2.2.2.2.2.2.2.2.1,n.2.2.2.2.2.2.2.2.2.2.2.2.2.2.2.2.1,n.2.2.2.2.2.2.2.2.2.2.2.2.2.2.2.2.2.1,n.2.2.2.2.2.2.2.2.2.2.2.2.2.2.2.2.2.2.1,n.2.2.2.2.2.2.2.2.2.2.2.2.2.2.2.2.2.2.2.1,n.2.2.2.2.2.2.2.2.2.2.2.2.2.2.2.2.2.2.2.2.1,n.2.2.2.2.2.2.2.2.2.2.2.2.2.2.2.2.2.2.2.2.2.1,n.2.2.2.2.2.2.2.2.2.2.2.2.2.2.2.2.2.2.2.2.2.2.1,n.2.2.2.2.2.2.2.2.2.2.2.2.2.2.2.2.2.2.2.2.2.2.2.1,n.2.2.2.2.2.2.2.2.2.2.2.2.2.2.2.2.2.2.2.2.2.2.2.2.1,n.2.2.2.2.2.2.2.2.2.2.2.2.2.2.2.2.2.2.2.2.2.2.2.2.2.1,n.2.2.2.2.2.2.2.2.2.2.2.2.2.2.2.2.2.2.2.2.2.2.2.2.2.2.1,((0:Int),(0:Int),(0:Int),([]:List D125),()),())
def cM1 (n:D49):D49:=bif f76 n.2.1 then cS1 n else n
def cM2 (n:D49):D49:=bif f79 n.2.1 then cS2 n else n
def cM3 (n:D49):D49:=bif n.2.1==2 then cS4 n else (bif n.2.1==3 then cS6 n else (bif n.2.1==4 then cS10 n else (bif n.2.1==5 then cS17 n else (bif n.2.1==6 then cS22 n else (bif n.2.1==7 then cS25 n else (bif n.2.1==8 then cS27 n else (bif (bif n.2.1==9 then n.2.1==9 else n.2.1==10) then cS28 n else (bif n.2.1==11 then cS30 n else n))))))))
theorem sD5:∀ n,f83 n=cM3 (cM2 (cM1 n)):=fun _=>rfl
def xZ6 (n:D49)(id par:Int):D49:=(id,n.2.1,par,n.2.2.2)
theorem vB4 {b:Bool}{x y:D49}{id par:Int}:(bif b then xZ6 x id par else xZ6 y id par)=xZ6 (bif b then x else y) id par:=by cases b<;>rfl
theorem ipS1 (n:D49)(id par:Int):cS1 (xZ6 n id par)=xZ6 (cS1 n) id par:=rfl
theorem ipS2 (n:D49)(id par:Int):cS2 (xZ6 n id par)=xZ6 (cS2 n) id par:=rfl
theorem ipS4 (n:D49)(id par:Int):cS4 (xZ6 n id par)=xZ6 (cS4 n) id par:=rfl
theorem ipS6 (n:D49)(id par:Int):cS6 (xZ6 n id par)=xZ6 (cS6 n) id par:=rfl
theorem oR4 (n:D49)(id par:Int):cS10 (xZ6 n id par)=xZ6 (cS10 n) id par:=rfl
theorem oR5 (n:D49)(id par:Int):cS17 (xZ6 n id par)=xZ6 (cS17 n) id par:=rfl
theorem oR6 (n:D49)(id par:Int):cS22 (xZ6 n id par)=xZ6 (cS22 n) id par:=rfl
theorem oR7 (n:D49)(id par:Int):cS25 (xZ6 n id par)=xZ6 (cS25 n) id par:=rfl
theorem oR8 (n:D49)(id par:Int):cS27 (xZ6 n id par)=xZ6 (cS27 n) id par:=rfl
theorem oR9 (n:D49)(id par:Int):cS28 (xZ6 n id par)=xZ6 (cS28 n) id par:=rfl
theorem oS (n:D49)(id par:Int):cS30 (xZ6 n id par)=xZ6 (cS30 n) id par:=rfl
theorem ipM1 (n:D49)(id par:Int):cM1 (xZ6 n id par)=xZ6 (cM1 n) id par:=by
 show (bif f76 n.2.1 then cS1 (xZ6 n id par) else xZ6 n id par)=_
 rw[ipS1,vB4];rfl
theorem ipM2 (n:D49)(id par:Int):cM2 (xZ6 n id par)=xZ6 (cM2 n) id par:=by
 show (bif f79 n.2.1 then cS2 (xZ6 n id par) else xZ6 n id par)=_
 rw[ipS2,vB4];rfl
theorem ipM3 (n:D49)(id par:Int):cM3 (xZ6 n id par)=xZ6 (cM3 n) id par:=by
 show (bif n.2.1==2 then cS4 (xZ6 n id par) else (bif n.2.1==3 then cS6 (xZ6 n id par) else (bif n.2.1==4 then cS10 (xZ6 n id par) else (bif n.2.1==5 then cS17 (xZ6 n id par) else (bif n.2.1==6 then cS22 (xZ6 n id par) else (bif n.2.1==7 then cS25 (xZ6 n id par) else (bif n.2.1==8 then cS27 (xZ6 n id par) else (bif (bif n.2.1==9 then n.2.1==9 else n.2.1==10) then cS28 (xZ6 n id par) else (bif n.2.1==11 then cS30 (xZ6 n id par) else (xZ6 n id par))))))))))=_
 rw[ipS4,ipS6,oR4,oR5,oR6,oR7,oR8,oR9,oS,vB4,vB4,vB4,vB4,vB4,vB4,vB4,vB4,vB4];rfl
theorem oP7 (n:D49)(id par:Int):f82 (xZ6 n id par)=f82 n:=rfl
theorem oP8 (n:D49)(id par:Int):f82 (f83 (xZ6 n id par))=f82 (f83 n):=by
 rw[sD5,sD5,ipM1,ipM2,ipM3,oP7]
def vS7 (n:D49)(ref:Int):D49:=(n.1,n.2.1,n.2.2.1,n.2.2.2.1,n.2.2.2.2.1,n.2.2.2.2.2.1,n.2.2.2.2.2.2.1,n.2.2.2.2.2.2.2.1,n.2.2.2.2.2.2.2.2.1,n.2.2.2.2.2.2.2.2.2.1,n.2.2.2.2.2.2.2.2.2.2.1,n.2.2.2.2.2.2.2.2.2.2.2.1,n.2.2.2.2.2.2.2.2.2.2.2.2.1,n.2.2.2.2.2.2.2.2.2.2.2.2.2.1,n.2.2.2.2.2.2.2.2.2.2.2.2.2.2.1,n.2.2.2.2.2.2.2.2.2.2.2.2.2.2.2.1,n.2.2.2.2.2.2.2.2.2.2.2.2.2.2.2.2.1,n.2.2.2.2.2.2.2.2.2.2.2.2.2.2.2.2.2.1,n.2.2.2.2.2.2.2.2.2.2.2.2.2.2.2.2.2.2.1,n.2.2.2.2.2.2.2.2.2.2.2.2.2.2.2.2.2.2.2.1,n.2.2.2.2.2.2.2.2.2.2.2.2.2.2.2.2.2.2.2.2.1,n.2.2.2.2.2.2.2.2.2.2.2.2.2.2.2.2.2.2.2.2.2.1,n.2.2.2.2.2.2.2.2.2.2.2.2.2.2.2.2.2.2.2.2.2.2.1,n.2.2.2.2.2.2.2.2.2.2.2.2.2.2.2.2.2.2.2.2.2.2.2.1,n.2.2.2.2.2.2.2.2.2.2.2.2.2.2.2.2.2.2.2.2.2.2.2.2.1,n.2.2.2.2.2.2.2.2.2.2.2.2.2.2.2.2.2.2.2.2.2.2.2.2.2.1,ref,n.2.2.2.2.2.2.2.2.2.2.2.2.2.2.2.2.2.2.2.2.2.2.2.2.2.2.2.1,())
theorem rfS1 (n:D49)(ref:Int):cS1 (vS7 n ref)=vS7 (cS1 n) ref:=by
 obtain⟨a0,a1,a2,a3,a4,a5,a6,a7,a8,a9,a10,a11,a12,a13,a14,a15,a16,a17,a18,a19,a20,a21,a22,a23,a24,a25,a26,a27,⟨⟩⟩:=n
 dsimp only[cS1,vS7]
theorem rfS2 (n:D49)(ref:Int):cS2 (vS7 n ref)=vS7 (cS2 n) ref:=by
 obtain⟨a0,a1,a2,a3,a4,a5,a6,a7,a8,a9,a10,a11,a12,a13,a14,a15,a16,a17,a18,a19,a20,a21,a22,a23,a24,a25,a26,a27,⟨⟩⟩:=n
 dsimp only[cS2,vS7]
theorem oS0 (n:D49)(ref:Int):cS28 (vS7 n ref)=cS28 n:=by
 obtain⟨a0,a1,a2,a3,a4,a5,a6,a7,a8,a9,a10,a11,a12,a13,a14,a15,a16,a17,a18,a19,a20,a21,a22,a23,a24,a25,a26,a27,⟨⟩⟩:=n
 dsimp only[cS28,vS7]
theorem tP0 {n:D49}(h:n.2.1=10):cM3 (cM2 (cM1 n))=cS28 (cS2 (cS1 n)):=by
 have e1:cM1 n=cS1 n:=by unfold cM1;rw[h];rfl
 have h1:(cS1 n).2.1=10:=h
 have e2:cM2 (cS1 n)=cS2 (cS1 n):=by unfold cM2;rw[h1];rfl
 have h2:(cS2 (cS1 n)).2.1=10:=h
 have e3:cM3 (cS2 (cS1 n))=cS28 (cS2 (cS1 n)):=by unfold cM3;rw[h2];rfl
 rw[e1,e2,e3]
theorem oP9 {n:D49}(ref:Int)(h:n.2.1=10):f83 (vS7 n ref)=f83 n:=by
 rw[sD5,sD5,tP0 h,tP0 (show (vS7 n ref).2.1=10 from h),rfS1,rfS2,oS0]
theorem oH1 (n:D49)(id par:Int):cpN n id par (vB5 n)=xZ6 n id par:=rfl
theorem oQ (n:D49)(id par ref:Int):cpN n id par ref=vS7 (xZ6 n id par) ref:=rfl
theorem oS1 {n:D49}{id par ref:Int}(hr:ref=vB5 n∨n.2.1=10):f82 (f83 (cpN n id par ref))=f82 (f83 n):=by
 rcases hr with hr|hr
 ·subst hr
  rw[oH1]
  exact oP8 n id par
 ·rw[oQ,oP9 ref (show (xZ6 n id par).2.1=10 from hr)]
  exact oP8 n id par
theorem pD0 {n:D49}{w h id par ref:Int}(h0:f52 n w h=0)(hi:f104 id=true)(hp:f104 par=true)(hr:ref=vB5 n∨(n.2.1=10∧1≤ref∧ref≤1073741824)):f52 (cpN n id par ref) w h=0:=by
 have h':(bif (f75 n w h !=0) then f75 n w h else (bif (((f77 n.2.2.2.2.2.2.2.2.2.2.1 !=0)||((!(f77 n.2.2.2.2.2.2.2.2.2.2.1 !=0))&&((f78 n.2.2.2.2.2.2.2.2.2.2.1).2.1 !=0)))&&f76 n.2.1) then (bif (f77 n.2.2.2.2.2.2.2.2.2.2.1 !=0) then f77 n.2.2.2.2.2.2.2.2.2.2.1 else (f78 n.2.2.2.2.2.2.2.2.2.2.1).2.1) else
  (bif (bif f79 n.2.1 then (!(f80 n.2.2.2.2.2.2.2.2.2.2.2.1)) else false) then (8:Int) else (bif (f81 n !=0) then f81 n else (bif (!(f82 (f83 n))) then (1:Int) else (0:Int))))))=0:=h0
 obtain⟨a1,h1⟩:=wX1 h' ne_zero.1
 obtain⟨a2,h2⟩:=wX1 h1 (fun hb=>by
  cases hx:(f77 n.2.2.2.2.2.2.2.2.2.2.1 !=0) with
  |true=>rw[jE];exact ne_zero.1 hx
  |false =>
   rw[hx] at hb
   rw[jD]
   simp only[Bool.false_or,Bool.not_false,Bool.true_and,jB] at hb
   exact ne_zero.1 hb.1)
 obtain⟨a3,h3⟩:=wX1 h2 (fun _=>by decide)
 obtain⟨a4,h4⟩:=wX1 h3 ne_zero.1
 obtain⟨a5,_⟩:=wX1 h4 (fun _=>by decide)
 have b1:=oR2 (ref:=ref) (show f75 n w h=0 by simpa using a1) hi hp
 have b4:=oR3 (id:=id) (par:=par) (show f81 n=0 by simpa using a4) hr
 have b5:=oS1 (n:=n) (id:=id) (par:=par) (ref:=ref) (hr.imp_right fun q=>q.1)
 show (bif (f75 (cpN n id par ref) w h !=0) then f75 (cpN n id par ref) w h else (bif (((f77 n.2.2.2.2.2.2.2.2.2.2.1 !=0)||((!(f77 n.2.2.2.2.2.2.2.2.2.2.1 !=0))&&((f78 n.2.2.2.2.2.2.2.2.2.2.1).2.1 !=0)))&&f76 n.2.1) then (bif (f77 n.2.2.2.2.2.2.2.2.2.2.1 !=0) then f77 n.2.2.2.2.2.2.2.2.2.2.1 else (f78 n.2.2.2.2.2.2.2.2.2.2.1).2.1) else
  (bif (bif f79 n.2.1 then (!(f80 n.2.2.2.2.2.2.2.2.2.2.2.1)) else false) then (8:Int) else (bif (f81 (cpN n id par ref)!=0) then f81 (cpN n id par ref) else (bif (!(f82 (f83 (cpN n id par ref)))) then (1:Int) else (0:Int))))))=0
 rw[b1,b4,b5,a2,a3,a5]
 rfl
end Go.Proofs.YtpanghcojpnkaaaGreatDoor.Am
