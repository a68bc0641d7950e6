/- Readers: the shapes of a node are read alike. Condition: readers that were made. -/
import Derived.Test.YtbiemgjkkhkdeaaGreatDoorNatT
set_option linter.unusedVariables false
namespace Go.Proofs.YtbiemgjkkhkdeaaGreatDoor.Am
open Go Go.Am Go.Proofs
def shA (p:D60)(N:D52):vC4:=zC5 (vM6 (wT6 p 16,())) (vA8 (wT6 p 16,())) ((wT3 p 16).1,N,0,())
def shB (q:D60)(N:D52):vC5:=zC5 (vM8 (wT6 q 128,())) (vA9 (wT6 q 128,())) ((wT3 q 128).1,N,0,())
theorem sJ1 (p:D60)(N:D52):vI5 p N=((shB (shA p N).1 (shA p N).2.1).1,(shB (shA p N).1 (shA p N).2.1).2.1,()):=by kernel_rfl
theorem sF1 (p:D60)(N:D52):vB2 p N=(wV p 16∧xQ5 (vM6 (wT6 p 16,())) (vA8 (wT6 p 16,())) (vJ7 (wT6 p 16,())) ((wT3 p 16).1,N,0,())∧wV (shA p N).1 128 ∧
  xQ5 (vM8 (wT6 (shA p N).1 128,())) (vA9 (wT6 (shA p N).1 128,())) (vJ9 (wT6 (shA p N).1 128,())) ((wT3 (shA p N).1 128).1,(shA p N).2.1,0,())):=by kernel_rfl
set_option maxHeartbeats 1000000 in
theorem sF2 {p:D60}{r:D71}(h:RR p r)(N:D52)(h1:wU6 N=[])(h2:wV4 N=[]):vB2 p N∧vI2 r∧vI3 (vQ9 r).1 ∧
  (vI5 p N).2.1=vL4 (wZ7 N (uB r)) (uB0 (vQ9 r).1)∧RR (vI5 p N).1 (uG7 (vQ9 r).1).1∧(uB r).length≤16∧(uB0 (vQ9 r).1).length≤128:=by
 obtain⟨c1,c2,c3,c4,c5,_⟩:=vH h 16 (by decide);obtain⟨n,hn⟩:∃ n:Nat,wT6 p 16=(n:Int):=⟨(wT6 p 16).toNat,by omega⟩;obtain⟨p1,r1,ls1,a1,a2,a3,a4⟩:=tW n (by omega) n 0 _ _ N [] c4 (by omega) (by rw[h1];simp) (by simp);have fP:=a1.fix (by omega);have fR:=a2.fix (by omega);have eP:=a1.ends (by omega);have eR:=a2.ends (by omega);rw[← hn] at fP eP;rw[← hn,← c3] at fR eR;obtain⟨d1,d2,d3,d4,d5,_⟩:=vH a3 128 (by decide);obtain⟨m,hm⟩:∃ m:Nat,wT6 p1 128=(m:Int):=⟨(wT6 p1 128).toNat,by omega⟩;obtain⟨p2,r2,ls2,b1,b2,b3,b4⟩:=sF0 m (by omega) m 0 _ _ (wZ7 N ls1) [] d4 (by omega) (by show (wV4 N).length≤0;rw[h2];simp) (by simp);have gP:=b1.fix (by omega);have gR:=b2.fix (by omega);have xP:=b1.ends (by omega);have xR:=b2.ends (by omega);rw[← hm] at gP xP;rw[← hm,← d3] at gR xR;have fR':uZ1 r=(vI2 r,ls1,(r1,())):=by
  have q:zC5 (vJ2 (wU7 r 16,())) (wY2 (wU7 r 16,())) ((wT7 r 16).1,[],0,())=(r1,[]++ls1,wU7 r 16,()):=fR;show (vI2 r,(zC5 (vJ2 (wU7 r 16,())) (wY2 (wU7 r 16,())) ((wT7 r 16).1,[],0,())).2.1,((zC5 (vJ2 (wU7 r 16,())) (wY2 (wU7 r 16,())) ((wT7 r 16).1,[],0,())).1,()))=_;rw[q];rfl
 have o1:vQ9 r=(r1,()):=by simp only[vQ9,fR']
 have v1:uB r=ls1:=by simp only[uB,fR']
 have gR':uZ3 r1=(vI3 r1,ls2,(r2,())):=by
  have q:zC5 (vJ3 (wU7 r1 128,())) (wY3 (wU7 r1 128,())) ((wT7 r1 128).1,[],0,())=(r2,[]++ls2,wU7 r1 128,()):=gR;show (vI3 r1,(zC5 (vJ3 (wU7 r1 128,())) (wY3 (wU7 r1 128,())) ((wT7 r1 128).1,[],0,())).2.1,((zC5 (vJ3 (wU7 r1 128,())) (wY3 (wU7 r1 128,())) ((wT7 r1 128).1,[],0,())).1,()))=_;rw[q];rfl
 have o2:uG7 r1=(r2,()):=by simp only[uG7,gR']
 have v2:uB0 r1=ls2:=by simp only[uB0,gR']
 rw[o1];simp only;rw[v1,o2,v2];have E1:shA p N=(p1,wZ7 N ls1,wT6 p 16,()):=fP;have E2:shB p1 (wZ7 N ls1)=(p2,vL4 (wZ7 N ls1) ls2,wT6 p1 128,()):=gP;rw[sJ1,sF1,E1];simp only;rw[E2];exact⟨⟨c1,eP,d1,xP⟩,⟨c2,eR⟩,⟨d2,xR⟩,rfl,b3,by omega,by omega⟩
end Go.Proofs.YtbiemgjkkhkdeaaGreatDoor.Am
