/- Readers: stops, segments and points are read alike. Condition: readers that were made. -/
import Derived.Test.YtbiemgjkkhkdeaaGreatDoorNatS
set_option linter.unusedVariables false
namespace Go.Proofs.YtbiemgjkkhkdeaaGreatDoor.Am
open Go Go.Am Go.Proofs
def wZ7 (N:D52)(ls:List D111):D52:=(N.1,N.2.1,N.2.2.1,N.2.2.2.1,N.2.2.2.2.1,N.2.2.2.2.2.1,N.2.2.2.2.2.2.1,N.2.2.2.2.2.2.2.1,N.2.2.2.2.2.2.2.2.1,N.2.2.2.2.2.2.2.2.2.1,N.2.2.2.2.2.2.2.2.2.2.1,N.2.2.2.2.2.2.2.2.2.2.2.1,N.2.2.2.2.2.2.2.2.2.2.2.2.1,N.2.2.2.2.2.2.2.2.2.2.2.2.2.1,N.2.2.2.2.2.2.2.2.2.2.2.2.2.2.1,N.2.2.2.2.2.2.2.2.2.2.2.2.2.2.2.1,N.2.2.2.2.2.2.2.2.2.2.2.2.2.2.2.2.1,N.2.2.2.2.2.2.2.2.2.2.2.2.2.2.2.2.2.1++ls,N.2.2.2.2.2.2.2.2.2.2.2.2.2.2.2.2.2.2.1,N.2.2.2.2.2.2.2.2.2.2.2.2.2.2.2.2.2.2.2.1,N.2.2.2.2.2.2.2.2.2.2.2.2.2.2.2.2.2.2.2.2.1,N.2.2.2.2.2.2.2.2.2.2.2.2.2.2.2.2.2.2.2.2.2.1,N.2.2.2.2.2.2.2.2.2.2.2.2.2.2.2.2.2.2.2.2.2.2.1,N.2.2.2.2.2.2.2.2.2.2.2.2.2.2.2.2.2.2.2.2.2.2.2.1,N.2.2.2.2.2.2.2.2.2.2.2.2.2.2.2.2.2.2.2.2.2.2.2.2.1,N.2.2.2.2.2.2.2.2.2.2.2.2.2.2.2.2.2.2.2.2.2.2.2.2.2.1,N.2.2.2.2.2.2.2.2.2.2.2.2.2.2.2.2.2.2.2.2.2.2.2.2.2.2.1,N.2.2.2.2.2.2.2.2.2.2.2.2.2.2.2.2.2.2.2.2.2.2.2.2.2.2.2.1,())
def vL4 (N:D52)(ls:List D114):D52:=(N.1,N.2.1,N.2.2.1,N.2.2.2.1,N.2.2.2.2.1,N.2.2.2.2.2.1,N.2.2.2.2.2.2.1,N.2.2.2.2.2.2.2.1,N.2.2.2.2.2.2.2.2.1,N.2.2.2.2.2.2.2.2.2.1,N.2.2.2.2.2.2.2.2.2.2.1,N.2.2.2.2.2.2.2.2.2.2.2.1,N.2.2.2.2.2.2.2.2.2.2.2.2.1,N.2.2.2.2.2.2.2.2.2.2.2.2.2.1,N.2.2.2.2.2.2.2.2.2.2.2.2.2.2.1,N.2.2.2.2.2.2.2.2.2.2.2.2.2.2.2.1,N.2.2.2.2.2.2.2.2.2.2.2.2.2.2.2.2.1,N.2.2.2.2.2.2.2.2.2.2.2.2.2.2.2.2.2.1,N.2.2.2.2.2.2.2.2.2.2.2.2.2.2.2.2.2.2.1++ls,N.2.2.2.2.2.2.2.2.2.2.2.2.2.2.2.2.2.2.2.1,N.2.2.2.2.2.2.2.2.2.2.2.2.2.2.2.2.2.2.2.2.1,N.2.2.2.2.2.2.2.2.2.2.2.2.2.2.2.2.2.2.2.2.2.1,N.2.2.2.2.2.2.2.2.2.2.2.2.2.2.2.2.2.2.2.2.2.2.1,N.2.2.2.2.2.2.2.2.2.2.2.2.2.2.2.2.2.2.2.2.2.2.2.1,N.2.2.2.2.2.2.2.2.2.2.2.2.2.2.2.2.2.2.2.2.2.2.2.2.1,N.2.2.2.2.2.2.2.2.2.2.2.2.2.2.2.2.2.2.2.2.2.2.2.2.2.1,N.2.2.2.2.2.2.2.2.2.2.2.2.2.2.2.2.2.2.2.2.2.2.2.2.2.2.1,N.2.2.2.2.2.2.2.2.2.2.2.2.2.2.2.2.2.2.2.2.2.2.2.2.2.2.2.1,())
def vQ0 (N:D52)(ls:List D106):D52:=(N.1,N.2.1,N.2.2.1,N.2.2.2.1,N.2.2.2.2.1,N.2.2.2.2.2.1,N.2.2.2.2.2.2.1,N.2.2.2.2.2.2.2.1,N.2.2.2.2.2.2.2.2.1,N.2.2.2.2.2.2.2.2.2.1,N.2.2.2.2.2.2.2.2.2.2.1,N.2.2.2.2.2.2.2.2.2.2.2.1,N.2.2.2.2.2.2.2.2.2.2.2.2.1,N.2.2.2.2.2.2.2.2.2.2.2.2.2.1,N.2.2.2.2.2.2.2.2.2.2.2.2.2.2.1,N.2.2.2.2.2.2.2.2.2.2.2.2.2.2.2.1,N.2.2.2.2.2.2.2.2.2.2.2.2.2.2.2.2.1,N.2.2.2.2.2.2.2.2.2.2.2.2.2.2.2.2.2.1,N.2.2.2.2.2.2.2.2.2.2.2.2.2.2.2.2.2.2.1,N.2.2.2.2.2.2.2.2.2.2.2.2.2.2.2.2.2.2.2.1,N.2.2.2.2.2.2.2.2.2.2.2.2.2.2.2.2.2.2.2.2.1,N.2.2.2.2.2.2.2.2.2.2.2.2.2.2.2.2.2.2.2.2.2.1,N.2.2.2.2.2.2.2.2.2.2.2.2.2.2.2.2.2.2.2.2.2.2.1,N.2.2.2.2.2.2.2.2.2.2.2.2.2.2.2.2.2.2.2.2.2.2.2.1,N.2.2.2.2.2.2.2.2.2.2.2.2.2.2.2.2.2.2.2.2.2.2.2.2.1,N.2.2.2.2.2.2.2.2.2.2.2.2.2.2.2.2.2.2.2.2.2.2.2.2.2.1,N.2.2.2.2.2.2.2.2.2.2.2.2.2.2.2.2.2.2.2.2.2.2.2.2.2.2.1,(N.2.2.2.2.2.2.2.2.2.2.2.2.2.2.2.2.2.2.2.2.2.2.2.2.2.2.2.1.1,N.2.2.2.2.2.2.2.2.2.2.2.2.2.2.2.2.2.2.2.2.2.2.2.2.2.2.2.1.2.1,N.2.2.2.2.2.2.2.2.2.2.2.2.2.2.2.2.2.2.2.2.2.2.2.2.2.2.2.1.2.2.1,N.2.2.2.2.2.2.2.2.2.2.2.2.2.2.2.2.2.2.2.2.2.2.2.2.2.2.2.1.2.2.2.1++ls,()),())
theorem tN8 (N:D52):wZ7 N []=N:=by simp only[wZ7,List.append_nil]
theorem tQ1 (N:D52):vL4 N []=N:=by simp only[vL4,List.append_nil]
theorem tC6 (N:D52):vQ0 N []=N:=by simp only[vQ0,List.append_nil]
theorem tN9 (N:D52)(a b:List D111):wZ7 (wZ7 N a) b=wZ7 N (a++b):=by simp only[wZ7,List.append_assoc]
theorem tQ2 (N:D52)(a b:List D114):vL4 (vL4 N a) b=vL4 N (a++b):=by simp only[vL4,List.append_assoc]
theorem tC7 (N:D52)(a b:List D106):vQ0 (vQ0 N a) b=vQ0 N (a++b):=by simp only[vQ0,List.append_assoc]
def tO (p:D60):D111:=(wT4 p,(wT4 (intP p),wT4 (intP (intP p)),wT4 (intP (intP (intP p))),wT4 (intP (intP (intP (intP p)))),()),())
def sP5 (p:D60):D60:=intP (intP (intP (intP (intP p))))
theorem tW (n:Nat)(hn:n≤100000):∀ (m i:Nat) (p:D60) (r:D71) (N:D52) (l:List D111),RR p r→i+m=n→(wU6 N).length≤i→l.length≤i →
  ∃ (p':D60) (r':D71) (ls:List D111),LT (vM6 ((n:Int),())) (vA8 ((n:Int),())) (vJ7 ((n:Int),())) m (p,N,(i:Int),()) (p',wZ7 N ls,(n:Int),()) ∧
   LT (vJ2 ((n:Int),())) (wY2 ((n:Int),())) (vP8 ((n:Int),())) m (r,l,(i:Int),()) (r',l++ls,(n:Int),())∧RR p' r'∧ls.length=m:=by
 intro m
 induction m with
 |zero =>
  intro i p r N l hR hi h1 h2;have hv:decide ((i:Int)<(n:Int))=false:=decide_eq_false (by omega);refine⟨p,r,[],?_,?_,hR,rfl⟩
  ·rw[tN8,← show (i:Int)=(n:Int) by omega];exact .stop (fun h=>by have h:decide ((i:Int)<(i:Int))=true:=h;simp at h) (by show decide ((i:Int)<(i:Int))=false;simp)
  ·rw[List.append_nil,← show (i:Int)=(n:Int) by omega];exact .stop (fun h=>by have h:decide ((i:Int)<(i:Int))=true:=h;simp at h) (by show decide ((i:Int)<(i:Int))=false;simp)
 |succ m ih =>
  intro i p r N l hR hi h1 h2;have hv:decide ((i:Int)<(n:Int))=true:=decide_eq_true (by omega);obtain⟨a1,a2,a3,a4⟩:=wX6 hR;obtain⟨⟨b1,b2,b3,b4⟩,c1,c2,c3⟩:=sL4 a4;have hR':RR (sP5 p) (vV3 (wT9 r).1).1:=c3;obtain⟨p',r',ls,q1,q2,q3,q4⟩:=ih (i+1) _ _ (wZ7 N [tO p]) (l++[tO p]) hR' (by omega) (by show (wU6 N++[tO p]).length≤i+1;rw[List.length_append];simp;omega) (by rw[List.length_append];simp;omega);have hw:=vL5 (x:=(i:Int)+1) (by omega) (by omega);have nP:vA8 ((n:Int),()) (p,N,(i:Int),())=(sP5 p,wZ7 N [tO p],((i+1:Nat):Int),()):=by
   show (sP5 p,wZ7 N [tO p],IntKind.wrap .i64 ((i:Int)+1),())=_;rw[hw];rfl
  have nR:wY2 ((n:Int),()) (r,l,(i:Int),())=((vV3 (wT9 r).1).1,l++[tO p],((i+1:Nat):Int),()):=by
   show ((vV3 (wT9 r).1).1,l++[(wU0 r,uN2 (wT9 r).1,())],(i:Int)+1,())=_;rw[a3,c2];rfl
  rw[← nP,tN9] at q1;rw[← nR,List.append_assoc] at q2;refine⟨p',r',[tO p]++ls,.step (fun _=>⟨⟨⟨by decide,by decide⟩,a1,⟨by decide,by decide⟩,b1,⟨by decide,by decide⟩,b2,⟨by decide,by decide⟩,b3,⟨by decide,by decide⟩,b4⟩,?_⟩) hv q1,.step (fun _=>⟨a2,c1,?_,(show InR ((i:Int)+1) from inR (by omega) (by omega))⟩) hv q2,q3,by simp;omega⟩
  ·show (((wU6 N).length+[tO p].length:Nat):Int)≤4294967296;simp only[List.length_cons,List.length_nil];omega
  ·show ((l.length+[_].length:Nat):Int)≤4294967296;simp only[List.length_cons,List.length_nil];omega
theorem set2 (l:List D106)(i:Nat)(hi:i<l.length)(a b:Int):List.set (List.set l i (a,(nth l (i:Int) Z106).2.1,())) i ((nth (List.set l i (a,(nth l (i:Int) Z106).2.1,())) (i:Int) Z106).1,b,())=List.set l i (a,b,()):=by
 rw[vU6 (List.set l i (a,(nth l (i:Int) Z106).2.1,())) i (by rw[List.length_set];exact hi)];simp
theorem sP6 (N:D52)(n k:Int)(L:List D114):∀ (m i:Nat) (p:D60) (r:D71) (s:D114),RR p r→i+m=3→s.2.1.length=3 →
  ∃ (p':D60) (r':D71) (s':D114),LT (vF8 (N,n,k,())) (wX2 (N,n,k,())) (vL (N,n,k,())) m (p,s,(i:Int),()) (p',s',3,()) ∧
   LT (vG4 (L,n,k,())) (wX0 (L,n,k,())) (vK4 (L,n,k,())) m (r,s,(i:Int),()) (r',s',3,())∧RR p' r'∧s'.2.1.length=3:=by
 intro m
 induction m with
 |zero =>
  intro i p r s hR hi hs;have h3:(i:Int)=3:=by omega
  rw[h3];exact⟨p,r,s,.stop (fun h=>by have h:decide ((3:Int)<3)=true:=h;simp at h) rfl,.stop (fun h=>by have h:decide ((3:Int)<3)=true:=h;simp at h) rfl,hR,hs⟩
 |succ m ih =>
  intro i p r s hR hi hs;have hv:decide ((i:Int)<3)=true:=decide_eq_true (by omega);obtain⟨⟨a1,b1⟩,c1,c2,c3⟩:=sU8 hR;obtain⟨p',r',s',q1,q2,q3,q4⟩:=ih (i+1) _ _ (s.1,List.set s.2.1 i (wT4 p,wT4 (intP p),()),()) c3 (by omega) (by rw[List.length_set];exact hs);have hw:=vL5 (x:=(i:Int)+1) (by omega) (by omega);have nP:wX2 (N,n,k,()) (p,s,(i:Int),())=(intP (intP p),(s.1,List.set s.2.1 i (wT4 p,wT4 (intP p),()),()),((i+1:Nat):Int),()):=by
   have:=set2 s.2.1 i (by omega) (wT4 p) (wT4 (intP p));show (intP (intP p),(s.1,List.set (List.set s.2.1 i (wT4 p,(nth s.2.1 (i:Int) Z106).2.1,())) i ((nth (List.set s.2.1 i (wT4 p,(nth s.2.1 (i:Int) Z106).2.1,())) (i:Int) Z106).1,wT4 (intP p),()),()),IntKind.wrap .i64 ((i:Int)+1),())=_;rw[this,hw];rfl
  have nR:wX0 (L,n,k,()) (r,s,(i:Int),())=((vZ9 r).1,(s.1,List.set s.2.1 i (wT4 p,wT4 (intP p),()),()),((i+1:Nat):Int),()):=by
   show ((vZ9 r).1,(s.1,List.set s.2.1 i (tC0 r),()),(i:Int)+1,())=_;rw[c2];rfl
  rw[← nP] at q1;rw[← nR] at q2;have hB:InB (i:Int) 3:=⟨by omega,of_decide_eq_true hv⟩;exact⟨p',r',s',.step (fun _=>⟨hB,hB,⟨by decide,by decide⟩,a1,⟨by decide,by decide⟩,b1⟩) hv q1,.step (fun _=>⟨c1,hB,(show InR ((i:Int)+1) from inR (by omega) (by omega))⟩) hv q2,q3,q4⟩
theorem sF0 (n:Nat)(hn:n≤100000):∀ (m i:Nat) (p:D60) (r:D71) (N:D52) (l:List D114),RR p r→i+m=n→(wV4 N).length≤i→l.length≤i →
  ∃ (p':D60) (r':D71) (ls:List D114),LT (vM8 ((n:Int),())) (vA9 ((n:Int),())) (vJ9 ((n:Int),())) m (p,N,(i:Int),()) (p',vL4 N ls,(n:Int),()) ∧
   LT (vJ3 ((n:Int),())) (wY3 ((n:Int),())) (vP9 ((n:Int),())) m (r,l,(i:Int),()) (r',l++ls,(n:Int),())∧RR p' r'∧ls.length=m:=by
 intro m
 induction m with
 |zero =>
  intro i p r N l hR hi h1 h2;refine⟨p,r,[],?_,?_,hR,rfl⟩
  ·rw[tQ1,← show (i:Int)=(n:Int) by omega];exact .stop (fun h=>by have h:decide ((i:Int)<(i:Int))=true:=h;simp at h) (by show decide ((i:Int)<(i:Int))=false;simp)
  ·rw[List.append_nil,← show (i:Int)=(n:Int) by omega];exact .stop (fun h=>by have h:decide ((i:Int)<(i:Int))=true:=h;simp at h) (by show decide ((i:Int)<(i:Int))=false;simp)
 |succ m ih =>
  intro i p r N l hR hi h1 h2;have hv:decide ((i:Int)<(n:Int))=true:=decide_eq_true (by omega);obtain⟨a1,a2,a3,a4⟩:=wX6 hR;obtain⟨p1,r1,s,t1,t2,t3,t4⟩:=sP6 N (n:Int) (i:Int) l 3 0 _ _ (wT4 p,List.replicate 3 Z106,()) a4 rfl (by simp);have fP:=t1.fix (by omega);have fR:=t2.fix (by omega);have eP:=t1.ends (by omega);have eR:=t2.ends (by omega);obtain⟨p',r',ls,q1,q2,q3,q4⟩:=ih (i+1) _ _ (vL4 N [s]) (l++[s]) t3 (by omega) (by show (wV4 N++[s]).length≤i+1;rw[List.length_append];simp;omega) (by rw[List.length_append];simp;omega);have hw:=vL5 (x:=(i:Int)+1) (by omega) (by omega);have fP:zC5 (vF8 (N,(n:Int),(i:Int),())) (wX2 (N,(n:Int),(i:Int),())) ((wU1 p).1,(wT4 p,List.replicate 3 Z106,()),0,())=(p1,s,3,()):=fP;have fR:zC5 (vG4 (l,(n:Int),(i:Int),())) (wX0 (l,(n:Int),(i:Int),())) ((wT9 r).1,(wT4 p,List.replicate 3 Z106,()),0,())=(r1,s,3,()):=fR;have nP:vA9 ((n:Int),()) (p,N,(i:Int),())=(p1,vL4 N [s],((i+1:Nat):Int),()):=by
   show ((zC5 (vF8 (N,(n:Int),(i:Int),())) (wX2 (N,(n:Int),(i:Int),())) ((wU1 p).1,(wT4 p,List.replicate 3 Z106,()),0,())).1,vL4 N [(zC5 (vF8 (N,(n:Int),(i:Int),())) (wX2 (N,(n:Int),(i:Int),())) ((wU1 p).1,(wT4 p,List.replicate 3 Z106,()),0,())).2.1],IntKind.wrap .i64 ((i:Int)+1),())=_;rw[fP,hw];rfl
  have nR:wY3 ((n:Int),()) (r,l,(i:Int),())=(r1,l++[s],((i+1:Nat):Int),()):=by
   show ((zC5 (vG4 (l,(n:Int),(i:Int),())) (wX0 (l,(n:Int),(i:Int),())) ((wT9 r).1,(wU0 r,List.replicate 3 Z106,()),0,())).1,l++[(zC5 (vG4 (l,(n:Int),(i:Int),())) (wX0 (l,(n:Int),(i:Int),())) ((wT9 r).1,(wU0 r,List.replicate 3 Z106,()),0,())).2.1],(i:Int)+1,())=_;rw[a3,fR];rfl
  rw[← nP,tQ2] at q1;rw[← nR,List.append_assoc] at q2;refine⟨p',r',[s]++ls,.step (fun _=>⟨⟨⟨by decide,by decide⟩,a1⟩,eP,?_⟩) hv q1,.step (fun _=>⟨a2,?_,?_,(show InR ((i:Int)+1) from inR (by omega) (by omega))⟩) hv q2,q3,by simp;omega⟩
  ·show (((wV4 N).length+[_].length:Nat):Int)≤4294967296;simp only[List.length_cons,List.length_nil];omega
  ·show xQ5 (vG4 (l,(n:Int),(i:Int),())) (wX0 (l,(n:Int),(i:Int),())) (vK4 (l,(n:Int),(i:Int),())) ((wT9 r).1,(wU0 r,List.replicate 3 Z106,()),0,());rw[a3];exact eR
  ·show ((l.length+[_].length:Nat):Int)≤4294967296;simp only[List.length_cons,List.length_nil];omega
theorem sJ0 (Y M:D52)(n:Nat)(hn:n≤100000):∀ (m i:Nat) (p:D60) (r:D71) (N:D52),RR p r→i+m=n→(nPts N).length≤i →
  ∃ (p':D60) (r':D71) (ls:List D106),LT (wW7 (Y,(n:Int),())) (wV0 (Y,(n:Int),())) (wX7 (Y,(n:Int),())) m (p,N,(i:Int),()) (p',vQ0 N ls,(n:Int),()) ∧
   LT (vG7 ((n:Int),())) (wX3 ((n:Int),())) (vL2 ((n:Int),())) m (r,M,N,(i:Int),()) (r',M,vQ0 N ls,(n:Int),())∧RR p' r'∧ls.length=m:=by
 intro m
 induction m with
 |zero =>
  intro i p r N hR hi h1;refine⟨p,r,[],?_,?_,hR,rfl⟩
  ·rw[tC6,← show (i:Int)=(n:Int) by omega];exact .stop (fun h=>by have h:decide ((i:Int)<(i:Int))=true:=h;simp at h) (by show decide ((i:Int)<(i:Int))=false;simp)
  ·rw[tC6,← show (i:Int)=(n:Int) by omega];exact .stop (fun h=>by have h:decide ((i:Int)<(i:Int))=true:=h;simp at h) (by show decide ((i:Int)<(i:Int))=false;simp)
 |succ m ih =>
  intro i p r N hR hi h1;have hv:decide ((i:Int)<(n:Int))=true:=decide_eq_true (by omega);obtain⟨⟨a1,b1⟩,c1,c2,c3⟩:=sU8 hR;obtain⟨p',r',ls,q1,q2,q3,q4⟩:=ih (i+1) _ _ (vQ0 N [(wT4 p,wT4 (intP p),())]) c3 (by omega) (by show (nPts N++[_]).length≤i+1;rw[List.length_append];simp;omega);have hw:=vL5 (x:=(i:Int)+1) (by omega) (by omega);have nP:wV0 (Y,(n:Int),()) (p,N,(i:Int),())=(intP (intP p),vQ0 N [(wT4 p,wT4 (intP p),())],((i+1:Nat):Int),()):=by
   show (intP (intP p),vQ0 N [(wT4 p,wT4 (intP p),())],IntKind.wrap .i64 ((i:Int)+1),())=_;rw[hw];rfl
  have nR:wX3 ((n:Int),()) (r,M,N,(i:Int),())=((vZ9 r).1,M,vQ0 N [(wT4 p,wT4 (intP p),())],((i+1:Nat):Int),()):=by
   rw[← c2];rfl
  rw[← nP,tC7] at q1;rw[← nR,tC7] at q2;refine⟨p',r',[_]++ls,.step (fun _=>⟨⟨⟨by decide,by decide⟩,a1,⟨by decide,by decide⟩,b1⟩,?_⟩) hv q1,.step (fun _=>⟨c1,?_,(show InR ((i:Int)+1) from inR (by omega) (by omega))⟩) hv q2,q3,by simp;omega⟩
  ·show (((nPts N).length+[_].length:Nat):Int)≤4294967296;simp only[List.length_cons,List.length_nil];omega
  ·show (((nPts N).length+[_].length:Nat):Int)≤4294967296;simp only[List.length_cons,List.length_nil];omega
end Go.Proofs.YtbiemgjkkhkdeaaGreatDoor.Am
