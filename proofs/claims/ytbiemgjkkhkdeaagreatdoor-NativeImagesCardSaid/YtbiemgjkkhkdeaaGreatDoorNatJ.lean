/- NativeImages: the encoding of any image and mask, and what any bytes are read as. No condition. -/
import Derived.Test.YtbiemgjkkhkdeaaGreatDoorNatI
import Derived.Test.YtbiemgjkkhkdeaaGreatDoorMach5
set_option linter.unusedVariables false
namespace Go.Proofs.YtbiemgjkkhkdeaaGreatDoor.Am
open Go Go.Am Go.Proofs
theorem uT6 (p:D23)(hl:len p.2.2.1≤65536):vW6 p p∧f16 p p=true:=by
 have hg:∀ x:Int×Unit,vM (p,p,()) x=(decide (x.1<len p.2.2.1)&&!((fun _:Int=>false) x.1)):=fun x=>by
  show (decide (x.1<len p.2.2.1)&&!(!(Ty.eqb T45 (nth p.2.2.1 x.1 Z45) (nth p.2.2.1 x.1 Z45))))=_;rw[pix_iff.2 rfl];rfl
 have h1:=wP6 (g:=vM (p,p,())) (next:=vG (p,p,())) (n:=len p.2.2.1) (c:=fun _=>false) (wM9 _) (by omega) hg (fun _=>rfl)
 have h2:=wP0 (g:=vM (p,p,())) (next:=vG (p,p,())) (ok:=vK4 (p,p,())) (n:=len p.2.2.1) (wM9 _) (by omega) (fun x hx=>by
  have:=(Bool.and_eq_true _ _ ▸ hx:_∧_).1;exact of_decide_eq_true this) (fun _=>rfl) (fun x a b hx=>by
  have hx:x.1<len p.2.2.1:=of_decide_eq_true hx;exact⟨⟨a,hx⟩,⟨a,hx⟩,fun _=>(show InR (x.1+1) from inR (by omega) (by omega))⟩)
 refine⟨fun _=>h2,?_⟩;have v26:(bif (bif (p.1 !=p.1) then true else (p.2.1 !=p.2.1)) then true else ((len p.2.2.1)!=(len p.2.2.1)))=false:=by simp
 have e1:∀ z:Int×Unit,vV (p,p,()) z=false:=fun z=>by
  show (decide (z.1<len p.2.2.1)&&(!(Ty.eqb T45 (nth p.2.2.1 z.1 Z45) (nth p.2.2.1 z.1 Z45))))=false;rw[pix_iff.2 rfl];simp
 simp only[f16,f16t,v26,e1,cond_false]
theorem uO1 (d:List Int)(hl:len d≤65536):uC4 d d∧f43 d d=true:=by
 have hg:∀ x:Int×Unit,vP5 (d,d,()) x=(decide (x.1<len d)&&!((fun _:Int=>false) x.1)):=fun x=>by
  show (decide (x.1<len d)&&!(nth d x.1 0 !=nth d x.1 0))=_;simp
 have h2:=wP0 (g:=vP5 (d,d,())) (next:=vJ (d,d,())) (ok:=vK5 (d,d,())) (n:=len d) (wM9 _) (by omega) (fun x hx=>by
  have:=(Bool.and_eq_true _ _ ▸ hx:_∧_).1;exact of_decide_eq_true this) (fun _=>rfl) (fun x a b hx=>by
  have hx:x.1<len d:=of_decide_eq_true hx;exact⟨⟨a,hx⟩,⟨a,hx⟩,fun _=>(show InR (x.1+1) from inR (by omega) (by omega))⟩)
 refine⟨fun _=>h2,?_⟩;have v26:((len d)!=(len d))=false:=by simp
 have e1:∀ z:Int×Unit,vV1 (d,d,()) z=false:=fun z=>by
  show (decide (z.1<len d)&&(nth d z.1 0 !=nth d z.1 0))=false;simp
 simp only[f43,f43t,v26,e1,cond_false]
theorem uO2 (p:D26)(hl:len p.2.2.1≤65536):vW7 p p∧f17 p p=true:=by
 obtain⟨h1,h2⟩:=uO1 p.2.2.1 hl;refine⟨fun _=>h1,?_⟩;show (bif (bif (p.1==p.1) then (p.2.1==p.2.1) else false) then f43 p.2.2.1 p.2.2.1 else false)=true;rw[h2];simp
theorem uW5 (s:List UInt8)(hs:len s<9223372036854775808):RR (uH6 s).1 (uH8 s).1:=RR.mk hs (fun _=>⟨rfl,by decide,wM9 s⟩)
theorem uW6 (a:D23)(m:D26)(s:List UInt8)(ha:len a.2.2.1<9223372036854775808)(hm:len m.2.2.1<9223372036854775808)(hs:len s<9223372036854775808):f3_ok a m s∧f3 a m s=true:=by
 obtain⟨p1,p2,p3⟩:=uN3 a ha;obtain⟨q1,q2,q3⟩:=uT0 m hm;have hR:=uW5 s hs;obtain⟨i1,i2,i3,i4,i5⟩:=uN7 hR;obtain⟨m1,m2,m3,m4,m5⟩:=uO0 hR;obtain⟨e1,e2⟩:=uF2 i4;obtain⟨e3,e4⟩:=uF2 m4;obtain⟨s1,s2⟩:=uT6 _ i5;obtain⟨s3,s4⟩:=uO2 _ m5;have v19:(!(f6 a==f7 a))=false:=by rw[p3];simp
 have v25:(!(f8 m==f9 m))=false:=by rw[q3];simp
 constructor
 ·simp only[f3_ok,f3t,i3,m3,v19,v25];exact⟨p1,p2,fun _=>q1,fun _=>q2,fun _=>⟨trivial,trivial,trivial,trivial,i1,i2,m1,m2,s1,fun _=>s3,fun _=>e1,fun _=>e3,fun _=>trivial⟩⟩
 ·simp only[f3,f3t,i3,m3,v19,v25,s2,s4,e2,e4,cond_true,cond_false];rfl
theorem nativeImages_law:∀ x,wfL 0 [T23,T26,.str] x→f3_ok x.1 x.2.1 x.2.2.1∧f3 x.1 x.2.1 x.2.2.1=true:=fun x h=>by
 obtain⟨⟨_,_,⟨h1,_⟩,_⟩,⟨_,_,⟨h2,_⟩,_⟩,h3,_⟩:=h;have h3:List.length (α:=UInt8) x.2.2.1≤maxLen:=h3;refine uW6 _ _ _ ?_ ?_ ?_
 ·simp only[len];unfold maxLen at *;omega
 ·simp only[len];unfold maxLen at *;omega
 ·simp only[len];unfold maxLen at *;omega
end Go.Proofs.YtbiemgjkkhkdeaaGreatDoor.Am
