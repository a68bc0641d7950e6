/- NativeImages: the encoding of any image and mask, and what any bytes are read as. No condition. -/
import Derived.Test.YtbiemgjkkhkdeaaGreatDoorNatI
import Derived.Test.YtbiemgjkkhkdeaaGreatDoorMach5
set_option linter.unusedVariables false
namespace Go.Proofs.YtbiemgjkkhkdeaaGreatDoor.Am
open Go Go.Am Go.Proofs
theorem sP0 (p:D23)(hl:len p.2.2.1≤65536):tN0 p p∧f16 p p=true:=by
 have hg:∀ x:Int×Unit,uH (p,p,()) x=(decide (x.1<len p.2.2.1)&&!((fun _:Int=>false) x.1)):=fun x=>by
  show (decide (x.1<len p.2.2.1)&&!(!(Ty.eqb T45 (nth p.2.2.1 x.1 Z45) (nth p.2.2.1 x.1 Z45))))=_;rw[pix_iff.2 rfl];rfl
 have h1:=wP9 (g:=uH (p,p,())) (next:=vU5 (p,p,())) (n:=len p.2.2.1) (c:=fun _=>false) (wN1 _) (by omega) hg (fun _=>rfl)
 have h2:=wP3 (g:=uH (p,p,())) (next:=vU5 (p,p,())) (ok:=uE4 (p,p,())) (n:=len p.2.2.1) (wN1 _) (by omega) (fun x hx=>by
  have:=(Bool.and_eq_true _ _ ▸ hx:_∧_).1;exact of_decide_eq_true this) (fun _=>rfl) (fun x a b hx=>by
  have hx:x.1<len p.2.2.1:=of_decide_eq_true hx;exact⟨⟨a,hx⟩,⟨a,hx⟩,fun _=>(show InR (x.1+1) from inR (by omega) (by omega))⟩)
 refine⟨fun _=>h2,?_⟩;have v26:(bif (bif (p.1 !=p.1) then true else (p.2.1 !=p.2.1)) then true else ((len p.2.2.1)!=(len p.2.2.1)))=false:=by simp
 have e1:∀ z:Int×Unit,uZ7 (p,p,()) z=false:=fun z=>by
  show (decide (z.1<len p.2.2.1)&&(!(Ty.eqb T45 (nth p.2.2.1 z.1 Z45) (nth p.2.2.1 z.1 Z45))))=false;rw[pix_iff.2 rfl];simp
 simp only[f16,f16t,v26,e1,cond_false]
theorem sI3 (d:List Int)(hl:len d≤65536):uZ6 d d∧f43 d d=true:=by
 have hg:∀ x:Int×Unit,uG9 (d,d,()) x=(decide (x.1<len d)&&!((fun _:Int=>false) x.1)):=fun x=>by
  show (decide (x.1<len d)&&!(nth d x.1 0 !=nth d x.1 0))=_;simp
 have h2:=wP3 (g:=uG9 (d,d,())) (next:=vU4 (d,d,())) (ok:=vX6 (d,d,())) (n:=len d) (wN1 _) (by omega) (fun x hx=>by
  have:=(Bool.and_eq_true _ _ ▸ hx:_∧_).1;exact of_decide_eq_true this) (fun _=>rfl) (fun x a b hx=>by
  have hx:x.1<len d:=of_decide_eq_true hx;exact⟨⟨a,hx⟩,⟨a,hx⟩,fun _=>(show InR (x.1+1) from inR (by omega) (by omega))⟩)
 refine⟨fun _=>h2,?_⟩;have v26:((len d)!=(len d))=false:=by simp
 have e1:∀ z:Int×Unit,uN4 (d,d,()) z=false:=fun z=>by
  show (decide (z.1<len d)&&(nth d z.1 0 !=nth d z.1 0))=false;simp
 simp only[f43,f43t,v26,e1,cond_false]
theorem sI4 (p:D26)(hl:len p.2.2.1≤65536):tN p p∧f17 p p=true:=by
 obtain⟨h1,h2⟩:=sI3 p.2.2.1 hl;refine⟨fun _=>h1,?_⟩;show (bif (bif (p.1==p.1) then (p.2.1==p.2.1) else false) then f43 p.2.2.1 p.2.2.1 else false)=true;rw[h2];simp
theorem sU5 (s:List UInt8)(hs:len s<9223372036854775808):RR (sG s).1 (sG1 s).1:=RR.mk hs (fun _=>⟨rfl,by decide,wN1 s⟩)
end Go.Proofs.YtbiemgjkkhkdeaaGreatDoor.Am
