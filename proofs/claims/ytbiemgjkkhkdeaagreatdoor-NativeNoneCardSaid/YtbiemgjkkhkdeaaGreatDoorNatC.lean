/- Images and masks: the reference's checks are the program's; what passes them is small. Condition: lengths are those of Go. -/
import Derived.Test.YtbiemgjkkhkdeaaGreatDoorNatA
set_option linter.unusedVariables false
namespace Go.Proofs.YtbiemgjkkhkdeaaGreatDoor.Am
open Go Go.Am Go.Proofs
theorem sD0 (a b:D45):Ty.eqb T45 a b=Ty.eqb T45 b a:=by
 show ((a.1==b.1)&&((a.2.1==b.2.1)&&((a.2.2.1==b.2.2.1)&&((a.2.2.2.1==b.2.2.2.1)&&true))))=((b.1==a.1)&&((b.2.1==a.2.1)&&((b.2.2.1==a.2.2.1)&&((b.2.2.2.1==a.2.2.2.1)&&true))))
 grind
theorem tW7 {a b:D45}:Ty.eqb T45 a b=true↔a=b:=by
 show ((a.1==b.1)&&((a.2.1==b.2.1)&&((a.2.2.1==b.2.2.1)&&((a.2.2.2.1==b.2.2.2.1)&&true))))=true↔_;obtain⟨a1,a2,a3,a4,_⟩:=a;obtain⟨b1,b2,b3,b4,_⟩:=b;simp only[Bool.and_eq_true,beq_iff_eq,Prod.mk.injEq,and_true]
theorem tS6 (p:D45):f79 p=f78 p:=sD0 _ _
theorem tW8 (p:D45):uN8 p:=⟨trivial,trivial,trivial,trivial⟩
theorem tW9 (p:D45):uP8 p:=⟨trivial,trivial,trivial,trivial⟩
def badP (d:List D45)(i:Int):Bool:=!(f78 (nth d i Z45))
def badM (d:List Int)(i:Int):Bool:=!(f81 (nth d i 0))
theorem sD1 (w h:Int):(!(f77 w h))=bif (bif (bif (bif decide (w<0) then true else decide (w>256)) then true else decide (h<0)) then true else decide (h>256)) then true else !(Ty.eqb .bool (w==0) (h==0)):=by
 show (!(bif (bif (bif (bif decide (w≥0) then decide (w≤256) else false) then decide (h≥0) else false) then decide (h≤256) else false) then Ty.eqb .bool (w==0) (h==0) else false))=_
 grind
def tX (w h n:Int):Prop:=0≤w∧w≤256∧0≤h∧h≤256∧n=w*h∧n≤65536
theorem uF7 {w h:Int}(h1:0≤w)(h2:w≤256)(h3:0≤h)(h4:h≤256):0≤w*h∧w*h≤65536:=
 ⟨Int.mul_nonneg h1 h3,by have:=Int.mul_le_mul h2 h4 h3 (by decide);simpa using this⟩
theorem uN {w h:Int}(hh:(bif (bif (bif decide (w<0) then true else decide (w>256)) then true else decide (h<0)) then true else decide (h>256))=false):0≤w∧w≤256∧0≤h∧h≤256:=by
 cases h1:decide (w<0)<;>cases h2:decide (w>256)<;>cases h3:decide (h<0)<;>cases h4:decide (h>256)<;>simp[h1,h2,h3,h4] at hh<;>simp at h1 h2 h3 h4<;>omega
theorem tJ7 (A B C:Bool)(w h n:Int)(v:Int)(hA:A=(bif (bif (bif decide (w<0) then true else decide (w>256)) then true else decide (h<0)) then true else decide (h>256)))(hC:C=(n !=w*h))
  (hv:(bif A then (15:Int) else bif (bif B then true else C) then 15 else v)=0):tX w h n:=by
 cases A with
 |true=>simp at hv
 |false =>
  obtain⟨h1,h2,h3,h4⟩:=uN hA.symm;have:=uF7 h1 h2 h3 h4;cases B<;>cases C<;>simp at hv;simp at hC;exact⟨h1,h2,h3,h4,hC,by omega⟩
theorem tX0 (A B C x:Bool)(f:Bool)(h:f=(bif A then true else B)):(bif (bif f then true else C) then (15:Int) else bif x then 2 else 0)=(bif A then (15:Int) else bif (bif B then true else C) then 15 else bif x then 2 else 0):=by grind
theorem tJ8 (p:D23)(hl:len p.2.2.1<9223372036854775808):uO p∧uQ p∧f28 p=f25 p∧(f25 p=0→tX p.1 p.2.1 (len p.2.2.1)):=by
 have h1:=wQ3 (g:=vS9 (p.2.2.1,len p.2.2.1,())) (next:=vE0 (p.2.2.1,len p.2.2.1,())) (n:=len p.2.2.1) (c:=badP p.2.2.1) (wN5 _) hl (fun _=>rfl) (fun _=>rfl)
 have h2:=wQ3 (g:=vT7 (p,())) (next:=vF (p,())) (n:=len p.2.2.1) (c:=badP p.2.2.1) (wN5 _) hl (fun x=>congrArg (fun b=>decide (x.1<len p.2.2.1)&&!!b) (tS6 _)) (fun _=>rfl)
 have hb:∀ x:Int×Unit,0≤x.1→x.1≤len p.2.2.1→vH6 (p.2.2.1,len p.2.2.1,()) x:=fun x a b hx=>by
  have hx:x.1<len p.2.2.1:=of_decide_eq_true hx;exact⟨⟨a,hx⟩,tW8 _,fun _=>⟨by omega,by omega⟩⟩
 have hb':∀ x:Int×Unit,0≤x.1→x.1≤len p.2.2.1→vI4 (p,()) x:=fun x a b hx=>by
  have hx:x.1<len p.2.2.1:=of_decide_eq_true hx;exact⟨⟨a,hx⟩,tW9 _,fun _=>⟨by omega,by omega⟩⟩
 have e1:f25 p=bif (bif !(f77 p.1 p.2.1) then true else (len p.2.2.1 !=p.1*p.2.1)) then (15:Int) else bif wS3 (len p.2.2.1) (badP p.2.2.1) then 2 else 0:=by rw[← h1];rfl
 have e2:f28 p=bif (bif (bif (bif decide (p.1<0) then true else decide (p.1>256)) then true else decide (p.2.1<0)) then true else decide (p.2.1>256)) then (15:Int) else bif (bif !(Ty.eqb .bool (p.1==0) (p.2.1==0)) then true else (len p.2.2.1 !=p.1*p.2.1)) then 15 else bif wS3 (len p.2.2.1) (badP p.2.2.1) then 2 else 0:=by
  have hj:∀ j,(!(f79 (nth p.2.2.1 j Z45)))=badP p.2.2.1 j:=fun j=>congrArg (fun b=>!b) (tS6 _);rw[← h2,← hj];rfl
 have hS:=sD1 p.1 p.2.1;have e3:=e1.trans (tX0 _ _ _ _ _ hS);have ends1:=wP7 (g:=vS9 (p.2.2.1,len p.2.2.1,())) (next:=vE0 (p.2.2.1,len p.2.2.1,())) (ok:=vH6 (p.2.2.1,len p.2.2.1,())) (n:=len p.2.2.1) (wN5 _) hl (fun x hx=>by
  have:=(Bool.and_eq_true _ _ ▸ hx:_∧_).1;exact of_decide_eq_true this) (fun _=>rfl) hb
 have ends2:=wP7 (g:=vT7 (p,())) (next:=vF (p,())) (ok:=vI4 (p,())) (n:=len p.2.2.1) (wN5 _) hl (fun x hx=>by
  have:=(Bool.and_eq_true _ _ ▸ hx:_∧_).1;exact of_decide_eq_true this) (fun _=>rfl) hb'
 have hmul:∀ A:Bool,A=(bif (bif (bif decide (p.1<0) then true else decide (p.1>256)) then true else decide (p.2.1<0)) then true else decide (p.2.1>256))→A=false→InR (p.1*p.2.1):=fun A h1 h2=>by
  obtain⟨a,b,c,d⟩:=uN (h1.symm.trans h2);have:=uF7 a b c d;exact⟨by omega,by omega⟩
 refine⟨⟨trivial,fun h=>?_,fun _=>ends1⟩,fun h=>⟨fun _=>hmul _ rfl (by simpa using h),fun _=>ends2⟩,e2.trans e3.symm,fun h=>tJ7 _ _ _ _ _ _ _ rfl rfl (e3.symm.trans h)⟩;refine hmul _ rfl ?_;rw[hS] at h
 grind
theorem uX8 (p:D26)(hl:len p.2.2.1<9223372036854775808):uO8 p∧uQ2 p∧f33 p=f30 p∧(f30 p=0→tX p.1 p.2.1 (len p.2.2.1)):=by
 have hu:∀ x:Int,(bif decide (x<0) then true else decide (x>65535))=!(f81 x):=fun x=>by
  show _=!(bif decide (x≥0) then decide (x≤65535) else false)
  grind
 have h1:=wQ3 (g:=vT1 (p.2.2.1,len p.2.2.1,())) (next:=vE3 (p.2.2.1,len p.2.2.1,())) (n:=len p.2.2.1) (c:=badM p.2.2.1) (wN5 _) hl (fun _=>rfl) (fun _=>rfl)
 have h2:=wQ3 (g:=vO6 (p,())) (next:=vA3 (p,())) (n:=len p.2.2.1) (c:=badM p.2.2.1) (wN5 _) hl (fun x=>congrArg (fun b=>decide (x.1<len p.2.2.1)&&!b) (hu _)) (fun _=>rfl)
 have hb:∀ x:Int×Unit,0≤x.1→x.1≤len p.2.2.1→vH9 (p.2.2.1,len p.2.2.1,()) x:=fun x a b hx=>by
  have hx:x.1<len p.2.2.1:=of_decide_eq_true hx;exact⟨⟨a,hx⟩,trivial,fun _=>⟨by omega,by omega⟩⟩
 have hb':∀ x:Int×Unit,0≤x.1→x.1≤len p.2.2.1→vI6 (p,()) x:=fun x a b hx=>by
  have hx:x.1<len p.2.2.1:=of_decide_eq_true hx;exact⟨⟨a,hx⟩,fun _=>⟨a,hx⟩,fun _=>⟨by omega,by omega⟩⟩
 have e1:f30 p=bif (bif (bif (bif decide (p.1<0) then true else decide (p.1>256)) then true else decide (p.2.1<0)) then true else decide (p.2.1>256)) then (15:Int) else bif (bif !(Ty.eqb .bool (p.1==0) (p.2.1==0)) then true else (len p.2.2.1 !=p.1*p.2.1)) then 15 else bif wS3 (len p.2.2.1) (badM p.2.2.1) then 2 else 0:=by rw[← h1];rfl
 have e2:f33 p=bif (bif (bif (bif decide (p.1<0) then true else decide (p.1>256)) then true else decide (p.2.1<0)) then true else decide (p.2.1>256)) then (15:Int) else bif (bif !(Ty.eqb .bool (p.1==0) (p.2.1==0)) then true else (len p.2.2.1 !=p.1*p.2.1)) then 15 else bif wS3 (len p.2.2.1) (badM p.2.2.1) then 2 else 0:=by
  rw[← h2,show badM p.2.2.1 (zC5 (vO6 (p,())) (vA3 (p,())) (0,())).1=_ from (hu _).symm];rfl
 have ends1:=wP7 (g:=vT1 (p.2.2.1,len p.2.2.1,())) (next:=vE3 (p.2.2.1,len p.2.2.1,())) (ok:=vH9 (p.2.2.1,len p.2.2.1,())) (n:=len p.2.2.1) (wN5 _) hl (fun x hx=>by
  have:=(Bool.and_eq_true _ _ ▸ hx:_∧_).1;exact of_decide_eq_true this) (fun _=>rfl) hb
 have ends2:=wP7 (g:=vO6 (p,())) (next:=vA3 (p,())) (ok:=vI6 (p,())) (n:=len p.2.2.1) (wN5 _) hl (fun x hx=>by
  have:=(Bool.and_eq_true _ _ ▸ hx:_∧_).1;exact of_decide_eq_true this) (fun _=>rfl) hb'
 have hmul:∀ A:Bool,A=(bif (bif (bif decide (p.1<0) then true else decide (p.1>256)) then true else decide (p.2.1<0)) then true else decide (p.2.1>256))→A=false→InR (p.1*p.2.1):=fun A h1 h2=>by
  obtain⟨a,b,c,d⟩:=uN (h1.symm.trans h2);have:=uF7 a b c d;exact⟨by omega,by omega⟩
 exact⟨fun h=>⟨fun _=>hmul _ rfl (by simpa using h),fun _=>ends1⟩,fun h=>⟨fun _=>hmul _ rfl (by simpa using h),fun _=>ends2⟩,e2.trans e1.symm,fun h=>tJ7 _ _ _ _ _ _ _ rfl rfl (e1.symm.trans h)⟩
end Go.Proofs.YtbiemgjkkhkdeaaGreatDoor.Am
