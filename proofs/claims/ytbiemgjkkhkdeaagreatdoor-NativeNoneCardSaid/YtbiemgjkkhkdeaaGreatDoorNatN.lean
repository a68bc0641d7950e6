/- Stops, segments and points of a node, as the reference writes them. Condition: numbers are those of Go, lists are not too long. -/
import Derived.Test.YtbiemgjkkhkdeaaGreatDoorNatM
set_option linter.unusedVariables false
namespace Go.Proofs.YtbiemgjkkhkdeaaGreatDoor.Am
open Go Go.Am Go.Proofs
theorem tL0 (N:D52)(h:∀ s∈wU1 N,IS s)(b:List UInt8)(ht:(wU1 N).length≤1048576)(hb:b.length≤1000000000) :
  xQ6 (vU (N,())) (vF0 (N,())) (vM4 (N,())) (b,0,())∧(zC5 (vU (N,())) (vF0 (N,())) (b,0,())).1=b++vY6 (wU1 N):=
 vD6 (wU1 N) Z111 uG0 55 vJ (fun _ _=>rfl) (fun b i hi=>by
  have hs:=wY7 h i hi Z111;show (b++f58 (nth (wU1 N) (i:Int) Z111).1++f61 (nth (wU1 N) (i:Int) Z111).2.1,(i:Int)+1,())=_;rw[(wU hs.1).2,(uT hs.2).2,List.append_assoc];rfl) (fun b i hb hv=>by
  have hi:i<(wU1 N).length:=uV5 hv;have hs:=wY7 h i hi Z111;have:=wT6 (nth (wU1 N) (i:Int) Z111).1;have:=vZ6 (nth (wU1 N) (i:Int) Z111).2.1;have:=hb hi;refine⟨vG9 _ i hi,(wU hs.1).1,?_,vG9 _ i hi,(uT hs.2).1,?_,(show InR ((i:Int)+1) from inR (by omega) (by omega))⟩
  ·show ((b.length+(f58 (nth (wU1 N) (i:Int) Z111).1).length:Nat):Int)≤9223372036854775807;rw[(wU hs.1).2];omega
  ·show (((b++f58 (nth (wU1 N) (i:Int) Z111).1).length+(f61 (nth (wU1 N) (i:Int) Z111).2.1).length:Nat):Int)≤9223372036854775807;rw[(wU hs.1).2,(uT hs.2).2,List.length_append];omega) b (by omega) (by omega)
theorem tX6 (N:D52)(k:Nat)(hk:k<(wU8 N).length)(hs:IG (nth (wU8 N) (k:Int) Z114))(b:List UInt8)(hb:b.length≤4000000000) :
  xQ6 (vF2 (N,(k:Int),())) (wX8 (N,(k:Int),())) (vD8 (N,(k:Int),())) (b,0,())∧(zC5 (vF2 (N,(k:Int),())) (wX8 (N,(k:Int),())) (b,0,())).1=b++ptsB (nth (wU8 N) (k:Int) Z114).2.1:=by
 obtain⟨_,hl,h⟩:=hs;generalize hq:(nth (wU8 N) (k:Int) Z114).2.1=l at hl h;have h3:len l=3:=by simp only[len];omega
 refine vD6 l Z106 ptB 22 vL2 (fun b i=>by rw[h3];rfl) (fun b i hi=>?_) (fun b i hb hv=>?_) b (by omega) (by omega)
 ·have hp:=wY7 h i hi Z106;show (b++f58 (nth (nth (wU8 N) (k:Int) Z114).2.1 (i:Int) Z106).1++f58 (nth (nth (wU8 N) (k:Int) Z114).2.1 (i:Int) Z106).2.1,(i:Int)+1,())=_;rw[hq,(wU hp.1).2,(wU hp.2).2,List.append_assoc];rfl
 ·have hv:decide ((i:Int)<3)=true:=hv;have hi:i<l.length:=by have:=of_decide_eq_true hv;omega
  have hp:=wY7 h i hi Z106;have:=wT6 (nth l (i:Int) Z106).1;have:=wT6 (nth l (i:Int) Z106).2.1;have:=hb hi;have hB:InB (i:Int) 3:=⟨by omega,of_decide_eq_true hv⟩;refine⟨vG9 _ k hk,hB,?_,?_,vG9 _ k hk,hB,?_,?_,(show InR ((i:Int)+1) from inR (by omega) (by omega))⟩
  ·show wV (nth (nth (wU8 N) (k:Int) Z114).2.1 (i:Int) Z106).1;rw[hq];exact (wU hp.1).1
  ·show ((b.length+(f58 (nth (nth (wU8 N) (k:Int) Z114).2.1 (i:Int) Z106).1).length:Nat):Int)≤9223372036854775807;rw[hq,(wU hp.1).2];omega
  ·show wV (nth (nth (wU8 N) (k:Int) Z114).2.1 (i:Int) Z106).2.1;rw[hq];exact (wU hp.2).1
  ·show (((b++f58 (nth (nth (wU8 N) (k:Int) Z114).2.1 (i:Int) Z106).1).length+(f58 (nth (nth (wU8 N) (k:Int) Z114).2.1 (i:Int) Z106).2.1).length:Nat):Int)≤9223372036854775807;rw[hq,(wU hp.1).2,(wU hp.2).2,List.length_append];omega
theorem tR (N:D52)(h:∀ s∈wU8 N,IG s)(b:List UInt8)(ht:(wU8 N).length≤1048576)(hb:b.length≤1000000000) :
  xQ6 (vB9 (N,())) (wX9 (N,())) (vD9 (N,())) (b,0,())∧(zC5 (vB9 (N,())) (wX9 (N,())) (b,0,())).1=b++uV6 (wU8 N):=by
 rw[← uY7 h];have round:∀ (b:List UInt8) (i:Nat),i<(wU8 N).length→b.length≤3900000000→xQ6 (vF2 (N,(i:Int),())) (wX8 (N,(i:Int),())) (vD8 (N,(i:Int),())) (b++f58 (nth (wU8 N) (i:Int) Z114).1,0,()) ∧
   (zC5 (vF2 (N,(i:Int),())) (wX8 (N,(i:Int),())) (b++f58 (nth (wU8 N) (i:Int) Z114).1,0,())).1=b++segC (nth (wU8 N) (i:Int) Z114):=fun b i hi hb=>by
  have hg:=wY7 h i hi Z114;have hl:=wT6 (nth (wU8 N) (i:Int) Z114).1;have:=tX6 N i hi hg (b++f58 (nth (wU8 N) (i:Int) Z114).1) (by rw[(wU hg.1).2,List.length_append];omega);refine⟨this.1,this.2.trans ?_⟩;rw[uV7 hg,(wU hg.1).2,List.append_assoc];rfl
 have key:∀ (n i:Nat) (b:List UInt8),i+n=(wU8 N).length→b.length+77*n≤3900000000→LT (vB9 (N,())) (wX9 (N,())) (vD9 (N,())) n (b,(i:Int),()) (b++(((wU8 N).drop i).map segC).flatten,((wU8 N).length:Int),()):=by
  intro n
  induction n with
  |zero =>
   intro i b hi hb;have h1:(b++(((wU8 N).drop i).map segC).flatten,((wU8 N).length:Int),())=(b,(i:Int),()):=by
    rw[List.drop_of_length_le (by omega),show (wU8 N).length=i by omega];simp
   have hg:vB9 (N,()) (b,(i:Int),())=false:=decide_eq_false (by show ¬ (i:Int)<len (wU8 N);simp only[len];omega);rw[h1];exact .stop (fun h=>by have:vB9 (N,()) (b,(i:Int),())=true:=h;rw[hg] at this;cases this) hg
  |succ n ih =>
   intro i b hi hb;have hit:i<(wU8 N).length:=by omega
   rw[Nat.mul_succ] at hb;obtain⟨r1,r2⟩:=round b i hit (by omega);have hgi:=wY7 h i hit Z114;have hs:=uY6 (nth (wU8 N) (i:Int) Z114);have hl:=wT6 (nth (wU8 N) (i:Int) Z114).1;have q:=ih (i+1) (b++segC (nth (wU8 N) (i:Int) Z114)) (by omega) (by rw[List.length_append];omega);have hn:wX9 (N,()) (b,(i:Int),())=(b++segC (nth (wU8 N) (i:Int) Z114),((i+1:Nat):Int),()):=by
    rw[← r2];rfl
   rw[← hn] at q;rw[List.drop_eq_getElem_cons hit,List.map_cons,List.flatten_cons,← List.append_assoc,← vG8 (wU8 N) i hit Z114];refine .step (fun _=>⟨vG9 _ i hit,(wU hgi.1).1,?_,r1,(show InR ((i:Int)+1) from inR (by omega) (by omega))⟩) (decide_eq_true (by show (i:Int)<len (wU8 N);simp only[len];omega)) q;show ((b.length+(f58 (nth (wU8 N) (i:Int) Z114).1).length:Nat):Int)≤9223372036854775807;rw[(wU hgi.1).2];omega
 have k:=key (wU8 N).length 0 b (by omega) (by omega);exact⟨k.ends (by omega),congrArg (·.1) (k.fix (by omega))⟩
theorem tR0 (N:D52)(h:∀ p∈nPts N,IP p)(b:List UInt8)(ht:(nPts N).length≤1048576)(hb:b.length≤1000000000) :
  xQ6 (vM8 (N,())) (vC (N,())) (vI8 (N,())) (b,0,())∧(zC5 (vM8 (N,())) (vC (N,())) (b,0,())).1=b++ptsB (nPts N):=
 vD6 (nPts N) Z106 ptB 22 vL2 (fun _ _=>rfl) (fun b i hi=>by
  have hp:=wY7 h i hi Z106;show (b++f58 (nth (nPts N) (i:Int) Z106).1++f58 (nth (nPts N) (i:Int) Z106).2.1,(i:Int)+1,())=_;rw[(wU hp.1).2,(wU hp.2).2,List.append_assoc];rfl) (fun b i hb hv=>by
  have hi:i<(nPts N).length:=uV5 hv;have hp:=wY7 h i hi Z106;have:=wT6 (nth (nPts N) (i:Int) Z106).1;have:=wT6 (nth (nPts N) (i:Int) Z106).2.1;have:=hb hi;refine⟨vG9 _ i hi,(wU hp.1).1,?_,vG9 _ i hi,(wU hp.2).1,?_,(show InR ((i:Int)+1) from inR (by omega) (by omega))⟩
  ·show ((b.length+(f58 (nth (nPts N) (i:Int) Z106).1).length:Nat):Int)≤9223372036854775807;rw[(wU hp.1).2];omega
  ·show (((b++f58 (nth (nPts N) (i:Int) Z106).1).length+(f58 (nth (nPts N) (i:Int) Z106).2.1).length:Nat):Int)≤9223372036854775807;rw[(wU hp.1).2,(wU hp.2).2,List.length_append];omega) b (by omega) (by omega)
theorem tR1 (t:List D106)(h:∀ p∈t,IP p)(b:List UInt8)(ht:t.length≤1048576)(hb:b.length≤1000000000) :
  xQ6 (vM (t,len t,())) (vB8 (t,len t,())) (vI3 (t,len t,())) (b,0,())∧(zC5 (vM (t,len t,())) (vB8 (t,len t,())) (b,0,())).1=b++ptsB t:=
 vD6 t Z106 ptB 22 vL2 (fun _ _=>rfl) (fun b i hi=>by
  show (b++f51 [(nth t (i:Int) Z106).1,(nth t (i:Int) Z106).2.1],(i:Int)+1,())=_;rw[(uY4 (wY7 h i hi Z106)).2]) (fun b i hb hv=>by
  have hi:i<t.length:=uV5 hv;have hf:=uY4 (wY7 h i hi Z106);have:=vL2 (nth t (i:Int) Z106);have:=hb hi;refine⟨vG9 t i hi,hf.1,?_,(show InR ((i:Int)+1) from inR (by omega) (by omega))⟩;show ((b.length+(f51 [(nth t (i:Int) Z106).1,(nth t (i:Int) Z106).2.1]).length:Nat):Int)≤4294967296;rw[hf.2];omega) b (by omega) (by omega)
end Go.Proofs.YtbiemgjkkhkdeaaGreatDoor.Am
