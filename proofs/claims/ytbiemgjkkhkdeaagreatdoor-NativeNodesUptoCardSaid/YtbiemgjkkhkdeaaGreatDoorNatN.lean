/- Stops, segments and points of a node, as the reference writes them. Condition: numbers are those of Go, lists are not too long. -/
import Derived.Test.YtbiemgjkkhkdeaaGreatDoorNatM
set_option linter.unusedVariables false
namespace Go.Proofs.YtbiemgjkkhkdeaaGreatDoor.Am
open Go Go.Am Go.Proofs
theorem sE9 (N:D52)(h:∀ s∈wU6 N,IS s)(b:List UInt8)(ht:(wU6 N).length≤1048576)(hb:b.length≤1000000000) :
  xQ5 (uL7 (N,())) (vT7 (N,())) (uD (N,())) (b,0,())∧(zC5 (uL7 (N,())) (vT7 (N,())) (b,0,())).1=b++uS1 (wU6 N):=
 vR5 (wU6 N) Z111 tB0 55 vX9 (fun _ _=>rfl) (fun b i hi=>by
  have hs:=vH1 h i hi Z111;show (b++f58 (nth (wU6 N) (i:Int) Z111).1++f61 (nth (wU6 N) (i:Int) Z111).2.1,(i:Int)+1,())=_;rw[(wU5 hs.1).2,(tN7 hs.2).2,List.append_assoc];rfl) (fun b i hb hv=>by
  have hi:i<(wU6 N).length:=tP7 hv;have hs:=vH1 h i hi Z111;have:=wT8 (nth (wU6 N) (i:Int) Z111).1;have:=uT8 (nth (wU6 N) (i:Int) Z111).2.1;have:=hb hi;refine⟨vV4 _ i hi,(wU5 hs.1).1,?_,vV4 _ i hi,(tN7 hs.2).1,?_,(show InR ((i:Int)+1) from inR (by omega) (by omega))⟩
  ·show ((b.length+(f58 (nth (wU6 N) (i:Int) Z111).1).length:Nat):Int)≤9223372036854775807;rw[(wU5 hs.1).2];omega
  ·show (((b++f58 (nth (wU6 N) (i:Int) Z111).1).length+(f61 (nth (wU6 N) (i:Int) Z111).2.1).length:Nat):Int)≤9223372036854775807;rw[(wU5 hs.1).2,(tN7 hs.2).2,List.length_append];omega) b (by omega) (by omega)
theorem sP2 (N:D52)(k:Nat)(hk:k<(wV4 N).length)(hs:IG (nth (wV4 N) (k:Int) Z114))(b:List UInt8)(hb:b.length≤4000000000) :
  xQ5 (vT9 (N,(k:Int),())) (vF5 (N,(k:Int),())) (vR8 (N,(k:Int),())) (b,0,())∧(zC5 (vT9 (N,(k:Int),())) (vF5 (N,(k:Int),())) (b,0,())).1=b++ptsB (nth (wV4 N) (k:Int) Z114).2.1:=by
 obtain⟨_,hl,h⟩:=hs;generalize hq:(nth (wV4 N) (k:Int) Z114).2.1=l at hl h;have h3:len l=3:=by simp only[len];omega
 refine vR5 l Z106 ptB 22 uA8 (fun b i=>by rw[h3];rfl) (fun b i hi=>?_) (fun b i hb hv=>?_) b (by omega) (by omega)
 ·have hp:=vH1 h i hi Z106;show (b++f58 (nth (nth (wV4 N) (k:Int) Z114).2.1 (i:Int) Z106).1++f58 (nth (nth (wV4 N) (k:Int) Z114).2.1 (i:Int) Z106).2.1,(i:Int)+1,())=_;rw[hq,(wU5 hp.1).2,(wU5 hp.2).2,List.append_assoc];rfl
 ·have hv:decide ((i:Int)<3)=true:=hv;have hi:i<l.length:=by have:=of_decide_eq_true hv;omega
  have hp:=vH1 h i hi Z106;have:=wT8 (nth l (i:Int) Z106).1;have:=wT8 (nth l (i:Int) Z106).2.1;have:=hb hi;have hB:InB (i:Int) 3:=⟨by omega,of_decide_eq_true hv⟩;refine⟨vV4 _ k hk,hB,?_,?_,vV4 _ k hk,hB,?_,?_,(show InR ((i:Int)+1) from inR (by omega) (by omega))⟩
  ·show wW4 (nth (nth (wV4 N) (k:Int) Z114).2.1 (i:Int) Z106).1;rw[hq];exact (wU5 hp.1).1
  ·show ((b.length+(f58 (nth (nth (wV4 N) (k:Int) Z114).2.1 (i:Int) Z106).1).length:Nat):Int)≤9223372036854775807;rw[hq,(wU5 hp.1).2];omega
  ·show wW4 (nth (nth (wV4 N) (k:Int) Z114).2.1 (i:Int) Z106).2.1;rw[hq];exact (wU5 hp.2).1
  ·show (((b++f58 (nth (nth (wV4 N) (k:Int) Z114).2.1 (i:Int) Z106).1).length+(f58 (nth (nth (wV4 N) (k:Int) Z114).2.1 (i:Int) Z106).2.1).length:Nat):Int)≤9223372036854775807;rw[hq,(wU5 hp.1).2,(wU5 hp.2).2,List.length_append];omega
theorem sI7 (N:D52)(h:∀ s∈wV4 N,IG s)(b:List UInt8)(ht:(wV4 N).length≤1048576)(hb:b.length≤1000000000) :
  xQ5 (vP2 (N,())) (vF6 (N,())) (vR9 (N,())) (b,0,())∧(zC5 (vP2 (N,())) (vF6 (N,())) (b,0,())).1=b++tP8 (wV4 N):=by
 rw[← tS9 h];have round:∀ (b:List UInt8) (i:Nat),i<(wV4 N).length→b.length≤3900000000→xQ5 (vT9 (N,(i:Int),())) (vF5 (N,(i:Int),())) (vR8 (N,(i:Int),())) (b++f58 (nth (wV4 N) (i:Int) Z114).1,0,()) ∧
   (zC5 (vT9 (N,(i:Int),())) (vF5 (N,(i:Int),())) (b++f58 (nth (wV4 N) (i:Int) Z114).1,0,())).1=b++segC (nth (wV4 N) (i:Int) Z114):=fun b i hi hb=>by
  have hg:=vH1 h i hi Z114;have hl:=wT8 (nth (wV4 N) (i:Int) Z114).1;have:=sP2 N i hi hg (b++f58 (nth (wV4 N) (i:Int) Z114).1) (by rw[(wU5 hg.1).2,List.length_append];omega);refine⟨this.1,this.2.trans ?_⟩;rw[tP9 hg,(wU5 hg.1).2,List.append_assoc];rfl
 have key:∀ (n i:Nat) (b:List UInt8),i+n=(wV4 N).length→b.length+77*n≤3900000000→LT (vP2 (N,())) (vF6 (N,())) (vR9 (N,())) n (b,(i:Int),()) (b++(((wV4 N).drop i).map segC).flatten,((wV4 N).length:Int),()):=by
  intro n
  induction n with
  |zero =>
   intro i b hi hb;have h1:(b++(((wV4 N).drop i).map segC).flatten,((wV4 N).length:Int),())=(b,(i:Int),()):=by
    rw[List.drop_of_length_le (by omega),show (wV4 N).length=i by omega];simp
   have hg:vP2 (N,()) (b,(i:Int),())=false:=decide_eq_false (by show ¬ (i:Int)<len (wV4 N);simp only[len];omega);rw[h1];exact .stop (fun h=>by have:vP2 (N,()) (b,(i:Int),())=true:=h;rw[hg] at this;cases this) hg
  |succ n ih =>
   intro i b hi hb;have hit:i<(wV4 N).length:=by omega
   rw[Nat.mul_succ] at hb;obtain⟨r1,r2⟩:=round b i hit (by omega);have hgi:=vH1 h i hit Z114;have hs:=tS8 (nth (wV4 N) (i:Int) Z114);have hl:=wT8 (nth (wV4 N) (i:Int) Z114).1;have q:=ih (i+1) (b++segC (nth (wV4 N) (i:Int) Z114)) (by omega) (by rw[List.length_append];omega);have hn:vF6 (N,()) (b,(i:Int),())=(b++segC (nth (wV4 N) (i:Int) Z114),((i+1:Nat):Int),()):=by
    rw[← r2];rfl
   rw[← hn] at q;rw[List.drop_eq_getElem_cons hit,List.map_cons,List.flatten_cons,← List.append_assoc,← vU6 (wV4 N) i hit Z114];refine .step (fun _=>⟨vV4 _ i hit,(wU5 hgi.1).1,?_,r1,(show InR ((i:Int)+1) from inR (by omega) (by omega))⟩) (decide_eq_true (by show (i:Int)<len (wV4 N);simp only[len];omega)) q;show ((b.length+(f58 (nth (wV4 N) (i:Int) Z114).1).length:Nat):Int)≤9223372036854775807;rw[(wU5 hgi.1).2];omega
 have k:=key (wV4 N).length 0 b (by omega) (by omega);exact⟨k.ends (by omega),congrArg (·.1) (k.fix (by omega))⟩
theorem sI8 (N:D52)(h:∀ p∈nPts N,IP p)(b:List UInt8)(ht:(nPts N).length≤1048576)(hb:b.length≤1000000000) :
  xQ5 (uD3 (N,())) (vP3 (N,())) (vX1 (N,())) (b,0,())∧(zC5 (uD3 (N,())) (vP3 (N,())) (b,0,())).1=b++ptsB (nPts N):=
 vR5 (nPts N) Z106 ptB 22 uA8 (fun _ _=>rfl) (fun b i hi=>by
  have hp:=vH1 h i hi Z106;show (b++f58 (nth (nPts N) (i:Int) Z106).1++f58 (nth (nPts N) (i:Int) Z106).2.1,(i:Int)+1,())=_;rw[(wU5 hp.1).2,(wU5 hp.2).2,List.append_assoc];rfl) (fun b i hb hv=>by
  have hi:i<(nPts N).length:=tP7 hv;have hp:=vH1 h i hi Z106;have:=wT8 (nth (nPts N) (i:Int) Z106).1;have:=wT8 (nth (nPts N) (i:Int) Z106).2.1;have:=hb hi;refine⟨vV4 _ i hi,(wU5 hp.1).1,?_,vV4 _ i hi,(wU5 hp.2).1,?_,(show InR ((i:Int)+1) from inR (by omega) (by omega))⟩
  ·show ((b.length+(f58 (nth (nPts N) (i:Int) Z106).1).length:Nat):Int)≤9223372036854775807;rw[(wU5 hp.1).2];omega
  ·show (((b++f58 (nth (nPts N) (i:Int) Z106).1).length+(f58 (nth (nPts N) (i:Int) Z106).2.1).length:Nat):Int)≤9223372036854775807;rw[(wU5 hp.1).2,(wU5 hp.2).2,List.length_append];omega) b (by omega) (by omega)
theorem sI9 (t:List D106)(h:∀ p∈t,IP p)(b:List UInt8)(ht:t.length≤1048576)(hb:b.length≤1000000000) :
  xQ5 (uC5 (t,len t,())) (vP1 (t,len t,())) (vW7 (t,len t,())) (b,0,())∧(zC5 (uC5 (t,len t,())) (vP1 (t,len t,())) (b,0,())).1=b++ptsB t:=
 vR5 t Z106 ptB 22 uA8 (fun _ _=>rfl) (fun b i hi=>by
  show (b++f51 [(nth t (i:Int) Z106).1,(nth t (i:Int) Z106).2.1],(i:Int)+1,())=_;rw[(tS6 (vH1 h i hi Z106)).2]) (fun b i hb hv=>by
  have hi:i<t.length:=tP7 hv;have hf:=tS6 (vH1 h i hi Z106);have:=uA8 (nth t (i:Int) Z106);have:=hb hi;refine⟨vV4 t i hi,hf.1,?_,(show InR ((i:Int)+1) from inR (by omega) (by omega))⟩;show ((b.length+(f51 [(nth t (i:Int) Z106).1,(nth t (i:Int) Z106).2.1]).length:Nat):Int)≤4294967296;rw[hf.2];omega) b (by omega) (by omega)
end Go.Proofs.YtbiemgjkkhkdeaaGreatDoor.Am
