/- Stops, segments and points of a node are written alike. Condition: numbers are those of Go, lists are not too long. -/
import Derived.Test.YtbiemgjkkhkdeaaGreatDoorNatL
set_option linter.unusedVariables false
namespace Go.Proofs.YtbiemgjkkhkdeaaGreatDoor.Am
open Go Go.Am Go.Proofs
theorem wY7 {α:Type}{l:List α}{q:α→Prop}(h:∀ x∈l,q x)(i:Nat)(hi:i<l.length)(z:α):q (nth l (i:Int) z):=by
 rw[vG8 l i hi];exact h _ (List.getElem_mem hi)
abbrev wU1 (N:D52):List D111:=N.2.2.2.2.2.2.2.2.2.2.2.2.2.2.2.2.2.1
abbrev wU8 (N:D52):List D114:=N.2.2.2.2.2.2.2.2.2.2.2.2.2.2.2.2.2.2.1
abbrev nPts (N:D52):List D106:=N.2.2.2.2.2.2.2.2.2.2.2.2.2.2.2.2.2.2.2.2.2.2.2.2.2.2.2.1.2.2.2.1
abbrev vY6 (l:List D111):List UInt8:=(l.map uG0).flatten
abbrev uV6 (l:List D114):List UInt8:=(l.map segB).flatten
abbrev ptsB (l:List D106):List UInt8:=(l.map ptB).flatten
theorem vV6 {α:Type}(e:α→List UInt8)(E:Nat)(he:∀ x,(e x).length≤E)(l:List α):((l.map e).flatten).length≤E*l.length:=by
 induction l with
 |nil=>simp
 |cons x r ih =>
  have:=he x;simp only[List.map_cons,List.flatten_cons,List.length_append,List.length_cons,Nat.mul_succ];omega
theorem tL (N:D52)(t:List D111)(h:∀ s∈t,IS s)(b:List UInt8)(ht:t.length≤1048576)(hb:b.length≤1000000000) :
  xQ6 (vC6 (N,t,len t,())) (wW5 (N,t,len t,())) (vI2 (N,t,len t,())) (b,0,())∧(zC5 (vC6 (N,t,len t,())) (wW5 (N,t,len t,())) (b,0,())).1=b++vY6 t:=
 vD6 t Z111 uG0 55 vJ (fun _ _=>rfl) (fun b i hi=>by
  show (b++f51 [(nth t (i:Int) Z111).1,(nth t (i:Int) Z111).2.1.1,(nth t (i:Int) Z111).2.1.2.1,(nth t (i:Int) Z111).2.1.2.2.1,(nth t (i:Int) Z111).2.1.2.2.2.1],(i:Int)+1,())=_;rw[(uY3 (wY7 h i hi Z111)).2]) (fun b i hb hv=>by
  have hi:i<t.length:=uV5 hv;have hf:=uY3 (wY7 h i hi Z111);refine⟨vG9 t i hi,hf.1,?_,(show InR ((i:Int)+1) from inR (by omega) (by omega))⟩;show ((b.length+(f51 [(nth t (i:Int) Z111).1,(nth t (i:Int) Z111).2.1.1,(nth t (i:Int) Z111).2.1.2.1,(nth t (i:Int) Z111).2.1.2.2.1,(nth t (i:Int) Z111).2.1.2.2.2.1]).length:Nat):Int)≤4294967296;have:=vJ (nth t (i:Int) Z111);have:=hb hi;rw[hf.2];omega) b (by omega) (by omega)
theorem tX5 (t:List D114)(n k:Int)(l:List D106)(hl:l.length=3)(h:∀ p∈l,IP p)(b:List UInt8)(hb:b.length≤4000000000) :
  xQ6 (vE7 (t,n,k,l,())) (wX6 (t,n,k,l,())) (vD7 (t,n,k,l,())) (b,0,())∧(zC5 (vE7 (t,n,k,l,())) (wX6 (t,n,k,l,())) (b,0,())).1=b++ptsB l:=by
 have h3:len l=3:=by simp only[len];omega
 refine vD6 l Z106 ptB 22 vL2 (fun b i=>by rw[h3];rfl) (fun b i hi=>?_) (fun b i hb hv=>?_) b (by omega) (by omega)
 ·show (b++f51 [(nth l (i:Int) Z106).1,(nth l (i:Int) Z106).2.1],(i:Int)+1,())=_;rw[(uY4 (wY7 h i hi Z106)).2]
 ·have hv:decide ((i:Int)<3)=true:=hv;have hi:i<l.length:=by have:=of_decide_eq_true hv;omega
  have hf:=uY4 (wY7 h i hi Z106);refine⟨⟨by show 0≤(i:Int);omega,of_decide_eq_true hv⟩,hf.1,?_,(show InR ((i:Int)+1) from inR (by omega) (by omega))⟩;show ((b.length+(f51 [(nth l (i:Int) Z106).1,(nth l (i:Int) Z106).2.1]).length:Nat):Int)≤4294967296;have:=vL2 (nth l (i:Int) Z106);have:=hb hi;rw[hf.2];omega
theorem uY5 (t:List D114)(h:∀ s∈t,IG s):(uV6 t).length≤77*t.length:=by
 induction t with
 |nil=>simp
 |cons x r ih =>
  have h1:=wT6 x.1;have h2:=tK9 x.2.1;have h3:=(h x (List.mem_cons_self ..)).2.1;have:=ih (fun s hs=>h s (List.mem_cons_of_mem _ hs));simp only[uV6,segB,List.map_cons,List.flatten_cons,List.length_append,List.length_cons] at this ⊢;omega
def segC (s:D114):List UInt8:=intB s.1++((s.2.1.take 3).map ptB).flatten
theorem uY6 (s:D114):(segC s).length≤77:=by
 have h1:=wT6 s.1;have h2:=tK9 (s.2.1.take 3);have:(s.2.1.take 3).length≤3:=by simp;omega
 simp only[segC,List.length_append];omega
theorem uV7 {s:D114}(h:IG s):segC s=segB s:=by
 unfold segC segB;rw[List.take_of_length_le (by rw[h.2.1];omega)]
theorem uY7 {t:List D114}(h:∀ s∈t,IG s):(t.map segC).flatten=uV6 t:=by
 show _=(t.map segB).flatten;rw[List.map_congr_left (fun s hs=>uV7 (h s hs))]
theorem tQ9 (t:List D114)(h:∀ s∈t,IG s)(b:List UInt8)(ht:t.length≤1048576)(hb:b.length≤1000000000) :
  xQ6 (wY8 (t,len t,())) (wV6 (t,len t,())) (vA2 (t,len t,())) (b,0,())∧(zC5 (wY8 (t,len t,())) (wV6 (t,len t,())) (b,0,())).1=b++uV6 t:=by
 rw[← uY7 h];have round:∀ (b:List UInt8) (i:Nat),i<t.length→b.length≤3900000000→xQ6 (vE7 (t,len t,(i:Int),(nth t (i:Int) Z114).2.1,())) (wX6 (t,len t,(i:Int),(nth t (i:Int) Z114).2.1,())) (vD7 (t,len t,(i:Int),(nth t (i:Int) Z114).2.1,())) (b++f51 [(nth t (i:Int) Z114).1],0,()) ∧
   (zC5 (vE7 (t,len t,(i:Int),(nth t (i:Int) Z114).2.1,())) (wX6 (t,len t,(i:Int),(nth t (i:Int) Z114).2.1,())) (b++f51 [(nth t (i:Int) Z114).1],0,())).1=b++segC (nth t (i:Int) Z114):=fun b i hi hb=>by
  have hg:=wY7 h i hi Z114;have hl:=wT6 (nth t (i:Int) Z114).1;have:=tX5 t (len t) (i:Int) _ hg.2.1 hg.2.2 (b++f51 [(nth t (i:Int) Z114).1]) (by rw[(uN4 hg.1).2,List.length_append];omega);refine⟨this.1,this.2.trans ?_⟩;rw[uV7 hg,(uN4 hg.1).2,List.append_assoc];rfl
 have key:∀ (n i:Nat) (b:List UInt8),i+n=t.length→b.length+77*n≤3900000000→LT (wY8 (t,len t,())) (wV6 (t,len t,())) (vA2 (t,len t,())) n (b,(i:Int),()) (b++((t.drop i).map segC).flatten,(t.length:Int),()):=by
  intro n
  induction n with
  |zero =>
   intro i b hi hb;have h1:(b++((t.drop i).map segC).flatten,(t.length:Int),())=(b,(i:Int),()):=by
    rw[List.drop_of_length_le (by omega),show t.length=i by omega];simp
   have hg:wY8 (t,len t,()) (b,(i:Int),())=false:=decide_eq_false (by show ¬ (i:Int)<len t;simp only[len];omega);rw[h1];exact .stop (fun h=>by have:wY8 (t,len t,()) (b,(i:Int),())=true:=h;rw[hg] at this;cases this) hg
  |succ n ih =>
   intro i b hi hb;have hit:i<t.length:=by omega
   rw[Nat.mul_succ] at hb;obtain⟨r1,r2⟩:=round b i hit (by omega);have hgi:=wY7 h i hit Z114;have hs:=uY6 (nth t (i:Int) Z114);have hl:=wT6 (nth t (i:Int) Z114).1;have q:=ih (i+1) (b++segC (nth t (i:Int) Z114)) (by omega) (by rw[List.length_append];omega);have hn:wV6 (t,len t,()) (b,(i:Int),())=(b++segC (nth t (i:Int) Z114),((i+1:Nat):Int),()):=by
    rw[← r2];rfl
   rw[← hn] at q;rw[List.drop_eq_getElem_cons hit,List.map_cons,List.flatten_cons,← List.append_assoc,← vG8 t i hit Z114];refine .step (fun _=>⟨vG9 t i hit,(uN4 hgi.1).1,?_,r1,(show InR ((i:Int)+1) from inR (by omega) (by omega))⟩) (decide_eq_true (by show (i:Int)<len t;simp only[len];omega)) q;show ((b.length+(f51 [(nth t (i:Int) Z114).1]).length:Nat):Int)≤4294967296;rw[(uN4 hgi.1).2];omega
 have k:=key t.length 0 b (by omega) (by omega);exact⟨k.ends (by omega),congrArg (·.1) (k.fix (by omega))⟩
def vX (N:D52):List UInt8:=wT9 (len (wU1 N))++(vY6 (wU1 N)++(wT9 (len (wU8 N))++uV6 (wU8 N)))
theorem tT1 (N:D52)(h1:∀ s∈wU1 N,IS s)(h2:∀ s∈wU8 N,IG s)(l1:(wU1 N).length≤1048576)(l2:(wU8 N).length≤1048576):uP7 N∧f55 N=vX N:=by
 have b1:=wT7 (len (wU1 N));have b2:=wT7 (len (wU8 N));have s1:(vY6 (wU1 N)).length≤55*(wU1 N).length:=vV6 uG0 55 vJ (wU1 N);obtain⟨e1,e2⟩:=tL N (wU1 N) h1 ([]++wT9 (len (wU1 N))) l1 (by simp only[List.nil_append];omega);obtain⟨e3,e4⟩:=tQ9 (wU8 N) h2 ([]++wT9 (len (wU1 N))++vY6 (wU1 N)++wT9 (len (wU8 N))) l2 (by simp only[List.nil_append,List.length_append];omega);have f1:=wW1 (len (wU1 N));have f2:=wW1 (len (wU8 N));constructor
 ·refine⟨f1.1,?_,?_,f2.1,?_,?_⟩
  ·show ((0+(f56 (len (wU1 N))).length:Nat):Int)≤4294967296;rw[f1.2];omega
  ·show xQ6 (vC6 (N,wU1 N,len (wU1 N),())) (wW5 (N,wU1 N,len (wU1 N),())) (vI2 (N,wU1 N,len (wU1 N),())) ([]++f56 (len (wU1 N)),0,());rw[f1.2];exact e1
  ·show (((zC5 (vC6 (N,wU1 N,len (wU1 N),())) (wW5 (N,wU1 N,len (wU1 N),())) ([]++f56 (len (wU1 N)),0,())).1.length+(f56 (len (wU8 N))).length:Nat):Int)≤4294967296;rw[f1.2,f2.2,e2,List.length_append,List.nil_append];omega
  ·show xQ6 (wY8 (wU8 N,len (wU8 N),())) (wV6 (wU8 N,len (wU8 N),())) (vA2 (wU8 N,len (wU8 N),())) ((zC5 (vC6 (N,wU1 N,len (wU1 N),())) (wW5 (N,wU1 N,len (wU1 N),())) ([]++f56 (len (wU1 N)),0,())).1++f56 (len (wU8 N)),0,());rw[f1.2,f2.2,e2];exact e3
 ·show (zC5 (wY8 (wU8 N,len (wU8 N),())) (wV6 (wU8 N,len (wU8 N),())) ((zC5 (vC6 (N,wU1 N,len (wU1 N),())) (wW5 (N,wU1 N,len (wU1 N),())) ([]++f56 (len (wU1 N)),0,())).1++f56 (len (wU8 N)),0,())).1=_;rw[f1.2,f2.2,e2,e4];simp only[vX,List.nil_append,List.append_assoc]
end Go.Proofs.YtbiemgjkkhkdeaaGreatDoor.Am
