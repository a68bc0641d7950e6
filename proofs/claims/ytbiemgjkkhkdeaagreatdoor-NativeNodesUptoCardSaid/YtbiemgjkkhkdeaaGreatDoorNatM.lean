/- Stops, segments and points of a node are written alike. Condition: numbers are those of Go, lists are not too long. -/
import Derived.Test.YtbiemgjkkhkdeaaGreatDoorNatL
set_option linter.unusedVariables false
namespace Go.Proofs.YtbiemgjkkhkdeaaGreatDoor.Am
open Go Go.Am Go.Proofs
theorem vH1 {α:Type}{l:List α}{q:α→Prop}(h:∀ x∈l,q x)(i:Nat)(hi:i<l.length)(z:α):q (nth l (i:Int) z):=by
 rw[vU6 l i hi];exact h _ (List.getElem_mem hi)
abbrev wU6 (N:D52):List D111:=N.2.2.2.2.2.2.2.2.2.2.2.2.2.2.2.2.2.1
abbrev wV4 (N:D52):List D114:=N.2.2.2.2.2.2.2.2.2.2.2.2.2.2.2.2.2.2.1
abbrev nPts (N:D52):List D106:=N.2.2.2.2.2.2.2.2.2.2.2.2.2.2.2.2.2.2.2.2.2.2.2.2.2.2.2.1.2.2.2.1
abbrev uS1 (l:List D111):List UInt8:=(l.map tB0).flatten
abbrev tP8 (l:List D114):List UInt8:=(l.map segB).flatten
abbrev ptsB (l:List D106):List UInt8:=(l.map ptB).flatten
theorem uN9 {α:Type}(e:α→List UInt8)(E:Nat)(he:∀ x,(e x).length≤E)(l:List α):((l.map e).flatten).length≤E*l.length:=by
 induction l with
 |nil=>simp
 |cons x r ih =>
  have:=he x;simp only[List.map_cons,List.flatten_cons,List.length_append,List.length_cons,Nat.mul_succ];omega
theorem sE8 (N:D52)(t:List D111)(h:∀ s∈t,IS s)(b:List UInt8)(ht:t.length≤1048576)(hb:b.length≤1000000000) :
  xQ5 (vQ5 (N,t,len t,())) (vC2 (N,t,len t,())) (vW6 (N,t,len t,())) (b,0,())∧(zC5 (vQ5 (N,t,len t,())) (vC2 (N,t,len t,())) (b,0,())).1=b++uS1 t:=
 vR5 t Z111 tB0 55 vX9 (fun _ _=>rfl) (fun b i hi=>by
  show (b++f51 [(nth t (i:Int) Z111).1,(nth t (i:Int) Z111).2.1.1,(nth t (i:Int) Z111).2.1.2.1,(nth t (i:Int) Z111).2.1.2.2.1,(nth t (i:Int) Z111).2.1.2.2.2.1],(i:Int)+1,())=_;rw[(tS5 (vH1 h i hi Z111)).2]) (fun b i hb hv=>by
  have hi:i<t.length:=tP7 hv;have hf:=tS5 (vH1 h i hi Z111);refine⟨vV4 t i hi,hf.1,?_,(show InR ((i:Int)+1) from inR (by omega) (by omega))⟩;show ((b.length+(f51 [(nth t (i:Int) Z111).1,(nth t (i:Int) Z111).2.1.1,(nth t (i:Int) Z111).2.1.2.1,(nth t (i:Int) Z111).2.1.2.2.1,(nth t (i:Int) Z111).2.1.2.2.2.1]).length:Nat):Int)≤4294967296;have:=vX9 (nth t (i:Int) Z111);have:=hb hi;rw[hf.2];omega) b (by omega) (by omega)
theorem sP1 (t:List D114)(n k:Int)(l:List D106)(hl:l.length=3)(h:∀ p∈l,IP p)(b:List UInt8)(hb:b.length≤4000000000) :
  xQ5 (vT3 (t,n,k,l,())) (vF3 (t,n,k,l,())) (vR7 (t,n,k,l,())) (b,0,())∧(zC5 (vT3 (t,n,k,l,())) (vF3 (t,n,k,l,())) (b,0,())).1=b++ptsB l:=by
 have h3:len l=3:=by simp only[len];omega
 refine vR5 l Z106 ptB 22 uA8 (fun b i=>by rw[h3];rfl) (fun b i hi=>?_) (fun b i hb hv=>?_) b (by omega) (by omega)
 ·show (b++f51 [(nth l (i:Int) Z106).1,(nth l (i:Int) Z106).2.1],(i:Int)+1,())=_;rw[(tS6 (vH1 h i hi Z106)).2]
 ·have hv:decide ((i:Int)<3)=true:=hv;have hi:i<l.length:=by have:=of_decide_eq_true hv;omega
  have hf:=tS6 (vH1 h i hi Z106);refine⟨⟨by show 0≤(i:Int);omega,of_decide_eq_true hv⟩,hf.1,?_,(show InR ((i:Int)+1) from inR (by omega) (by omega))⟩;show ((b.length+(f51 [(nth l (i:Int) Z106).1,(nth l (i:Int) Z106).2.1]).length:Nat):Int)≤4294967296;have:=uA8 (nth l (i:Int) Z106);have:=hb hi;rw[hf.2];omega
theorem tS7 (t:List D114)(h:∀ s∈t,IG s):(tP8 t).length≤77*t.length:=by
 induction t with
 |nil=>simp
 |cons x r ih =>
  have h1:=wT8 x.1;have h2:=sE7 x.2.1;have h3:=(h x (List.mem_cons_self ..)).2.1;have:=ih (fun s hs=>h s (List.mem_cons_of_mem _ hs));simp only[tP8,segB,List.map_cons,List.flatten_cons,List.length_append,List.length_cons] at this ⊢;omega
def segC (s:D114):List UInt8:=intB s.1++((s.2.1.take 3).map ptB).flatten
theorem tS8 (s:D114):(segC s).length≤77:=by
 have h1:=wT8 s.1;have h2:=sE7 (s.2.1.take 3);have:(s.2.1.take 3).length≤3:=by simp;omega
 simp only[segC,List.length_append];omega
theorem tP9 {s:D114}(h:IG s):segC s=segB s:=by
 unfold segC segB;rw[List.take_of_length_le (by rw[h.2.1];omega)]
theorem tS9 {t:List D114}(h:∀ s∈t,IG s):(t.map segC).flatten=tP8 t:=by
 show _=(t.map segB).flatten;rw[List.map_congr_left (fun s hs=>tP9 (h s hs))]
theorem sI6 (t:List D114)(h:∀ s∈t,IG s)(b:List UInt8)(ht:t.length≤1048576)(hb:b.length≤1000000000) :
  xQ5 (vH3 (t,len t,())) (wZ4 (t,len t,())) (vM2 (t,len t,())) (b,0,())∧(zC5 (vH3 (t,len t,())) (wZ4 (t,len t,())) (b,0,())).1=b++tP8 t:=by
 rw[← tS9 h];have round:∀ (b:List UInt8) (i:Nat),i<t.length→b.length≤3900000000→xQ5 (vT3 (t,len t,(i:Int),(nth t (i:Int) Z114).2.1,())) (vF3 (t,len t,(i:Int),(nth t (i:Int) Z114).2.1,())) (vR7 (t,len t,(i:Int),(nth t (i:Int) Z114).2.1,())) (b++f51 [(nth t (i:Int) Z114).1],0,()) ∧
   (zC5 (vT3 (t,len t,(i:Int),(nth t (i:Int) Z114).2.1,())) (vF3 (t,len t,(i:Int),(nth t (i:Int) Z114).2.1,())) (b++f51 [(nth t (i:Int) Z114).1],0,())).1=b++segC (nth t (i:Int) Z114):=fun b i hi hb=>by
  have hg:=vH1 h i hi Z114;have hl:=wT8 (nth t (i:Int) Z114).1;have:=sP1 t (len t) (i:Int) _ hg.2.1 hg.2.2 (b++f51 [(nth t (i:Int) Z114).1]) (by rw[(tG5 hg.1).2,List.length_append];omega);refine⟨this.1,this.2.trans ?_⟩;rw[tP9 hg,(tG5 hg.1).2,List.append_assoc];rfl
 have key:∀ (n i:Nat) (b:List UInt8),i+n=t.length→b.length+77*n≤3900000000→LT (vH3 (t,len t,())) (wZ4 (t,len t,())) (vM2 (t,len t,())) n (b,(i:Int),()) (b++((t.drop i).map segC).flatten,(t.length:Int),()):=by
  intro n
  induction n with
  |zero =>
   intro i b hi hb;have h1:(b++((t.drop i).map segC).flatten,(t.length:Int),())=(b,(i:Int),()):=by
    rw[List.drop_of_length_le (by omega),show t.length=i by omega];simp
   have hg:vH3 (t,len t,()) (b,(i:Int),())=false:=decide_eq_false (by show ¬ (i:Int)<len t;simp only[len];omega);rw[h1];exact .stop (fun h=>by have:vH3 (t,len t,()) (b,(i:Int),())=true:=h;rw[hg] at this;cases this) hg
  |succ n ih =>
   intro i b hi hb;have hit:i<t.length:=by omega
   rw[Nat.mul_succ] at hb;obtain⟨r1,r2⟩:=round b i hit (by omega);have hgi:=vH1 h i hit Z114;have hs:=tS8 (nth t (i:Int) Z114);have hl:=wT8 (nth t (i:Int) Z114).1;have q:=ih (i+1) (b++segC (nth t (i:Int) Z114)) (by omega) (by rw[List.length_append];omega);have hn:wZ4 (t,len t,()) (b,(i:Int),())=(b++segC (nth t (i:Int) Z114),((i+1:Nat):Int),()):=by
    rw[← r2];rfl
   rw[← hn] at q;rw[List.drop_eq_getElem_cons hit,List.map_cons,List.flatten_cons,← List.append_assoc,← vU6 t i hit Z114];refine .step (fun _=>⟨vV4 t i hit,(tG5 hgi.1).1,?_,r1,(show InR ((i:Int)+1) from inR (by omega) (by omega))⟩) (decide_eq_true (by show (i:Int)<len t;simp only[len];omega)) q;show ((b.length+(f51 [(nth t (i:Int) Z114).1]).length:Nat):Int)≤4294967296;rw[(tG5 hgi.1).2];omega
 have k:=key t.length 0 b (by omega) (by omega);exact⟨k.ends (by omega),congrArg (·.1) (k.fix (by omega))⟩
def uP9 (N:D52):List UInt8:=wU4 (len (wU6 N))++(uS1 (wU6 N)++(wU4 (len (wV4 N))++tP8 (wV4 N)))
theorem sL1 (N:D52)(h1:∀ s∈wU6 N,IS s)(h2:∀ s∈wV4 N,IG s)(l1:(wU6 N).length≤1048576)(l2:(wV4 N).length≤1048576):tJ8 N∧f55 N=uP9 N:=by
 have b1:=wU (len (wU6 N));have b2:=wU (len (wV4 N));have s1:(uS1 (wU6 N)).length≤55*(wU6 N).length:=uN9 tB0 55 vX9 (wU6 N);obtain⟨e1,e2⟩:=sE8 N (wU6 N) h1 ([]++wU4 (len (wU6 N))) l1 (by simp only[List.nil_append];omega);obtain⟨e3,e4⟩:=sI6 (wV4 N) h2 ([]++wU4 (len (wU6 N))++uS1 (wU6 N)++wU4 (len (wV4 N))) l2 (by simp only[List.nil_append,List.length_append];omega);have f1:=vB5 (len (wU6 N));have f2:=vB5 (len (wV4 N));constructor
 ·refine⟨f1.1,?_,?_,f2.1,?_,?_⟩
  ·show ((0+(f56 (len (wU6 N))).length:Nat):Int)≤4294967296;rw[f1.2];omega
  ·show xQ5 (vQ5 (N,wU6 N,len (wU6 N),())) (vC2 (N,wU6 N,len (wU6 N),())) (vW6 (N,wU6 N,len (wU6 N),())) ([]++f56 (len (wU6 N)),0,());rw[f1.2];exact e1
  ·show (((zC5 (vQ5 (N,wU6 N,len (wU6 N),())) (vC2 (N,wU6 N,len (wU6 N),())) ([]++f56 (len (wU6 N)),0,())).1.length+(f56 (len (wV4 N))).length:Nat):Int)≤4294967296;rw[f1.2,f2.2,e2,List.length_append,List.nil_append];omega
  ·show xQ5 (vH3 (wV4 N,len (wV4 N),())) (wZ4 (wV4 N,len (wV4 N),())) (vM2 (wV4 N,len (wV4 N),())) ((zC5 (vQ5 (N,wU6 N,len (wU6 N),())) (vC2 (N,wU6 N,len (wU6 N),())) ([]++f56 (len (wU6 N)),0,())).1++f56 (len (wV4 N)),0,());rw[f1.2,f2.2,e2];exact e3
 ·show (zC5 (vH3 (wV4 N,len (wV4 N),())) (wZ4 (wV4 N,len (wV4 N),())) ((zC5 (vQ5 (N,wU6 N,len (wU6 N),())) (vC2 (N,wU6 N,len (wU6 N),())) ([]++f56 (len (wU6 N)),0,())).1++f56 (len (wV4 N)),0,())).1=_;rw[f1.2,f2.2,e2,e4];simp only[uP9,List.nil_append,List.append_assoc]
end Go.Proofs.YtbiemgjkkhkdeaaGreatDoor.Am
