/- Lists of numbers and truth values, texts, stops, segments and points are written alike. Condition: numbers are those of Go, lists are not too long. -/
import Derived.Test.YtbiemgjkkhkdeaaGreatDoorNatK
set_option linter.unusedVariables false
namespace Go.Proofs.YtbiemgjkkhkdeaaGreatDoor.Am
open Go Go.Am Go.Proofs
def vX8 (l:List Int):List UInt8:=(l.map intB).flatten
theorem uK0 {l:List Int}(h:∀ v∈l,I64 v)(i:Nat)(hi:i<l.length):I64 (nth l (i:Int) 0):=by
 rw[vU6 l i hi];exact h _ (List.getElem_mem hi)
theorem vV4 {α:Type}(l:List α)(i:Nat)(hi:i<l.length):InB (i:Int) (len l):=⟨by omega,by simp only[len];omega⟩
theorem tP7 {α:Type}{l:List α}{i:Nat}(h:decide ((i:Int)<len l)=true):i<l.length:=by
 have:=of_decide_eq_true h;simp only[len] at this;omega
theorem uJ4 (l:List Int)(h:∀ v∈l,I64 v)(hl:l.length≤1000):vD0 l∧f51 l=vX8 l:=by
 have:=vR5 l 0 intB 11 wT8 (g:=uS6 (l,len l,())) (next:=vY6 (l,len l,())) (ok:=uC0 (l,len l,())) (fun _ _=>rfl) (fun b i hi=>by
  show (b++f92 (nth l (i:Int) 0),(i:Int)+1,())=_;rw[(sE4 (uK0 h i hi)).2]) (fun b i hb hv=>by
  have hi:i<l.length:=tP7 hv;refine⟨vV4 l i hi,(sE4 (uK0 h i hi)).1,?_,(show InR ((i:Int)+1) from inR (by omega) (by omega))⟩;show ((b.length+(f92 (nth l (i:Int) 0)).length:Nat):Int)≤4294967296;have:=wT8 (nth l (i:Int) 0);have:=hb hi;rw[(sE4 (uK0 h i hi)).2];omega) [] (by omega) (by simp only[List.length_nil];omega)
 exact⟨this.1,this.2⟩
theorem tN6 (l:List Int):(vX8 l).length≤11*l.length:=by
 induction l with
 |nil=>simp[vX8]
 |cons x r ih =>
  have:=wT8 x;simp only[vX8,List.map_cons,List.flatten_cons,List.length_append,List.length_cons] at ih ⊢;omega
def sL (l:List Bool):List UInt8:=(l.map uA7).flatten
theorem sU6 (l:List Bool)(hl:l.length≤1000):tB2 l∧f53 l=sL l:=by
 have hb0:∀ b:Bool,f56 (bif b then (1:Int) else 0)=uA7 b:=fun b=>(vB5 _).2;have:=vR5 l false uA7 11 (fun b=>wU _) (g:=uS7 (l,len l,())) (next:=vY8 (l,len l,())) (ok:=uC1 (l,len l,())) (fun _ _=>rfl) (fun b i hi=>by
  show (b++f56 (bif nth l (i:Int) false then (1:Int) else 0),(i:Int)+1,())=_;rw[hb0]) (fun b i hb hv=>by
  have hi:i<l.length:=tP7 hv;refine⟨vV4 l i hi,(vB5 _).1,?_,(show InR ((i:Int)+1) from inR (by omega) (by omega))⟩;show ((b.length+(f56 (bif nth l (i:Int) false then (1:Int) else 0)).length:Nat):Int)≤4294967296;have:=wU (bif nth l (i:Int) false then (1:Int) else 0);have:=hb hi;rw[(vB5 _).2];omega) [] (by omega) (by simp only[List.length_nil];omega)
 exact⟨this.1,this.2⟩
theorem sL0 (l:List Int)(n:Nat)(hn:n<18446744073709551616)(hl:l.length≤4294960000):vK7 l (n:Int)∧xC8 (vW l (n:Int))=xC8 l++vlq n∧(vW l (n:Int)).length≤l.length+11:=by
 obtain⟨k,e,h1,h2,h3,h4⟩:=tR9 10 n l (sN9 hn) hn (by omega) (Nat.le_refl _);have h5:=h2.fix (by omega);refine⟨⟨h2.ends (by omega),?_⟩,?_,?_⟩
 ·show ((List.length (zC5 (wW1 ()) (wV3 ()) (l,(n:Int),())).1+List.length [_]:Nat):Int)≤4294967296;rw[h5];simp only[List.length_cons,List.length_nil];omega
 ·show xC8 ((zC5 (wW1 ()) (wV3 ()) (l,(n:Int),())).1++[IntKind.wrap .u8 (zC5 (wW1 ()) (wV3 ()) (l,(n:Int),())).2.1])=_;rw[h5,h4];rfl
 ·show ((zC5 (wW1 ()) (wV3 ()) (l,(n:Int),())).1++[IntKind.wrap .u8 (zC5 (wW1 ()) (wV3 ()) (l,(n:Int),())).2.1]).length≤_;rw[h5,List.length_append];simp only[List.length_cons,List.length_nil];omega
theorem sI5 {v:Int}(h:I64 v):∃ n:Nat,zz v=(n:Int)∧n<18446744073709551616∧intB v=vlq n:=by
 obtain⟨n,e,hn⟩:=sK9 h;refine⟨n,e,hn,?_⟩;unfold intB wU4;rw[e,show ((n:Int) % 18446744073709551616).toNat=n by omega]
theorem sE6 (t:List Int)(h:∀ v∈t,I64 v)(ht:t.length≤300000000):∀ (n i:Nat) (b:List Int),i+n=t.length→b.length+11*n≤4294950000 →
  ∃ b',LT (vQ4 (t,len t,())) (vF2 (t,len t,())) (vW5 (t,len t,())) n (b,(i:Int),()) (b',(t.length:Int),())∧xC8 b'=xC8 b++vX8 (t.drop i):=by
 intro n
 induction n with
 |zero =>
  intro i b hi hb;refine⟨b,?_,by rw[List.drop_of_length_le (by omega)];simp[vX8]⟩;have hg:vQ4 (t,len t,()) (b,(i:Int),())=false:=decide_eq_false (by show ¬ (i:Int)<len t;simp only[len];omega);rw[show (t.length:Int)=(i:Int) by omega];exact .stop (fun h=>by have:vQ4 (t,len t,()) (b,(i:Int),())=true:=h;rw[hg] at this;cases this) hg
 |succ n ih =>
  intro i b hi hb;have hit:i<t.length:=by omega
  have hI:=uK0 h i hit;obtain⟨m,e1,e2,e3⟩:=sI5 hI;obtain⟨a1,a2,a3⟩:=sL0 b m e2 (by omega);have hf:f95 (nth t (i:Int) 0)=(m:Int):=(sE2 hI).trans e1;obtain⟨b',q1,q2⟩:=ih (i+1) (vW b (m:Int)) (by omega) (by omega);have hn:vF2 (t,len t,()) (b,(i:Int),())=(vW b (m:Int),((i+1:Nat):Int),()):=by
   show (vW b (f95 (nth t (i:Int) 0)),IntKind.wrap .i64 ((i:Int)+1),())=_;rw[hf,vL5 (by omega) (by omega)];rfl
  rw[← hn] at q1;refine⟨b',.step (fun _=>⟨vV4 t i hit,trivial,?_⟩) (decide_eq_true (by show (i:Int)<len t;simp only[len];omega)) q1,?_⟩
  ·show vK7 b (f95 (nth t (i:Int) 0));rw[hf];exact a1
  ·rw[q2,a2,List.drop_eq_getElem_cons hit,← vU6 t i hit 0,← e3];simp only[vX8,List.map_cons,List.flatten_cons,List.append_assoc]
theorem tG4 (t:List Int)(h:∀ v∈t,I64 v)(ht:t.length≤300000000):tJ6 t∧tK4 t∧f54 t=wU4 (len t)++vX8 t∧f62 t=wU4 (len t)++vX8 t:=by
 have hu:IntKind.wrap .u64 (len t)=((t.length:Nat):Int):=by rw[IntKind.wrap_u64];simp only[len];omega
 obtain⟨a1,a2,a3⟩:=sL0 [] t.length (by omega) (by simp);simp only[List.length_nil] at a3;obtain⟨b',q1,q2⟩:=sE6 t h ht t.length 0 (vW [] ((t.length:Nat):Int)) (by omega) (by omega);have hb:wU4 (len t)=vlq t.length:=by
  unfold wU4;rw[show (len t % 18446744073709551616).toNat=t.length by simp only[len];omega]
 have h80:=tG t.length (by omega);have hr:=vR5 t 0 intB 11 wT8 (g:=uF8 (t,())) (next:=vM4 (t,())) (ok:=vX0 (t,())) (fun _ _=>rfl) (fun b i hi=>by
  show (b++f58 (nth t (i:Int) 0),IntKind.wrap .i64 ((i:Int)+1),())=_;rw[(wU5 (uK0 h i hi)).2,vL5 (by omega) (by omega)]) (fun b i hb hv=>by
  have hi:i<t.length:=tP7 hv;refine⟨vV4 t i hi,(wU5 (uK0 h i hi)).1,?_⟩;show ((b.length+(f58 (nth t (i:Int) 0)).length:Nat):Int)≤9223372036854775807;have:=wT8 (nth t (i:Int) 0);have:=hb hi;rw[(wU5 (uK0 h i hi)).2];omega) (vlq t.length) (by omega) (by have:=sC8 t.length;omega)
 refine⟨⟨?_,?_⟩,⟨?_,?_⟩,?_,?_⟩
 ·show vK7 [] (IntKind.wrap .u64 (len t));rw[hu];exact a1
 ·show xQ5 (vQ4 (t,len t,())) (vF2 (t,len t,())) (vW5 (t,len t,())) (vW [] (IntKind.wrap .u64 (len t)),0,());rw[hu];exact q1.ends (by omega)
 ·show vW9 (IntKind.wrap .u64 (len t));rw[hu];exact h80.1
 ·show xQ5 (uF8 (t,())) (vM4 (t,())) (vX0 (t,())) (f80 (IntKind.wrap .u64 (len t)),0,());rw[hu,h80.2];exact hr.1
 ·show xC8 (zC5 (vQ4 (t,len t,())) (vF2 (t,len t,())) (vW [] (IntKind.wrap .u64 (len t)),0,())).1=_;rw[hu,show zC5 (vQ4 (t,len t,())) (vF2 (t,len t,())) (vW [] ((t.length:Nat):Int),0,())=_ from q1.fix (by omega),hb];show xC8 b'=_;rw[q2,a2];rfl
 ·show (zC5 (uF8 (t,())) (vM4 (t,())) (f80 (IntKind.wrap .u64 (len t)),0,())).1=_;rw[hu,h80.2,hr.2,hb];rfl
def colB (c:D45):List UInt8:=intB c.1++(intB c.2.1++(intB c.2.2.1++intB c.2.2.2.1))
def IC (c:D45):Prop:=I64 c.1∧I64 c.2.1∧I64 c.2.2.1∧I64 c.2.2.2.1
theorem uT8 (c:D45):(colB c).length≤44:=by
 have h1:=wT8 c.1;have h2:=wT8 c.2.1;have h3:=wT8 c.2.2.1;have h4:=wT8 c.2.2.2.1;simp only[colB,List.length_append];omega
theorem tN7 {c:D45}(h:IC c):uW4 c∧f61 c=colB c:=by
 obtain⟨h1,h2,h3,h4⟩:=h;have l1:=wT8 c.1;have l2:=wT8 c.2.1;have l3:=wT8 c.2.2.1;have l4:=wT8 c.2.2.2.1;obtain⟨a1,b1⟩:=wU5 h1;obtain⟨a2,b2⟩:=wU5 h2;obtain⟨a3,b3⟩:=wU5 h3;obtain⟨a4,b4⟩:=wU5 h4;constructor
 ·simp only[uW4,f61t,b1,b2,b3,b4,List.length_append];exact⟨a1,a2,by omega,a3,by omega,a4,by omega⟩
 ·simp only[f61,f61t,b1,b2,b3,b4,colB,List.append_assoc]
def tB0 (s:D111):List UInt8:=intB s.1++colB s.2.1
def IS (s:D111):Prop:=I64 s.1∧IC s.2.1
theorem vX9 (s:D111):(tB0 s).length≤55:=by
 have:=wT8 s.1;have:=uT8 s.2.1;simp only[tB0,List.length_append];omega
def ptB (p:D106):List UInt8:=intB p.1++intB p.2.1
def IP (p:D106):Prop:=I64 p.1∧I64 p.2.1
theorem uA8 (p:D106):(ptB p).length≤22:=by
 have:=wT8 p.1;have:=wT8 p.2.1;simp only[ptB,List.length_append];omega
def segB (s:D114):List UInt8:=intB s.1++(s.2.1.map ptB).flatten
def IG (s:D114):Prop:=I64 s.1∧s.2.1.length=3∧∀ p∈s.2.1,IP p
theorem sE7 (l:List D106):((l.map ptB).flatten).length≤22*l.length:=by
 induction l with
 |nil=>simp
 |cons x r ih =>
  have:=uA8 x;simp only[List.map_cons,List.flatten_cons,List.length_append,List.length_cons];omega
theorem tS5 {s:D111}(h:IS s):vD0 [s.1,s.2.1.1,s.2.1.2.1,s.2.1.2.2.1,s.2.1.2.2.2.1]∧f51 [s.1,s.2.1.1,s.2.1.2.1,s.2.1.2.2.1,s.2.1.2.2.2.1]=tB0 s:=by
 obtain⟨h1,h2,h3,h4,h5⟩:=h;have:=uJ4 [s.1,s.2.1.1,s.2.1.2.1,s.2.1.2.2.1,s.2.1.2.2.2.1] (by simp[h1,h2,h3,h4,h5]) (by simp);refine⟨this.1,this.2.trans ?_⟩;simp[vX8,tB0,colB]
theorem tS6 {p:D106}(h:IP p):vD0 [p.1,p.2.1]∧f51 [p.1,p.2.1]=ptB p:=by
 have:=uJ4 [p.1,p.2.1] (by simp[h.1,h.2]) (by simp);refine⟨this.1,this.2.trans ?_⟩;simp[vX8,ptB]
theorem tG5 {v:Int}(h:I64 v):vD0 [v]∧f51 [v]=intB v:=by
 have:=uJ4 [v] (by simp[h]) (by simp);refine⟨this.1,this.2.trans ?_⟩;simp[vX8]
end Go.Proofs.YtbiemgjkkhkdeaaGreatDoor.Am
