/- Lists of numbers and truth values, texts, stops, segments and points are written alike. Condition: numbers are those of Go, lists are not too long. -/
import Derived.Test.YtbiemgjkkhkdeaaGreatDoorNatK
set_option linter.unusedVariables false
namespace Go.Proofs.YtbiemgjkkhkdeaaGreatDoor.Am
open Go Go.Am Go.Proofs
def vI9 (l:List Int):List UInt8:=(l.map intB).flatten
theorem vS7 {l:List Int}(h:∀ v∈l,I64 v)(i:Nat)(hi:i<l.length):I64 (nth l (i:Int) 0):=by
 rw[vG8 l i hi];exact h _ (List.getElem_mem hi)
theorem vG9 {α:Type}(l:List α)(i:Nat)(hi:i<l.length):InB (i:Int) (len l):=⟨by omega,by simp only[len];omega⟩
theorem uV5 {α:Type}{l:List α}{i:Nat}(h:decide ((i:Int)<len l)=true):i<l.length:=by
 have:=of_decide_eq_true h;simp only[len] at this;omega
theorem vR0 (l:List Int)(h:∀ v∈l,I64 v)(hl:l.length≤1000):wW6 l∧f51 l=vI9 l:=by
 have:=vD6 l 0 intB 11 wT6 (g:=vY8 (l,len l,())) (next:=vJ5 (l,len l,())) (ok:=vL5 (l,len l,())) (fun _ _=>rfl) (fun b i hi=>by
  show (b++f92 (nth l (i:Int) 0),(i:Int)+1,())=_;rw[(tK6 (vS7 h i hi)).2]) (fun b i hb hv=>by
  have hi:i<l.length:=uV5 hv;refine⟨vG9 l i hi,(tK6 (vS7 h i hi)).1,?_,(show InR ((i:Int)+1) from inR (by omega) (by omega))⟩;show ((b.length+(f92 (nth l (i:Int) 0)).length:Nat):Int)≤4294967296;have:=wT6 (nth l (i:Int) 0);have:=hb hi;rw[(tK6 (vS7 h i hi)).2];omega) [] (by omega) (by simp only[List.length_nil];omega)
 exact⟨this.1,this.2⟩
theorem uS9 (l:List Int):(vI9 l).length≤11*l.length:=by
 induction l with
 |nil=>simp[vI9]
 |cons x r ih =>
  have:=wT6 x;simp only[vI9,List.map_cons,List.flatten_cons,List.length_append,List.length_cons] at ih ⊢;omega
def tT (l:List Bool):List UInt8:=(l.map vL1).flatten
theorem sC6 (l:List Bool)(hl:l.length≤1000):uG3 l∧f53 l=tT l:=by
 have hb0:∀ b:Bool,f56 (bif b then (1:Int) else 0)=vL1 b:=fun b=>(wW1 _).2;have:=vD6 l false vL1 11 (fun b=>wT7 _) (g:=vY9 (l,len l,())) (next:=vJ7 (l,len l,())) (ok:=vL6 (l,len l,())) (fun _ _=>rfl) (fun b i hi=>by
  show (b++f56 (bif nth l (i:Int) false then (1:Int) else 0),(i:Int)+1,())=_;rw[hb0]) (fun b i hb hv=>by
  have hi:i<l.length:=uV5 hv;refine⟨vG9 l i hi,(wW1 _).1,?_,(show InR ((i:Int)+1) from inR (by omega) (by omega))⟩;show ((b.length+(f56 (bif nth l (i:Int) false then (1:Int) else 0)).length:Nat):Int)≤4294967296;have:=wT7 (bif nth l (i:Int) false then (1:Int) else 0);have:=hb hi;rw[(wW1 _).2];omega) [] (by omega) (by simp only[List.length_nil];omega)
 exact⟨this.1,this.2⟩
theorem tT0 (l:List Int)(n:Nat)(hn:n<18446744073709551616)(hl:l.length≤4294960000):wZ7 l (n:Int)∧xC9 (vH7 l (n:Int))=xC9 l++vlq n∧(vH7 l (n:Int)).length≤l.length+11:=by
 obtain⟨k,e,h1,h2,h3,h4⟩:=uX7 10 n l (tW6 hn) hn (by omega) (Nat.le_refl _);have h5:=h2.fix (by omega);refine⟨⟨h2.ends (by omega),?_⟩,?_,?_⟩
 ·show ((List.length (zC5 (wU9 ()) (wU4 ()) (l,(n:Int),())).1+List.length [_]:Nat):Int)≤4294967296;rw[h5];simp only[List.length_cons,List.length_nil];omega
 ·show xC9 ((zC5 (wU9 ()) (wU4 ()) (l,(n:Int),())).1++[IntKind.wrap .u8 (zC5 (wU9 ()) (wU4 ()) (l,(n:Int),())).2.1])=_;rw[h5,h4];rfl
 ·show ((zC5 (wU9 ()) (wU4 ()) (l,(n:Int),())).1++[IntKind.wrap .u8 (zC5 (wU9 ()) (wU4 ()) (l,(n:Int),())).2.1]).length≤_;rw[h5,List.length_append];simp only[List.length_cons,List.length_nil];omega
theorem tQ8 {v:Int}(h:I64 v):∃ n:Nat,zz v=(n:Int)∧n<18446744073709551616∧intB v=vlq n:=by
 obtain⟨n,e,hn⟩:=tS9 h;refine⟨n,e,hn,?_⟩;unfold intB wT9;rw[e,show ((n:Int) % 18446744073709551616).toNat=n by omega]
theorem tK8 (t:List Int)(h:∀ v∈t,I64 v)(ht:t.length≤300000000):∀ (n i:Nat) (b:List Int),i+n=t.length→b.length+11*n≤4294950000 →
  ∃ b',LT (vC5 (t,len t,())) (wX5 (t,len t,())) (vI1 (t,len t,())) n (b,(i:Int),()) (b',(t.length:Int),())∧xC9 b'=xC9 b++vI9 (t.drop i):=by
 intro n
 induction n with
 |zero =>
  intro i b hi hb;refine⟨b,?_,by rw[List.drop_of_length_le (by omega)];simp[vI9]⟩;have hg:vC5 (t,len t,()) (b,(i:Int),())=false:=decide_eq_false (by show ¬ (i:Int)<len t;simp only[len];omega);rw[show (t.length:Int)=(i:Int) by omega];exact .stop (fun h=>by have:vC5 (t,len t,()) (b,(i:Int),())=true:=h;rw[hg] at this;cases this) hg
 |succ n ih =>
  intro i b hi hb;have hit:i<t.length:=by omega
  have hI:=vS7 h i hit;obtain⟨m,e1,e2,e3⟩:=tQ8 hI;obtain⟨a1,a2,a3⟩:=tT0 b m e2 (by omega);have hf:f95 (nth t (i:Int) 0)=(m:Int):=(tK4 hI).trans e1;obtain⟨b',q1,q2⟩:=ih (i+1) (vH7 b (m:Int)) (by omega) (by omega);have hn:wX5 (t,len t,()) (b,(i:Int),())=(vH7 b (m:Int),((i+1:Nat):Int),()):=by
   show (vH7 b (f95 (nth t (i:Int) 0)),IntKind.wrap .i64 ((i:Int)+1),())=_;rw[hf,tQ7 (by omega) (by omega)];rfl
  rw[← hn] at q1;refine⟨b',.step (fun _=>⟨vG9 t i hit,trivial,?_⟩) (decide_eq_true (by show (i:Int)<len t;simp only[len];omega)) q1,?_⟩
  ·show wZ7 b (f95 (nth t (i:Int) 0));rw[hf];exact a1
  ·rw[q2,a2,List.drop_eq_getElem_cons hit,← vG8 t i hit 0,← e3];simp only[vI9,List.map_cons,List.flatten_cons,List.append_assoc]
theorem uN3 (t:List Int)(h:∀ v∈t,I64 v)(ht:t.length≤300000000):uP5 t∧uQ3 t∧f54 t=wT9 (len t)++vI9 t∧f62 t=wT9 (len t)++vI9 t:=by
 have hu:IntKind.wrap .u64 (len t)=((t.length:Nat):Int):=by rw[IntKind.wrap_u64];simp only[len];omega
 obtain⟨a1,a2,a3⟩:=tT0 [] t.length (by omega) (by simp);simp only[List.length_nil] at a3;obtain⟨b',q1,q2⟩:=tK8 t h ht t.length 0 (vH7 [] ((t.length:Nat):Int)) (by omega) (by omega);have hb:wT9 (len t)=vlq t.length:=by
  unfold wT9;rw[show (len t % 18446744073709551616).toNat=t.length by simp only[len];omega]
 have h80:=uM9 t.length (by omega);have hr:=vD6 t 0 intB 11 wT6 (g:=vO7 (t,())) (next:=vA4 (t,())) (ok:=vI7 (t,())) (fun _ _=>rfl) (fun b i hi=>by
  show (b++f58 (nth t (i:Int) 0),IntKind.wrap .i64 ((i:Int)+1),())=_;rw[(wU (vS7 h i hi)).2,tQ7 (by omega) (by omega)]) (fun b i hb hv=>by
  have hi:i<t.length:=uV5 hv;refine⟨vG9 t i hi,(wU (vS7 h i hi)).1,?_⟩;show ((b.length+(f58 (nth t (i:Int) 0)).length:Nat):Int)≤9223372036854775807;have:=wT6 (nth t (i:Int) 0);have:=hb hi;rw[(wU (vS7 h i hi)).2];omega) (vlq t.length) (by omega) (by have:=tJ5 t.length;omega)
 refine⟨⟨?_,?_⟩,⟨?_,?_⟩,?_,?_⟩
 ·show wZ7 [] (IntKind.wrap .u64 (len t));rw[hu];exact a1
 ·show xQ6 (vC5 (t,len t,())) (wX5 (t,len t,())) (vI1 (t,len t,())) (vH7 [] (IntKind.wrap .u64 (len t)),0,());rw[hu];exact q1.ends (by omega)
 ·show vI5 (IntKind.wrap .u64 (len t));rw[hu];exact h80.1
 ·show xQ6 (vO7 (t,())) (vA4 (t,())) (vI7 (t,())) (f80 (IntKind.wrap .u64 (len t)),0,());rw[hu,h80.2];exact hr.1
 ·show xC9 (zC5 (vC5 (t,len t,())) (wX5 (t,len t,())) (vH7 [] (IntKind.wrap .u64 (len t)),0,())).1=_;rw[hu,show zC5 (vC5 (t,len t,())) (wX5 (t,len t,())) (vH7 [] ((t.length:Nat):Int),0,())=_ from q1.fix (by omega),hb];show xC9 b'=_;rw[q2,a2];rfl
 ·show (zC5 (vO7 (t,())) (vA4 (t,())) (f80 (IntKind.wrap .u64 (len t)),0,())).1=_;rw[hu,h80.2,hr.2,hb];rfl
def colB (c:D45):List UInt8:=intB c.1++(intB c.2.1++(intB c.2.2.1++intB c.2.2.2.1))
def IC (c:D45):Prop:=I64 c.1∧I64 c.2.1∧I64 c.2.2.1∧I64 c.2.2.2.1
theorem vZ6 (c:D45):(colB c).length≤44:=by
 have h1:=wT6 c.1;have h2:=wT6 c.2.1;have h3:=wT6 c.2.2.1;have h4:=wT6 c.2.2.2.1;simp only[colB,List.length_append];omega
theorem uT {c:D45}(h:IC c):uB2 c∧f61 c=colB c:=by
 obtain⟨h1,h2,h3,h4⟩:=h;have l1:=wT6 c.1;have l2:=wT6 c.2.1;have l3:=wT6 c.2.2.1;have l4:=wT6 c.2.2.2.1;obtain⟨a1,b1⟩:=wU h1;obtain⟨a2,b2⟩:=wU h2;obtain⟨a3,b3⟩:=wU h3;obtain⟨a4,b4⟩:=wU h4;constructor
 ·simp only[uB2,f61t,b1,b2,b3,b4,List.length_append];exact⟨a1,a2,by omega,a3,by omega,a4,by omega⟩
 ·simp only[f61,f61t,b1,b2,b3,b4,colB,List.append_assoc]
def uG0 (s:D111):List UInt8:=intB s.1++colB s.2.1
def IS (s:D111):Prop:=I64 s.1∧IC s.2.1
theorem vJ (s:D111):(uG0 s).length≤55:=by
 have:=wT6 s.1;have:=vZ6 s.2.1;simp only[uG0,List.length_append];omega
def ptB (p:D106):List UInt8:=intB p.1++intB p.2.1
def IP (p:D106):Prop:=I64 p.1∧I64 p.2.1
theorem vL2 (p:D106):(ptB p).length≤22:=by
 have:=wT6 p.1;have:=wT6 p.2.1;simp only[ptB,List.length_append];omega
def segB (s:D114):List UInt8:=intB s.1++(s.2.1.map ptB).flatten
def IG (s:D114):Prop:=I64 s.1∧s.2.1.length=3∧∀ p∈s.2.1,IP p
theorem tK9 (l:List D106):((l.map ptB).flatten).length≤22*l.length:=by
 induction l with
 |nil=>simp
 |cons x r ih =>
  have:=vL2 x;simp only[List.map_cons,List.flatten_cons,List.length_append,List.length_cons];omega
theorem uY3 {s:D111}(h:IS s):wW6 [s.1,s.2.1.1,s.2.1.2.1,s.2.1.2.2.1,s.2.1.2.2.2.1]∧f51 [s.1,s.2.1.1,s.2.1.2.1,s.2.1.2.2.1,s.2.1.2.2.2.1]=uG0 s:=by
 obtain⟨h1,h2,h3,h4,h5⟩:=h;have:=vR0 [s.1,s.2.1.1,s.2.1.2.1,s.2.1.2.2.1,s.2.1.2.2.2.1] (by simp[h1,h2,h3,h4,h5]) (by simp);refine⟨this.1,this.2.trans ?_⟩;simp[vI9,uG0,colB]
theorem uY4 {p:D106}(h:IP p):wW6 [p.1,p.2.1]∧f51 [p.1,p.2.1]=ptB p:=by
 have:=vR0 [p.1,p.2.1] (by simp[h.1,h.2]) (by simp);refine⟨this.1,this.2.trans ?_⟩;simp[vI9,ptB]
theorem uN4 {v:Int}(h:I64 v):wW6 [v]∧f51 [v]=intB v:=by
 have:=vR0 [v] (by simp[h]) (by simp);refine⟨this.1,this.2.trans ?_⟩;simp[vI9]
end Go.Proofs.YtbiemgjkkhkdeaaGreatDoor.Am
