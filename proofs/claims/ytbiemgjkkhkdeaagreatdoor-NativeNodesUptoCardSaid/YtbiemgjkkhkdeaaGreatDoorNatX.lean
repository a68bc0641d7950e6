/- NativeNodes: the encoding of any node, and what any bytes are read as. Condition: the bound of the second form. -/
import Derived.Test.YtbiemgjkkhkdeaaGreatDoorNatW
import Derived.Test.YtbiemgjkkhkdeaaGreatDoorNatJ
import Derived.Test.YtbiemgjkkhkdeaaGreatDoorNatQ
import Derived.Test.YtbiemgjkkhkdeaaGreatDoorMach5
set_option linter.unusedVariables false
namespace Go.Proofs.YtbiemgjkkhkdeaaGreatDoor.Am
open Go Go.Am Go.Proofs
theorem uH1:∀ (t:Ty),t.cmp=true→∀ x:t.den,Ty.eqb t x x=true:=by
 intro t
 induction t with
 |int k=>intro _ x;exact beq_self_eq_true (α:=Int) x
 |bool=>intro _ x;exact beq_self_eq_true (α:=Bool) x
 |str=>intro _ x;exact beq_self_eq_true (α:=List UInt8) x
 |nl=>intro _ x;rfl
 |cons a b iha ihb=>intro h x;simp only[Ty.cmp,Bool.and_eq_true] at h;simp only[Ty.eqb,iha h.1,ihb h.2,Bool.and_self]
 |st f ih=>intro h x;exact ih h x
 |arr n t ih=>intro h x;simp only[Ty.eqb,List.all_eq_true];exact fun i _=>ih h _
 |sl t ih=>intro h;cases h
 |ptr t ih=>intro h;cases h
theorem sV0 (p:List D111)(hl:len p≤100000):tN1 p p∧f97 p p=true:=by
 have h2:=wP3 (g:=uT4 (p,p,())) (next:=uA2 (p,p,())) (ok:=uE5 (p,p,())) (n:=len p) (wN1 _) (by omega) (fun x hx=>by
  have:=(Bool.and_eq_true _ _ ▸ hx:_∧_).1;exact of_decide_eq_true this) (fun _=>rfl) (fun x a b hx=>by
  have hx:x.1<len p:=of_decide_eq_true hx;exact⟨⟨a,hx⟩,⟨a,hx⟩,fun _=>(show InR (x.1+1) from inR (by omega) (by omega))⟩)
 refine⟨fun _=>h2,?_⟩;have v:((len p)!=(len p))=false:=by simp
 have e1:∀ z:Int×Unit,uZ9 (p,p,()) z=false:=fun z=>by
  show (decide (z.1<len p)&&(!(Ty.eqb T111 (nth p z.1 Z111) (nth p z.1 Z111))))=false;rw[uH1 T111 rfl];simp
 simp only[f97,f97t,v,e1,cond_false]
theorem sV1 (p:List D114)(hl:len p≤100000):tN2 p p∧f98 p p=true:=by
 have h2:=wP3 (g:=uT5 (p,p,())) (next:=uA4 (p,p,())) (ok:=uE6 (p,p,())) (n:=len p) (wN1 _) (by omega) (fun x hx=>by
  have:=(Bool.and_eq_true _ _ ▸ hx:_∧_).1;exact of_decide_eq_true this) (fun _=>rfl) (fun x a b hx=>by
  have hx:x.1<len p:=of_decide_eq_true hx;exact⟨⟨a,hx⟩,⟨a,hx⟩,fun _=>(show InR (x.1+1) from inR (by omega) (by omega))⟩)
 refine⟨fun _=>h2,?_⟩;have v:((len p)!=(len p))=false:=by simp
 have e1:∀ z:Int×Unit,tA0 (p,p,()) z=false:=fun z=>by
  show (decide (z.1<len p)&&(!(Ty.eqb T114 (nth p z.1 Z114) (nth p z.1 Z114))))=false;rw[uH1 T114 rfl];simp
 simp only[f98,f98t,v,e1,cond_false]
theorem sV2 (p:D50)(hl:len p.2.2.2.1≤100000):tN3 p p∧f99 p p=true:=by
 have h2:=wP3 (g:=uT6 (p,p,())) (next:=uA6 (p,p,())) (ok:=uE7 (p,p,())) (n:=len p.2.2.2.1) (wN1 _) (by omega) (fun x hx=>by
  have:=(Bool.and_eq_true _ _ ▸ hx:_∧_).1;exact of_decide_eq_true this) (fun _=>rfl) (fun x a b hx=>by
  have hx:x.1<len p.2.2.2.1:=of_decide_eq_true hx;exact⟨⟨a,hx⟩,⟨a,hx⟩,fun _=>(show InR (x.1+1) from inR (by omega) (by omega))⟩)
 refine⟨fun _=>h2,?_⟩;have v:(bif (bif (bif (p.1 !=p.1) then true else (p.2.1 !=p.2.1)) then true else (p.2.2.1 !=p.2.2.1)) then true else ((len p.2.2.2.1)!=(len p.2.2.2.1)))=false:=by simp
 have e1:∀ z:Int×Unit,tA2 (p,p,()) z=false:=fun z=>by
  show (decide (z.1<len p.2.2.2.1)&&(!(Ty.eqb T106 (nth p.2.2.2.1 z.1 Z106) (nth p.2.2.2.1 z.1 Z106))))=false;rw[uH1 T106 rfl];simp
 simp only[f99,f99t,v,e1,cond_false]
theorem sV3 (d:List Int)(hl:len d≤100000):uZ6 d d∧f43 d d=true:=by
 have h2:=wP3 (g:=uG9 (d,d,())) (next:=vU4 (d,d,())) (ok:=vX6 (d,d,())) (n:=len d) (wN1 _) (by omega) (fun x hx=>by
  have:=(Bool.and_eq_true _ _ ▸ hx:_∧_).1;exact of_decide_eq_true this) (fun _=>rfl) (fun x a b hx=>by
  have hx:x.1<len d:=of_decide_eq_true hx;exact⟨⟨a,hx⟩,⟨a,hx⟩,fun _=>(show InR (x.1+1) from inR (by omega) (by omega))⟩)
 refine⟨fun _=>h2,?_⟩;have v26:((len d)!=(len d))=false:=by simp
 have e1:∀ z:Int×Unit,uN4 (d,d,()) z=false:=fun z=>by
  show (decide (z.1<len d)&&(nth d z.1 0 !=nth d z.1 0))=false;simp
 simp only[f43,f43t,v26,e1,cond_false]
theorem sJ7 (N:D52)(h:sF5 N):tC2 N N∧f24 N N=true:=by
 obtain⟨h1,h2,h3,h4,h5,h6⟩:=h;obtain⟨a1,a2⟩:=sI4 _ h1;obtain⟨b1,b2⟩:=sP0 _ h2;obtain⟨c1,c2⟩:=sV3 _ h3;obtain⟨d1,d2⟩:=sV0 _ h4;obtain⟨e1,e2⟩:=sV1 _ h5;obtain⟨g1,g2⟩:=sV2 _ h6;have q:tN4 N N∧f76 N N=true:=by
  constructor
  ·exact⟨b1,fun _=>c1,fun _=>d1,fun _=>e1,fun _=>g1⟩
  ·simp only[f76,f76t,b2,c2,d2,e2,g2,beq_self_eq_true,uH1 T45 rfl,cond_true]
 constructor
 ·exact⟨fun _=>a1,fun _=>q.1⟩
 ·simp only[f24,f24t,a2,q.2,beq_self_eq_true,uH1 T43 rfl,uH1 .bool rfl,cond_true]
theorem tG7 {α:Type}(f:α→Nat)(hf:∀ x,1≤f x)(l:List α):l.length≤(l.map f).sum:=by
 induction l with
 |nil=>simp
 |cons a l ih=>simp only[List.length_cons,List.map_cons,List.sum_cons];have:=hf a;omega
theorem i64 {v:Int}(h:IntKind.min .i64≤v∧v≤IntKind.max .i64):I64 v:=h
theorem nw (N:D52)(hw:T52.wf N)(hb:T52.bulk N≤1048576):NW N:=by
 have hb:(Ty.bulk (Ty.int .i64) N.1+(Ty.bulk (Ty.int .i64) N.2.1+(Ty.bulk (Ty.int .i64) N.2.2.1+(Ty.bulk (Ty.str) N.2.2.2.1+(Ty.bulk (Ty.bool) N.2.2.2.2.1+(Ty.bulk (Ty.bool) N.2.2.2.2.2.1+(Ty.bulk (Ty.bool) N.2.2.2.2.2.2.1+(Ty.bulk (Ty.int .i64) N.2.2.2.2.2.2.2.1+(Ty.bulk (Ty.int .i64) N.2.2.2.2.2.2.2.2.1+(Ty.bulk (T26) N.2.2.2.2.2.2.2.2.2.1+(Ty.bulk (T43) N.2.2.2.2.2.2.2.2.2.2.1+(Ty.bulk (Ty.int .i64) N.2.2.2.2.2.2.2.2.2.2.2.1+(Ty.bulk (T23) N.2.2.2.2.2.2.2.2.2.2.2.2.1+(Ty.bulk (T45) N.2.2.2.2.2.2.2.2.2.2.2.2.2.1+(Ty.bulk (Ty.int .i64) N.2.2.2.2.2.2.2.2.2.2.2.2.2.2.1+(Ty.bulk (Ty.sl (.int .i64)) N.2.2.2.2.2.2.2.2.2.2.2.2.2.2.2.1+(Ty.bulk (Ty.int .i64) N.2.2.2.2.2.2.2.2.2.2.2.2.2.2.2.2.1+(Ty.bulk (Ty.sl T111) N.2.2.2.2.2.2.2.2.2.2.2.2.2.2.2.2.2.1+(Ty.bulk (Ty.sl T114) N.2.2.2.2.2.2.2.2.2.2.2.2.2.2.2.2.2.2.1+(Ty.bulk (Ty.int .i64) N.2.2.2.2.2.2.2.2.2.2.2.2.2.2.2.2.2.2.2.1+(Ty.bulk (Ty.int .i64) N.2.2.2.2.2.2.2.2.2.2.2.2.2.2.2.2.2.2.2.2.1+(Ty.bulk (Ty.int .i64) N.2.2.2.2.2.2.2.2.2.2.2.2.2.2.2.2.2.2.2.2.2.1+(Ty.bulk (Ty.int .i64) N.2.2.2.2.2.2.2.2.2.2.2.2.2.2.2.2.2.2.2.2.2.2.1+(Ty.bulk (Ty.str) N.2.2.2.2.2.2.2.2.2.2.2.2.2.2.2.2.2.2.2.2.2.2.2.1+(Ty.bulk (Ty.int .i64) N.2.2.2.2.2.2.2.2.2.2.2.2.2.2.2.2.2.2.2.2.2.2.2.2.1+(Ty.bulk (Ty.int .i64) N.2.2.2.2.2.2.2.2.2.2.2.2.2.2.2.2.2.2.2.2.2.2.2.2.2.1+(Ty.bulk (Ty.int .i64) N.2.2.2.2.2.2.2.2.2.2.2.2.2.2.2.2.2.2.2.2.2.2.2.2.2.2.1+(Ty.bulk (T50) N.2.2.2.2.2.2.2.2.2.2.2.2.2.2.2.2.2.2.2.2.2.2.2.2.2.2.2.1+0))))))))))))))))))))))))))))+1≤1048576:=hb;have z3:Ty.bulk Ty.str N.2.2.2.1=List.length (α:=UInt8) N.2.2.2.1+1:=rfl;have z15:List.length (α:=Int) N.2.2.2.2.2.2.2.2.2.2.2.2.2.2.2.1≤Ty.bulk (Ty.sl (.int .i64)) N.2.2.2.2.2.2.2.2.2.2.2.2.2.2.2.1:=Nat.le_succ_of_le (tG7 (α:=Int) (Ty.bulk (.int .i64)) (fun _=>Nat.le_refl 1) N.2.2.2.2.2.2.2.2.2.2.2.2.2.2.2.1);have z17:List.length (α:=D111) N.2.2.2.2.2.2.2.2.2.2.2.2.2.2.2.2.2.1≤Ty.bulk (Ty.sl T111) N.2.2.2.2.2.2.2.2.2.2.2.2.2.2.2.2.2.1:=Nat.le_succ_of_le (tG7 (α:=D111) (Ty.bulk T111) (fun _=>Nat.le_add_left 1 _) N.2.2.2.2.2.2.2.2.2.2.2.2.2.2.2.2.2.1);have z18:List.length (α:=D114) N.2.2.2.2.2.2.2.2.2.2.2.2.2.2.2.2.2.2.1≤Ty.bulk (Ty.sl T114) N.2.2.2.2.2.2.2.2.2.2.2.2.2.2.2.2.2.2.1:=Nat.le_succ_of_le (tG7 (α:=D114) (Ty.bulk T114) (fun _=>Nat.le_add_left 1 _) N.2.2.2.2.2.2.2.2.2.2.2.2.2.2.2.2.2.2.1);have z23:Ty.bulk Ty.str N.2.2.2.2.2.2.2.2.2.2.2.2.2.2.2.2.2.2.2.2.2.2.2.1=List.length (α:=UInt8) N.2.2.2.2.2.2.2.2.2.2.2.2.2.2.2.2.2.2.2.2.2.2.2.1+1:=rfl;have z27:List.length (α:=D106) N.2.2.2.2.2.2.2.2.2.2.2.2.2.2.2.2.2.2.2.2.2.2.2.2.2.2.2.1.2.2.2.1≤Ty.bulk T50 N.2.2.2.2.2.2.2.2.2.2.2.2.2.2.2.2.2.2.2.2.2.2.2.2.2.2.2.1:=by
  have a:=tG7 (α:=D106) (Ty.bulk T106) (fun _=>Nat.le_add_left 1 _) N.2.2.2.2.2.2.2.2.2.2.2.2.2.2.2.2.2.2.2.2.2.2.2.2.2.2.2.1.2.2.2.1;have b:Ty.bulk T50 N.2.2.2.2.2.2.2.2.2.2.2.2.2.2.2.2.2.2.2.2.2.2.2.2.2.2.2.1=Ty.bulk (.int .i64) N.2.2.2.2.2.2.2.2.2.2.2.2.2.2.2.2.2.2.2.2.2.2.2.2.2.2.2.1.1+(Ty.bulk (.int .i64) N.2.2.2.2.2.2.2.2.2.2.2.2.2.2.2.2.2.2.2.2.2.2.2.2.2.2.2.1.2.1+(Ty.bulk (.int .i64) N.2.2.2.2.2.2.2.2.2.2.2.2.2.2.2.2.2.2.2.2.2.2.2.2.2.2.2.1.2.2.1+((List.map (Ty.bulk T106) N.2.2.2.2.2.2.2.2.2.2.2.2.2.2.2.2.2.2.2.2.2.2.2.2.2.2.2.1.2.2.2.1).sum+1+0)))+1:=rfl;rw[b];omega
 generalize Ty.bulk Ty.str N.2.2.2.1=u3 at hb z3;generalize Ty.bulk (Ty.sl (.int .i64)) N.2.2.2.2.2.2.2.2.2.2.2.2.2.2.2.1=u15 at hb z15;generalize Ty.bulk (Ty.sl T111) N.2.2.2.2.2.2.2.2.2.2.2.2.2.2.2.2.2.1=u17 at hb z17;generalize Ty.bulk (Ty.sl T114) N.2.2.2.2.2.2.2.2.2.2.2.2.2.2.2.2.2.2.1=u18 at hb z18;generalize Ty.bulk Ty.str N.2.2.2.2.2.2.2.2.2.2.2.2.2.2.2.2.2.2.2.2.2.2.2.1=u23 at hb z23;generalize Ty.bulk T50 N.2.2.2.2.2.2.2.2.2.2.2.2.2.2.2.2.2.2.2.2.2.2.2.2.2.2.2.1=u27 at hb z27;obtain⟨w0,w1,w2,_,_,_,_,w7,w8,⟨_,_,⟨w9,_⟩,_⟩,⟨w10_0,w10_1,w10_2,w10_3,w10_4,w10_5,_⟩,w11,⟨_,_,⟨w12,_⟩,_⟩,⟨w13_0,w13_1,w13_2,w13_3,_⟩,w14,⟨_,w15⟩,w16,⟨_,w17⟩,⟨_,w18⟩,w19,w20,w21,w22,_,w24,w25,w26,⟨w27_0,w27_1,w27_2,⟨_,w27⟩,_⟩,_⟩:=hw;exact { h0:=w0,h1:=w1,h2:=w2,h3:=by omega,h7:=w7,h8:=w8,h9:=by simp only[len];unfold maxLen at *;omega,h10_0:=w10_0,h10_1:=w10_1,h10_2:=w10_2,h10_3:=w10_3,h10_4:=w10_4,h10_5:=w10_5,h11:=w11,h12:=by simp only[len];unfold maxLen at *;omega,h13:=⟨w13_0,w13_1,w13_2,w13_3⟩,h14:=w14,h15:=w15,l15:=Nat.le_trans z15 (by omega),h16:=w16,h17:=fun s hs=>⟨(w17 s hs).1,(w17 s hs).2.1.1,(w17 s hs).2.1.2.1,(w17 s hs).2.1.2.2.1,(w17 s hs).2.1.2.2.2.1⟩,l17:=Nat.le_trans z17 (by omega),h18:=fun s hs=>⟨(w18 s hs).1,(w18 s hs).2.1.1,fun q hq=>⟨((w18 s hs).2.1.2 q hq).1,((w18 s hs).2.1.2 q hq).2.1⟩⟩,l18:=Nat.le_trans z18 (by omega),h19:=w19,h20:=w20,h21:=w21,h22:=w22,h23:=by omega,h24:=w24,h25:=w25,h26:=w26,h27_0:=w27_0,h27_1:=w27_1,h27_2:=w27_2,h27:=fun q hq=>⟨(w27 q hq).1,(w27 q hq).2.1⟩,l27:=Nat.le_trans z27 (by omega) }
theorem sX4 (N:D52)(s:List UInt8)(hN:NW N)(hs:len s<9223372036854775808):f4_ok N s∧f4 N s=true:=by
 obtain⟨p1,p2,p3⟩:=sP3 hN;have hR:=sU5 s hs;obtain⟨i1,i2,i3,i4,i5⟩:=sJ6 hR;obtain⟨e1,e2⟩:=sH5 i4;obtain⟨s1,s2⟩:=sJ7 _ i5;have v13:(!(f20 N==f21 N))=false:=by rw[p3];simp
 constructor
 ·simp only[f4_ok,f4t,i3,v13];exact⟨p1,p2,fun _=>⟨trivial,trivial,i1,i2,s1,fun _=>e1,fun _=>trivial⟩⟩
 ·simp only[f4,f4t,i3,v13,s2,e2,cond_true,cond_false];rfl
theorem nativeNodes_law:∀ x,wfL 0 [T52,.str] x→wD 0 [T52,.str] x≤1048576→f4_ok x.1 x.2.1∧f4 x.1 x.2.1=true:=by
 rintro⟨N,s,⟨⟩⟩ ⟨h1,h2,_⟩ hb;have hb:T52.bulk N+(Ty.bulk .str s+0)≤1048576:=hb;have h2:List.length (α:=UInt8) s≤maxLen:=h2;exact sX4 N s (nw N h1 (by omega)) (by simp only[len];unfold maxLen at *;omega)
end Go.Proofs.YtbiemgjkkhkdeaaGreatDoor.Am
