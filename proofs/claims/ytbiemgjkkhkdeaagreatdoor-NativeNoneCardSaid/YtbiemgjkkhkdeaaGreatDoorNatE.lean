/- The encoding of an image and of a mask: the reference's is the program's. Condition: lengths are those of Go. -/
import Derived.Test.YtbiemgjkkhkdeaaGreatDoorNatD
set_option linter.unusedVariables false
namespace Go.Proofs.YtbiemgjkkhkdeaaGreatDoor.Am
open Go Go.Am Go.Proofs
theorem vN7:f29=wT9:=funext fun v=>(wY6 v).2
theorem uY2 {α:Type}[DecidableEq α] (e:α→List UInt8)(he:∀ x,(e x).length≤44)(d:List α)(z:α)(hd:d.length≤65536)
  {g:List UInt8×Int×Int×Unit→Bool}{next:List UInt8×Int×Int×Unit→List UInt8×Int×Int×Unit}{ok:List UInt8×Int×Int×Unit→Prop}(hg:∀ b s i,g (b,s,i,())=decide (i<len d))
  (hx:∀ (b:List UInt8) (s:Int) (i:Nat) (h:i<d.length),next (b,s,(i:Int),())=(bif (bif ((i:Int)+1==len d) then true else !(decide (nth d ((i:Int)+1) z=d[i]))) then b++wT9 ((i:Int)-s)++e d[i] else b,bif (bif ((i:Int)+1==len d) then true else !(decide (nth d ((i:Int)+1) z=d[i]))) then (i:Int)+1 else s,(i:Int)+1,()))
  (hok:∀ (b:List UInt8) (s:Int) (i:Nat),i≤d.length→b.length≤4294967296→0≤s→s≤(i:Int)→ok (b,s,(i:Int),())) :
  ∀ (n i k:Nat) (b:List UInt8),i+n=d.length→k≤i→b.length+n*55≤4294967296→∃ s,LT g next ok n (b,(i:Int)-(k:Int),(i:Int),()) (b++go e (d.drop i) k,s,(d.length:Int),()):=by
 intro n
 induction n with
 |zero =>
  intro i k b hi hk hb;refine⟨(i:Int)-k,?_⟩;have h1:(b++go e (d.drop i) k,(i:Int)-(k:Int),(d.length:Int),())=(b,(i:Int)-(k:Int),(i:Int),()):=by
   rw[List.drop_of_length_le (by omega),show d.length=i by omega];simp[go]
  rw[h1];refine .stop (hok _ _ _ (by omega) (by omega) (by omega) (by omega)) ?_;rw[hg];exact decide_eq_false (by simp only[len];omega)
 |succ n ih =>
  intro i k b hi hk hb;have hil:i<d.length:=by omega
  have hgi:g (b,(i:Int)-(k:Int),(i:Int),())=true:=by rw[hg];exact decide_eq_true (by simp only[len];omega)
  have hoki:=hok b ((i:Int)-k) i (by omega) (by omega) (by omega) (by omega);have hn:=hx b ((i:Int)-k) i hil;have hbl:=wT7 (k:Int);have hel:=he d[i];rw[show (i:Int)-((i:Int)-k)=(k:Int) by omega] at hn;by_cases hlast:i+1=d.length
  ·have hc:((i:Int)+1==len d)=true:=by rw[beq_iff_eq];simp only[len];omega
   rw[hc] at hn;simp only[cond_true] at hn;obtain⟨s,hs⟩:=ih (i+1) 0 (b++wT9 (k:Int)++e d[i]) (by omega) (by omega) (by simp only[List.length_append];omega);refine⟨s,.step hoki hgi ?_⟩;rw[hn];rw[show ((i+1:Nat):Int)-((0:Nat):Int)=(i:Int)+1 by omega,show ((i+1:Nat):Int)=(i:Int)+1 by omega,List.drop_of_length_le (by omega)] at hs;rw[List.drop_eq_getElem_cons hil,List.drop_of_length_le (by omega)];simpa only[go,List.append_nil,List.append_assoc] using hs
  ·have hc:((i:Int)+1==len d)=false:=by rw[beq_eq_false_iff_ne];simp only[len];omega
   have hi1:i+1<d.length:=by omega
   have hnth:nth d ((i:Int)+1) z=d[i+1]:=by rw[show (i:Int)+1=((i+1:Nat):Int) by omega];exact vG8 d (i+1) hi1 z
   have hdr:d.drop i=d[i]::d[i+1]::d.drop (i+2):=by rw[List.drop_eq_getElem_cons hil,List.drop_eq_getElem_cons hi1]
   have hdr1:d.drop (i+1)=d[i+1]::d.drop (i+2):=List.drop_eq_getElem_cons hi1;rw[hc,hnth] at hn;simp only[cond_false] at hn;by_cases hy:d[i+1]=d[i]
   ·rw[decide_eq_true hy] at hn;simp only[Bool.not_true,cond_false] at hn;obtain⟨s,hs⟩:=ih (i+1) (k+1) b (by omega) (by omega) (by omega);refine⟨s,.step hoki hgi ?_⟩;rw[hn,hdr,go,if_pos hy.symm,← hdr1];rw[show ((i+1:Nat):Int)-((k+1:Nat):Int)=(i:Int)-k by omega,show ((i+1:Nat):Int)=(i:Int)+1 by omega] at hs;exact hs
   ·rw[decide_eq_false hy] at hn;simp only[Bool.not_false,cond_true] at hn;obtain⟨s,hs⟩:=ih (i+1) 0 (b++wT9 (k:Int)++e d[i]) (by omega) (by omega) (by simp only[List.length_append];omega);refine⟨s,.step hoki hgi ?_⟩;rw[hn,hdr,go,if_neg (fun h=>hy h.symm),← hdr1];rw[show ((i+1:Nat):Int)-((0:Nat):Int)=(i:Int)+1 by omega,show ((i+1:Nat):Int)=(i:Int)+1 by omega] at hs;simpa only[List.append_assoc] using hs
theorem tX1 (x:D45):ePix x=wT9 x.1++(wT9 x.2.1++(wT9 x.2.2.1++wT9 x.2.2.2.1)):=by simp[ePix,f27,f27t]
theorem tX2 (x:Int):eInt x=wT9 x:=by simp[eInt,f32,f32t]
theorem sC4 {n:Nat}(h:n≤9000000000000000000):((n:Nat):Int)≤9223372036854775807:=by omega
theorem tX3 (p:D23)(hd:p.2.2.1.length≤65536)(b:List UInt8)(hb:b.length≤1000) :
  ∃ s,LT (vM2 (p,())) (wZ3 (p,())) (vG0 (p,())) p.2.2.1.length (b,0,0,()) (b++go ePix p.2.2.1 0,s,(p.2.2.1.length:Int),()):=by
 have:=uY2 ePix uN0 p.2.2.1 Z45 hd (g:=vM2 (p,())) (next:=wZ3 (p,())) (ok:=vG0 (p,())) (fun _ _ _=>rfl) (fun b s i h=>by
  show (bif (bif ((i:Int)+1==len p.2.2.1) then true else !(Ty.eqb T45 (nth p.2.2.1 ((i:Int)+1) Z45) (nth p.2.2.1 (i:Int) Z45))) then b++f29 ((i:Int)-s)++f29 (nth p.2.2.1 (i:Int) Z45).1++f29 (nth p.2.2.1 (i:Int) Z45).2.1++f29 (nth p.2.2.1 (i:Int) Z45).2.2.1++f29 (nth p.2.2.1 (i:Int) Z45).2.2.2.1 else b,
   bif (bif ((i:Int)+1==len p.2.2.1) then true else !(Ty.eqb T45 (nth p.2.2.1 ((i:Int)+1) Z45) (nth p.2.2.1 (i:Int) Z45))) then (i:Int)+1 else s,(i:Int)+1,())=_
  rw[vN7,tS7,vG8 p.2.2.1 i h,tX1];simp only[List.append_assoc]) (fun b s i hi hb h0 hs hv=>by
  have hv:(i:Int)<len p.2.2.1:=of_decide_eq_true hv;have r1:InR ((i:Int)+1):=inR (by omega) (by omega);have L:=fun v=>wT7 v;refine⟨⟨by show 0≤(i:Int);omega,hv⟩,r1,fun _=>r1,fun h=>⟨by show 0≤(i:Int)+1;omega,?_⟩,fun _=>⟨(show InR ((i:Int)-s) from inR (by omega) (by omega)),(wY6 _).1,?_,(wY6 _).1,?_,(wY6 _).1,?_,(wY6 _).1,?_,(wY6 _).1,?_,r1⟩,r1⟩
  ·show (i:Int)+1<len p.2.2.1;have h:(!((i:Int)+1==len p.2.2.1))=true:=h;simp only[Bool.not_eq_true',beq_eq_false_iff_ne] at h;omega
  all_goals
   rw[vN7];simp only[List.length_append];have h1:=L ((i:Int)-s);have h2:=L (nth p.2.2.1 (i:Int) Z45).1;have h3:=L (nth p.2.2.1 (i:Int) Z45).2.1;have h4:=L (nth p.2.2.1 (i:Int) Z45).2.2.1;have h5:=L (nth p.2.2.1 (i:Int) Z45).2.2.2.1;refine sC4 ?_;omega) p.2.2.1.length 0 0 b (by omega) (Nat.le_refl _) (by omega)
 simpa using this
theorem tX4 (p:D26)(hd:p.2.2.1.length≤65536)(b:List UInt8)(hb:b.length≤1000) :
  ∃ s,LT (vM3 (p,())) (wZ4 (p,())) (vG1 (p,())) p.2.2.1.length (b,0,0,()) (b++go eInt p.2.2.1 0,s,(p.2.2.1.length:Int),()):=by
 have:=uY2 eInt uN1 p.2.2.1 0 hd (g:=vM3 (p,())) (next:=wZ4 (p,())) (ok:=vG1 (p,())) (fun _ _ _=>rfl) (fun b s i h=>by
  show (bif (bif ((i:Int)+1==len p.2.2.1) then true else !(nth p.2.2.1 ((i:Int)+1) 0==nth p.2.2.1 (i:Int) 0)) then b++f29 ((i:Int)-s)++f29 (nth p.2.2.1 (i:Int) 0) else b,
   bif (bif ((i:Int)+1==len p.2.2.1) then true else !(nth p.2.2.1 ((i:Int)+1) 0==nth p.2.2.1 (i:Int) 0)) then (i:Int)+1 else s,(i:Int)+1,())=_
  rw[vN7,show (nth p.2.2.1 ((i:Int)+1) 0==nth p.2.2.1 (i:Int) 0)=decide (nth p.2.2.1 ((i:Int)+1) 0=nth p.2.2.1 (i:Int) 0) from tS8,vG8 p.2.2.1 i h,tX2]) (fun b s i hi hb h0 hs hv=>by
  have hv:(i:Int)<len p.2.2.1:=of_decide_eq_true hv;have r1:InR ((i:Int)+1):=inR (by omega) (by omega);have L:=fun v=>wT7 v;have hB:InB (i:Int) (len p.2.2.1):=⟨by omega,hv⟩;refine⟨r1,fun _=>r1,fun h=>⟨by show 0≤(i:Int)+1;omega,?_⟩,fun _=>hB,fun _=>⟨(show InR ((i:Int)-s) from inR (by omega) (by omega)),(wY6 _).1,?_,hB,(wY6 _).1,?_,r1⟩,r1⟩
  ·show (i:Int)+1<len p.2.2.1;have h:(!((i:Int)+1==len p.2.2.1))=true:=h;simp only[Bool.not_eq_true',beq_eq_false_iff_ne] at h;omega
  all_goals
   rw[vN7];simp only[List.length_append];have h1:=L ((i:Int)-s);have h2:=L (nth p.2.2.1 (i:Int) 0);refine sC4 ?_;omega) p.2.2.1.length 0 0 b (by omega) (Nat.le_refl _) (by omega)
 simpa using this
def whole (p:D23):List UInt8:=wT9 p.1++wT9 p.2.1++go ePix p.2.2.1 0
theorem sD2 (p:D23)(hd:p.2.2.1.length≤65536):∃ s,LT (vM2 (p,())) (wZ3 (p,())) (vG0 (p,())) p.2.2.1.length (f29 p.1++f29 p.2.1,0,0,()) (whole p,s,(p.2.2.1.length:Int),()):=by
 have h1:=wT7 p.1;have h2:=wT7 p.2.1;rw[vN7];exact tX3 p hd _ (by rw[List.length_append];omega)
theorem vZ5 (p:D23)(hl:len p.2.2.1<9223372036854775808):tD0 p∧tE1 p∧f6 p=f7 p:=by
 obtain⟨c1,c2,c3,c4⟩:=tJ8 p hl;generalize hq:(bif (f25 p !=0) then ((0:Int),(0:Int),([]:List D45),()) else p)=q;have hq':(bif (f28 p !=0) then ((0:Int),(0:Int),([]:List D45),()) else p)=q:=by rw[c3];exact hq
 have hs:q.2.2.1.length≤65536:=by
  by_cases h:f25 p=0
  ·rw[h] at hq;have hq:p=q:=hq;have:=(c4 h).2.2.2.2.2;rw[← hq];simp only[len] at this;omega
  ·have:(f25 p !=0)=true:=by simpa using h
   rw[this] at hq;have hq:((0:Int),(0:Int),([]:List D45),())=q:=hq;rw[← hq];simp
 obtain⟨r1,r2⟩:=uY0 q.1 q.2.1 q.2.2.1 hs;obtain⟨s,hL⟩:=sD2 q hs;have hn:q.2.2.1.length<18446744073709551616:=by omega
 have h1:=wT7 q.1;have h2:=wT7 q.2.1;refine⟨⟨c1,?_⟩,⟨c2,?_⟩,?_⟩
 ·show vH8 (bif (f25 p !=0) then ((0:Int),(0:Int),([]:List D45),()) else p).1 _ _ ();rw[hq];exact r1
 ·show wW7 (bif (f28 p !=0) then ((0:Int),(0:Int),([]:List D45),()) else p).1∧wW7 (bif (f28 p !=0) then ((0:Int),(0:Int),([]:List D45),()) else p).2.1∧((List.length (f29 (bif (f28 p !=0) then ((0:Int),(0:Int),([]:List D45),()) else p).1)+List.length (f29 (bif (f28 p !=0) then ((0:Int),(0:Int),([]:List D45),()) else p).2.1):Nat):Int)≤9223372036854775807 ∧
   xQ6 (vM2 ((bif (f28 p !=0) then ((0:Int),(0:Int),([]:List D45),()) else p),())) (wZ3 ((bif (f28 p !=0) then ((0:Int),(0:Int),([]:List D45),()) else p),())) (vG0 ((bif (f28 p !=0) then ((0:Int),(0:Int),([]:List D45),()) else p),())) (f29 (bif (f28 p !=0) then ((0:Int),(0:Int),([]:List D45),()) else p).1++f29 (bif (f28 p !=0) then ((0:Int),(0:Int),([]:List D45),()) else p).2.1,0,0,())
  rw[hq'];refine⟨(wY6 _).1,(wY6 _).1,?_,hL.ends hn⟩;rw[vN7];omega
 ·show uO6 (bif (f25 p !=0) then ((0:Int),(0:Int),([]:List D45),()) else p).1 (bif (f25 p !=0) then ((0:Int),(0:Int),([]:List D45),()) else p).2.1 (bif (f25 p !=0) then ((0:Int),(0:Int),([]:List D45),()) else p).2.2.1 () =
   (zC5 (vM2 ((bif (f28 p !=0) then ((0:Int),(0:Int),([]:List D45),()) else p),())) (wZ3 ((bif (f28 p !=0) then ((0:Int),(0:Int),([]:List D45),()) else p),())) (f29 (bif (f28 p !=0) then ((0:Int),(0:Int),([]:List D45),()) else p).1++f29 (bif (f28 p !=0) then ((0:Int),(0:Int),([]:List D45),()) else p).2.1,0,0,())).1
  rw[hq,hq',hL.fix hn,r2];rfl
def sC5 (p:D26):List UInt8:=wT9 p.1++wT9 p.2.1++go eInt p.2.2.1 0
theorem sD3 (p:D26)(hd:p.2.2.1.length≤65536):∃ s,LT (vM3 (p,())) (wZ4 (p,())) (vG1 (p,())) p.2.2.1.length (f29 p.1++f29 p.2.1,0,0,()) (sC5 p,s,(p.2.2.1.length:Int),()):=by
 have h1:=wT7 p.1;have h2:=wT7 p.2.1;rw[vN7];exact tX4 p hd _ (by rw[List.length_append];omega)
theorem uN2 (p:D26)(hl:len p.2.2.1<9223372036854775808):tD4 p∧tE4 p∧f8 p=f9 p:=by
 obtain⟨c1,c2,c3,c4⟩:=uX8 p hl;generalize hq:(bif (f30 p !=0) then ((0:Int),(0:Int),([]:List Int),()) else p)=q;have hq':(bif (f33 p !=0) then ((0:Int),(0:Int),([]:List Int),()) else p)=q:=by rw[c3];exact hq
 have hs:q.2.2.1.length≤65536:=by
  by_cases h:f30 p=0
  ·rw[h] at hq;have hq:p=q:=hq;have:=(c4 h).2.2.2.2.2;rw[← hq];simp only[len] at this;omega
  ·have:(f30 p !=0)=true:=by simpa using h
   rw[this] at hq;have hq:((0:Int),(0:Int),([]:List Int),())=q:=hq;rw[← hq];simp
 obtain⟨r1,r2⟩:=uY1 q.1 q.2.1 q.2.2.1 hs;obtain⟨s,hL⟩:=sD3 q hs;have hn:q.2.2.1.length<18446744073709551616:=by omega
 have h1:=wT7 q.1;have h2:=wT7 q.2.1;refine⟨⟨c1,?_⟩,⟨c2,?_⟩,?_⟩
 ·show vI0 (bif (f30 p !=0) then ((0:Int),(0:Int),([]:List Int),()) else p).1 _ _ ();rw[hq];exact r1
 ·show wW7 (bif (f33 p !=0) then ((0:Int),(0:Int),([]:List Int),()) else p).1∧wW7 (bif (f33 p !=0) then ((0:Int),(0:Int),([]:List Int),()) else p).2.1∧((List.length (f29 (bif (f33 p !=0) then ((0:Int),(0:Int),([]:List Int),()) else p).1)+List.length (f29 (bif (f33 p !=0) then ((0:Int),(0:Int),([]:List Int),()) else p).2.1):Nat):Int)≤9223372036854775807 ∧
   xQ6 (vM3 ((bif (f33 p !=0) then ((0:Int),(0:Int),([]:List Int),()) else p),())) (wZ4 ((bif (f33 p !=0) then ((0:Int),(0:Int),([]:List Int),()) else p),())) (vG1 ((bif (f33 p !=0) then ((0:Int),(0:Int),([]:List Int),()) else p),())) (f29 (bif (f33 p !=0) then ((0:Int),(0:Int),([]:List Int),()) else p).1++f29 (bif (f33 p !=0) then ((0:Int),(0:Int),([]:List Int),()) else p).2.1,0,0,())
  rw[hq'];refine⟨(wY6 _).1,(wY6 _).1,?_,hL.ends hn⟩;rw[vN7];omega
 ·show uP1 (bif (f30 p !=0) then ((0:Int),(0:Int),([]:List Int),()) else p).1 (bif (f30 p !=0) then ((0:Int),(0:Int),([]:List Int),()) else p).2.1 (bif (f30 p !=0) then ((0:Int),(0:Int),([]:List Int),()) else p).2.2.1 () =
   (zC5 (vM3 ((bif (f33 p !=0) then ((0:Int),(0:Int),([]:List Int),()) else p),())) (wZ4 ((bif (f33 p !=0) then ((0:Int),(0:Int),([]:List Int),()) else p),())) (f29 (bif (f33 p !=0) then ((0:Int),(0:Int),([]:List Int),()) else p).1++f29 (bif (f33 p !=0) then ((0:Int),(0:Int),([]:List Int),()) else p).2.1,0,0,())).1
  rw[hq,hq',hL.fix hn,r2];rfl
theorem tQ7 {x:Int}(h1:-9223372036854775808≤x)(h2:x<9223372036854775808):IntKind.wrap .i64 x=x:=by rw[IntKind.wrap_i64];omega
end Go.Proofs.YtbiemgjkkhkdeaaGreatDoor.Am
