/- Runs of equal elements: the program's encoding of an image and of a mask is the reference's. Condition: lengths are those of Go. -/
import Derived.Test.YtbiemgjkkhkdeaaGreatDoorNatC
set_option linter.unusedVariables false
namespace Go.Proofs.YtbiemgjkkhkdeaaGreatDoor.Am
open Go Go.Am Go.Proofs
theorem vG8 {α:Type}(l:List α)(i:Nat)(h:i<l.length)(d:α):nth l (i:Int) d=l[i]:=by
 simp[nth,List.getElem?_eq_getElem h]
theorem inR {x:Int}(h1:-9000000000000000000≤x)(h2:x≤9000000000000000000):InR x:=⟨by omega,by omega⟩
def go {α:Type}[DecidableEq α] (e:α→List UInt8):List α→Nat→List UInt8
 |[],_=>[]
 |[x],k=>wT9 k++e x
 |x::y::r,k=>if x=y then go e (y::r) (k+1) else wT9 k++e x++go e (y::r) 0
theorem uJ0 (t:List Int){g:List UInt8×Int×Unit→Bool}{next:List UInt8×Int×Unit→List UInt8×Int×Unit}{ok:List UInt8×Int×Unit→Prop}
  (hg:∀ b i,g (b,i,())=decide (i<len t)) (hx:∀ b i,next (b,i,())=(b++f56 (nth t i 0),i+1,())) (ht:t.length≤1000)
  (hok:∀ b i,(i<len t→0≤i∧i<2000∧b.length+11≤4294967296)→ok (b,i,())) :
  ∀ (n i:Nat) (b:List UInt8),i+n=t.length→b.length+11*n≤4294967296→LT g next ok n (b,(i:Int),()) (b++((t.drop i).map wT9).flatten,(t.length:Int),()):=by
 intro n
 induction n with
 |zero =>
  intro i b hi hb;have e:(b++((t.drop i).map wT9).flatten,(t.length:Int),())=(b,(i:Int),()):=by
   rw[List.drop_of_length_le (by omega),show t.length=i by omega];simp
  rw[e];refine .stop (hok _ _ fun h=>?_) ?_
  ·simp only[len] at h;omega
  ·rw[hg];exact decide_eq_false (by simp only[len];omega)
 |succ n ih =>
  intro i b hi hb;have hit:i<t.length:=by omega
  have h1:f56 (nth t (i:Int) 0)=wT9 t[i]:=by rw[vG8 t i hit];exact (wW1 _).2
  refine .step (hok _ _ fun _=>⟨by omega,by omega,by omega⟩) (by rw[hg];exact decide_eq_true (by simp only[len];omega)) ?_;rw[hx,h1,List.drop_eq_getElem_cons hit,List.map_cons,List.flatten_cons,← List.append_assoc,show ((i:Int)+1)=((i+1:Nat):Int) by omega];refine ih (i+1) _ (by omega) ?_;have:=wT7 t[i];rw[List.length_append];omega
theorem uX9 {α:Type}[DecidableEq α] (e:α→List UInt8)(d:List α)(z x:α){g:Int×Unit→Bool}{next:Int×Unit→Int×Unit}{ok:Int×Unit→Prop}(hd:d.length<9223372036854775000)
  (hg:∀ p:Nat,g ((p:Int),())=(decide ((p:Int)<len d)&&decide (nth d (p:Int) z=x))) (hx:∀ i,next (i,())=(i+1,())) (hok:∀ p:Nat,p≤d.length→ok ((p:Int),())) :
  ∀ (n p k:Nat),p+n=d.length→(hp:0<p)→d[p-1]?=some x→∃ m,LT g next ok m ((p:Int),()) (((p+m:Nat):Int),())∧p+m≤d.length∧go e (d.drop (p-1)) k=wT9 ((k+m:Nat):Int)++e x++go e (d.drop (p+m)) 0:=by
 intro n
 induction n with
 |zero =>
  intro p k hp h0 hxp;obtain⟨h1,h2⟩:=List.getElem?_eq_some_iff.1 hxp;refine⟨0,.stop (hok _ (by omega)) ?_,by omega,?_⟩
  ·rw[hg,decide_eq_false (by simp only[len];omega)];rfl
  ·rw[List.drop_eq_getElem_cons h1,List.drop_of_length_le (show d.length≤p-1+1 by omega),List.drop_of_length_le (show d.length≤p+0 by omega),h2];simp[go]
 |succ n ih =>
  intro p k hp h0 hxp;obtain⟨h1,h2⟩:=List.getElem?_eq_some_iff.1 hxp;have hpl:p<d.length:=by omega
  have hdr:d.drop (p-1)=x::d[p]::d.drop (p+1):=by
   rw[List.drop_eq_getElem_cons h1,h2,show p-1+1=p by omega,List.drop_eq_getElem_cons hpl]
  have hdp:d.drop p=d[p]::d.drop (p+1):=List.drop_eq_getElem_cons hpl;have hlt:decide ((p:Int)<len d)=true:=decide_eq_true (by simp only[len];omega);by_cases hy:d[p]=x
  ·have hxp':d[p+1-1]?=some x:=by rw[Nat.add_sub_cancel,List.getElem?_eq_getElem hpl,hy]
   obtain⟨m,q1,q2,q3⟩:=ih (p+1) (k+1) (by omega) (by omega) hxp';refine⟨m+1,.step (hok _ (by omega)) ?_ ?_,by omega,?_⟩
   ·rw[hg,hlt,vG8 d p hpl,hy];simp
   ·rw[hx,show ((p:Int)+1)=((p+1:Nat):Int) by omega,show p+(m+1)=p+1+m by omega];exact q1
   ·rw[hdr,go,if_pos hy.symm,← hdp,show p+(m+1)=p+1+m by omega,show k+(m+1)=k+1+m by omega];rw[Nat.add_sub_cancel] at q3;exact q3
  ·refine⟨0,.stop (hok _ (by omega)) ?_,by omega,?_⟩
   ·rw[hg,hlt,vG8 d p hpl];simp[hy]
   ·rw[hdr,go,if_neg (fun h=>hy h.symm),← hdp];simp
theorem uY {α:Type}[DecidableEq α] (e:α→List UInt8)(E:Nat)(he:∀ x,(e x).length≤E):∀ (l:List α) (k:Nat),(go e l k).length≤l.length*(11+E)
 |[],_=>by simp[go]
 |[x],k=>by
  have:=he x;have:=wT7 (k:Int);simp only[go,List.length_append,List.length_cons,List.length_nil];omega
 |x::y::r,k=>by
  have h1:=uY e E he (y::r) (k+1);have h2:=uY e E he (y::r) 0;have:=he x;have:=wT7 (k:Int);have e1:(x::y::r).length*(11+E)=(y::r).length*(11+E)+(11+E):=by rw[List.length_cons,Nat.add_mul,Nat.one_mul]
  rw[e1,go];split
  ·omega
  ·simp only[List.length_append];omega
def ePix (x:D45):List UInt8:=((f27 x).map wT9).flatten
theorem uN0 (x:D45):(ePix x).length≤44:=by
 simp only[ePix,f27,f27t,List.map_cons,List.map_nil,List.flatten_cons,List.flatten_nil,List.length_append,List.length_nil];have h1:=wT7 x.1;have h2:=wT7 x.2.1;have h3:=wT7 x.2.2.1;have h4:=wT7 x.2.2.2.1;omega
theorem tS7 {a b:D45}:Ty.eqb T45 a b=decide (a=b):=by
 rw[Bool.eq_iff_iff,decide_eq_true_iff];exact tW7
theorem tJ9 (d:List D45)(j:Int)(x:D45)(b:List UInt8)(hb:b.length+44≤4294967296) :
  LT (wX0 (d,(),j,f27 x,len (f27 x),())) (wV3 (d,(),j,f27 x,len (f27 x),())) (wW3 (d,(),j,f27 x,len (f27 x),())) (f27 x).length (b,0,()) (b++ePix x,((f27 x).length:Int),()):=by
 have:=uJ0 (f27 x) (g:=wX0 (d,(),j,f27 x,len (f27 x),())) (next:=wV3 (d,(),j,f27 x,len (f27 x),())) (ok:=wW3 (d,(),j,f27 x,len (f27 x),()))
  (fun _ _=>rfl) (fun _ _=>rfl) (by simp[f27,f27t]) (fun b i h hv=>by
   have h':i<len (f27 x):=of_decide_eq_true hv;obtain⟨h1,h2,h3⟩:=h h';refine⟨⟨h1,h'⟩,(wW1 _).1,?_,(show InR (i+1) from inR (by omega) (by omega))⟩;show ((b.length+(f56 (nth (f27 x) i 0)).length:Nat):Int)≤4294967296;have:=wT7 (nth (f27 x) i 0);rw[(wW1 _).2];omega) (f27 x).length 0 b (by simp) (by simp[f27,f27t];omega)
 simpa[ePix] using this
theorem tK (d:List D45)(i:Nat)(b:List UInt8)(hd:d.length≤65536)(hi:i<d.length)(hb:b.length+55≤4294967296) :
  ∃ m,i+1+m≤d.length∧wX1 (d,(),()) (b,(i:Int),())∧wV8 (d,(),()) (b,(i:Int),())=(b++wT9 (m:Int)++ePix d[i],((i+1+m:Nat):Int),())∧go ePix (d.drop i) 0=wT9 (m:Int)++ePix d[i]++go ePix (d.drop (i+1+m)) 0:=by
 have hni:=vG8 d i hi Z45;obtain⟨m,h1,h2,h3⟩:=uX9 ePix d Z45 d[i] (g:=wU6 (d,(),b,(i:Int),())) (next:=wU2 (d,(),b,(i:Int),())) (ok:=vB4 (d,(),b,(i:Int),())) (by omega) (fun p=>by
   show (bif decide ((p:Int)<len d) then Ty.eqb T45 (nth d (p:Int) Z45) (nth d (i:Int) Z45) else false)=_;rw[tS7,hni];cases decide ((p:Int)<len d)<;>rfl) (fun _=>rfl) (fun p hp=>by
   refine⟨fun h=>⟨by show 0≤(p:Int);omega,of_decide_eq_true h⟩,fun h=>⟨by show 0≤(i:Int);omega,by show (i:Int)<len d;simp only[len];omega⟩,fun h=>(show InR ((p:Int)+1) from inR (by omega) (by omega))⟩)
  (d.length-(i+1)) (i+1) 0 (by omega) (by omega) (by simp[hi])
 have hf:=h1.fix (by omega);have he:=h1.ends (by omega);rw[show (((i+1:Nat):Int))=(i:Int)+1 by omega] at hf he;have hj:(((i+1+m:Nat):Int)-(i:Int)-1)=(m:Int):=by omega
 have hlen:(b++f56 (m:Int)).length+44≤4294967296:=by
  have:=wT7 (m:Int);rw[List.length_append,(wW1 _).2];omega
 have hin:=tJ9 d ((i+1+m:Nat):Int) d[i] (b++f56 (m:Int)) hlen;have hc:(f27 d[i]).length<18446744073709551616:=by simp[f27,f27t]
 refine⟨m,h2,fun _=>?_,?_,?_⟩
 ·refine⟨(show InR ((i:Int)+1) from inR (by omega) (by omega)),he,?_⟩;show InR ((zC5 (wU6 (d,(),b,(i:Int),())) (wU2 (d,(),b,(i:Int),())) ((i:Int)+1,())).1-(i:Int))∧InR ((zC5 (wU6 (d,(),b,(i:Int),())) (wU2 (d,(),b,(i:Int),())) ((i:Int)+1,())).1-(i:Int)-1)∧vA ((zC5 (wU6 (d,(),b,(i:Int),())) (wU2 (d,(),b,(i:Int),())) ((i:Int)+1,())).1-(i:Int)-1) ∧
   ((b.length+(f56 ((zC5 (wU6 (d,(),b,(i:Int),())) (wU2 (d,(),b,(i:Int),())) ((i:Int)+1,())).1-(i:Int)-1)).length:Nat):Int)≤4294967296∧InB (i:Int) (len d)∧uO3 (nth d (i:Int) Z45) ∧
   xQ6 (wX0 (d,(),(zC5 (wU6 (d,(),b,(i:Int),())) (wU2 (d,(),b,(i:Int),())) ((i:Int)+1,())).1,f27 (nth d (i:Int) Z45),len (f27 (nth d (i:Int) Z45)),()))
    (wV3 (d,(),(zC5 (wU6 (d,(),b,(i:Int),())) (wU2 (d,(),b,(i:Int),())) ((i:Int)+1,())).1,f27 (nth d (i:Int) Z45),len (f27 (nth d (i:Int) Z45)),()))
    (wW3 (d,(),(zC5 (wU6 (d,(),b,(i:Int),())) (wU2 (d,(),b,(i:Int),())) ((i:Int)+1,())).1,f27 (nth d (i:Int) Z45),len (f27 (nth d (i:Int) Z45)),()))
    (b++f56 ((zC5 (wU6 (d,(),b,(i:Int),())) (wU2 (d,(),b,(i:Int),())) ((i:Int)+1,())).1-(i:Int)-1),0,())
  rw[hf,hni];simp only[hj];refine⟨inR (by omega) (by omega),inR (by omega) (by omega),(wW1 _).1,?_,⟨by omega,by simp only[len];omega⟩,trivial,hin.ends hc⟩;rw[List.length_append] at hlen;omega
 ·show ((zC5 (wX0 (d,(),(zC5 (wU6 (d,(),b,(i:Int),())) (wU2 (d,(),b,(i:Int),())) ((i:Int)+1,())).1,f27 (nth d (i:Int) Z45),len (f27 (nth d (i:Int) Z45)),()))
    (wV3 (d,(),(zC5 (wU6 (d,(),b,(i:Int),())) (wU2 (d,(),b,(i:Int),())) ((i:Int)+1,())).1,f27 (nth d (i:Int) Z45),len (f27 (nth d (i:Int) Z45)),()))
    (b++f56 ((zC5 (wU6 (d,(),b,(i:Int),())) (wU2 (d,(),b,(i:Int),())) ((i:Int)+1,())).1-(i:Int)-1),0,())).1,(zC5 (wU6 (d,(),b,(i:Int),())) (wU2 (d,(),b,(i:Int),())) ((i:Int)+1,())).1,())=_
  rw[hf,hni];simp only[hj];rw[hin.fix hc,(wW1 _).2]
 ·simpa using h3
theorem tK0 (d:List D45)(hd:d.length≤65536):∀ (n i:Nat) (b:List UInt8),i≤d.length→d.length≤i+n→b.length+(d.length-i)*55≤4294967296 →
  ∃ k,k≤n∧LT (wV7 (d,(),())) (wV8 (d,(),())) (wX1 (d,(),())) k (b,(i:Int),()) (b++go ePix (d.drop i) 0,(d.length:Int),()):=by
 intro n
 induction n with
 |zero =>
  intro i b h1 h2 hb;have e:(b++go ePix (d.drop i) 0,(d.length:Int),())=(b,(i:Int),()):=by
   rw[List.drop_of_length_le (by omega),show d.length=i by omega];simp[go]
  rw[e];have hg:wV7 (d,(),()) (b,(i:Int),())=false:=decide_eq_false (by show ¬ ((i:Int)<len d);simp only[len];omega);exact⟨0,Nat.le_refl _,.stop (fun h=>by have:wV7 (d,(),()) (b,(i:Int),())=true:=h;rw[hg] at this;cases this) hg⟩
 |succ n ih =>
  intro i b h1 h2 hb;by_cases hi:i<d.length
  ·obtain⟨m,q1,q2,q3,q4⟩:=tK d i b hd hi (by omega);have hm:=wT7 (m:Int);have hel:=uN0 d[i];obtain⟨k,r1,r2⟩:=ih (i+1+m) (b++wT9 (m:Int)++ePix d[i]) q1 (by omega) (by simp only[List.length_append];omega);refine⟨k+1,by omega,.step q2 (decide_eq_true (by show (i:Int)<len d;simp only[len];omega)) ?_⟩;rw[q3,q4];simpa only[List.append_assoc] using r2
  ·have e:(b++go ePix (d.drop i) 0,(d.length:Int),())=(b,(i:Int),()):=by
    rw[List.drop_of_length_le (by omega),show d.length=i by omega];simp[go]
   rw[e];have hg:wV7 (d,(),()) (b,(i:Int),())=false:=decide_eq_false (by show ¬ ((i:Int)<len d);simp only[len];omega);exact⟨0,Nat.zero_le _,.stop (fun h=>by have:wV7 (d,(),()) (b,(i:Int),())=true:=h;rw[hg] at this;cases this) hg⟩
theorem uY0 (w h:Int)(d:List D45)(hd:d.length≤65536):vH8 w h d ()∧uO6 w h d ()=wT9 w++wT9 h++go ePix d 0:=by
 have hw:=wT7 w;have hh:=wT7 h;obtain⟨k,h1,h2⟩:=tK0 d hd d.length 0 (wT9 w++wT9 h) (by omega) (by omega) (by simp only[List.length_append];omega);rw[List.drop_zero] at h2;have e1:=(wW1 w).2;have e2:=(wW1 h).2;constructor
 ·refine⟨(wW1 w).1,?_,(wW1 h).1,?_,?_⟩
  ·show ((0+(f56 w).length:Nat):Int)≤4294967296;rw[e1];omega
  ·show ((([]++f56 w).length+(f56 h).length:Nat):Int)≤4294967296;rw[e1,e2,List.nil_append];omega
  ·show xQ6 (wV7 (d,(),())) (wV8 (d,(),())) (wX1 (d,(),())) ([]++f56 w++f56 h,0,());rw[e1,e2];exact h2.ends (by omega)
 ·show (zC5 (wV7 (d,(),())) (wV8 (d,(),())) ([]++f56 w++f56 h,0,())).1=_;rw[e1,e2];exact congrArg (·.1) (h2.fix (by omega))
def eInt (x:Int):List UInt8:=((f32 x).map wT9).flatten
theorem uN1 (x:Int):(eInt x).length≤44:=by
 simp only[eInt,f32,f32t,List.map_cons,List.map_nil,List.flatten_cons,List.flatten_nil,List.length_append,List.length_nil];have h1:=wT7 x;omega
theorem tS8 {a b:Int}:BEq.beq a b=decide (a=b):=by
 rw[Bool.eq_iff_iff,decide_eq_true_iff];exact beq_iff_eq
theorem tK1 (d:List Int)(j:Int)(x:Int)(b:List UInt8)(hb:b.length+44≤4294967296) :
  LT (wX3 (d,(),j,f32 x,len (f32 x),())) (wV4 (d,(),j,f32 x,len (f32 x),())) (wW4 (d,(),j,f32 x,len (f32 x),())) (f32 x).length (b,0,()) (b++eInt x,((f32 x).length:Int),()):=by
 have:=uJ0 (f32 x) (g:=wX3 (d,(),j,f32 x,len (f32 x),())) (next:=wV4 (d,(),j,f32 x,len (f32 x),())) (ok:=wW4 (d,(),j,f32 x,len (f32 x),()))
  (fun _ _=>rfl) (fun _ _=>rfl) (by simp[f32,f32t]) (fun b i h hv=>by
   have h':i<len (f32 x):=of_decide_eq_true hv;obtain⟨h1,h2,h3⟩:=h h';refine⟨⟨h1,h'⟩,(wW1 _).1,?_,(show InR (i+1) from inR (by omega) (by omega))⟩;show ((b.length+(f56 (nth (f32 x) i 0)).length:Nat):Int)≤4294967296;have:=wT7 (nth (f32 x) i 0);rw[(wW1 _).2];omega) (f32 x).length 0 b (by simp) (by simp[f32,f32t];omega)
 simpa[eInt] using this
theorem tK2 (d:List Int)(i:Nat)(b:List UInt8)(hd:d.length≤65536)(hi:i<d.length)(hb:b.length+55≤4294967296) :
  ∃ m,i+1+m≤d.length∧wX4 (d,(),()) (b,(i:Int),())∧wW (d,(),()) (b,(i:Int),())=(b++wT9 (m:Int)++eInt d[i],((i+1+m:Nat):Int),())∧go eInt (d.drop i) 0=wT9 (m:Int)++eInt d[i]++go eInt (d.drop (i+1+m)) 0:=by
 have hni:=vG8 d i hi 0;obtain⟨m,h1,h2,h3⟩:=uX9 eInt d 0 d[i] (g:=wU7 (d,(),b,(i:Int),())) (next:=wU3 (d,(),b,(i:Int),())) (ok:=vB6 (d,(),b,(i:Int),())) (by omega) (fun p=>by
   show (bif decide ((p:Int)<len d) then BEq.beq (nth d (p:Int) 0) (nth d (i:Int) 0) else false)=_;rw[tS8,hni];cases decide ((p:Int)<len d)<;>rfl) (fun _=>rfl) (fun p hp=>by
   refine⟨fun h=>⟨by show 0≤(p:Int);omega,of_decide_eq_true h⟩,fun h=>⟨by show 0≤(i:Int);omega,by show (i:Int)<len d;simp only[len];omega⟩,fun h=>(show InR ((p:Int)+1) from inR (by omega) (by omega))⟩)
  (d.length-(i+1)) (i+1) 0 (by omega) (by omega) (by simp[hi])
 have hf:=h1.fix (by omega);have he:=h1.ends (by omega);rw[show (((i+1:Nat):Int))=(i:Int)+1 by omega] at hf he;have hj:(((i+1+m:Nat):Int)-(i:Int)-1)=(m:Int):=by omega
 have hlen:(b++f56 (m:Int)).length+44≤4294967296:=by
  have:=wT7 (m:Int);rw[List.length_append,(wW1 _).2];omega
 have hin:=tK1 d ((i+1+m:Nat):Int) d[i] (b++f56 (m:Int)) hlen;have hc:(f32 d[i]).length<18446744073709551616:=by simp[f32,f32t]
 refine⟨m,h2,fun _=>?_,?_,?_⟩
 ·refine⟨(show InR ((i:Int)+1) from inR (by omega) (by omega)),he,?_⟩;show InR ((zC5 (wU7 (d,(),b,(i:Int),())) (wU3 (d,(),b,(i:Int),())) ((i:Int)+1,())).1-(i:Int))∧InR ((zC5 (wU7 (d,(),b,(i:Int),())) (wU3 (d,(),b,(i:Int),())) ((i:Int)+1,())).1-(i:Int)-1)∧vA ((zC5 (wU7 (d,(),b,(i:Int),())) (wU3 (d,(),b,(i:Int),())) ((i:Int)+1,())).1-(i:Int)-1) ∧
   ((b.length+(f56 ((zC5 (wU7 (d,(),b,(i:Int),())) (wU3 (d,(),b,(i:Int),())) ((i:Int)+1,())).1-(i:Int)-1)).length:Nat):Int)≤4294967296∧InB (i:Int) (len d)∧uO9 (nth d (i:Int) 0) ∧
   xQ6 (wX3 (d,(),(zC5 (wU7 (d,(),b,(i:Int),())) (wU3 (d,(),b,(i:Int),())) ((i:Int)+1,())).1,f32 (nth d (i:Int) 0),len (f32 (nth d (i:Int) 0)),()))
    (wV4 (d,(),(zC5 (wU7 (d,(),b,(i:Int),())) (wU3 (d,(),b,(i:Int),())) ((i:Int)+1,())).1,f32 (nth d (i:Int) 0),len (f32 (nth d (i:Int) 0)),()))
    (wW4 (d,(),(zC5 (wU7 (d,(),b,(i:Int),())) (wU3 (d,(),b,(i:Int),())) ((i:Int)+1,())).1,f32 (nth d (i:Int) 0),len (f32 (nth d (i:Int) 0)),()))
    (b++f56 ((zC5 (wU7 (d,(),b,(i:Int),())) (wU3 (d,(),b,(i:Int),())) ((i:Int)+1,())).1-(i:Int)-1),0,())
  rw[hf,hni];simp only[hj];refine⟨inR (by omega) (by omega),inR (by omega) (by omega),(wW1 _).1,?_,⟨by omega,by simp only[len];omega⟩,trivial,hin.ends hc⟩;rw[List.length_append] at hlen;omega
 ·show ((zC5 (wX3 (d,(),(zC5 (wU7 (d,(),b,(i:Int),())) (wU3 (d,(),b,(i:Int),())) ((i:Int)+1,())).1,f32 (nth d (i:Int) 0),len (f32 (nth d (i:Int) 0)),()))
    (wV4 (d,(),(zC5 (wU7 (d,(),b,(i:Int),())) (wU3 (d,(),b,(i:Int),())) ((i:Int)+1,())).1,f32 (nth d (i:Int) 0),len (f32 (nth d (i:Int) 0)),()))
    (b++f56 ((zC5 (wU7 (d,(),b,(i:Int),())) (wU3 (d,(),b,(i:Int),())) ((i:Int)+1,())).1-(i:Int)-1),0,())).1,(zC5 (wU7 (d,(),b,(i:Int),())) (wU3 (d,(),b,(i:Int),())) ((i:Int)+1,())).1,())=_
  rw[hf,hni];simp only[hj];rw[hin.fix hc,(wW1 _).2]
 ·simpa using h3
theorem tK3 (d:List Int)(hd:d.length≤65536):∀ (n i:Nat) (b:List UInt8),i≤d.length→d.length≤i+n→b.length+(d.length-i)*55≤4294967296 →
  ∃ k,k≤n∧LT (wV9 (d,(),())) (wW (d,(),())) (wX4 (d,(),())) k (b,(i:Int),()) (b++go eInt (d.drop i) 0,(d.length:Int),()):=by
 intro n
 induction n with
 |zero =>
  intro i b h1 h2 hb;have e:(b++go eInt (d.drop i) 0,(d.length:Int),())=(b,(i:Int),()):=by
   rw[List.drop_of_length_le (by omega),show d.length=i by omega];simp[go]
  rw[e];have hg:wV9 (d,(),()) (b,(i:Int),())=false:=decide_eq_false (by show ¬ ((i:Int)<len d);simp only[len];omega);exact⟨0,Nat.le_refl _,.stop (fun h=>by have:wV9 (d,(),()) (b,(i:Int),())=true:=h;rw[hg] at this;cases this) hg⟩
 |succ n ih =>
  intro i b h1 h2 hb;by_cases hi:i<d.length
  ·obtain⟨m,q1,q2,q3,q4⟩:=tK2 d i b hd hi (by omega);have hm:=wT7 (m:Int);have hel:=uN1 d[i];obtain⟨k,r1,r2⟩:=ih (i+1+m) (b++wT9 (m:Int)++eInt d[i]) q1 (by omega) (by simp only[List.length_append];omega);refine⟨k+1,by omega,.step q2 (decide_eq_true (by show (i:Int)<len d;simp only[len];omega)) ?_⟩;rw[q3,q4];simpa only[List.append_assoc] using r2
  ·have e:(b++go eInt (d.drop i) 0,(d.length:Int),())=(b,(i:Int),()):=by
    rw[List.drop_of_length_le (by omega),show d.length=i by omega];simp[go]
   rw[e];have hg:wV9 (d,(),()) (b,(i:Int),())=false:=decide_eq_false (by show ¬ ((i:Int)<len d);simp only[len];omega);exact⟨0,Nat.zero_le _,.stop (fun h=>by have:wV9 (d,(),()) (b,(i:Int),())=true:=h;rw[hg] at this;cases this) hg⟩
theorem uY1 (w h:Int)(d:List Int)(hd:d.length≤65536):vI0 w h d ()∧uP1 w h d ()=wT9 w++wT9 h++go eInt d 0:=by
 have hw:=wT7 w;have hh:=wT7 h;obtain⟨k,h1,h2⟩:=tK3 d hd d.length 0 (wT9 w++wT9 h) (by omega) (by omega) (by simp only[List.length_append];omega);rw[List.drop_zero] at h2;have e1:=(wW1 w).2;have e2:=(wW1 h).2;constructor
 ·refine⟨(wW1 w).1,?_,(wW1 h).1,?_,?_⟩
  ·show ((0+(f56 w).length:Nat):Int)≤4294967296;rw[e1];omega
  ·show ((([]++f56 w).length+(f56 h).length:Nat):Int)≤4294967296;rw[e1,e2,List.nil_append];omega
  ·show xQ6 (wV9 (d,(),())) (wW (d,(),())) (wX4 (d,(),())) ([]++f56 w++f56 h,0,());rw[e1,e2];exact h2.ends (by omega)
 ·show (zC5 (wV9 (d,(),())) (wW (d,(),())) ([]++f56 w++f56 h,0,())).1=_;rw[e1,e2];exact congrArg (·.1) (h2.fix (by omega))
end Go.Proofs.YtbiemgjkkhkdeaaGreatDoor.Am
