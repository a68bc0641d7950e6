/- Clips and references in plain words. Condition: at most 64 nodes. -/
import Derived.Test.YtpanghcojpnkaaaGreatDoorDocBe
import Derived.Test.YtpanghcojpnkaaaGreatDoorDocW
namespace Go.Proofs.YtpanghcojpnkaaaGreatDoor.Am
open Go Go.Am
def clL (l:List D49)(j:Nat):Bool:=(nth l (j:Int) Z49).2.2.2.2.2.2.1
def CAt (l:List D49)(j:Nat):Prop:=clL l j=true→∃ b,b<j∧paL l b=paL l j∧clL l b=false∧f54 (nth l (b:Int) Z49)=false∧∀ k,b<k→k<j→paL l k≠paL l j∨clL l k=true
theorem qM9 (p:D28)(j:Nat)(hj:(j:Int)<len p.2.2.2.1)(hn:len p.2.2.2.1≤64)(y3 y4:Int)(y2:List D49) :
  ∃ x:Int,zC3 (wD3 (p,nth p.2.2.2.1 (j:Int) Z49,y2,y3,y4,())) (xZ5 (p,nth p.2.2.2.1 (j:Int) Z49,y2,y3,y4,())) ((j:Int)-1,())=(x,())∧(x<0∨∃ b:Nat,x=(b:Int)∧b<j∧paL p.2.2.2.1 b=paL p.2.2.2.1 j∧clL p.2.2.2.1 b=false)∧∀ k:Nat,x<(k:Int)→k<j→paL p.2.2.2.1 k≠paL p.2.2.2.1 j∨clL p.2.2.2.1 k=true:=by
 have w:=xQ0 (g:=wD3 (p,nth p.2.2.2.1 (j:Int) Z49,y2,y3,y4,())) (next:=xZ5 (p,nth p.2.2.2.1 (j:Int) Z49,y2,y3,y4,())) (fun x=>(-1≤x.1∧x.1<(j:Int))∧∀ k:Nat,x.1<(k:Int)→k<j→paL p.2.2.2.1 k≠paL p.2.2.2.1 j∨clL p.2.2.2.1 k=true) (fun x=>(x.1+1).toNat) (fun x hx hg=>?_) (x:=((j:Int)-1,()))
  ⟨⟨by simp only;omega,by simp only;omega⟩,fun k h1 h2=>by simp only at h1;omega⟩ (by unfold zI1;simp only;omega)
 ·generalize zC3 (wD3 (p,nth p.2.2.2.1 (j:Int) Z49,y2,y3,y4,())) (xZ5 (p,nth p.2.2.2.1 (j:Int) Z49,y2,y3,y4,())) ((j:Int)-1,())=z at w
  obtain⟨x,⟨⟩⟩:=z
  obtain⟨⟨⟨h1,h2⟩,h3⟩,hg⟩:=w
  refine⟨x,rfl,?_,h3⟩
  by_cases hx:x<0
  ·exact .inl hx
  ·right
   simp only at h2
   obtain⟨b,rfl⟩:∃ b:Nat,x=(b:Int):=⟨x.toNat,by omega⟩
   have hg':(bif decide ((b:Int)≥0) then (bif ((nth p.2.2.2.1 (b:Int) Z49).2.2.1 !=(nth p.2.2.2.1 (j:Int) Z49).2.2.1) then true else (nth p.2.2.2.1 (b:Int) Z49).2.2.2.2.2.2.1) else false)=false:=hg
   rw[decide_eq_true (by omega),jE,Bool.cond_true_left,jJ,bne_eq_false_iff_eq] at hg'
   exact⟨b,rfl,by omega,hg'.1,hg'.2⟩
 ·obtain⟨⟨h1,h2⟩,h3⟩:=hx
  obtain⟨x,⟨⟩⟩:=x
  simp only at h1 h2 h3
  have hg':(bif decide (x≥0) then (bif ((nth p.2.2.2.1 x Z49).2.2.1 !=(nth p.2.2.2.1 (j:Int) Z49).2.2.1) then true else (nth p.2.2.2.1 x Z49).2.2.2.2.2.2.1) else false)=true:=hg
  have hx0:0≤x:=by
   refine Int.not_lt.1 fun hh=>?_
   rw[decide_eq_false (by omega)] at hg'
   cases hg'
  rw[decide_eq_true hx0,jE,Bool.cond_true_left,Bool.or_eq_true,bne_iff_ne] at hg'
  refine⟨⟨⟨(show -1≤x-1 by omega),(show x-1<(j:Int) by omega)⟩,fun k hk hkj=>?_⟩,(show (x-1+1).toNat<(x+1).toNat by omega)⟩
  have hk':x-1<(k:Int):=hk
  by_cases e:x=(k:Int)
  ·subst e;exact hg'
  ·exact h3 k (by omega) hkj
def oS2 (p:D28)(x:wO7):Prop:=∃ i:Nat,x=(p,p.2.2.2.1,len p.2.2.2.1,(i:Int),())∧(i:Int)≤len p.2.2.2.1∧∀ j,j<i→CAt p.2.2.2.1 j
theorem tW (p:D28)(i:Nat)(hi:(i:Int)<len p.2.2.2.1)(hn:len p.2.2.2.1≤64):(wO8 () (p,p.2.2.2.1,len p.2.2.2.1,(i:Int),())=true↔CAt p.2.2.2.1 i)∧(wO8 () (p,p.2.2.2.1,len p.2.2.2.1,(i:Int),())=false→vA3 () (p,p.2.2.2.1,len p.2.2.2.1,(i:Int),())=true):=by
 obtain⟨x,hx,h1,h2⟩:=qM9 p i hi hn (len p.2.2.2.1) (i:Int) p.2.2.2.1
 have hg:wO8 () (p,p.2.2.2.1,len p.2.2.2.1,(i:Int),())=(decide ((i:Int)<len p.2.2.2.1)&&((!clL p.2.2.2.1 i)||((!(!clL p.2.2.2.1 i))&&((!decide ((zC3 (wD3 (p,nth p.2.2.2.1 (i:Int) Z49,p.2.2.2.1,len p.2.2.2.1,(i:Int),())) (xZ5 (p,nth p.2.2.2.1 (i:Int) Z49,p.2.2.2.1,len p.2.2.2.1,(i:Int),())) ((i:Int)-1,())).1<0))&&(!f54 (nth p.2.2.2.1 ((zC3 (wD3 (p,nth p.2.2.2.1 (i:Int) Z49,p.2.2.2.1,len p.2.2.2.1,(i:Int),())) (xZ5 (p,nth p.2.2.2.1 (i:Int) Z49,p.2.2.2.1,len p.2.2.2.1,(i:Int),())) ((i:Int)-1,())).1) Z49)))))):=rfl
 have he:vA3 () (p,p.2.2.2.1,len p.2.2.2.1,(i:Int),())=(decide ((i:Int)<len p.2.2.2.1)&&((!(!clL p.2.2.2.1 i))&&((decide ((zC3 (wD3 (p,nth p.2.2.2.1 (i:Int) Z49,p.2.2.2.1,len p.2.2.2.1,(i:Int),())) (xZ5 (p,nth p.2.2.2.1 (i:Int) Z49,p.2.2.2.1,len p.2.2.2.1,(i:Int),())) ((i:Int)-1,())).1<0))||((!decide ((zC3 (wD3 (p,nth p.2.2.2.1 (i:Int) Z49,p.2.2.2.1,len p.2.2.2.1,(i:Int),())) (xZ5 (p,nth p.2.2.2.1 (i:Int) Z49,p.2.2.2.1,len p.2.2.2.1,(i:Int),())) ((i:Int)-1,())).1<0))&&f54 (nth p.2.2.2.1 ((zC3 (wD3 (p,nth p.2.2.2.1 (i:Int) Z49,p.2.2.2.1,len p.2.2.2.1,(i:Int),())) (xZ5 (p,nth p.2.2.2.1 (i:Int) Z49,p.2.2.2.1,len p.2.2.2.1,(i:Int),())) ((i:Int)-1,())).1) Z49))))):=rfl
 rw[hx] at hg he
 rw[decide_eq_true hi] at hg he
 rw[hg,he]
 constructor
 ·unfold CAt
  cases hc:clL p.2.2.2.1 i with
  |false=>simp
  |true =>
   simp only[Bool.true_and,Bool.not_true,Bool.false_or,Bool.not_false,jB,jK,decide_eq_false_iff_not,forall_const]
   constructor
   ·rintro⟨q1,q2⟩
    rcases h1 with h1|⟨b,rfl,b1,b2,b3⟩
    ·exact absurd h1 q1
    ·exact⟨b,b1,b2,b3,q2,fun k k1 k2=>h2 k (by omega) k2⟩
   ·rintro⟨b,b1,b2,b3,b4,b5⟩
    rcases h1 with h1|⟨b',rfl,b1',b2',b3'⟩
    ·rcases h2 b (by omega) b1 with q|q
     ·exact absurd b2 q
     ·rw[b3] at q;cases q
    ·have:b'=b:=by
      rcases Nat.lt_trichotomy b b' with q|q|q
      ·rcases b5 b' q b1' with r|r
       ·exact absurd b2' r
       ·rw[b3'] at r;cases r
      ·exact q.symm
      ·rcases h2 b (by omega) b1 with r|r
       ·exact absurd b2 r
       ·rw[b3] at r;cases r
     subst this
     exact⟨by omega,b4⟩
 ·generalize clL p.2.2.2.1 i=b1
  generalize decide ((x,()).1<0)=b2
  generalize f54 _=b3
  cases b1<;>cases b2<;>cases b3<;>simp
theorem qN (p:D28)(hn:len p.2.2.2.1≤64):f25 p=0↔∀ j:Nat,(j:Int)<len p.2.2.2.1→CAt p.2.2.2.1 j:=by
 have h0n:=xT7 p.2.2.2.1
 have w:=xQ0 (g:=wO8 ()) (next:=wB7 ()) (oS2 p) (fun x=>(len p.2.2.2.1-x.2.2.2.1).toNat) (fun x hx hg=>?_) (x:=(p,p.2.2.2.1,len p.2.2.2.1,(0:Int),())) ⟨0,rfl,by omega,fun j hj=>by omega⟩ (by unfold zI1;simp only;omega)
 ·show (bif vA3 () (zC3 (wO8 ()) (wB7 ()) (p,p.2.2.2.1,len p.2.2.2.1,(0:Int),())) then vL5 () (zC3 (wO8 ()) (wB7 ()) (p,p.2.2.2.1,len p.2.2.2.1,(0:Int),())) else (0:Int))=0↔_
  generalize zC3 (wO8 ()) (wB7 ()) (p,p.2.2.2.1,len p.2.2.2.1,(0:Int),())=z at w
  obtain⟨⟨i,rfl,hi1,hN⟩,hgz⟩:=w
  by_cases hlt:(i:Int)<len p.2.2.2.1
  ·obtain⟨q1,q2⟩:=tW p i hlt hn
   rw[q2 hgz,jE]
   constructor
   ·intro h
    exfalso
    revert h
    simp only[vL5]
    generalize decide (_<(0:Int))=b
    cases b<;>decide
   ·intro h
    rw[q1.2 (h i hlt)] at hgz;cases hgz
  ·have he:vA3 () (p,p.2.2.2.1,len p.2.2.2.1,(i:Int),())=false:=by
    simp only[vA3,vL4,decide_eq_false hlt,Bool.false_and]
   rw[he,jD]
   exact⟨fun _ j hj=>hN j (by omega),fun _=>rfl⟩
 ·obtain⟨i,rfl,hi1,hN⟩:=hx
  have hlt:(i:Int)<len p.2.2.2.1:=xZ1 hg
  have hA:=(tW p i hlt hn).1.1 hg
  have en:wB7 () (p,p.2.2.2.1,len p.2.2.2.1,(i:Int),())=(p,p.2.2.2.1,len p.2.2.2.1,(i:Int)+1,()):=by
   simp only[wB7,vL4]
   cases (!(nth p.2.2.2.1 (i:Int) Z49).2.2.2.2.2.2.1)<;>rfl
  rw[en]
  refine⟨⟨i+1,by simp,by omega,fun j hj=>?_⟩,(show (len p.2.2.2.1-((i:Int)+1)).toNat<(len p.2.2.2.1-(i:Int)).toNat by omega)⟩
  by_cases e:j=i
  ·subst e;exact hA
  ·exact hN j (by omega)
def RAt (p:D28)(j:Nat):Prop:=(kdL p.2.2.2.1 j=9→tT8 p.2.2.2.2.2.2.2.1 (nth p.2.2.2.1 (j:Int) Z49,())=true) ∧
 (kdL p.2.2.2.1 j=10→¬ f8 p (nth p.2.2.2.1 (j:Int) Z49).2.2.2.2.2.2.2.2.2.2.2.2.2.2.2.2.2.2.2.2.2.2.2.2.2.2.1<0∧f54 (nth p.2.2.2.1 (f8 p (nth p.2.2.2.1 (j:Int) Z49).2.2.2.2.2.2.2.2.2.2.2.2.2.2.2.2.2.2.2.2.2.2.2.2.2.2.1) Z49)=false)
theorem sQ0 (p:D28)(i:Nat)(hi:(i:Int)<len p.2.2.2.1):(wR2 (p,p.2.2.2.1,len p.2.2.2.1,()) ((i:Int),())=true↔RAt p i)∧(wR2 (p,p.2.2.2.1,len p.2.2.2.1,()) ((i:Int),())=false→vA5 (p,p.2.2.2.1,len p.2.2.2.1,()) ((i:Int),())=true):=by
 have hd:=decide_eq_true hi
 simp only[wR2,vA5,vR7,hd,Bool.true_and]
 unfold RAt
 have k9:((nth p.2.2.2.1 (i:Int) Z49).2.1==9)=true↔kdL p.2.2.2.1 i=9:=by rw[beq_iff_eq];rfl
 have k10:((nth p.2.2.2.1 (i:Int) Z49).2.1==10)=true↔kdL p.2.2.2.1 i=10:=by rw[beq_iff_eq];rfl
 rw[← k9,← k10]
 have hne:((nth p.2.2.2.1 (i:Int) Z49).2.1==9)=true→((nth p.2.2.2.1 (i:Int) Z49).2.1==10)=false:=fun h=>by
  rw[beq_iff_eq] at h;rw[h];rfl
 generalize ((nth p.2.2.2.1 (i:Int) Z49).2.1==9)=b1 at hne ⊢
 generalize ((nth p.2.2.2.1 (i:Int) Z49).2.1==10)=b2 at hne ⊢
 generalize tT8 _ _=b3
 have hdd:(¬ f8 p (nth p.2.2.2.1 (i:Int) Z49).2.2.2.2.2.2.2.2.2.2.2.2.2.2.2.2.2.2.2.2.2.2.2.2.2.2.1<0)↔decide (f8 p (nth p.2.2.2.1 (i:Int) Z49).2.2.2.2.2.2.2.2.2.2.2.2.2.2.2.2.2.2.2.2.2.2.2.2.2.2.1<0)=false:=by simp
 rw[hdd]
 generalize decide (f8 p (nth p.2.2.2.1 (i:Int) Z49).2.2.2.2.2.2.2.2.2.2.2.2.2.2.2.2.2.2.2.2.2.2.2.2.2.2.1<0)=b4
 generalize f54 _=b5
 cases b1<;>cases b2<;>cases b3<;>cases b4<;>cases b5<;>simp at hne ⊢
theorem rA6 (p:D28)(hn:len p.2.2.2.1≤64):f27 p=0↔∀ j:Nat,(j:Int)<len p.2.2.2.1→RAt p j:=by
 have h0n:=xT7 p.2.2.2.1
 have w:=xQ0 (g:=wR2 (p,p.2.2.2.1,len p.2.2.2.1,())) (next:=wM1 (p,p.2.2.2.1,len p.2.2.2.1,())) (fun x=>∃ i:Nat,x.1=(i:Int)∧(i:Int)≤len p.2.2.2.1∧∀ j,j<i→RAt p j) (fun x=>(len p.2.2.2.1-x.1).toNat) (fun x hx hg=>?_) (x:=((0:Int),())) ⟨0,rfl,by omega,fun j hj=>by omega⟩ (by unfold zI1;simp only;omega)
 ·show (bif vA5 (p,p.2.2.2.1,len p.2.2.2.1,()) (zC3 (wR2 (p,p.2.2.2.1,len p.2.2.2.1,())) (wM1 (p,p.2.2.2.1,len p.2.2.2.1,())) ((0:Int),())) then vL9 (p,p.2.2.2.1,len p.2.2.2.1,()) (zC3 (wR2 (p,p.2.2.2.1,len p.2.2.2.1,())) (wM1 (p,p.2.2.2.1,len p.2.2.2.1,())) ((0:Int),())) else (0:Int))=0↔_
  generalize zC3 (wR2 (p,p.2.2.2.1,len p.2.2.2.1,())) (wM1 (p,p.2.2.2.1,len p.2.2.2.1,())) ((0:Int),())=z at w
  obtain⟨⟨i,hi0,hi1,hN⟩,hgz⟩:=w
  obtain⟨i',⟨⟩⟩:=z
  simp only at hi0
  subst hi0
  by_cases hlt:(i:Int)<len p.2.2.2.1
  ·obtain⟨q1,q2⟩:=sQ0 p i hlt
   rw[q2 hgz,jE]
   constructor
   ·intro h
    exfalso
    revert h
    simp only[vL9]
    generalize ((nth p.2.2.2.1 (i:Int) Z49).2.1==9)=b1
    generalize decide (_<(0:Int))=b
    cases b1<;>cases b<;>decide
   ·intro h
    rw[q1.2 (h i hlt)] at hgz;cases hgz
  ·have he:vA5 (p,p.2.2.2.1,len p.2.2.2.1,()) ((i:Int),())=false:=by
    simp only[vA5,vR7,decide_eq_false hlt,Bool.false_and]
   rw[he,jD]
   exact⟨fun _ j hj=>hN j (by omega),fun _=>rfl⟩
 ·obtain⟨i,hi0,hi1,hN⟩:=hx
  obtain⟨i',⟨⟩⟩:=x
  simp only at hi0
  subst hi0
  have hlt:(i:Int)<len p.2.2.2.1:=xZ1 hg
  have hA:=(sQ0 p i hlt).1.1 hg
  refine⟨⟨i+1,by show (i:Int)+1=_;omega,by omega,fun j hj=>?_⟩,(show (len p.2.2.2.1-((i:Int)+1)).toNat<(len p.2.2.2.1-(i:Int)).toNat by omega)⟩
  by_cases e:j=i
  ·subst e;exact hA
  ·exact hN j (by omega)
end Go.Proofs.YtpanghcojpnkaaaGreatDoor.Am
namespace Go.Proofs.YtpanghcojpnkaaaGreatDoor.Am
open Go Go.Am
def Src (p:D28)(a i:Nat):Prop:=(a:Int)∈f60 p (i:Int)
inductive Rc (p:D28):Nat→Nat→Prop
 |refl (i:Nat):Rc p i i
 |step {a i t:Nat}:Src p a i→Rc p a t→Rc p i t
theorem oH2 {p:D28}{a b c:Nat}(h:Rc p a b)(hs:Src p c b):Rc p a c:=by
 induction h with
 |refl=>exact .step hs (.refl _)
 |step h1 _ ih=>exact .step h1 (ih hs)
theorem oQ0 {p:D28}{i:Nat}(h:Acc (Src p) i):∀ a,Src p a i→¬ Rc p a i:=by
 induction h with
 |intro i _ ih =>
  intro a ha hr
  cases hr with
  |refl=>exact ih _ ha _ ha (.refl _)
  |@step a1 _ _ h1 h2=>exact ih a ha a1 h1 (oH2 h2 ha)
def On (d:List Bool)(j:Nat):Prop:=d.getD j false=true
theorem uY (d:List Bool)(j:Nat):nth d (j:Int) false=d.getD j false:=by
 show d.getD (j:Int).toNat false=_
 rw[Int.toNat_natCast]
theorem vY6 {d:List Bool}{i j:Nat}(hi:i<d.length):On (List.set d i true) j↔j=i∨On d j:=by
 unfold On
 by_cases h:j=i
 ·subst h
  rw[jM,List.getElem?_set_self hi]
  simp
 ·rw[jM,List.getElem?_set_ne (fun e=>h e.symm),← jM]
  exact⟨.inr,fun q=>q.resolve_left h⟩
structure VisIn (p:D28) (d b:List Bool):Prop where
 ld:len d=len p.2.2.2.1
 lb:len b=len p.2.2.2.1
 sub:∀ j,On d j→On b j
 acc:∀ j,On d j→Acc (Src p) j
structure yL4 (p:D28) (i:Nat) (d b:List Bool) (v:Bool) (o:List Bool×List Bool×D28×Unit):Prop where
 doc:o.2.2.1=p
 un:unb o.2.1≤unb b
 out:v=false→VisIn p o.1 o.2.1∧On o.1 i∧(∀ j,On d j→On o.1 j)∧(∀ j,On b j→On o.2.1 j)∧∀ j,On o.2.1 j→¬ On o.1 j→On b j∧¬ On d j
 full:Acc (Src p) i→(∀ t,On b t→¬ On d t→¬ Rc p i t)→v=false
def oQ1 (p:D28)(k:Nat)(r:xZ3):Prop:=∀ (i:Nat) (d b:List Bool),(i:Int)<len p.2.2.2.1→VisIn p d b→unb b<k→yL4 p i d b (r (i:Int) d b p ()).2.1 (r (i:Int) d b p ()).2.2
def yC (i:Int)(l:List Int):xZ7:=(i,(),l,len l,())
theorem pD1 {p:D28}{k:Nat}{r:xZ3}(hr:oQ1 p k r)(hn:len p.2.2.2.1≤64){i:Nat}(hi:(i:Int)<len p.2.2.2.1){d b:List Bool}(hv:VisIn p d b)(hbi:¬ On b i)(hu:unb b<k+1) :
  ∃ z:xY5,zC3 (xZ8 r (yC (i:Int) (f60 p (i:Int)))) (xY8 r (yC (i:Int) (f60 p (i:Int)))) (d,List.set b i true,p,(0:Int),())=z ∧
   xZ8 r (yC (i:Int) (f60 p (i:Int))) z=false∧z.2.2.1=p∧unb z.2.1≤unb b ∧
   (wC2 r (yC (i:Int) (f60 p (i:Int))) z=false→VisIn p z.1 z.2.1∧(∀ a,Src p a i→On z.1 a)∧(∀ j,On d j→On z.1 j)∧(∀ j,On b j→On z.2.1 j)∧On z.2.1 i∧∀ j,On z.2.1 j→¬ On z.1 j→j=i∨(On b j∧¬ On d j)) ∧
   (Acc (Src p) i→(∀ t,On b t→¬ On d t→¬ Rc p i t)→wC2 r (yC (i:Int) (f60 p (i:Int))) z=false) ∧
   (wC2 r (yC (i:Int) (f60 p (i:Int))) z=true→(r (nth (f60 p (i:Int)) z.2.2.2.1 0) z.1 z.2.1 z.2.2.1 ()).2.2.2.2.1=p∧unb (r (nth (f60 p (i:Int)) z.2.2.2.1 0) z.1 z.2.1 z.2.2.1 ()).2.2.2.1≤unb b):=by
 have lp:(p.2.2.2.1.length:Int)=len p.2.2.2.1:=rfl
 have hib:i<b.length:=by have:=hv.lb;unfold len at this hi;omega
 have hs:=qL0 p (i:Int) ⟨by omega,hi⟩ hn
 have hlb1:len (List.set b i true)=len p.2.2.2.1:=by rw[wC0];exact hv.lb
 have hu1:unb (List.set b i true)+1=unb b:=sZ6 hib (by
  cases h:b.getD i false with
  |false=>rfl
  |true=>exact absurd h hbi)
 let inv:xY5→Prop:=fun x=>∃ q:Nat,x.2.2.2.1=(q:Int)∧(q:Int)≤len (f60 p (i:Int))∧x.2.2.1=p∧unb x.2.1≤unb (List.set b i true)∧VisIn p x.1 x.2.1 ∧
  (∀ t,t<q→∃ a:Nat,nth (f60 p (i:Int)) (t:Int) 0=(a:Int)∧On x.1 a)∧(∀ j,On d j→On x.1 j)∧(∀ j,On (List.set b i true) j→On x.2.1 j)∧∀ j,On x.2.1 j→¬ On x.1 j→j=i∨(On b j∧¬ On d j)
 have src:∀ q:Nat,(q:Int)<len (f60 p (i:Int))→∃ a:Nat,nth (f60 p (i:Int)) (q:Int) 0=(a:Int)∧(a:Int)<len p.2.2.2.1∧Src p a i:=fun q hq=>by
  have hm:nth (f60 p (i:Int)) (q:Int) 0∈f60 p (i:Int):=wA3 ⟨by omega,hq⟩
  obtain⟨h0,h1⟩:=hs.2.2 _ hm
  refine⟨(nth (f60 p (i:Int)) (q:Int) 0).toNat,by omega,by omega,?_⟩
  unfold Src
  rw[Int.toNat_of_nonneg h0]
  exact hm
 have call:∀ x,inv x→x.2.2.2.1<len (f60 p (i:Int))→∃ a:Nat,nth (f60 p (i:Int)) x.2.2.2.1 0=(a:Int)∧Src p a i∧yL4 p a x.1 x.2.1 (r (nth (f60 p (i:Int)) x.2.2.2.1 0) x.1 x.2.1 x.2.2.1 ()).2.1 (r (nth (f60 p (i:Int)) x.2.2.2.1 0) x.1 x.2.1 x.2.2.1 ()).2.2:=fun x ⟨q,x1,x2,x3,x4,x5,_⟩ hlt=>by
  obtain⟨a,a1,a2,a3⟩:=src q (by omega)
  refine⟨a,by rw[x1];exact a1,a3,?_⟩
  rw[x1,a1,x3]
  exact hr a x.1 x.2.1 a2 x5 (by omega)
 have w:=xQ0 (g:=xZ8 r (yC (i:Int) (f60 p (i:Int)))) (next:=xY8 r (yC (i:Int) (f60 p (i:Int)))) inv (fun x=>(len (f60 p (i:Int))-x.2.2.2.1).toNat) (fun x hx hg=>?_) (x:=(d,List.set b i true,p,(0:Int),()))
  ⟨0,rfl,xT7 _,rfl,jI _,⟨hv.ld,hlb1,fun j hj=>(vY6 hib).2 (.inr (hv.sub j hj)),hv.acc⟩,fun t ht=>by omega,fun j hj=>hj,fun j hj=>hj,fun j hj hd=>by
   rcases (vY6 hib).1 hj with e|e
   ·exact .inl e
   ·exact .inr ⟨e,hd⟩⟩ (by unfold zI1;simp only;have:=hs.2.1;omega)
 ·generalize zC3 (xZ8 r (yC (i:Int) (f60 p (i:Int)))) (xY8 r (yC (i:Int) (f60 p (i:Int)))) (d,List.set b i true,p,(0:Int),())=z at w
  obtain⟨hz,hg⟩:=w
  have hz':=hz
  obtain⟨q,x1,x2,x3,x4,x5,x6,x7,x8,x9⟩:=hz'
  have hbm:∀ j,On b j→On z.2.1 j:=fun j hj=>x8 j ((vY6 hib).2 (.inr hj))
  have hg':(decide (z.2.2.2.1<len (f60 p (i:Int)))&&(!(r (nth (f60 p (i:Int)) z.2.2.2.1 0) z.1 z.2.1 z.2.2.1 ()).2.1))=false:=hg
  have he:wC2 r (yC (i:Int) (f60 p (i:Int))) z=(decide (z.2.2.2.1<len (f60 p (i:Int)))&&(r (nth (f60 p (i:Int)) z.2.2.2.1 0) z.1 z.2.1 z.2.2.1 ()).2.1):=rfl
  refine⟨z,rfl,hg,x3,by omega,fun h1=>?_,fun hA hno=>?_,fun h1=>?_⟩
  ·have hq:¬ z.2.2.2.1<len (f60 p (i:Int)):=fun hlt=>by
    rw[he,decide_eq_true hlt,Bool.true_and] at h1
    rw[decide_eq_true hlt,Bool.true_and,h1] at hg'
    cases hg'
   refine⟨x5,fun a ha=>?_,x7,hbm,x8 i ((vY6 hib).2 (.inl rfl)),x9⟩
   obtain⟨t,ht,e⟩:=List.getElem_of_mem ha
   have hlt:t<q:=by unfold len at hq x2;omega
   obtain⟨a',e1,e2⟩:=x6 t hlt
   have:nth (f60 p (i:Int)) (t:Int) 0=(a:Int):=by
    show (f60 p (i:Int)).getD (t:Int).toNat 0=_
    rw[Int.toNat_natCast,jM,jL ht,Option.getD_some,e]
   have:a'=a:=by rw[e1] at this;omega
   rw[← this];exact e2
  ·rw[he]
   by_cases hlt:z.2.2.2.1<len (f60 p (i:Int))
   ·obtain⟨a,a1,a2,hP⟩:=call z hz hlt
    have hva:(r (nth (f60 p (i:Int)) z.2.2.2.1 0) z.1 z.2.1 z.2.2.1 ()).2.1=false:=hP.full (hA.inv a2) fun t ht hd hrc=>by
     rcases x9 t ht hd with e|⟨e1,e2⟩
     ·subst e;exact oQ0 hA a a2 hrc
     ·exact hno t e1 e2 (.step a2 hrc)
    rw[hva,Bool.and_false]
   ·rw[decide_eq_false hlt,Bool.false_and]
  ·rw[he,jB,decide_eq_true_eq] at h1
   obtain⟨a,a1,a2,hP⟩:=call z hz h1.1
   exact⟨hP.doc,by have:=hP.un;omega⟩
 ·have hx':=hx
  obtain⟨q,x1,x2,x3,x4,x5,x6,x7,x8,x9⟩:=hx'
  have hg':(decide (x.2.2.2.1<len (f60 p (i:Int)))&&(!(r (nth (f60 p (i:Int)) x.2.2.2.1 0) x.1 x.2.1 x.2.2.1 ()).2.1))=true:=hg
  rw[jB,decide_eq_true_eq,jK] at hg'
  obtain⟨a,a1,a2,hP⟩:=call x hx hg'.1
  obtain⟨o1,o2,o3,o4,o5⟩:=hP.out hg'.2
  refine⟨⟨q+1,by show x.2.2.2.1+1=_;omega,by omega,hP.doc,Nat.le_trans hP.un x4,o1,fun t ht=>?_,fun j hj=>o3 j (x7 j hj),fun j hj=>o4 j (x8 j hj),fun j hj hd=>?_⟩,(show (len (f60 p (i:Int))-(x.2.2.2.1+1)).toNat<(len (f60 p (i:Int))-x.2.2.2.1).toNat by omega)⟩
  ·by_cases e:t=q
   ·subst e
    exact⟨a,by rw[← x1];exact a1,o2⟩
   ·obtain⟨a',e1,e2⟩:=x6 t (by omega)
    exact⟨a',e1,o3 a' e2⟩
  ·obtain⟨e1,e2⟩:=o5 j hj hd
   exact x9 j e1 e2
theorem pI9 (p:D28)(hn:len p.2.2.2.1≤64):∀ k,oQ1 p k (wD4 k)
 |0=>fun _ _ _ _ _ h=>absurd h (Nat.not_lt_zero _)
 |k+1=>fun i d b hi hv hu=>by
  have hr:=pI9 p hn k
  show yL4 p i d b (wE6 (wD4 k) (i:Int) d b p ()).2.1 (wE6 (wD4 k) (i:Int) d b p ()).2.2
  generalize wD4 k=r at hr
  have hid:i<d.length:=by have:=hv.ld;unfold len at this hi;omega
  have hib:i<b.length:=by have:=hv.lb;unfold len at this hi;omega
  by_cases hd:On d i
  ·have e1:nth d (i:Int) false=true:=by rw[uY];exact hd
   have ev:(wE6 r (i:Int) d b p ()).2=(false,d,b,p,()):=by simp only[wE6,e1,jE];rfl
   rw[ev]
   exact⟨rfl,jI _,fun _=>⟨hv,hd,fun _ h=>h,fun _ h=>h,fun _ h1 h2=>⟨h1,h2⟩⟩,fun _ _=>rfl⟩
  ·have e1:nth d (i:Int) false=false:=by
    rw[uY]
    cases h:d.getD i false with
    |false=>rfl
    |true=>exact absurd h hd
   by_cases hb:On b i
   ·have e2:nth b (i:Int) false=true:=by rw[uY];exact hb
    have ev:(wE6 r (i:Int) d b p ()).2=(true,d,b,p,()):=by simp only[wE6,e1,e2,jE,jD];rfl
    rw[ev]
    exact⟨rfl,jI _,fun h=>(by cases h),fun _ hno=>absurd (Rc.refl i) (hno i hb hd)⟩
   ·have e2:nth b (i:Int) false=false:=by
     rw[uY]
     cases h:b.getD i false with
     |false=>rfl
     |true=>exact absurd h hb
    obtain⟨z,z1,z2,z3,z4,z5,z6,z7⟩:=pD1 hr hn hi hv hb hu
    have hset:List.set b (Int.toNat (i:Int)) true=List.set b i true:=by rw[Int.toNat_natCast]
    have z1':zC3 (xZ8 r ((i:Int),(),f60 p (i:Int),len (f60 p (i:Int)),())) (xY8 r ((i:Int),(),f60 p (i:Int),len (f60 p (i:Int)),())) (d,List.set b i true,p,(0:Int),())=z:=z1
    cases he:wC2 r (yC (i:Int) (f60 p (i:Int))) z with
    |true =>
     have he':wC2 r ((i:Int),(),f60 p (i:Int),len (f60 p (i:Int)),()) z=true:=he
     have ev:(wE6 r (i:Int) d b p ()).2.1=true∧(wE6 r (i:Int) d b p ()).2.2.2.2.1=(r (nth (f60 p (i:Int)) z.2.2.2.1 0) z.1 z.2.1 z.2.2.1 ()).2.2.2.2.1∧(wE6 r (i:Int) d b p ()).2.2.2.1=(r (nth (f60 p (i:Int)) z.2.2.2.1 0) z.1 z.2.1 z.2.2.1 ()).2.2.2.1:=by
      simp only[wE6,e1,e2,hset,z1',he',jE,jD]
      exact⟨rfl,rfl,rfl⟩
     obtain⟨y1,y2⟩:=z7 he
     refine⟨by rw[ev.2.1];exact y1,by rw[ev.2.2];exact y2,fun h=>(by rw[ev.1] at h;cases h),fun hA hno=>?_⟩
     have:=z6 hA hno
     rw[he] at this;cases this
    |false =>
     have he':wC2 r ((i:Int),(),f60 p (i:Int),len (f60 p (i:Int)),()) z=false:=he
     have ev:(wE6 r (i:Int) d b p ()).2=(false,List.set z.1 i true,z.2.1,z.2.2.1,()):=by
      simp only[wE6,e1,e2,z1',he',jD,Int.toNat_natCast]
      rfl
     obtain⟨v1,v2,v3,v4,v5,v6⟩:=z5 he
     have hiz:i<z.1.length:=by have:=v1.ld;unfold len at this hi;omega
     rw[ev]
     refine⟨z3,z4,fun _=>⟨⟨by rw[wC0];exact v1.ld,v1.lb,fun j hj=>?_,fun j hj=>?_⟩,(vY6 hiz).2 (.inl rfl),fun j hj=>(vY6 hiz).2 (.inr (v3 j hj)),v4,fun j hj hd'=>?_⟩,fun _ _=>rfl⟩
     ·rcases (vY6 hiz).1 hj with e|e
      ·rw[e];exact v5
      ·exact v1.sub j e
     ·rcases (vY6 hiz).1 hj with e|e
      ·rw[e];exact .intro i fun a ha=>v1.acc a (v2 a ha)
      ·exact v1.acc j e
     ·have hnd:¬ On z.1 j:=fun q=>hd' ((vY6 hiz).2 (.inr q))
      rcases v6 j hj hnd with e|e
      ·exact absurd ((vY6 hiz).2 (.inl e)) hd'
      ·exact e
theorem qN0 (p:D28)(hn:len p.2.2.2.1≤64):f28 p=false↔∀ j:Nat,(j:Int)<len p.2.2.2.1→Acc (Src p) j:=by
 have h0n:=xT7 p.2.2.2.1
 have hlr:len (List.replicate (Int.toNat (len p.2.2.2.1)) false)=len p.2.2.2.1:=by simp only[len,List.length_replicate];omega
 have hoff:∀ j,¬ On (List.replicate (Int.toNat (len p.2.2.2.1)) false) j:=fun j h=>by
  unfold On at h
  rw[jM,List.getElem?_replicate] at h
  split at h<;>simp at h
 let inv:wJ5→Prop:=fun x=>∃ q:Nat,x.2.2.2.1=(q:Int)∧(q:Int)≤len p.2.2.2.1∧x.1=p∧VisIn p x.2.2.1 x.2.1∧(∀ j,j<q→On x.2.2.1 j)∧∀ j,On x.2.1 j→On x.2.2.1 j
 have call:∀ x,inv x→x.2.2.2.1<len p.2.2.2.1→∃ q:Nat,x.2.2.2.1=(q:Int)∧yL4 p q x.2.2.1 x.2.1 (tJ8 x.2.2.2.1 x.2.2.1 x.2.1 x.1 ()) (uI3 x.2.2.2.1 x.2.2.1 x.2.1 x.1 ()):=fun x ⟨q,x1,x2,x3,x4,_⟩ hlt=>by
  refine⟨q,x1,?_⟩
  rw[x1,x3]
  have hlt2:unb x.2.1<x.2.2.1.length+1:=by
   have:=tO6 x.2.1
   have h1:=x4.ld
   have h2:=x4.lb
   simp only[len] at h1 h2;omega
  exact pI9 p hn (x.2.2.1.length+1) q x.2.2.1 x.2.1 (by omega) x4 hlt2
 have w:=xQ0 (g:=vM ((),len p.2.2.2.1,())) (next:=wM2 ((),len p.2.2.2.1,())) inv (fun x=>(len p.2.2.2.1-x.2.2.2.1).toNat) (fun x hx hg=>?_) (x:=(p,(List.replicate (Int.toNat (len p.2.2.2.1)) false),(List.replicate (Int.toNat (len p.2.2.2.1)) false),(0:Int),()))
  ⟨0,rfl,h0n,rfl,⟨hlr,hlr,fun j hj=>hj,fun j hj=>absurd hj (hoff j)⟩,fun j hj=>by omega,fun j hj=>hj⟩ (by unfold zI1;simp only;omega)
 ·show (bif uI4 ((),len p.2.2.2.1,()) (zC3 (vM ((),len p.2.2.2.1,())) (wM2 ((),len p.2.2.2.1,())) (p,(List.replicate (Int.toNat (len p.2.2.2.1)) false),(List.replicate (Int.toNat (len p.2.2.2.1)) false),(0:Int),())) then true else false)=false↔_
  generalize zC3 (vM ((),len p.2.2.2.1,())) (wM2 ((),len p.2.2.2.1,())) (p,(List.replicate (Int.toNat (len p.2.2.2.1)) false),(List.replicate (Int.toNat (len p.2.2.2.1)) false),(0:Int),())=z at w
  obtain⟨hz,hg⟩:=w
  have hz':=hz
  obtain⟨q,x1,x2,x3,x4,x5,x6⟩:=hz'
  have hg':(decide (z.2.2.2.1<len p.2.2.2.1)&&(!(tJ8 z.2.2.2.1 z.2.2.1 z.2.1 z.1 ())))=false:=hg
  have he:uI4 ((),len p.2.2.2.1,()) z=(decide (z.2.2.2.1<len p.2.2.2.1)&&(tJ8 z.2.2.2.1 z.2.2.1 z.2.1 z.1 ())):=rfl
  rw[he]
  by_cases hlt:z.2.2.2.1<len p.2.2.2.1
  ·rw[decide_eq_true hlt,Bool.true_and] at hg' ⊢
   obtain⟨q',e,hP⟩:=call z hz hlt
   have hv:tJ8 z.2.2.2.1 z.2.2.1 z.2.1 z.1 ()=true:=by simpa using hg'
   rw[hv]
   refine⟨fun h=>(by cases h),fun h=>?_⟩
   have:=hP.full (h q' (by omega)) fun t ht hd=>absurd (x6 t ht) hd
   rw[hv] at this;cases this
  ·rw[decide_eq_false hlt,Bool.false_and]
   exact⟨fun _ j hj=>x4.acc j (x5 j (by omega)),fun _=>rfl⟩
 ·have hx':=hx
  obtain⟨q,x1,x2,x3,x4,x5,x6⟩:=hx'
  have hg':(decide (x.2.2.2.1<len p.2.2.2.1)&&(!(tJ8 x.2.2.2.1 x.2.2.1 x.2.1 x.1 ())))=true:=hg
  rw[jB,decide_eq_true_eq,jK] at hg'
  obtain⟨q',e,hP⟩:=call x hx hg'.1
  obtain⟨o1,o2,o3,o4,o5⟩:=hP.out hg'.2
  refine⟨⟨q+1,by show x.2.2.2.1+1=_;omega,by omega,hP.doc,o1,fun j hj=>?_,fun j hj=>?_⟩,(show (len p.2.2.2.1-(x.2.2.2.1+1)).toNat<(len p.2.2.2.1-x.2.2.2.1).toNat by omega)⟩
  ·by_cases ej:j=q
   ·have:q'=j:=by omega
    rw[← this];exact o2
   ·exact o3 j (x5 j (by omega))
  ·by_cases hd:On (uI3 x.2.2.2.1 x.2.2.1 x.2.1 x.1 ()).1 j
   ·exact hd
   ·obtain⟨e1,e2⟩:=o5 j hj hd
    exact absurd (x6 j e1) e2
end Go.Proofs.YtpanghcojpnkaaaGreatDoor.Am
namespace Go.Proofs.YtpanghcojpnkaaaGreatDoor.Am
open Go Go.Am
abbrev y9 (p:D28)(i:Int):wW:=(p,nth p.2.2.2.2.2.2.2.1 i Z90,p.2.2.2.2.2.2.2.1,len p.2.2.2.2.2.2.2.1,i,List.take (Int.toNat i) p.2.2.2.2.2.2.2.1,len (List.take (Int.toNat i) p.2.2.2.2.2.2.2.1),())
def end9 (p:D28)(i:Int):wO9:=zC3 (vL6 (y9 p i)) (wQ5 (y9 p i)) ((0:Int),())
def sD6 (p:D28)(nx i:Int):Bool:=bif (bif (bif (bif (bif (decide ((nth p.2.2.2.2.2.2.2.1 i Z90).1<1)) then true else (decide ((nth p.2.2.2.2.2.2.2.1 i Z90).1≥nx))) then true else (decide ((nth p.2.2.2.2.2.2.2.1 i Z90).2.2.1<0))) then true else (decide ((nth p.2.2.2.2.2.2.2.1 i Z90).2.2.1>2))) then true else (decide ((nth p.2.2.2.2.2.2.2.1 i Z90).2.2.2.1<1))) then true else (decide ((nth p.2.2.2.2.2.2.2.1 i Z90).2.2.2.1>1073741824))
def gl (p:D28)(nx i:Int):Bool:=decide (i<len p.2.2.2.2.2.2.2.1)&&((!(!(f55 (nth p.2.2.2.2.2.2.2.1 i Z90).2.1)))&&((!(sD6 p nx i))&&(vI0 (y9 p i) (end9 p i)&&(!(f56 (nth p.2.2.2.2.2.2.2.1 i Z90).2.2.2.2.1 !=0)))))
theorem oQ2 (p:D28)(i:Int):vC9 (p,p.2.2.2.2.2.2.2.1,len p.2.2.2.2.2.2.2.1,()) (i,())=gl p p.2.2.2.2.1 i:=rfl
theorem oH3 (p:D28)(l:List D49)(nx i:Int):gl (vE5 p l nx) nx i=gl p nx i:=rfl
theorem oQ3 (p:D28)(i:Int)(hl:len p.2.2.2.2.2.2.2.1≤8):vL6 (y9 p i) (end9 p i)=false:=by
 have h0:=xT7 (List.take (Int.toNat i) p.2.2.2.2.2.2.2.1)
 have h1:len (List.take (Int.toNat i) p.2.2.2.2.2.2.2.1)≤8:=by
  unfold len at hl ⊢
  rw[jT];omega
 exact (xQ0 (g:=vL6 (y9 p i)) (next:=wQ5 (y9 p i)) (fun x=>0≤x.1∧x.1≤len (List.take (Int.toNat i) p.2.2.2.2.2.2.2.1)) (fun x=>(len (List.take (Int.toNat i) p.2.2.2.2.2.2.2.1)-x.1).toNat) (fun x hx hg=>by
  have h4:x.1<len (List.take (Int.toNat i) p.2.2.2.2.2.2.2.1):=xZ1 hg
  exact⟨⟨(show 0≤x.1+1 by have:=hx.1;omega),(show x.1+1≤len (List.take (Int.toNat i) p.2.2.2.2.2.2.2.1) by omega)⟩,(show (len (List.take (Int.toNat i) p.2.2.2.2.2.2.2.1)-(x.1+1)).toNat<(len (List.take (Int.toNat i) p.2.2.2.2.2.2.2.1)-x.1).toNat by omega)⟩) (x:=((0:Int),())) ⟨Int.le_refl 0,h0⟩ (by unfold zI1;simp only;omega)).2
theorem sQ1 (p:D28)(hl:len p.2.2.2.2.2.2.2.1≤8):f26 p=0↔∀ i:Int,0≤i→i<len p.2.2.2.2.2.2.2.1→gl p p.2.2.2.2.1 i=true:=by
 have h0n:=xT7 p.2.2.2.2.2.2.2.1
 have w:=xQ0 (g:=vC9 (p,p.2.2.2.2.2.2.2.1,len p.2.2.2.2.2.2.2.1,())) (next:=wM0 (p,p.2.2.2.2.2.2.2.1,len p.2.2.2.2.2.2.2.1,())) (fun x=>(0≤x.1∧x.1≤len p.2.2.2.2.2.2.2.1)∧∀ i,0≤i→i<x.1→gl p p.2.2.2.2.1 i=true) (fun x=>(len p.2.2.2.2.2.2.2.1-x.1).toNat) (fun x hx hg=>?_) (x:=((0:Int),())) ⟨⟨Int.le_refl 0,h0n⟩,fun i h1 h2=>by simp only at h2;omega⟩ (by unfold zI1;simp only;omega)
 ·show (bif vR4 (p,p.2.2.2.2.2.2.2.1,len p.2.2.2.2.2.2.2.1,()) (zC3 (vC9 (p,p.2.2.2.2.2.2.2.1,len p.2.2.2.2.2.2.2.1,())) (wM0 (p,p.2.2.2.2.2.2.2.1,len p.2.2.2.2.2.2.2.1,())) ((0:Int),())) then vL7 (p,p.2.2.2.2.2.2.2.1,len p.2.2.2.2.2.2.2.1,()) (zC3 (vC9 (p,p.2.2.2.2.2.2.2.1,len p.2.2.2.2.2.2.2.1,())) (wM0 (p,p.2.2.2.2.2.2.2.1,len p.2.2.2.2.2.2.2.1,())) ((0:Int),())) else (0:Int))=0↔_
  generalize zC3 (vC9 (p,p.2.2.2.2.2.2.2.1,len p.2.2.2.2.2.2.2.1,())) (wM0 (p,p.2.2.2.2.2.2.2.1,len p.2.2.2.2.2.2.2.1,())) ((0:Int),())=z at w
  obtain⟨i,⟨⟩⟩:=z
  obtain⟨⟨⟨i0,i1⟩,hN⟩,hg⟩:=w
  simp only at i0 i1 hN
  rw[oQ2] at hg
  have he:vR4 (p,p.2.2.2.2.2.2.2.1,len p.2.2.2.2.2.2.2.1,()) (i,())=(decide (i<len p.2.2.2.2.2.2.2.1)&&((!(f55 (nth p.2.2.2.2.2.2.2.1 i Z90).2.1))||((!(!(f55 (nth p.2.2.2.2.2.2.2.1 i Z90).2.1)))&&(sD6 p p.2.2.2.2.1 i||((!(sD6 p p.2.2.2.2.1 i))&&(vA4 (y9 p i) (end9 p i)||(vI0 (y9 p i) (end9 p i)&&(f56 (nth p.2.2.2.2.2.2.2.1 i Z90).2.2.2.2.1 !=0)))))))):=rfl
  by_cases hlt:i<len p.2.2.2.2.2.2.2.1
  ·have h9:=oQ3 p i hl
   have h9':(decide ((end9 p i).1<len (List.take (Int.toNat i) p.2.2.2.2.2.2.2.1))&&(!(bif ((nth (List.take (Int.toNat i) p.2.2.2.2.2.2.2.1) (end9 p i).1 Z90).1==(nth p.2.2.2.2.2.2.2.1 i Z90).1) then true else ((nth (List.take (Int.toNat i) p.2.2.2.2.2.2.2.1) (end9 p i).1 Z90).2.1==(nth p.2.2.2.2.2.2.2.1 i Z90).2.1))))=false:=h9
   have e4:vI0 (y9 p i) (end9 p i)=!decide ((end9 p i).1<len (List.take (Int.toNat i) p.2.2.2.2.2.2.2.1)):=rfl
   have e1:vA4 (y9 p i) (end9 p i)=(decide ((end9 p i).1<len (List.take (Int.toNat i) p.2.2.2.2.2.2.2.1))&&(bif ((nth (List.take (Int.toNat i) p.2.2.2.2.2.2.2.1) (end9 p i).1 Z90).1==(nth p.2.2.2.2.2.2.2.1 i Z90).1) then true else ((nth (List.take (Int.toNat i) p.2.2.2.2.2.2.2.1) (end9 p i).1 Z90).2.1==(nth p.2.2.2.2.2.2.2.1 i Z90).2.1))):=rfl
   have hgl:gl p p.2.2.2.2.1 i=false:=hg
   have hE:vR4 (p,p.2.2.2.2.2.2.2.1,len p.2.2.2.2.2.2.2.1,()) (i,())=true:=by
    rw[he,e1,e4,decide_eq_true hlt]
    unfold gl at hgl
    rw[e4,decide_eq_true hlt] at hgl
    revert hgl h9'
    generalize decide ((end9 p i).1<len (List.take (Int.toNat i) p.2.2.2.2.2.2.2.1))=b1
    generalize (bif ((nth (List.take (Int.toNat i) p.2.2.2.2.2.2.2.1) (end9 p i).1 Z90).1==(nth p.2.2.2.2.2.2.2.1 i Z90).1) then true else ((nth (List.take (Int.toNat i) p.2.2.2.2.2.2.2.1) (end9 p i).1 Z90).2.1==(nth p.2.2.2.2.2.2.2.1 i Z90).2.1))=b2
    generalize f55 (nth p.2.2.2.2.2.2.2.1 i Z90).2.1=b3
    generalize sD6 p p.2.2.2.2.1 i=b4
    generalize (f56 (nth p.2.2.2.2.2.2.2.1 i Z90).2.2.2.2.1 !=0)=b5
    cases b1<;>cases b2<;>cases b3<;>cases b4<;>cases b5<;>simp
   rw[hE,jE]
   refine⟨fun h=>?_,fun h=>by rw[h i i0 hlt] at hgl;cases hgl⟩
   exfalso
   have hx:vL7 (p,p.2.2.2.2.2.2.2.1,len p.2.2.2.2.2.2.2.1,()) (i,())=(bif (!(f55 (nth p.2.2.2.2.2.2.2.1 i Z90).2.1)) then (13:Int) else (bif sD6 p p.2.2.2.2.1 i then (2:Int) else (bif vA4 (y9 p i) (end9 p i) then (10:Int) else (f56 (nth p.2.2.2.2.2.2.2.1 i Z90).2.2.2.2.1)))):=rfl
   rw[hx] at h
   rw[he,decide_eq_true hlt] at hE
   revert hE h
   generalize vA4 (y9 p i) (end9 p i)=b1
   generalize vI0 (y9 p i) (end9 p i)=b2
   generalize f55 (nth p.2.2.2.2.2.2.2.1 i Z90).2.1=b3
   generalize sD6 p p.2.2.2.2.1 i=b4
   generalize f56 (nth p.2.2.2.2.2.2.2.1 i Z90).2.2.2.2.1=k
   cases b1<;>cases b2<;>cases b3<;>cases b4<;>simp
  ·rw[he,decide_eq_false hlt,Bool.false_and,jD]
   exact⟨fun _ j h1 h2=>hN j h1 (by omega),fun _=>rfl⟩
 ·obtain⟨⟨i0,i1⟩,hN⟩:=hx
  obtain⟨i,⟨⟩⟩:=x
  simp only at i0 i1 hN
  have h4:i<len p.2.2.2.2.2.2.2.1:=xZ1 hg
  rw[oQ2] at hg
  refine⟨⟨⟨(show 0≤i+1 by omega),(show i+1≤len p.2.2.2.2.2.2.2.1 by omega)⟩,fun j h1 h2=>?_⟩,(show (len p.2.2.2.2.2.2.2.1-(i+1)).toNat<(len p.2.2.2.2.2.2.2.1-i).toNat by omega)⟩
  have h2':j<i+1:=h2
  by_cases e:j=i
  ·subst e;exact hg
  ·exact hN j h1 (by omega)
theorem oH4 {p:D28}{a b i:Int}(h:a≤b)(hg:gl p a i=true):gl p b i=true:=by
 unfold gl at hg ⊢
 have hb:sD6 p a i=false→sD6 p b i=false:=fun h0=>by
  unfold sD6 at h0 ⊢
  simp only[Bool.cond_true_left,jJ,decide_eq_false_iff_not] at h0 ⊢
  obtain⟨⟨⟨⟨⟨q1,q2⟩,q3⟩,q4⟩,q5⟩,q6⟩:=h0
  exact⟨⟨⟨⟨⟨q1,by omega⟩,q3⟩,q4⟩,q5⟩,q6⟩
 simp only[jB,jK] at hg ⊢
 exact⟨hg.1,hg.2.1,hb hg.2.2.1,hg.2.2.2⟩
theorem rT1 {p:D28}(l:List D49){nx:Int}(hl:len p.2.2.2.2.2.2.2.1≤8)(h:p.2.2.2.2.1≤nx)(h0:f26 p=0):f26 (vE5 p l nx)=0:=by
 rw[sQ1 (vE5 p l nx) hl]
 intro i i0 i1
 rw[show (vE5 p l nx).2.2.2.2.1=nx from rfl,oH3]
 exact oH4 h ((sQ1 p hl).1 h0 i i0 i1)
end Go.Proofs.YtpanghcojpnkaaaGreatDoor.Am
