/- node.Check answers for every node: strokes. Condition: the polygons of a path. -/
import Derived.Test.YtpanghcojpnkaaaGreatDoorDocB
namespace Go.Proofs.YtpanghcojpnkaaaGreatDoor.Am
open Go Go.Am
theorem red3 (l:List D125)(o:Bool)(hl:len l≤4096) :
  Am.Ends (wZ6 (o,l,len l,())) (wF1 (o,l,len l,())) (wX8 (o,l,len l,())) ([],0,())∧len (zC3 (wZ6 (o,l,len l,())) (wF1 (o,l,len l,())) ([],0,())).1≤len l:=by
 have h:=whole (g:=wZ6 (o,l,len l,())) (next:=wF1 (o,l,len l,())) (ok:=wX8 (o,l,len l,())) (fun x=>(0≤x.2.1∧x.2.1≤len l)∧len x.1≤x.2.1) (fun x=>(len l-x.2.1).toNat) (fun x hx=>fun h3=>?_) (fun x hx hg=>?_) (x:=([],0,())) ⟨⟨Int.le_refl 0,xT7 l⟩,Int.le_refl 0⟩ (by unfold zI1;simp only;omega)
 ·exact⟨h.1,Int.le_trans h.2.1.2 h.2.1.1.2⟩
 ·have h4:x.2.1<len l:=jF h3
  have h5:=xT7 x.1
  have h6:=hx.2
  refine⟨⟨hx.1.1,h4⟩,fun _=>xY3 (by omega) (by omega),fun hf=>?_,fun _=>?_,xY3 (by omega) (by omega)⟩
  ·simp only[jK,beq_eq_false_iff_ne,ne_eq] at hf
   exact⟨(show 0≤len x.1-1 by omega),(show len x.1-1<len x.1 by omega)⟩
  ·have:=hx.2
   simp only[len] at this hl h4
   simp only[List.length_cons,List.length_nil]
   omega
 ·have h4:x.2.1<len l:=jF hg
  have h6:=hx.2
  refine⟨⟨(show 0≤x.2.1+1∧x.2.1+1≤len l by omega),?_⟩,(show (len l-(x.2.1+1)).toNat<(len l-x.2.1).toNat by omega)⟩
  simp only[wF1,uD1]
  cases (bif ((len x.1)==0) then true else (!(Ty.eqb T125 (nth l x.2.1 Z125) (nth x.1 (len x.1-1) Z125)))) with
  |true=>simp only[jE,wI7,wJ7];omega
  |false=>simp only[jD];omega
theorem red8 (l:List D125)(o:Bool)(hl:len l≤4096) :
  Am.Ends (vF9 (o,())) (wH4 (o,())) (wX9 (o,())) (l,())∧len (zC3 (vF9 (o,())) (wH4 (o,())) (l,())).1≤len l:=by
 have gt:∀ x:wK7,(bif (bif (!o) then (decide ((len x.1)>1)) else false) then (Ty.eqb T125 (nth x.1 (len x.1-1) Z125) (nth x.1 (0:Int) Z125)) else false)=true→len x.1>1:=fun x h=>by
  cases hq:(bif (!o) then (decide ((len x.1)>1)) else false) with
  |false=>rw[hq] at h;cases h
  |true =>
   cases ho:(!o) with
   |false=>rw[ho] at hq;cases hq
   |true=>rw[ho] at hq;exact jF hq
 have gt':∀ x:wK7,(bif (!o) then (decide ((len x.1)>1)) else false)=true→len x.1>1:=fun x h=>by
  cases ho:(!o) with
  |false=>rw[ho] at h;cases h
  |true=>rw[ho] at h;exact jF h
 have h:=whole (g:=vF9 (o,())) (next:=wH4 (o,())) (ok:=wX9 (o,())) (fun x=>len x.1≤len l) (fun x=>x.1.length) (fun x hx=>?_) (fun x hx hg=>?_) (x:=(l,())) (Int.le_refl _) (by simp only[len] at hl;unfold zI1;simp only;omega)
 ·exact⟨h.1,h.2.1⟩
 ·have h5:=xT7 x.1
  exact⟨fun hf=>by have:=gt' x hf;exact xY3 (show _≤len x.1-1 by omega) (show len x.1-1≤_ by omega),fun hf=>by have:=gt' x hf;exact⟨(show 0≤len x.1-1 by omega),(show len x.1-1<len x.1 by omega)⟩,fun hf=>by have:=gt' x hf;exact⟨Int.le_refl 0,(show 0<len x.1 by omega)⟩,fun hf=>by have:=gt x hf;exact⟨xY3 (show _≤len x.1-1 by omega) (show len x.1-1≤_ by omega),⟨(show 0≤len x.1-1 by omega),(show len x.1-1≤len x.1 by omega)⟩⟩⟩
 ·have h5:=gt x hg
  have e:(wH4 (o,()) x).1=List.take (Int.toNat (len x.1-1)) x.1:=rfl
  rw[e]
  simp only[len] at h5 hx ⊢
  rw[jT]
  omega
theorem qZ7 (l:List D125)(o:Bool)(hl:len l≤4096):tC3 l o∧len (f157 l o)≤len l:=by
 have h3:=red3 l o hl
 have h8:=red8 (zC3 (wZ6 (o,l,len l,())) (wF1 (o,l,len l,())) ([],0,())).1 o (by omega)
 exact⟨⟨h3.1,h8.1⟩,Int.le_trans h8.2 h3.2⟩
theorem hyp7 (y:wZ7):Am.Ends (uD2 y) (wS6 y) (vG y) (0,9223372036854775808,()):=by
 refine xQ1 (fun x=>0≤x.2.1) (fun x=>x.2.1.toNat) (fun x _=>fun _=>sB8 _ _) (fun x hx hg=>?_) (by decide) (by unfold zI1;decide)
 have h4:x.2.1≠0:=by
  have hg:(x.2.1 !=0)=true:=hg
  simpa using hg
 have e:(wS6 y x).2.1=xY1 x.2.1 (1:Int) 64:=rfl
 rw[e]
 have e2:xY1 x.2.1 (1:Int) 64=x.2.1.fdiv 2:=rfl
 rw[e2]
 have h5:x.2.1.fdiv 2=x.2.1 / 2:=Int.fdiv_eq_ediv_of_nonneg _ (by omega)
 rw[h5]
 omega
theorem rL2 (a b:Int):uL a b:=by
 refine⟨uX4 _,uX4 _,sB8 _ _,uX4 _,uX4 _,sB8 _ _,⟨Int.le_refl 0,by decide⟩,⟨Int.natCast_nonneg _,?_⟩,hyp7 _⟩
 have hb:∀ z:Int,Int.toNat (IntKind.wrap .u64 z)<18446744073709551616:=fun z=>by
  rw[IntKind.wrap_u64]
  have:=Int.emod_nonneg z (b:=18446744073709551616) (by omega)
  have:=Int.emod_lt_of_pos z (b:=18446744073709551616) (by omega)
  omega
 have h1:=hb (f188 a*f188 a)
 have h2:=hb (f188 b*f188 b)
 have e1:(f187 (f188 a) (f188 a)).2.1=IntKind.wrap .u64 (f188 a*f188 a):=rfl
 have e2:(f187 (f188 b) (f188 b)).2.1=IntKind.wrap .u64 (f188 b*f188 b):=rfl
 rw[e1,e2]
 have h3:(Int.toNat (IntKind.wrap .u64 (f188 a*f188 a))+Int.toNat (IntKind.wrap .u64 (f188 b*f188 b))+Int.toNat (0:Int)) / 18446744073709551616≤1:=by
  rw[show Int.toNat (0:Int)=0 from rfl]
  omega
 exact_mod_cast h3
theorem rL3 (p q:D125)(w:Int):uL0 p q w:=⟨wJ6 _ _,rL2 _ _,wA2 _ _,wA2 _ _,wA2 _ _,wA2 _ _⟩
theorem edg3 (l:List D125)(o:Bool)(w:Int)(hl:len l≤4096) :
  Am.Ends (vG1 (l,o,w,())) (wH6 (l,o,w,())) (wY (l,o,w,())) ([],1,())∧len (zC3 (vG1 (l,o,w,())) (wH6 (l,o,w,())) ([],1,())).1≤len l:=by
 have h:=whole (g:=vG1 (l,o,w,())) (next:=wH6 (l,o,w,())) (ok:=wY (l,o,w,())) (fun x=>(1≤x.2.1∧(x.2.1≤len l∨x.2.1=1))∧len x.1≤x.2.1-1) (fun x=>(len l-x.2.1).toNat) (fun x hx=>fun h3=>?_) (fun x hx hg=>?_) (x:=([],1,())) ⟨⟨Int.le_refl 1,.inr rfl⟩,Int.le_refl 0⟩ (by unfold zI1;simp only;omega)
 ·have h5:=xT7 l
  exact⟨h.1,by have:=h.2.1.1;have:=h.2.1.2;omega⟩
 ·have h4:x.2.1<len l:=jF h3
  have h6:=hx.2
  have h7:=hx.1.1
  refine⟨xY3 (by omega) (by omega),⟨(show 0≤x.2.1-1 by omega),(show x.2.1-1<len l by omega)⟩,⟨(show 0≤x.2.1 by omega),h4⟩,rL3 _ _ _,?_,xY3 (by omega) (by omega)⟩
  simp only[len] at h6 hl h4
  simp only[List.length_cons,List.length_nil]
  omega
 ·have h4:x.2.1<len l:=jF hg
  have h6:=hx.2
  have h7:=hx.1.1
  refine⟨⟨⟨(show 1≤x.2.1+1 by omega),.inl (show x.2.1+1≤len l by omega)⟩,?_⟩,(show (len l-(x.2.1+1)).toNat<(len l-x.2.1).toNat by omega)⟩
  simp only[wH6,uD3,wI7,wJ7]
  omega
theorem qZ8 (l:List D125)(o:Bool)(w:Int)(hl:len l≤4096):tC5 l o w∧len (f158 l o w)≤len l+1:=by
 have h3:=edg3 l o w hl
 have hn:=xT7 l
 refine⟨⟨h3.1,fun hf=>?_⟩,?_⟩
 ·have h5:len l>1:=by
   cases ho:(!o) with
   |false=>rw[ho] at hf;cases hf
   |true=>rw[ho] at hf;exact jF hf
  refine⟨xY3 (by omega) (by omega),⟨(show 0≤len l-1 by omega),(show len l-1<len l by omega)⟩,⟨Int.le_refl 0,(show 0<len l by omega)⟩,rL3 _ _ _,?_⟩
  have h6:=h3.2
  simp only[vC0]
  simp only[len] at h6 hl
  simp only[List.length_cons,List.length_nil]
  omega
 ·simp only[f158,qR9,vC0]
  cases (bif (!o) then (decide ((len l)>1)) else false) with
  |true=>simp only[jE,wI7,wJ7];omega
  |false=>simp only[jD];omega
theorem qZ9 (l:List D125)(hl:len l≤4096):tC7 l:=by
 refine xQ1 (fun x=>0≤x.2.1∧x.2.1≤len l) (fun x=>(len l-x.2.1).toNat) (fun x hx=>fun h3=>?_) (fun x hx hg=>?_) ⟨Int.le_refl 0,xT7 l⟩ (by unfold zI1;simp only;omega)
 ·have h4:x.2.1<len l:=jF h3
  have hw:IntKind.wrap .i64 (x.2.1+1)=x.2.1+1:=wE7 (xY3 (by omega) (by omega))
  refine⟨⟨hx.1,h4⟩,(show len l≠0 by omega),?_⟩
  show InB (Int.tmod (IntKind.wrap .i64 (x.2.1+1)) (len l)) (len l)
  rw[hw,Int.tmod_eq_emod_of_nonneg (by omega)]
  exact⟨Int.emod_nonneg _ (by omega),Int.emod_lt_of_pos _ (by omega)⟩
 ·have h4:x.2.1<len l:=jF hg
  have hw:IntKind.wrap .i64 (x.2.1+1)=x.2.1+1:=wE7 (xY3 (by omega) (by omega))
  simp only[vC1,uD4]
  rw[hw]
  omega
theorem pA0:f177 []=0:=by kernel_rfl
theorem uX8 {a:Int}(h:0≤a∧a≤16384):vP2 a:=by
 have e:Int.tdiv a 256=a / 256:=Int.tdiv_eq_ediv_of_nonneg h.1
 have hw:IntKind.wrap .i64 (Int.tdiv a 256)=a / 256:=by rw[e];exact wE7 (xY3 (by omega) (by omega))
 refine⟨fun _=>⟨by decide,by decide⟩,fun hf=>?_⟩
 rw[hw] at hf ⊢
 have hf:¬ (a / 256≥64):=by simpa using hf
 have hw2:IntKind.wrap .i64 (a / 256+1)=a / 256+1:=wE7 (xY3 (by omega) (by omega))
 rw[hw2]
 exact⟨⟨by omega,by omega⟩,⟨by omega,by omega⟩,⟨by omega,by omega⟩,wA2 _ _⟩
theorem rL4 {a:Int}(h:0≤a∧a<65536):vP3 a:=by
 have e:Int.tdiv a 16384=a / 16384:=Int.tdiv_eq_ediv_of_nonneg h.1
 have hw:IntKind.wrap .i64 (Int.tdiv a 16384)=a / 16384:=by rw[e];exact wE7 (xY3 (by omega) (by omega))
 have hw2:IntKind.wrap .i64 (16384*(a / 16384))=16384*(a / 16384):=wE7 (xY3 (by omega) (by omega))
 have hw3:IntKind.wrap .i64 (a-16384*(a / 16384))=a-16384*(a / 16384):=wE7 (xY3 (by omega) (by omega))
 have hw4:IntKind.wrap .i64 (16384-(a-16384*(a / 16384)))=16384-(a-16384*(a / 16384)):=wE7 (xY3 (by omega) (by omega))
 simp only[vP3,qS1,hw,hw2,hw3,hw4]
 exact⟨fun _=>uX8 (by omega),⟨fun _=>⟨fun _=>uX8 (by omega),fun _ _=>uX8 (by omega)⟩,fun _=>uX8 (by omega)⟩⟩
theorem pA1 (a:Int):tC9 a:=by
 have h1:0≤xY0 .i64 a (65535:Int)∧xY0 .i64 a (65535:Int)<65536:=by
  have e:xY0 .i64 a (65535:Int)=IntKind.wrap .i64 (((BitVec.ofInt 64 a &&& BitVec.ofInt 64 65535).toNat:Nat):Int):=rfl
  have h2:(BitVec.ofInt 64 a &&& BitVec.ofInt 64 65535).toNat≤65535:=by
   rw[BitVec.toNat_and]
   exact Nat.and_le_right
  rw[e,wE7 (xY3 (by omega) (by omega))]
  omega
 have hw:IntKind.wrap .i64 (xY0 .i64 a (65535:Int)+16384)=xY0 .i64 a (65535:Int)+16384:=wE7 (xY3 (by omega) (by omega))
 refine⟨rL4 h1,?_⟩
 show vP3 (Int.tmod (IntKind.wrap .i64 (xY0 .i64 a (65535:Int)+16384)) (65536:Int))
 rw[hw,Int.tmod_eq_emod_of_nonneg (by omega)]
 exact rL4 ⟨Int.emod_nonneg _ (by omega),Int.emod_lt_of_pos _ (by omega)⟩
theorem cir3 (c:D125)(w:Int)(l:List D125)(n:Int)(hn:n=16)(hl:len l=16) :
  Am.Ends (vG5 (w,c,n,())) (wH7 (w,c,n,())) (wY0 (w,c,n,())) (l,0,())∧len (zC3 (vG5 (w,c,n,())) (wH7 (w,c,n,())) (l,0,())).1=16:=by
 have h:=whole (g:=vG5 (w,c,n,())) (next:=wH7 (w,c,n,())) (ok:=wY0 (w,c,n,())) (fun x=>(0≤x.2.1∧x.2.1≤16)∧len x.1=16) (fun x=>(16-x.2.1).toNat) (fun x hx=>fun h3=>?_) (fun x hx hg=>?_) (x:=(l,0,())) ⟨⟨Int.le_refl 0,(by decide:(0:Int)≤16)⟩,hl⟩ (by simp[zI1])
 ·exact⟨h.1,h.2.1.2⟩
 ·have h4:x.2.1<n:=jF h3
  rw[hn] at h4
  refine⟨pA1 _,wA2 _ _,wA2 _ _,wD6 _ _,⟨hx.1.1,?_⟩,?_⟩
  ·show x.2.1<len x.1;rw[hx.2];exact h4
  ·show x.2.1<len x.1;rw[hx.2];exact h4
 ·have h4:x.2.1<n:=jF hg
  rw[hn] at h4
  have hw:IntKind.wrap .i64 (x.2.1+1)=x.2.1+1:=wE7 (xY3 (by omega) (by omega))
  simp only[wH7,uD5,wC0]
  rw[hw]
  exact⟨⟨by omega,hx.2⟩,by omega⟩
theorem uX9 (c:D125)(w:Int):vP5 c w∧len (f176 c w)=16:=by
 have hn:len (List.replicate (Int.toNat (16:Int)) Z125)=16:=by simp[len]
 have h:=cir3 c w (List.replicate (Int.toNat (16:Int)) Z125) (len (List.replicate (Int.toNat (16:Int)) Z125)) hn hn
 refine⟨⟨⟨by omega,by omega,by omega⟩,h.1⟩,?_⟩
 simp only[f176,qS4,vP4]
 exact h.2
end Go.Proofs.YtpanghcojpnkaaaGreatDoor.Am
