/- node.Check answers for every node: texts. No condition. -/
import Derived.Test.YtpanghcojpnkaaaGreatDoorDocT
import Derived.Test.YtpanghcojpnkaaaGreatDoorDocO
namespace Go.Proofs.YtpanghcojpnkaaaGreatDoor.Am
open Go Go.Am
theorem uN {n m:Int}(h:0≤n):Few n m []:=⟨h,fun q hq=>by cases hq⟩
theorem oD8 {n m:Int}{l:List (List D125)}{q:List D125}(h:Few n m l)(hq:len q≤m):Few (n+1) m (l++[q]):=
 ⟨by rw[wI7,wJ7];have:=h.1;omega,vB3 h.2 hq⟩
theorem uJ9 {x n:Int}(h0:0≤x)(h:x<n)(hn:n≤4611686018427387904):IntKind.wrap .i64 (x+1)=x+1:=wE7 (xY3 (by omega) (by omega))
theorem sZ4 {i:Int}(h:InB i 95):len (nth std.2.2.2.1 i Z192).2.2.1<9223372036854775808∧Few 64 64 (f126 (nth std.2.2.2.1 i Z192).2.2.1).1∧∀ q∈(f126 (nth std.2.2.2.1 i Z192).2.2.1).1,1≤len q:=by
 have hm:nth std.2.2.2.1 i Z192∈std.2.2.2.1:=wA3 (by rw[sC7];exact h)
 have hp:=List.all_eq_true.1 qJ7 _ hm
 have hs:=List.all_eq_true.1 qX7 _ hm
 simp only[pI3,jB,decide_eq_true_eq,List.all_eq_true] at hp hs
 refine⟨by unfold len;omega,⟨by unfold len;omega,fun q hq=>?_⟩,fun q hq=>?_⟩
 ·have:=hp.2 q hq;unfold len;omega
 ·have:=hp.2 q hq;unfold len;omega
theorem oO6 (y:wQ0)(a:List D125)(hy1:y.2.2.2.2.2.2.2.2.2.2.2.2.2.2.2.2.1=a)(hy2:y.2.2.2.2.2.2.2.2.2.2.2.2.2.2.2.2.2.1=len a)(ha:len a≤64) :
  Am.Ends (wY5 y) (wJ3 y) (wQ1 y) (List.replicate (Int.toNat (len a)) Z125,0,()) ∧
  len (zC3 (wY5 y) (wJ3 y) (List.replicate (Int.toNat (len a)) Z125,0,())).1=len a:=by
 have h0a:=xT7 a
 have w:=whole (g:=wY5 y) (next:=wJ3 y) (ok:=wQ1 y) (fun x=>(0≤x.2.1∧x.2.1≤len a)∧len x.1=len a) (fun x=>(len a-x.2.1).toNat) (fun x hx=>fun h3=>?_) (fun x hx hg=>?_) (x:=(List.replicate (Int.toNat (len a)) Z125,0,())) ⟨⟨Int.le_refl 0,h0a⟩,by simp only[len,List.length_replicate];omega⟩ (by unfold zI1;simp only;omega)
 ·exact⟨w.1,w.2.1.2⟩
 ·have h4:x.2.1<y.2.2.2.2.2.2.2.2.2.2.2.2.2.2.2.2.2.1:=jF h3
  rw[hy2] at h4
  obtain⟨⟨h0,h1⟩,h2⟩:=hx
  exact⟨(by rw[hy1];exact⟨h0,h4⟩),wA2 _ _,wA2 _ _,(by rw[h2];exact⟨h0,h4⟩),(by rw[h2];exact h4)⟩
 ·have h4:x.2.1<y.2.2.2.2.2.2.2.2.2.2.2.2.2.2.2.2.2.1:=jF hg
  rw[hy2] at h4
  obtain⟨⟨h0,h1⟩,h2⟩:=hx
  have e:=uJ9 h0 h4 (by omega)
  refine⟨⟨?_,?_⟩,?_⟩
  ·show 0≤IntKind.wrap .i64 (x.2.1+1)∧IntKind.wrap .i64 (x.2.1+1)≤len a
   rw[e];omega
  ·show len (List.set x.1 _ _)=len a
   rw[wC0];exact h2
  ·show (len a-IntKind.wrap .i64 (x.2.1+1)).toNat<(len a-x.2.1).toNat
   rw[e];omega
def Pts (l:List (List D125))(n:Int):Prop:=(0≤n∧n≤4096)∧Few n 64 l
theorem oQ6 (y:wB4)(a A:List (List D125))(n:Int)(hy1:y.2.2.2.2.2.2.2.2.2.2.2.1=a)(hy2:y.2.2.2.2.2.2.2.2.2.2.2.2.1=len a)(ha:Few 64 64 a)(h1:∀ q∈a,1≤len q)(hA:Pts A n) :
  Am.Ends (wA6 y) (xY9 y) (wH9 y) (A,n,0,()) ∧
  Pts (zC3 (wA6 y) (xY9 y) (A,n,0,())).1 (zC3 (wA6 y) (xY9 y) (A,n,0,())).2.1:=by
 have h0a:=xT7 a
 have ha1:=ha.1
 obtain⟨y0,y1,y2,y3,y4,y5,y6,y7,y8,y9,y10,y11,y12,⟨⟩⟩:=y
 simp only at hy1 hy2
 subst hy1 hy2
 have w:=whole (g:=wA6 (y0,y1,y2,y3,y4,y5,y6,y7,y8,y9,y10,y11,len y11,())) (next:=xY9 (y0,y1,y2,y3,y4,y5,y6,y7,y8,y9,y10,y11,len y11,())) (ok:=wH9 (y0,y1,y2,y3,y4,y5,y6,y7,y8,y9,y10,y11,len y11,())) (fun x=>(0≤x.2.2.1∧x.2.2.1≤len y11)∧Pts x.1 x.2.1) (fun x=>(len y11-x.2.2.1).toNat) (fun x hx=>fun h3=>?_) (fun x hx hg=>?_) (x:=(A,n,0,())) ⟨⟨Int.le_refl 0,h0a⟩,hA⟩ (by unfold zI1;simp only;omega)
 ·exact⟨w.1,w.2.1.2⟩
 ·have h4:x.2.2.1<len y11:=jF h3
  obtain⟨⟨h0,h5⟩,hp,hf⟩:=hx
  have hm:=wA3 (d:=([]:List D125)) (show InB x.2.2.1 (len y11) from ⟨h0,h4⟩)
  have hq:=ha.2 _ hm
  have hq0:=xT7 (nth y11 x.2.2.1 ([]:List D125))
  have e2:len x.1=(x.1.length:Int):=rfl
  have hf1:=hf.1
  exact⟨⟨h0,h4⟩,fun _=>⟨⟨hq0,Int.le_refl _,(show len (nth y11 x.2.2.1 ([]:List D125))≤4294967296 by omega)⟩,(oO6 _ _ rfl rfl hq).1,(show ((x.1.length+1:Nat):Int)≤4294967296 by omega)⟩⟩
 ·simp only[wA6,wZ9,jB,decide_eq_true_eq,jK,decide_eq_false_iff_not] at hg
  obtain⟨h4,hk⟩:=hg
  obtain⟨⟨h0,h5⟩,hp,hf⟩:=hx
  have hm:=wA3 (d:=([]:List D125)) (show InB x.2.2.1 (len y11) from ⟨h0,h4⟩)
  have hq:=ha.2 _ hm
  have hq1:=h1 _ hm
  have e:=uJ9 h0 h4 (by omega)
  have e2:IntKind.wrap .i64 (x.2.1+len (nth y11 x.2.2.1 ([]:List D125)))=x.2.1+len (nth y11 x.2.2.1 ([]:List D125)):=wE7 (xY3 (by omega) (by omega))
  rw[e2] at hk
  refine⟨⟨?_,?_,?_⟩,?_⟩
  ·show 0≤IntKind.wrap .i64 (x.2.2.1+1)∧IntKind.wrap .i64 (x.2.2.1+1)≤len y11
   rw[e];omega
  ·show 0≤IntKind.wrap .i64 (x.2.1+len (nth y11 x.2.2.1 ([]:List D125)))∧IntKind.wrap .i64 (x.2.1+len (nth y11 x.2.2.1 ([]:List D125)))≤4096
   rw[e2];omega
  ·show Few (IntKind.wrap .i64 (x.2.1+len (nth y11 x.2.2.1 ([]:List D125)))) 64 (x.1++[_])
   rw[e2]
   refine wB0 (oD8 hf ?_) (by omega:x.2.1+1≤_)
   have:=(oO6 (y0,y1,y2,x.1,(IntKind.wrap .i64 (x.2.1+len (nth y11 x.2.2.1 ([]:List D125)))),y3,y4,y5,y6,y7,y8,y9,y10,y11,len y11,x.2.2.1,nth y11 x.2.2.1 ([]:List D125),len (nth y11 x.2.2.1 ([]:List D125)),()) _ rfl rfl hq).2
   exact Int.le_trans (Int.le_of_eq this) hq
  ·show (len y11-IntKind.wrap .i64 (x.2.2.1+1)).toNat<(len y11-x.2.2.1).toNat
   rw[e];omega
def oD9 (s:D163):Prop:=len s.2.2.2.1=95∧∀ i,InB i 95→len (nth s.2.2.2.1 i Z192).2.2.1<9223372036854775808∧Few 64 64 (f126 (nth s.2.2.2.1 i Z192).2.2.1).1∧∀ q∈(f126 (nth s.2.2.2.1 i Z192).2.2.1).1,1≤len q
theorem oE:oD9 std:=⟨sC7,fun _ h=>sZ4 h⟩
def in18 (y:xZ9)(x:wA):wB4:=(y.1,y.2.1,y.2.2.1,y.2.2.2.1,nth y.2.2.2.2.2.2.2.1 x.2.2.1 Z125,y.2.2.2.2.1,y.2.2.2.2.2.1,y.2.2.2.2.2.2.1,y.2.2.2.2.2.2.2.1,y.2.2.2.2.2.2.2.2.1,x.2.2.1,(f126 (nth y.2.1.2.2.2.1 (nth y.2.2.2.2.2.2.2.1 x.2.2.1 Z125).1 Z192).2.2.1).1,len (f126 (nth y.2.1.2.2.2.1 (nth y.2.2.2.2.2.2.2.1 x.2.2.1 Z125).1 Z192).2.2.1).1,())
theorem oO7 (y:xZ9)(x:wA):xY6 y x=((zC3 (wA6 (in18 y x)) (xY9 (in18 y x)) (x.1,x.2.1,(0:Int),())).1,(zC3 (wA6 (in18 y x)) (xY9 (in18 y x)) (x.1,x.2.1,(0:Int),())).2.1,IntKind.wrap .i64 (x.2.2.1+1),()):=rfl
theorem ok12 (y:xZ9)(x:wA):wF6 y x=(decide (x.2.2.1<y.2.2.2.2.2.2.2.2.1)=true→(InB x.2.2.1 (len y.2.2.2.2.2.2.2.1)∧(InB (nth y.2.2.2.2.2.2.2.1 x.2.2.1 Z125).1 (len y.2.1.2.2.2.1)∧((vO9 (nth y.2.1.2.2.2.1 (nth y.2.2.2.2.2.2.2.1 x.2.2.1 Z125).1 Z192).2.2.1)∧((!((f126 (nth y.2.1.2.2.2.1 (nth y.2.2.2.2.2.2.2.1 x.2.2.1 Z125).1 Z192).2.2.1).2.1 !=0))=true→(Am.Ends (wA6 (in18 y x)) (xY9 (in18 y x)) (wH9 (in18 y x)) (x.1,x.2.1,(0:Int),()))))))):=rfl
theorem oQ7 (y:xZ9)(a:List D125)(A:List (List D125))(n:Int){s:D163}(hG:oD9 s)(hs:y.2.1=s)(hy1:y.2.2.2.2.2.2.2.1=a)(hy2:y.2.2.2.2.2.2.2.2.1=len a)(ha:len a≤1000000)(hi:∀ q∈a,InB q.1 95)(hA:Pts A n) :
  Am.Ends (wB1 y) (xY6 y) (wF6 y) (A,n,0,()) ∧
  Pts (zC3 (wB1 y) (xY6 y) (A,n,0,())).1 (zC3 (wB1 y) (xY6 y) (A,n,0,())).2.1:=by
 have h0a:=xT7 a
 obtain⟨y0,y1,y2,y3,y4,y5,y6,y7,y8,⟨⟩⟩:=y
 simp only at hy1 hy2 hs
 subst hy1 hy2
 cases hs
 have key:∀ (x:wA),((0≤x.2.2.1∧x.2.2.1≤len y7)∧Pts x.1 x.2.1)→x.2.2.1<len y7→InB (nth y7 x.2.2.1 Z125).1 95∧vO9 (nth s.2.2.2.1 (nth y7 x.2.2.1 Z125).1 Z192).2.2.1∧(∀ u:List D125,True) ∧
   ∀ y:wB4,y.2.2.2.2.2.2.2.2.2.2.2.1=(f126 (nth s.2.2.2.1 (nth y7 x.2.2.1 Z125).1 Z192).2.2.1).1→y.2.2.2.2.2.2.2.2.2.2.2.2.1=len (f126 (nth s.2.2.2.1 (nth y7 x.2.2.1 Z125).1 Z192).2.2.1).1 →
    Am.Ends (wA6 y) (xY9 y) (wH9 y) (x.1,x.2.1,0,())∧Pts (zC3 (wA6 y) (xY9 y) (x.1,x.2.1,0,())).1 (zC3 (wA6 y) (xY9 y) (x.1,x.2.1,0,())).2.1:=fun x hx h4=>by
  have hb:=hi _ (wA3 (d:=Z125) (show InB x.2.2.1 (len y7) from ⟨hx.1.1,h4⟩))
  obtain⟨g1,g2,g3⟩:=hG.2 _ hb
  exact⟨hb,(rL1 _ g1).1,fun _=>trivial,fun y e1 e2=>oQ6 y _ x.1 x.2.1 e1 e2 g2 g3 hx.2⟩
 have w:=whole (g:=wB1 (y0,s,y2,y3,y4,y5,y6,y7,len y7,())) (next:=xY6 (y0,s,y2,y3,y4,y5,y6,y7,len y7,())) (ok:=wF6 (y0,s,y2,y3,y4,y5,y6,y7,len y7,())) (fun x=>(0≤x.2.2.1∧x.2.2.1≤len y7)∧Pts x.1 x.2.1) (fun x=>(len y7-x.2.2.1).toNat) (fun x hx=>?_) (fun x hx hg=>?_) (x:=(A,n,0,())) ⟨⟨Int.le_refl 0,h0a⟩,hA⟩ (by unfold zI1;simp only;omega)
 ·exact⟨w.1,w.2.1.2⟩
 ·rw[ok12];intro h3
  have h4:x.2.2.1<len y7:=jF h3
  obtain⟨k1,k2,_,k3⟩:=key x hx h4
  exact⟨⟨hx.1.1,h4⟩,(show InB _ (len s.2.2.2.1) by rw[hG.1];exact k1),k2,fun _=>(k3 _ rfl rfl).1⟩
 ·have h4:x.2.2.1<len y7:=xZ1 hg
  obtain⟨k1,k2,_,k3⟩:=key x hx h4
  have e:=uJ9 hx.1.1 h4 (by omega)
  rw[oO7,e]
  refine⟨⟨?_,?_⟩,?_⟩
  ·have:=hx.1
   exact (show 0≤x.2.2.1+1∧x.2.2.1+1≤len y7 by omega)
  ·exact (k3 _ rfl rfl).2
  ·have:=hx.1
   exact (show (len y7-(x.2.2.1+1)).toNat<(len y7-x.2.2.1).toNat by omega)
def in12 (y:wE5)(x:wB8):xZ9:=(y.1,y.2.1,y.2.2.1,x.2.2.1,y.2.2.2.1,y.2.2.2.2.1,x.2.2.1,(f150 y.2.2.1 (nth y.2.2.2.1 x.2.2.1 ([]:List UInt8))).1,len (f150 y.2.2.1 (nth y.2.2.2.1 x.2.2.1 ([]:List UInt8))).1,())
theorem oQ8 (y:wE5)(x:wB8):wF2 y x=((zC3 (wB1 (in12 y x)) (xY6 (in12 y x)) (x.1,x.2.1,(0:Int),())).1,(zC3 (wB1 (in12 y x)) (xY6 (in12 y x)) (x.1,x.2.1,(0:Int),())).2.1,IntKind.wrap .i64 (x.2.2.1+1),()):=rfl
theorem ok8 (y:wE5)(x:wB8):wQ2 y x=(decide (x.2.2.1<y.2.2.2.2.1)=true→(InB x.2.2.1 (len y.2.2.2.1)∧(vN2 y.2.2.1 (nth y.2.2.2.1 x.2.2.1 ([]:List UInt8))∧(Am.Ends (wB1 (in12 y x)) (xY6 (in12 y x)) (wF6 (in12 y x)) (x.1,x.2.1,(0:Int),()))))):=rfl
theorem out8 {s:D163}(hG:oD9 s){p:D213}(hp:sC6 p)(k:Int)(l:List (List UInt8))(hl:Lns 20000 l) :
  Am.Ends (vA (k,s,p,l,len l,())) (wF2 (k,s,p,l,len l,())) (wQ2 (k,s,p,l,len l,())) ([],0,0,()) ∧
  Pts (zC3 (vA (k,s,p,l,len l,())) (wF2 (k,s,p,l,len l,())) ([],0,0,())).1 (zC3 (vA (k,s,p,l,len l,())) (wF2 (k,s,p,l,len l,())) ([],0,0,())).2.1:=by
 have hl1:=hl.1
 have key:∀ (x:wB8),((0≤x.2.2.1∧x.2.2.1≤len l)∧Pts x.1 x.2.1)→x.2.2.1<len l→vN2 p (nth l x.2.2.1 ([]:List UInt8)) ∧
   ∀ y:xZ9,y.2.1=s→y.2.2.2.2.2.2.2.1=(f150 p (nth l x.2.2.1 ([]:List UInt8))).1→y.2.2.2.2.2.2.2.2.1=len (f150 p (nth l x.2.2.1 ([]:List UInt8))).1 →
    Am.Ends (wB1 y) (xY6 y) (wF6 y) (x.1,x.2.1,0,())∧Pts (zC3 (wB1 y) (xY6 y) (x.1,x.2.1,0,())).1 (zC3 (wB1 y) (xY6 y) (x.1,x.2.1,0,())).2.1:=fun x hx h4=>by
  have hm:=hl.2 _ (wA3 (d:=([]:List UInt8)) (show InB x.2.2.1 (len l) from ⟨hx.1.1,h4⟩))
  obtain⟨g1,g2,g3⟩:=rL8 hp (nth l x.2.2.1 ([]:List UInt8)) (by omega)
  exact⟨g1,fun y e0 e1 e2=>oQ7 y _ x.1 x.2.1 hG e0 e1 e2 (by omega) g3 hx.2⟩
 have w:=whole (g:=vA (k,s,p,l,len l,())) (next:=wF2 (k,s,p,l,len l,())) (ok:=wQ2 (k,s,p,l,len l,())) (fun x=>(0≤x.2.2.1∧x.2.2.1≤len l)∧Pts x.1 x.2.1) (fun x=>(len l-x.2.2.1).toNat) (fun x hx=>?_) (fun x hx hg=>?_) (x:=([],0,0,())) ⟨⟨Int.le_refl 0,xT7 l⟩,⟨by decide,by decide⟩,uN (by decide)⟩ (by unfold zI1;simp only;omega)
 ·exact⟨w.1,w.2.1.2⟩
 ·rw[ok8];intro h3
  have h4:x.2.2.1<len l:=jF h3
  obtain⟨k1,k2⟩:=key x hx h4
  exact⟨⟨hx.1.1,h4⟩,k1,(k2 _ rfl rfl rfl).1⟩
 ·have h4:x.2.2.1<len l:=xZ1 hg
  obtain⟨k1,k2⟩:=key x hx h4
  have e:=uJ9 hx.1.1 h4 (by omega)
  rw[oQ8,e]
  refine⟨⟨?_,?_⟩,?_⟩
  ·have:=hx.1
   exact (show 0≤x.2.2.1+1∧x.2.2.1+1≤len l by omega)
  ·exact (k2 _ rfl rfl rfl).2
  ·have:=hx.1
   exact (show (len l-(x.2.2.1+1)).toNat<(len l-x.2.2.1).toNat by omega)
theorem pB1 (s:List UInt8)(a b:Int)(hs:len s<9223372036854775808):tF5 std s a b∧Few 4096 64 (f130 std s a b).1:=by
 have h1:=pA6 s a b hs
 have h8:f147 std s a b=0→vJ1 (f148 std) s a b∧_:=fun h0=>by
  have h3:=pB0 qK4 s a b (qK3 h0)
  exact And.intro h3.1 (out8 oE qK4 a (f149 (f148 std) s a b) h3.2)
 have hz:(!(f147 std s a b !=0))=true→f147 std s a b=0:=fun h=>by simpa using h
 refine⟨⟨h1,fun h0=>⟨qX5,(h8 (hz h0)).1,(h8 (hz h0)).2.1⟩⟩,?_⟩
 simp only[f130,qT,vQ2]
 cases hc:(f147 std s a b !=0) with
 |true=>exact uN (by decide)
 |false =>
  have h9:=(h8 (hz (by rw[hc];rfl))).2.2
  simp only[jD]
  cases uL5 _ _ with
  |false=>exact wB0 h9.2 h9.1.2
  |true =>
   simp only[jE,vQ1,vK6,vK5]
   generalize ((f126 _).2.1 !=0)=c
   cases c<;>exact uN (by decide)
end Go.Proofs.YtpanghcojpnkaaaGreatDoor.Am
