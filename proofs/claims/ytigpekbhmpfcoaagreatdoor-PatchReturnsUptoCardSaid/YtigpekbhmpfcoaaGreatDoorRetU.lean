/- node.Check answers for every node: texts. No condition. -/
import Derived.Test.YtigpekbhmpfcoaaGreatDoorRetT
import Derived.Test.YtigpekbhmpfcoaaGreatDoorRetO
namespace Go.Proofs.YtigpekbhmpfcoaaGreatDoor.Am
open Go Go.Am
theorem Few_nil {n m:Int} (h:0 ≤ n):Few n m []:=⟨h,fun q hq=>by cases hq⟩
theorem Few_add {n m:Int} {l:List (List D94)} {q:List D94} (h:Few n m l) (hq:len q ≤ m):Few (n + 1) m (l ++ [q]) :=
 ⟨by rw [len_app,len_one]; have:=h.1; omega,mem_app_one h.2 hq⟩
theorem wrap_next {x n:Int} (h0:0 ≤ x) (h:x < n) (hn:n ≤ 4611686018427387904):IntKind.wrap .i64 (x + 1) = x + 1:=wrap_in (inr_small (by omega) (by omega))
theorem glyph_polys {i:Int} (h:InB i 95):len (nth std.2.2.2.1 i Z184).2.2.1 < 9223372036854775808 ∧ Few 64 64 (f114 (nth std.2.2.2.1 i Z184).2.2.1).1 ∧ ∀ q ∈ (f114 (nth std.2.2.2.1 i Z184).2.2.1).1,1 ≤ len q:=by
 have hm:nth std.2.2.2.1 i Z184 ∈ std.2.2.2.1:=nth_mem (by rw [std_len]; exact h)
 have hp:=List.all_eq_true.1 std_polys _ hm
 have hs:=List.all_eq_true.1 std_segs _ hm
 simp only [polyOk,Bool.and_eq_true,decide_eq_true_eq,List.all_eq_true] at hp hs
 refine ⟨by unfold len; omega,⟨by unfold len; omega,fun q hq=>?_⟩,fun q hq=>?_⟩
 ·have:=hp.2 q hq; unfold len; omega
 ·have:=hp.2 q hq; unfold len; omega
theorem out25 (y:wO8) (a:List D94) (hy1:y.2.2.2.2.2.2.2.2.2.2.2.2.2.2.2.2.1 = a) (hy2:y.2.2.2.2.2.2.2.2.2.2.2.2.2.2.2.2.2.1 = len a) (ha:len a ≤ 64) :
  Am.Ends (wX9 y) (wI7 y) (wO9 y) (List.replicate (Int.toNat (len a)) Z94,0,()) ∧
  len (zB9 (wX9 y) (wI7 y) (List.replicate (Int.toNat (len a)) Z94,0,())).1 = len a:=by
 have h0a:=xT a
 have w:=whole (g:=wX9 y) (next:=wI7 y) (ok:=wO9 y) (fun x=>(0 ≤ x.2.1 ∧ x.2.1 ≤ len a) ∧ len x.1 = len a) (fun x=>(len a - x.2.1).toNat) (fun x hx=>fun h3=>?_) (fun x hx hg=>?_) (x:=(List.replicate (Int.toNat (len a)) Z94,0,())) ⟨⟨Int.le_refl 0,h0a⟩,by simp only [len,List.length_replicate]; omega⟩ (by unfold zH8; simp only; omega)
 ·exact ⟨w.1,w.2.1.2⟩
 ·have h4:x.2.1 < y.2.2.2.2.2.2.2.2.2.2.2.2.2.2.2.2.2.1:=of_decide_eq_true h3
  rw [hy2] at h4
  obtain ⟨⟨h0,h1⟩,h2⟩:=hx
  exact ⟨(by rw [hy1]; exact ⟨h0,h4⟩),wA8 _ _,wA8 _ _,(by rw [h2]; exact ⟨h0,h4⟩),(by rw [h2]; exact h4)⟩
 ·have h4:x.2.1 < y.2.2.2.2.2.2.2.2.2.2.2.2.2.2.2.2.2.1:=of_decide_eq_true hg
  rw [hy2] at h4
  obtain ⟨⟨h0,h1⟩,h2⟩:=hx
  have e:=wrap_next h0 h4 (by omega)
  refine ⟨⟨?_,?_⟩,?_⟩
  ·show 0 ≤ IntKind.wrap .i64 (x.2.1 + 1) ∧ IntKind.wrap .i64 (x.2.1 + 1) ≤ len a
   rw [e]; omega
  ·show len (List.set x.1 _ _) = len a
   rw [len_set]; exact h2
  ·show (len a - IntKind.wrap .i64 (x.2.1 + 1)).toNat < (len a - x.2.1).toNat
   rw [e]; omega
def Pts (l:List (List D94)) (n:Int):Prop:=(0 ≤ n ∧ n ≤ 4096) ∧ Few n 64 l
theorem out18 (y:wA2) (a A:List (List D94)) (n:Int) (hy1:y.2.2.2.2.2.2.2.2.2.2.2.1 = a) (hy2:y.2.2.2.2.2.2.2.2.2.2.2.2.1 = len a) (ha:Few 64 64 a) (h1:∀ q ∈ a,1 ≤ len q) (hA:Pts A n) :
  Am.Ends (xZ6 y) (xY3 y) (wH1 y) (A,n,0,()) ∧
  Pts (zB9 (xZ6 y) (xY3 y) (A,n,0,())).1 (zB9 (xZ6 y) (xY3 y) (A,n,0,())).2.1:=by
 have h0a:=xT a
 have ha1:=ha.1
 obtain ⟨y0,y1,y2,y3,y4,y5,y6,y7,y8,y9,y10,y11,y12,⟨⟩⟩:=y
 simp only at hy1 hy2
 subst hy1 hy2
 have w:=whole (g:=xZ6 (y0,y1,y2,y3,y4,y5,y6,y7,y8,y9,y10,y11,len y11,())) (next:=xY3 (y0,y1,y2,y3,y4,y5,y6,y7,y8,y9,y10,y11,len y11,())) (ok:=wH1 (y0,y1,y2,y3,y4,y5,y6,y7,y8,y9,y10,y11,len y11,())) (fun x=>(0 ≤ x.2.2.1 ∧ x.2.2.1 ≤ len y11) ∧ Pts x.1 x.2.1) (fun x=>(len y11 - x.2.2.1).toNat) (fun x hx=>fun h3=>?_) (fun x hx hg=>?_) (x:=(A,n,0,())) ⟨⟨Int.le_refl 0,h0a⟩,hA⟩ (by unfold zH8; simp only; omega)
 ·exact ⟨w.1,w.2.1.2⟩
 ·have h4:x.2.2.1 < len y11:=of_decide_eq_true h3
  obtain ⟨⟨h0,h5⟩,hp,hf⟩:=hx
  have hm:=nth_mem (d:=([]:List D94)) (show InB x.2.2.1 (len y11) from ⟨h0,h4⟩)
  have hq:=ha.2 _ hm
  have hq0:=xT (nth y11 x.2.2.1 ([]:List D94))
  have e2:len x.1 = (x.1.length:Int):=rfl
  have hf1:=hf.1
  exact ⟨⟨h0,h4⟩,fun _=>⟨⟨hq0,Int.le_refl _,(show len (nth y11 x.2.2.1 ([]:List D94)) ≤ 4294967296 by omega)⟩,(out25 _ _ rfl rfl hq).1,(show ((x.1.length + 1:Nat):Int) ≤ 4294967296 by omega)⟩⟩
 ·simp only [xZ6,wZ8,Bool.and_eq_true,decide_eq_true_eq,Bool.not_eq_true',decide_eq_false_iff_not] at hg
  obtain ⟨h4,hk⟩:=hg
  obtain ⟨⟨h0,h5⟩,hp,hf⟩:=hx
  have hm:=nth_mem (d:=([]:List D94)) (show InB x.2.2.1 (len y11) from ⟨h0,h4⟩)
  have hq:=ha.2 _ hm
  have hq1:=h1 _ hm
  have e:=wrap_next h0 h4 (by omega)
  have e2:IntKind.wrap .i64 (x.2.1 + len (nth y11 x.2.2.1 ([]:List D94))) = x.2.1 + len (nth y11 x.2.2.1 ([]:List D94)):=wrap_in (inr_small (by omega) (by omega))
  rw [e2] at hk
  refine ⟨⟨?_,?_,?_⟩,?_⟩
  ·show 0 ≤ IntKind.wrap .i64 (x.2.2.1 + 1) ∧ IntKind.wrap .i64 (x.2.2.1 + 1) ≤ len y11
   rw [e]; omega
  ·show 0 ≤ IntKind.wrap .i64 (x.2.1 + len (nth y11 x.2.2.1 ([]:List D94))) ∧ IntKind.wrap .i64 (x.2.1 + len (nth y11 x.2.2.1 ([]:List D94))) ≤ 4096
   rw [e2]; omega
  ·show Few (IntKind.wrap .i64 (x.2.1 + len (nth y11 x.2.2.1 ([]:List D94)))) 64 (x.1 ++ [_])
   rw [e2]
   refine Few_mono (Few_add hf ?_) (by omega:x.2.1 + 1 ≤ _)
   have:=(out25 (y0,y1,y2,x.1,(IntKind.wrap .i64 (x.2.1 + len (nth y11 x.2.2.1 ([]:List D94)))),y3,y4,y5,y6,y7,y8,y9,y10,y11,len y11,x.2.2.1,nth y11 x.2.2.1 ([]:List D94),len (nth y11 x.2.2.1 ([]:List D94)),()) _ rfl rfl hq).2
   exact Int.le_trans (Int.le_of_eq this) hq
  ·show (len y11 - IntKind.wrap .i64 (x.2.2.1 + 1)).toNat < (len y11 - x.2.2.1).toNat
   rw [e]; omega
def GlyOk (s:D155):Prop:=len s.2.2.2.1 = 95 ∧ ∀ i,InB i 95 → len (nth s.2.2.2.1 i Z184).2.2.1 < 9223372036854775808 ∧ Few 64 64 (f114 (nth s.2.2.2.1 i Z184).2.2.1).1 ∧ ∀ q ∈ (f114 (nth s.2.2.2.1 i Z184).2.2.1).1,1 ≤ len q
theorem gly_std:GlyOk std:=⟨std_len,fun _ h=>glyph_polys h⟩
def in18 (y:xZ) (x:xZ0):wA2:=(y.1,y.2.1,y.2.2.1,y.2.2.2.1,nth y.2.2.2.2.2.2.2.1 x.2.2.1 Z94,y.2.2.2.2.1,y.2.2.2.2.2.1,y.2.2.2.2.2.2.1,y.2.2.2.2.2.2.2.1,y.2.2.2.2.2.2.2.2.1,x.2.2.1,(f114 (nth y.2.1.2.2.2.1 (nth y.2.2.2.2.2.2.2.1 x.2.2.1 Z94).1 Z184).2.2.1).1,len (f114 (nth y.2.1.2.2.2.1 (nth y.2.2.2.2.2.2.2.1 x.2.2.1 Z94).1 Z184).2.2.1).1,())
theorem next12 (y:xZ) (x:xZ0):xY1 y x = ((zB9 (xZ6 (in18 y x)) (xY3 (in18 y x)) (x.1,x.2.1,(0:Int),())).1,(zB9 (xZ6 (in18 y x)) (xY3 (in18 y x)) (x.1,x.2.1,(0:Int),())).2.1,IntKind.wrap .i64 (x.2.2.1 + 1),()):=rfl
theorem ok12 (y:xZ) (x:xZ0):wE3 y x = (decide (x.2.2.1 < y.2.2.2.2.2.2.2.2.1) = true → (InB x.2.2.1 (len y.2.2.2.2.2.2.2.1) ∧ (InB (nth y.2.2.2.2.2.2.2.1 x.2.2.1 Z94).1 (len y.2.1.2.2.2.1) ∧ ((vP3 (nth y.2.1.2.2.2.1 (nth y.2.2.2.2.2.2.2.1 x.2.2.1 Z94).1 Z184).2.2.1) ∧ ((!((f114 (nth y.2.1.2.2.2.1 (nth y.2.2.2.2.2.2.2.1 x.2.2.1 Z94).1 Z184).2.2.1).2.1 != 0)) = true → (Am.Ends (xZ6 (in18 y x)) (xY3 (in18 y x)) (wH1 (in18 y x)) (x.1,x.2.1,(0:Int),()))))))):=rfl
theorem out12 (y:xZ) (a:List D94) (A:List (List D94)) (n:Int) {s:D155} (hG:GlyOk s) (hs:y.2.1 = s) (hy1:y.2.2.2.2.2.2.2.1 = a) (hy2:y.2.2.2.2.2.2.2.2.1 = len a) (ha:len a ≤ 1000000) (hi:∀ q ∈ a,InB q.1 95) (hA:Pts A n) :
  Am.Ends (wA0 y) (xY1 y) (wE3 y) (A,n,0,()) ∧
  Pts (zB9 (wA0 y) (xY1 y) (A,n,0,())).1 (zB9 (wA0 y) (xY1 y) (A,n,0,())).2.1:=by
 have h0a:=xT a
 obtain ⟨y0,y1,y2,y3,y4,y5,y6,y7,y8,⟨⟩⟩:=y
 simp only at hy1 hy2 hs
 subst hy1 hy2
 cases hs
 have key:∀ (x:xZ0),((0 ≤ x.2.2.1 ∧ x.2.2.1 ≤ len y7) ∧ Pts x.1 x.2.1) → x.2.2.1 < len y7 → InB (nth y7 x.2.2.1 Z94).1 95 ∧ vP3 (nth s.2.2.2.1 (nth y7 x.2.2.1 Z94).1 Z184).2.2.1 ∧ (∀ u:List D94,True) ∧
   ∀ y:wA2,y.2.2.2.2.2.2.2.2.2.2.2.1 = (f114 (nth s.2.2.2.1 (nth y7 x.2.2.1 Z94).1 Z184).2.2.1).1 → y.2.2.2.2.2.2.2.2.2.2.2.2.1 = len (f114 (nth s.2.2.2.1 (nth y7 x.2.2.1 Z94).1 Z184).2.2.1).1 →
    Am.Ends (xZ6 y) (xY3 y) (wH1 y) (x.1,x.2.1,0,()) ∧ Pts (zB9 (xZ6 y) (xY3 y) (x.1,x.2.1,0,())).1 (zB9 (xZ6 y) (xY3 y) (x.1,x.2.1,0,())).2.1:=fun x hx h4=>by
  have hb:=hi _ (nth_mem (d:=Z94) (show InB x.2.2.1 (len y7) from ⟨hx.1.1,h4⟩))
  obtain ⟨g1,g2,g3⟩:=hG.2 _ hb
  exact ⟨hb,(rT3 _ g1).1,fun _=>trivial,fun y e1 e2=>out18 y _ x.1 x.2.1 e1 e2 g2 g3 hx.2⟩
 have w:=whole (g:=wA0 (y0,s,y2,y3,y4,y5,y6,y7,len y7,())) (next:=xY1 (y0,s,y2,y3,y4,y5,y6,y7,len y7,())) (ok:=wE3 (y0,s,y2,y3,y4,y5,y6,y7,len y7,())) (fun x=>(0 ≤ x.2.2.1 ∧ x.2.2.1 ≤ len y7) ∧ Pts x.1 x.2.1) (fun x=>(len y7 - x.2.2.1).toNat) (fun x hx=>?_) (fun x hx hg=>?_) (x:=(A,n,0,())) ⟨⟨Int.le_refl 0,h0a⟩,hA⟩ (by unfold zH8; simp only; omega)
 ·exact ⟨w.1,w.2.1.2⟩
 ·rw [ok12]; intro h3
  have h4:x.2.2.1 < len y7:=of_decide_eq_true h3
  obtain ⟨k1,k2,_,k3⟩:=key x hx h4
  exact ⟨⟨hx.1.1,h4⟩,(show InB _ (len s.2.2.2.1) by rw [hG.1]; exact k1),k2,fun _=>(k3 _ rfl rfl).1⟩
 ·have h4:x.2.2.1 < len y7:=and_lt hg
  obtain ⟨k1,k2,_,k3⟩:=key x hx h4
  have e:=wrap_next hx.1.1 h4 (by omega)
  rw [next12,e]
  refine ⟨⟨?_,?_⟩,?_⟩
  ·have:=hx.1
   exact (show 0 ≤ x.2.2.1 + 1 ∧ x.2.2.1 + 1 ≤ len y7 by omega)
  ·exact (k3 _ rfl rfl).2
  ·have:=hx.1
   exact (show (len y7 - (x.2.2.1 + 1)).toNat < (len y7 - x.2.2.1).toNat by omega)
def in12 (y:wD3) (x:wA5):xZ:=(y.1,y.2.1,y.2.2.1,x.2.2.1,y.2.2.2.1,y.2.2.2.2.1,x.2.2.1,(f138 y.2.2.1 (nth y.2.2.2.1 x.2.2.1 ([]:List UInt8))).1,len (f138 y.2.2.1 (nth y.2.2.2.1 x.2.2.1 ([]:List UInt8))).1,())
theorem next8 (y:wD3) (x:wA5):wE y x = ((zB9 (wA0 (in12 y x)) (xY1 (in12 y x)) (x.1,x.2.1,(0:Int),())).1,(zB9 (wA0 (in12 y x)) (xY1 (in12 y x)) (x.1,x.2.1,(0:Int),())).2.1,IntKind.wrap .i64 (x.2.2.1 + 1),()):=rfl
theorem ok8 (y:wD3) (x:wA5):wP y x = (decide (x.2.2.1 < y.2.2.2.2.1) = true → (InB x.2.2.1 (len y.2.2.2.1) ∧ (vN9 y.2.2.1 (nth y.2.2.2.1 x.2.2.1 ([]:List UInt8)) ∧ (Am.Ends (wA0 (in12 y x)) (xY1 (in12 y x)) (wE3 (in12 y x)) (x.1,x.2.1,(0:Int),()))))):=rfl
theorem out8 {s:D155} (hG:GlyOk s) {p:D205} (hp:SetOk p) (k:Int) (l:List (List UInt8)) (hl:Lns 20000 l) :
  Am.Ends (wZ9 (k,s,p,l,len l,())) (wE (k,s,p,l,len l,())) (wP (k,s,p,l,len l,())) ([],0,0,()) ∧
  Pts (zB9 (wZ9 (k,s,p,l,len l,())) (wE (k,s,p,l,len l,())) ([],0,0,())).1 (zB9 (wZ9 (k,s,p,l,len l,())) (wE (k,s,p,l,len l,())) ([],0,0,())).2.1:=by
 have hl1:=hl.1
 have key:∀ (x:wA5),((0 ≤ x.2.2.1 ∧ x.2.2.1 ≤ len l) ∧ Pts x.1 x.2.1) → x.2.2.1 < len l → vN9 p (nth l x.2.2.1 ([]:List UInt8)) ∧
   ∀ y:xZ,y.2.1 = s → y.2.2.2.2.2.2.2.1 = (f138 p (nth l x.2.2.1 ([]:List UInt8))).1 → y.2.2.2.2.2.2.2.2.1 = len (f138 p (nth l x.2.2.1 ([]:List UInt8))).1 →
    Am.Ends (wA0 y) (xY1 y) (wE3 y) (x.1,x.2.1,0,()) ∧ Pts (zB9 (wA0 y) (xY1 y) (x.1,x.2.1,0,())).1 (zB9 (wA0 y) (xY1 y) (x.1,x.2.1,0,())).2.1:=fun x hx h4=>by
  have hm:=hl.2 _ (nth_mem (d:=([]:List UInt8)) (show InB x.2.2.1 (len l) from ⟨hx.1.1,h4⟩))
  obtain ⟨g1,g2,g3⟩:=rU hp (nth l x.2.2.1 ([]:List UInt8)) (by omega)
  exact ⟨g1,fun y e0 e1 e2=>out12 y _ x.1 x.2.1 hG e0 e1 e2 (by omega) g3 hx.2⟩
 have w:=whole (g:=wZ9 (k,s,p,l,len l,())) (next:=wE (k,s,p,l,len l,())) (ok:=wP (k,s,p,l,len l,())) (fun x=>(0 ≤ x.2.2.1 ∧ x.2.2.1 ≤ len l) ∧ Pts x.1 x.2.1) (fun x=>(len l - x.2.2.1).toNat) (fun x hx=>?_) (fun x hx hg=>?_) (x:=([],0,0,())) ⟨⟨Int.le_refl 0,xT l⟩,⟨by decide,by decide⟩,Few_nil (by decide)⟩ (by unfold zH8; simp only; omega)
 ·exact ⟨w.1,w.2.1.2⟩
 ·rw [ok8]; intro h3
  have h4:x.2.2.1 < len l:=of_decide_eq_true h3
  obtain ⟨k1,k2⟩:=key x hx h4
  exact ⟨⟨hx.1.1,h4⟩,k1,(k2 _ rfl rfl rfl).1⟩
 ·have h4:x.2.2.1 < len l:=and_lt hg
  obtain ⟨k1,k2⟩:=key x hx h4
  have e:=wrap_next hx.1.1 h4 (by omega)
  rw [next8,e]
  refine ⟨⟨?_,?_⟩,?_⟩
  ·have:=hx.1
   exact (show 0 ≤ x.2.2.1 + 1 ∧ x.2.2.1 + 1 ≤ len l by omega)
  ·exact (k2 _ rfl rfl rfl).2
  ·have:=hx.1
   exact (show (len l - (x.2.2.1 + 1)).toNat < (len l - x.2.2.1).toNat by omega)
theorem pP9 (s:List UInt8) (a b:Int) (hs:len s < 9223372036854775808):tM2 std s a b ∧ Few 4096 64 (f118 std s a b).1:=by
 have h1:=pP4 s a b hs
 have h8:f135 std s a b = 0 → vK6 (f136 std) s a b ∧ _:=fun h0=>by
  have h3:=pP8 set_std s a b (qV4 h0)
  exact And.intro h3.1 (out8 gly_std set_std a (f137 (f136 std) s a b) h3.2)
 have hz:(!(f135 std s a b != 0)) = true → f135 std s a b = 0:=fun h=>by simpa using h
 refine ⟨⟨h1,fun h0=>⟨pM8,(h8 (hz h0)).1,(h8 (hz h0)).2.1⟩⟩,?_⟩
 simp only [f118,pF1,vQ7]
 cases hc:(f135 std s a b != 0) with
 | true=>exact Few_nil (by decide)
 | false =>
  have h9:=(h8 (hz (by rw [hc]; rfl))).2.2
  simp only [cond_false]
  cases uQ2 _ _ with
  | false=>exact Few_mono h9.2 h9.1.2
  | true =>
   simp only [cond_true,vQ6,vM0,vM]
   generalize ((f114 _).2.1 != 0) = c
   cases c <;> exact Few_nil (by decide)
end Go.Proofs.YtigpekbhmpfcoaaGreatDoor.Am
