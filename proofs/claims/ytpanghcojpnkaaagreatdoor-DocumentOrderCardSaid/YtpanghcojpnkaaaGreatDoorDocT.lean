/- node.Check answers for every node: texts, up to the lines. No condition. -/
import Derived.Test.YtpanghcojpnkaaaGreatDoorDocN
import Derived.Test.YtpanghcojpnkaaaGreatDoorDocB
import Derived.Test.YtpanghcojpnkaaaGreatDoorDocC1
import Derived.Test.YtpanghcojpnkaaaGreatDoorDocC2
import Derived.Test.YtpanghcojpnkaaaGreatDoorDocC3
import Derived.Test.YtpanghcojpnkaaaGreatDoorDocC4
import Derived.Test.YtpanghcojpnkaaaGreatDoorDocC5
import Derived.Test.YtpanghcojpnkaaaGreatDoorDocC6
import Derived.Test.YtpanghcojpnkaaaGreatDoorMach4
namespace Go.Proofs.YtpanghcojpnkaaaGreatDoor.Am
open Go Go.Am
theorem rD7 (a b c:Int):wN7 a b c:=trivial
theorem qV (s:List UInt8) (w h:Int) (hs:len s < 9223372036854775808):uZ std s w h :=
 ⟨qR9,fun _=>⟨xV4 (xT7 s) hs (fun _ h=>and_lt h) (fun _=>rfl) fun x h1 _=>fun h3=>by
  have h4:x.1 < len s:=of_decide_eq_true h3
  exact ⟨⟨h1,h4⟩,fun _=>⟨h1,h4⟩,fun _=>⟨h1,h4⟩,fun _=>inr_small (by omega) (by omega)⟩,fun _ _=>⟨rD7 _ _ _,fun _=>rD7 _ _ _⟩⟩⟩
theorem qA9 {s:List UInt8} {w h:Int} (h0:f147 std s w h = 0):len s ≤ 128:=by
 simp only [f147,qK7,vL1] at h0
 cases hc:(f165 std != 0) with
 | true =>
  simp only [hc,cond_true] at h0
  simp [h0] at hc
 | false =>
  simp only [hc,cond_false] at h0
  cases he:uG2 _ _ with
  | true=>rw [he] at h0; simp at h0
  | false =>
   rw [he] at h0
   simp only [cond_false] at h0
   cases hk:decide (len s > 128) with
   | true=>rw [hk] at h0; simp at h0
   | false=>have:=of_decide_eq_false hk; omega
def SetOk (p:D213):Prop:=p.1 = std ∧ len p.2.1 = 256 ∧ ∀ v,InB v 256 → -1 ≤ nth p.2.1 v (0:Int) ∧ nth p.2.1 v (0:Int) < 95
theorem std_len:len std.2.2.2.1 = 95:=by simp only [len,std_glyphs]; rfl
theorem std_kern:len std.2.2.2.2.1 = 4:=rfl
theorem set_std:SetOk (f148 std):=by
 refine ⟨qA1,by simp only [len,rC6]; rfl,fun v hv=>?_⟩
 have hm:nth (f148 std).2.1 v (0:Int) ∈ (f148 std).2.1:=nth_mem (by simp only [len,rC6]; exact hv)
 have h:=List.all_eq_true.1 qS0 _ hm
 simp only [Bool.and_eq_true,decide_eq_true_eq] at h
 exact h
theorem qV1 {p:D213} {a b:Int} (hp:p.1 = std) (ha:InB a 95) (hb:InB b 95):uT0 p a b:=by
 have hk:len p.1.2.2.2.2.1 = 4:=by rw [hp]; exact std_kern
 have hg:len p.1.2.2.2.1 = 95:=by rw [hp]; exact std_len
 refine ⟨by rw [hg]; exact ha,by rw [hg]; exact hb,?_⟩
 have w:=whole (g:=vW8 ((nth p.1.2.2.2.1 a Z192).1,(nth p.1.2.2.2.1 b Z192).1,p.1.2.2.2.2.1,(len p.1.2.2.2.2.1),())) (next:=wX6 ((nth p.1.2.2.2.1 a Z192).1,(nth p.1.2.2.2.1 b Z192).1,p.1.2.2.2.2.1,(len p.1.2.2.2.2.1),())) (ok:=vA6 ((nth p.1.2.2.2.1 a Z192).1,(nth p.1.2.2.2.1 b Z192).1,p.1.2.2.2.2.1,(len p.1.2.2.2.2.1),())) (fun x=>0 ≤ x.1 ∧ x.1 ≤ 4) (fun x=>(4 - x.1).toNat) (fun x hx=>fun h3=>by
   have h4:x.1 < len p.1.2.2.2.2.1:=of_decide_eq_true h3
   exact ⟨hx.1,h4⟩) (fun x hx hg=>by
   have h4:x.1 < len p.1.2.2.2.2.1:=and_lt hg
   have e:IntKind.wrap .i64 (x.1 + 1) = x.1 + 1:=wrap_in (inr_small (by omega) (by omega))
   show (0 ≤ IntKind.wrap .i64 (x.1 + 1) ∧ IntKind.wrap .i64 (x.1 + 1) ≤ 4) ∧ (4 - IntKind.wrap .i64 (x.1 + 1)).toNat < (4 - x.1).toNat
   rw [e]; omega) (x:=(0,())) ⟨by decide,by decide⟩ (by simp [zI1])
 exact w.1
theorem byte_in (s:List UInt8) (i:Int):InB (xX5 s i) 256:=by
 have:=(s.getD i.toNat 0).toNat_lt
 unfold InB xX5; omega
theorem mem_app_one {α:Type} {P:α → Prop} {l:List α} {x:α} (h:∀ q ∈ l,P q) (hx:P x):∀ q ∈ l ++ [x],P q:=fun q hq=>by
 rcases List.mem_append.1 hq with h1 | h1
 ·exact h q h1
 ·rw [List.mem_singleton.1 h1]; exact hx
def spotI (s:List UInt8) (x:wJ0):Prop:=(0 ≤ x.2.2.1 ∧ x.2.2.1 ≤ len s) ∧ len x.1 ≤ x.2.2.1 ∧ ∀ q ∈ x.1,InB q.1 95
theorem spot4 {p:D213} (hp:SetOk p) (s:List UInt8) (hs:len s ≤ 1000000) :
  Am.Ends (vA7 (p,s,len s,())) (wL3 (p,s,len s,())) (wU3 (p,s,len s,())) ([],0,0,()) ∧
  spotI s (zC1 (vA7 (p,s,len s,())) (wL3 (p,s,len s,())) ([],0,0,())):=by
 have w:=whole (g:=vA7 (p,s,len s,())) (next:=wL3 (p,s,len s,())) (ok:=wU3 (p,s,len s,())) (spotI s) (fun x=>(len s - x.2.2.1).toNat) (fun x hx=>fun h3=>?_) (fun x hx hg=>?_) (x:=([],0,0,())) ⟨⟨Int.le_refl 0,xT7 s⟩,Int.le_refl 0,fun q hq=>by cases hq⟩ (by unfold zI1; simp only; omega)
 ·exact ⟨w.1,w.2.1⟩
 ·have h4:x.2.2.1 < len s:=of_decide_eq_true h3
  obtain ⟨⟨h0,h1⟩,h2,h5⟩:=hx
  have hb:=byte_in s x.2.2.1
  have hv:=hp.2.2 _ hb
  have hl:len x.1 = (x.1.length:Int):=rfl
  refine ⟨⟨h0,h4⟩,hb,fun hn=>?_⟩
  have hn:¬ nth p.2.1 (xX5 s x.2.2.1) (0:Int) < 0:=by simpa using hn
  have hv':InB (nth p.2.1 (xX5 s x.2.2.1) (0:Int)) 95:=⟨by omega,hv.2⟩
  refine ⟨fun hg=>?_,?_,?_⟩
  ·have hg:len x.1 > 0:=of_decide_eq_true hg
   have e:IntKind.wrap .i64 (len x.1 - 1) = len x.1 - 1:=wrap_in (inr_small (by omega) (by omega))
   have hi:InB (IntKind.wrap .i64 (len x.1 - 1)) (len x.1):=by rw [e]; exact ⟨by omega,by omega⟩
   exact ⟨hi,qV1 hp.1 (h5 _ (nth_mem hi)) hv'⟩
  ·show ((x.1.length + 1:Nat):Int) ≤ 4294967296
   omega
  ·show InB _ (len p.1.2.2.2.1)
   rw [hp.1,std_len]; exact hv'
 ·have h4:x.2.2.1 < len s:=and_lt hg
  obtain ⟨⟨h0,h1⟩,h2,h5⟩:=hx
  have e:IntKind.wrap .i64 (x.2.2.1 + 1) = x.2.2.1 + 1:=wrap_in (inr_small (by omega) (by omega))
  have hv:=hp.2.2 _ (byte_in s x.2.2.1)
  refine ⟨⟨?_,?_,?_⟩,?_⟩
  ·show 0 ≤ IntKind.wrap .i64 (x.2.2.1 + 1) ∧ IntKind.wrap .i64 (x.2.2.1 + 1) ≤ len s
   rw [e]; omega
  ·show len (bif decide (nth p.2.1 (xX5 s x.2.2.1) (0:Int) < 0) then x.1 else (x.1 ++ _)) ≤ IntKind.wrap .i64 (x.2.2.1 + 1)
   rw [e]
   cases decide (nth p.2.1 (xX5 s x.2.2.1) (0:Int) < 0) with
   | true=>simp only [cond_true]; omega
   | false=>simp only [cond_false,len_app,len_one]; omega
  ·show ∀ q ∈ (bif decide (nth p.2.1 (xX5 s x.2.2.1) (0:Int) < 0) then x.1 else (x.1 ++ [(nth p.2.1 (xX5 s x.2.2.1) (0:Int),_,())])),InB q.1 95
   cases hd:decide (nth p.2.1 (xX5 s x.2.2.1) (0:Int) < 0) with
   | true=>exact h5
   | false =>
    have hd:=of_decide_eq_false hd
    exact mem_app_one h5 ⟨(show 0 ≤ nth p.2.1 (xX5 s x.2.2.1) (0:Int) by omega),hv.2⟩
  ·show (len s - IntKind.wrap .i64 (x.2.2.1 + 1)).toNat < (len s - x.2.2.1).toNat
   rw [e]; omega
theorem rD8 {p:D213} (hp:SetOk p) (s:List UInt8) (hs:len s ≤ 1000000):vI4 p s ∧ len (f150 p s).1 ≤ len s ∧ ∀ q ∈ (f150 p s).1,InB q.1 95:=by
 have h:=spot4 hp s hs
 exact ⟨h.1,Int.le_trans h.2.2.1 h.2.1.2,h.2.2.2⟩
theorem qV2 {p:D213} (hp:SetOk p) (s:List UInt8) (w:Int) (hs:len s ≤ 1000000):uT2 p s w:=⟨(rD8 hp s hs).1,wA0 _ _⟩
theorem tot_mem:∀ {X:List (List UInt8)} {w:List UInt8},w ∈ X → w.length + 1 ≤ tot X
 | x :: r,w,h=>by
  simp only [tot]
  rcases List.mem_cons.1 h with h | h
  ·rw [h]; omega
  ·have:=tot_mem h; omega
theorem split_few (c:UInt8) {s:List UInt8} {n:Int} (h:len s ≤ n):len (splitB c s) ≤ n + 1 ∧ ∀ w ∈ splitB c s,len w ≤ n:=by
 have h1:=length_tot (splitB c s)
 rw [tot_split] at h1
 have hl:len s = (s.length:Int):=rfl
 have hl2:len (splitB c s) = ((splitB c s).length:Int):=rfl
 refine ⟨by omega,fun w hw=>?_⟩
 have h2:=tot_mem hw
 rw [tot_split] at h2
 have hl3:len w = (w.length:Int):=rfl
 omega
def Lns (n:Int) (l:List (List UInt8)):Prop:=len l ≤ n ∧ ∀ q ∈ l,len q ≤ 100000
def lineI (l:List (List UInt8)) (n:Int) (x:wF0):Prop:=(0 ≤ x.2.2.1 ∧ x.2.2.1 ≤ len l) ∧ Lns (n + x.2.2.1) x.1 ∧ len x.2.1 ≤ 200 * (x.2.2.1 + 1)
theorem lin7 {p:D213} (hp:SetOk p) (a b n:Int) (l A:List (List UInt8)) (w:List UInt8) (hl:len l ≤ 129) (hq:∀ q ∈ l,len q ≤ 128) (hn:n ≤ 1000000000) (hA:Lns n A) (hw:len w ≤ 128) :
  Am.Ends (wN2 (p,a,b,l,len l,())) (wE5 (p,a,b,l,len l,())) (wN1 (p,a,b,l,len l,())) (A,w,0,()) ∧
  lineI l n (zC1 (wN2 (p,a,b,l,len l,())) (wE5 (p,a,b,l,len l,())) (A,w,0,())):=by
 have wh:=whole (g:=wN2 (p,a,b,l,len l,())) (next:=wE5 (p,a,b,l,len l,())) (ok:=wN1 (p,a,b,l,len l,())) (lineI l n) (fun x=>(len l - x.2.2.1).toNat) (fun x hx=>fun h3=>?_) (fun x hx hg=>?_) (x:=(A,w,0,())) ⟨⟨Int.le_refl 0,xT7 l⟩,by simpa [Lns] using hA,(show len w ≤ 200 * (0 + 1) by omega)⟩ (by unfold zI1; simp only; omega)
 ·exact ⟨wh.1,wh.2.1⟩
 ·have h4:x.2.2.1 < len l:=of_decide_eq_true h3
  obtain ⟨⟨h0,h1⟩,h2,h5⟩:=hx
  have hm:=hq _ (nth_mem (d:=([]:List UInt8)) ⟨h0,h4⟩)
  have e1:len x.2.1 = (x.2.1.length:Int):=rfl
  have e2:len x.1 = (x.1.length:Int):=rfl
  have e3:len (nth l x.2.2.1 ([]:List UInt8)) = ((nth l x.2.2.1 ([]:List UInt8)).length:Int):=rfl
  have h21:=h2.1
  refine ⟨⟨h0,h4⟩,(show ((x.2.1.length + 1:Nat):Int) ≤ 9223372036854775807 by omega),?_,fun _=>qV2 hp _ _ ?_,fun _=>(show ((x.1.length + 1:Nat):Int) ≤ 4294967296 by omega),inr_small (by omega) (by omega)⟩
  ·show (((x.2.1 ++ [32]).length + (nth l x.2.2.1 ([]:List UInt8)).length:Nat):Int) ≤ 9223372036854775807
   rw [List.length_append]
   simp only [List.length_cons,List.length_nil]
   omega
  ·show len ((x.2.1 ++ [32]) ++ nth l x.2.2.1 ([]:List UInt8)) ≤ 1000000
   rw [len_app,len_app,len_one]; omega
 ·have h4:x.2.2.1 < len l:=of_decide_eq_true hg
  obtain ⟨⟨h0,h1⟩,h2,h5⟩:=hx
  have hm:=hq _ (nth_mem (d:=([]:List UInt8)) ⟨h0,h4⟩)
  refine ⟨⟨(show 0 ≤ x.2.2.1 + 1 ∧ x.2.2.1 + 1 ≤ len l by omega),?_,?_⟩,(show (len l - (x.2.2.1 + 1)).toNat < (len l - x.2.2.1).toNat by omega)⟩
  ·show Lns (n + (x.2.2.1 + 1)) (bif _ then x.1 else (x.1 ++ [x.2.1]))
   generalize (bif (b == 0) then true else _) = c
   cases c with
   | true=>exact ⟨(show len x.1 ≤ _ by have:=h2.1; omega),h2.2⟩
   | false=>exact ⟨by rw [cond_false,len_app,len_one]; have:=h2.1; omega,mem_app_one h2.2 (by omega)⟩
  ·show len (bif _ then ((x.2.1 ++ [32]) ++ nth l x.2.2.1 ([]:List UInt8)) else nth l x.2.2.1 ([]:List UInt8)) ≤ 200 * (x.2.2.1 + 1 + 1)
   generalize (bif (b == 0) then true else _) = c
   cases c with
   | true=>rw [cond_true,len_app,len_app,len_one]; omega
   | false=>rw [cond_false]; omega
theorem round_all {p:D213} (hp:SetOk p) (a b n:Int) (A:List (List UInt8)) (x:List UInt8) (hx:len x ≤ 128) (hn:n ≤ 1000000000) (hA:Lns n A) :
  wT0 p a b A x ∧ Lns (n + 130) (wD5 p a b A x):=by
 have e:f168 x [32] = splitB 32 x:=pY2 32 x (by omega)
 have ho:vU x [32]:=qU9 32 x (by omega)
 obtain ⟨hs1,hs2⟩:=split_few 32 hx
 have hne:=splitB_ne 32 x
 have h1:(1:Int) ≤ len (splitB 32 x):=by
  cases hc:splitB 32 x with
  | nil=>exact absurd hc hne
  | cons y r=>simp only [len,List.length_cons]; omega
 have hd:len (List.drop (Int.toNat (1:Int)) (splitB 32 x)) ≤ 129:=by
  simp only [len,List.length_drop] at hs1 ⊢; omega
 have h7:=lin7 hp a b n (List.drop (Int.toNat (1:Int)) (splitB 32 x)) A (nth (splitB 32 x) 0 ([]:List UInt8)) hd (fun q hq=>hs2 q (List.mem_of_mem_drop hq)) hn hA (hs2 _ (nth_mem ⟨Int.le_refl 0,by omega⟩))
 simp only [wT0,wD5,vF,sT3,e,vE8,vE9]
 generalize zC1 (wN2 (p,a,b,List.drop (Int.toNat (1:Int)) (splitB 32 x),len (List.drop (Int.toNat (1:Int)) (splitB 32 x)),())) (wE5 (p,a,b,List.drop (Int.toNat (1:Int)) (splitB 32 x),len (List.drop (Int.toNat (1:Int)) (splitB 32 x)),())) (A,nth (splitB 32 x) 0 ([]:List UInt8),0,()) = z at h7 ⊢
 obtain ⟨hE,⟨h0,h2⟩,h3,h4⟩:=h7
 have e2:len z.1 = (z.1.length:Int):=rfl
 have h31:=h3.1
 refine ⟨⟨ho,⟨by omega,by omega⟩,⟨by omega,h1⟩,hE,(show ((z.1.length + 1:Nat):Int) ≤ 4294967296 by omega)⟩,⟨?_,mem_app_one h3.2 (by omega)⟩⟩
 rw [len_app,len_one]; omega
theorem rounds_all {p:D213} (hp:SetOk p) (a b:Int):∀ (xs:List (List UInt8)) (n:Int) (A:List (List UInt8)),(∀ x ∈ xs,len x ≤ 128) → n + 130 * len xs ≤ 1000000000 → Lns n A →
  xL4 (wT0 p a b) (wD5 p a b) xs A ∧ Lns (n + 130 * len xs) (xs.foldl (wD5 p a b) A)
 | [],n,A,_,_,hA=>⟨trivial,by simpa [len] using hA⟩
 | x :: r,n,A,hx,hn,hA=>by
  have e:len (x :: r) = len r + 1:=by simp [len]
  have hr:=xT7 r
  have h1:=round_all hp a b n A x (hx x (List.mem_cons_self ..)) (by omega) hA
  have h2:=rounds_all hp a b r (n + 130) (wD5 p a b A x) (fun y hy=>hx y (List.mem_cons_of_mem _ hy)) (by omega) h1.2
  refine ⟨⟨h1.1,h2.1⟩,?_⟩
  rw [show n + 130 * len (x :: r) = n + 130 + 130 * len r by omega]
  exact h2.2
theorem qV3 {p:D213} (hp:SetOk p) (s:List UInt8) (a b:Int) (hs:len s ≤ 128):vF1 p s a b ∧ Lns 20000 (f149 p s a b):=by
 obtain ⟨h1,h2⟩:=split_few 10 hs
 have h:=rounds_all hp a b (splitB 10 s) 0 [] h2 (by omega) ⟨Int.le_refl 0,fun q hq=>by cases hq⟩
 have hl:len s = (s.length:Int):=rfl
 exact ⟨⟨by omega,h.1⟩,⟨by have:=h.2.1; show len (f149 p s a b) ≤ 20000; unfold f149; omega,h.2.2⟩⟩
end Go.Proofs.YtpanghcojpnkaaaGreatDoor.Am
