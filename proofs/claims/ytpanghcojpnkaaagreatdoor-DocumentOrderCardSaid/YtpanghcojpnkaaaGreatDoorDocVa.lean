/- What a valid document is, part by part. No condition. -/
import Derived.Test.YtpanghcojpnkaaaGreatDoorDocBe
import Derived.Test.YtpanghcojpnkaaaGreatDoorDocZ
namespace Go.Proofs.YtpanghcojpnkaaaGreatDoor.Am
open Go Go.Am
structure Valid (p:D28):Prop where
 head:f23 p = 0
 len1:len p.2.2.2.1 ≤ 64
 len2:len p.2.2.2.2.2.2.2.1 ≤ 8
 next1:1 ≤ p.2.2.2.2.1
 next2:p.2.2.2.2.1 ≤ 1073741824
 nodes:f24 p = 0
 clips:f25 p = 0
 links:f26 p = 0
 refs:f27 p = 0
 cyc:f28 p = false
 sel:f29 p.2.2.2.2.2.1 = 0
 size:(bif (p.2.2.2.2.2.1.1 != 0) then (bif (p.2.2.2.2.2.1.1 != p.1) then true else (p.2.2.2.2.2.1.2.1 != p.2.1)) else false) = false
 mta:f30 p.2.2.2.2.2.2.1 = 0
theorem ne_zero {x:Int}:(x != 0) = true ↔ x ≠ 0:=by simp
theorem pick0 {b:Bool} {x y:Int} (h:(bif b then x else y) = 0) (hx:b = true → x ≠ 0):b = false ∧ y = 0:=by
 cases b with
 | true=>exact absurd h (hx rfl)
 | false=>exact ⟨rfl,h⟩
theorem valid_iff (p:D28):f9 p = 0 ↔ Valid p:=by
 constructor
 ·intro h
  have h':(bif (f23 p != 0) then f23 p else (bif (bif (decide ((len p.2.2.2.1) > 64)) then true else (decide ((len p.2.2.2.2.2.2.2.1) > 8))) then (3:Int) else (bif (bif (decide (p.2.2.2.2.1 < 1)) then true else (decide (p.2.2.2.2.1 > 1073741824))) then (2:Int) else
   (bif (f24 p != 0) then f24 p else (bif (f25 p != 0) then f25 p else (bif (f26 p != 0) then f26 p else (bif (f27 p != 0) then f27 p else (bif f28 p then (11:Int) else (bif (f29 p.2.2.2.2.2.1 != 0) then f29 p.2.2.2.2.2.1 else (bif (bif (p.2.2.2.2.2.1.1 != 0) then (bif (p.2.2.2.2.2.1.1 != p.1) then true else (p.2.2.2.2.2.1.2.1 != p.2.1)) else false) then (15:Int) else (f30 p.2.2.2.2.2.2.1))))))))))) = 0:=h
  obtain ⟨a1,h1⟩:=pick0 h' ne_zero.1
  obtain ⟨a2,h2⟩:=pick0 h1 (fun _=>by decide)
  obtain ⟨a3,h3⟩:=pick0 h2 (fun _=>by decide)
  obtain ⟨a4,h4⟩:=pick0 h3 ne_zero.1
  obtain ⟨a5,h5⟩:=pick0 h4 ne_zero.1
  obtain ⟨a6,h6⟩:=pick0 h5 ne_zero.1
  obtain ⟨a7,h7⟩:=pick0 h6 ne_zero.1
  obtain ⟨a8,h8⟩:=pick0 h7 (fun _=>by decide)
  obtain ⟨a9,h9⟩:=pick0 h8 ne_zero.1
  obtain ⟨a10,h10⟩:=pick0 h9 (fun _=>by decide)
  simp only [Bool.cond_true_left,Bool.or_eq_false_iff,decide_eq_false_iff_not] at a2 a3
  exact ⟨by simpa using a1,by omega,by omega,by omega,by omega,by simpa using a4,by simpa using a5,by simpa using a6,by simpa using a7,a8,by simpa using a9,a10,h10⟩
 ·intro v
  show (bif (f23 p != 0) then f23 p else (bif (bif (decide ((len p.2.2.2.1) > 64)) then true else (decide ((len p.2.2.2.2.2.2.2.1) > 8))) then (3:Int) else (bif (bif (decide (p.2.2.2.2.1 < 1)) then true else (decide (p.2.2.2.2.1 > 1073741824))) then (2:Int) else
   (bif (f24 p != 0) then f24 p else (bif (f25 p != 0) then f25 p else (bif (f26 p != 0) then f26 p else (bif (f27 p != 0) then f27 p else (bif f28 p then (11:Int) else (bif (f29 p.2.2.2.2.2.1 != 0) then f29 p.2.2.2.2.2.1 else (bif (bif (p.2.2.2.2.2.1.1 != 0) then (bif (p.2.2.2.2.2.1.1 != p.1) then true else (p.2.2.2.2.2.1.2.1 != p.2.1)) else false) then (15:Int) else (f30 p.2.2.2.2.2.2.1))))))))))) = 0
  have e1:decide ((len p.2.2.2.1) > 64) = false:=decide_eq_false (by have:=v.len1; omega)
  have e2:decide ((len p.2.2.2.2.2.2.2.1) > 8) = false:=decide_eq_false (by have:=v.len2; omega)
  have e3:decide (p.2.2.2.2.1 < 1) = false:=decide_eq_false (by have:=v.next1; omega)
  have e4:decide (p.2.2.2.2.1 > 1073741824) = false:=decide_eq_false (by have:=v.next2; omega)
  rw [v.head,v.nodes,v.clips,v.links,v.refs,v.cyc,v.sel,v.size,v.mta,e1,e2,e3,e4]
  rfl
theorem valid_tree {p:D28} (v:Valid p):Tree (idL p.2.2.2.1) (paL p.2.2.2.1) p.2.2.2.1.length:=tree_of ((oA4 p v.len1).1 v.nodes)
theorem valid_below {p:D28} (v:Valid p) {i:Nat} (hi:i < p.2.2.2.1.length):∃ c,i + 1 + c ≤ p.2.2.2.1.length ∧ f11 p (idL p.2.2.2.1 i) = (List.range' (i + 1) c).map (idL p.2.2.2.1) ∧
  ∀ j,j < p.2.2.2.1.length → (Und (idL p.2.2.2.1) (paL p.2.2.2.1) (idL p.2.2.2.1 i) j ↔ i < j ∧ j < i + 1 + c):=by
 obtain ⟨c,h1,h2,h3⟩:=undL_block (valid_tree v) hi
 exact ⟨c,h1,by rw [(below_spec p _ (by have:=v.len1; omega)).2,h2],h3⟩
end Go.Proofs.YtpanghcojpnkaaaGreatDoor.Am
