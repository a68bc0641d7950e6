/- Plain laws: equality of lists of links, of masks and of metadata; patches. No condition but the bound of the second form. -/
import Derived.Test.YtcjaalnbodmdgaaGreatDoorPatchX
namespace Go.Proofs.YtcjaalnbodmdgaaGreatDoor.Am
open Go Go.Am

theorem scan_lt {g : Int × Unit → Bool} {next : Int × Unit → Int × Unit} {n : Int} {c : Int → Bool} (hn0 : 0 ≤ n) (hn : n < 9223372036854775808) (hg : ∀ x, g x = (decide (x.1 < n) && !(c x.1))) (hx : ∀ x, next x = (x.1 + 1, ())) :
    decide ((loopEnd g next (0, ())).1 < n) = anyI n c := by
  have h := scan_any hn0 hn hg hx
  obtain ⟨j, h1, h2, h3, h4, h5⟩ := scan hn0 hn hg hx
  rw [h3] at h ⊢
  rw [← h]
  by_cases hj : j < n
  · simp [hj, h5 hj]
  · simp [hj]

theorem f39_eq (p q : D51) (h : len p.2.2.1 < 9223372036854775808) : f39 p q = ((p.1 == q.1) && (p.2.1 == q.2.1) && eqC (len p.2.2.1) (len q.2.2.1) (neT T22 Z22 p.2.2.1 q.2.2.1)) := by
  unfold f39 f39t
  simp only [f54_eq _ _ h]
  cases (p.1 == q.1) <;> cases (p.2.1 == q.2.1) <;> rfl
theorem f38_eq (u v : D76) (h : len u.2.2.2.2.1.2.2.1 < 9223372036854775808) : f38 u v = ((u.1 == v.1) && (u.2.1 == v.2.1) && (u.2.2.1 == v.2.2.1) && (u.2.2.2.1 == v.2.2.2.1) && ((u.2.2.2.2.1.1 == v.2.2.2.2.1.1) && (u.2.2.2.2.1.2.1 == v.2.2.2.2.1.2.1) && eqC (len u.2.2.2.2.1.2.2.1) (len v.2.2.2.2.1.2.2.1) (neT T22 Z22 u.2.2.2.2.1.2.2.1 v.2.2.2.2.1.2.2.1))) := by
  unfold f38 f38t
  simp only [f39_eq _ _ h]
  cases (u.1 == v.1) <;> cases (u.2.1 == v.2.1) <;> cases (u.2.2.1 == v.2.2.1) <;> cases (u.2.2.2.1 == v.2.2.2.1) <;> rfl
theorem six (c1 c2 c3 c4 c5 c6 c7 an d : Bool) : (d && ((!(bif (bif (bif (bif (bif (bif (!c1) then true else (!c2)) then true else (!c3)) then true else (!c4)) then true else (!c5)) then true else (!c6)) then true else (!c7))) && (!an))) = (d && !(!(c1 && c2 && c3 && c4 && (c5 && c6 && (c7 && !an))))) := by
  cases d <;> cases c1 <;> cases c2 <;> cases c3 <;> cases c4 <;> cases c5 <;> cases c6 <;> cases c7 <;> cases an <;> rfl
theorem six' (c1 c2 c3 c4 c5 c6 c7 an d : Bool) : (d && ((bif (bif (bif (bif (bif (bif (!c1) then true else (!c2)) then true else (!c3)) then true else (!c4)) then true else (!c5)) then true else (!c6)) then true else (!c7)) || ((!(bif (bif (bif (bif (bif (bif (!c1) then true else (!c2)) then true else (!c3)) then true else (!c4)) then true else (!c5)) then true else (!c6)) then true else (!c7))) && an))) = (d && (!(c1 && c2 && c3 && c4 && (c5 && c6 && (c7 && !an))))) := by
  cases d <;> cases c1 <;> cases c2 <;> cases c3 <;> cases c4 <;> cases c5 <;> cases c6 <;> cases c7 <;> cases an <;> rfl

theorem link_g (a b : List D76) (n x : Int) (h : len (nth a x Z76).2.2.2.2.1.2.2.1 < 9223372036854775808) : f19_L4_g (a, b, n, ()) (x, ()) = (decide (x < n) && !(!(f38 (nth a x Z76) (nth b x Z76)))) := by
  have he := scan_lt (g := f19_L10_g (a, b, (nth a x Z76), (nth b x Z76), n, x, len (nth a x Z76).2.2.2.2.1.2.2.1, ())) (next := f19_L10_next (a, b, (nth a x Z76), (nth b x Z76), n, x, len (nth a x Z76).2.2.2.2.1.2.2.1, ())) (c := neT T22 Z22 (nth a x Z76).2.2.2.2.1.2.2.1 (nth b x Z76).2.2.2.2.1.2.2.1) (n := len (nth a x Z76).2.2.2.2.1.2.2.1) (len_nonneg _) h (fun _ => rfl) (fun _ => rfl)
  show (decide (x < n) && ((!(bif (bif (bif (bif (bif (bif ((nth a x Z76).1 != (nth b x Z76).1) then true else (!((nth a x Z76).2.1 == (nth b x Z76).2.1))) then true else ((nth a x Z76).2.2.1 != (nth b x Z76).2.2.1)) then true else ((nth a x Z76).2.2.2.1 != (nth b x Z76).2.2.2.1)) then true else ((nth a x Z76).2.2.2.2.1.1 != (nth b x Z76).2.2.2.2.1.1)) then true else ((nth a x Z76).2.2.2.2.1.2.1 != (nth b x Z76).2.2.2.2.1.2.1)) then true else ((len (nth a x Z76).2.2.2.2.1.2.2.1) != (len (nth b x Z76).2.2.2.2.1.2.2.1)))) && (!(decide ((loopEnd (f19_L10_g (a, b, (nth a x Z76), (nth b x Z76), n, x, len (nth a x Z76).2.2.2.2.1.2.2.1, ())) (f19_L10_next (a, b, (nth a x Z76), (nth b x Z76), n, x, len (nth a x Z76).2.2.2.2.1.2.2.1, ())) (0, ())).1 < len (nth a x Z76).2.2.2.2.1.2.2.1))))) = _
  rw [he, f38_eq _ _ h]
  exact six _ _ _ _ _ _ _ _ _
theorem link_e (a b : List D76) (n x : Int) (h : len (nth a x Z76).2.2.2.2.1.2.2.1 < 9223372036854775808) : f19_L4_e1 (a, b, n, ()) (x, ()) = (decide (x < n) && (!(f38 (nth a x Z76) (nth b x Z76)))) := by
  have he := scan_any (g := f19_L10_g (a, b, (nth a x Z76), (nth b x Z76), n, x, len (nth a x Z76).2.2.2.2.1.2.2.1, ())) (next := f19_L10_next (a, b, (nth a x Z76), (nth b x Z76), n, x, len (nth a x Z76).2.2.2.2.1.2.2.1, ())) (c := neT T22 Z22 (nth a x Z76).2.2.2.2.1.2.2.1 (nth b x Z76).2.2.2.2.1.2.2.1) (n := len (nth a x Z76).2.2.2.2.1.2.2.1) (len_nonneg _) h (fun _ => rfl) (fun _ => rfl)
  show (decide (x < n) && ((bif (bif (bif (bif (bif (bif ((nth a x Z76).1 != (nth b x Z76).1) then true else (!((nth a x Z76).2.1 == (nth b x Z76).2.1))) then true else ((nth a x Z76).2.2.1 != (nth b x Z76).2.2.1)) then true else ((nth a x Z76).2.2.2.1 != (nth b x Z76).2.2.2.1)) then true else ((nth a x Z76).2.2.2.2.1.1 != (nth b x Z76).2.2.2.2.1.1)) then true else ((nth a x Z76).2.2.2.2.1.2.1 != (nth b x Z76).2.2.2.2.1.2.1)) then true else ((len (nth a x Z76).2.2.2.2.1.2.2.1) != (len (nth b x Z76).2.2.2.2.1.2.2.1))) || ((!(bif (bif (bif (bif (bif (bif ((nth a x Z76).1 != (nth b x Z76).1) then true else (!((nth a x Z76).2.1 == (nth b x Z76).2.1))) then true else ((nth a x Z76).2.2.1 != (nth b x Z76).2.2.1)) then true else ((nth a x Z76).2.2.2.1 != (nth b x Z76).2.2.2.1)) then true else ((nth a x Z76).2.2.2.2.1.1 != (nth b x Z76).2.2.2.2.1.1)) then true else ((nth a x Z76).2.2.2.2.1.2.1 != (nth b x Z76).2.2.2.2.1.2.1)) then true else ((len (nth a x Z76).2.2.2.2.1.2.2.1) != (len (nth b x Z76).2.2.2.2.1.2.2.1)))) && (decide ((loopEnd (f19_L10_g (a, b, (nth a x Z76), (nth b x Z76), n, x, len (nth a x Z76).2.2.2.2.1.2.2.1, ())) (f19_L10_next (a, b, (nth a x Z76), (nth b x Z76), n, x, len (nth a x Z76).2.2.2.2.1.2.2.1, ())) (0, ())).1 < len (nth a x Z76).2.2.2.2.1.2.2.1) && neT T22 Z22 (nth a x Z76).2.2.2.2.1.2.2.1 (nth b x Z76).2.2.2.2.1.2.2.1 (loopEnd (f19_L10_g (a, b, (nth a x Z76), (nth b x Z76), n, x, len (nth a x Z76).2.2.2.2.1.2.2.1, ())) (f19_L10_next (a, b, (nth a x Z76), (nth b x Z76), n, x, len (nth a x Z76).2.2.2.2.1.2.2.1, ())) (0, ())).1)))) = _
  rw [he, f38_eq _ _ h]
  exact six' _ _ _ _ _ _ _ _ _
theorem link_x (y : f19_L4_Y) (x : f19_L4_X) : f19_L4_x1_0 y x = false := by
  unfold f19_L4_x1_0
  dsimp only
  generalize (bif (bif _ then true else _) then true else _) = b
  cases b <;> rfl

def LinksOk (l : List D76) : Prop := len l < 9223372036854775808 ∧ ∀ i, len (nth l i Z76).2.2.2.2.1.2.2.1 < 9223372036854775808
def linkC (a b : List D76) (i : Int) : Bool := !(f38 (nth a i Z76) (nth b i Z76))
theorem f24_eq (a b : List D76) (h : LinksOk a) : f24 a b = eqC (len a) (len b) (linkC a b) :=
  eqScan (g := f37_v1_L4_g (b, (), a, len a, ())) (next := f37_v1_L4_next (b, (), a, len a, ())) (c := linkC a b) (len_nonneg a) h.1 (fun _ => rfl) (fun _ => rfl)
theorem f19_eq (a b : List D76) (h : LinksOk a) : f19 a b = eqC (len a) (len b) (linkC a b) := by
  rw [← eqScan (g := f19_L4_g (a, b, len a, ())) (next := f19_L4_next (a, b, len a, ())) (c := linkC a b) (len_nonneg a) h.1 (fun x => link_g a b (len a) x.1 (h.2 x.1)) (fun _ => rfl)]
  show (bif (len a != len b) then false else (bif f19_L4_e1 (a, b, len a, ()) (loopEnd (f19_L4_g (a, b, len a, ())) (f19_L4_next (a, b, len a, ())) (0, ())) then f19_L4_x1_0 _ _ else true)) = _
  rw [link_x, show f19_L4_e1 (a, b, len a, ()) (loopEnd (f19_L4_g (a, b, len a, ())) (f19_L4_next (a, b, len a, ())) (0, ())) = _ from link_e a b (len a) (loopEnd (f19_L4_g (a, b, len a, ())) (f19_L4_next (a, b, len a, ())) (0, ())).1 (h.2 _)]
  rfl

theorem f18_eq (a b : List D40) (h : len a < 9223372036854775808) : f18 a b = eqC (len a) (len b) (neT T40 Z40 a b) :=
  eqScan (g := f18_L4_g (a, b, len a, ())) (next := f18_L4_next (a, b, len a, ())) (c := neT T40 Z40 a b) (len_nonneg a) h (fun _ => rfl) (fun _ => rfl)
theorem f23_eq (a b : List D40) (h : len a < 9223372036854775808) : f23 a b = eqC (len a) (len b) (neT T40 Z40 a b) :=
  eqScan (g := f23_L4_g (a, b, len a, ())) (next := f23_L4_next (a, b, len a, ())) (c := neT T40 Z40 a b) (len_nonneg a) h (fun _ => rfl) (fun _ => rfl)
def nodeC (a b : List D60) (i : Int) : Bool := !(f34 (nth a i Z60) (nth b i Z60))
theorem f16_eq (a b : List D60) (h : NodesOk a) : f16 a b = eqC (len a) (len b) (nodeC a b) :=
  eqScan (g := f16_L4_g (a, b, len a, ())) (next := f16_L4_next (a, b, len a, ())) (c := nodeC a b) (len_nonneg a) h.1 (fun _ => rfl) (fun _ => rfl)
theorem f20_eq (a b : List D60) (h : NodesOk a) : f20_v1 a b () = eqC (len a) (len b) (nodeC a b) := by
  have e : (fun i => !(f21 (nth a i Z60) (nth b i Z60))) = nodeC a b := funext fun i => by unfold nodeC; rw [same_eq (h.2 i)]
  rw [← e]
  exact eqScan (g := f20_v1_L4_g (b, (), a, len a, ())) (next := f20_v1_L4_next (b, (), a, len a, ())) (c := fun i => !(f21 (nth a i Z60) (nth b i Z60))) (len_nonneg a) h.1 (fun _ => rfl) (fun _ => rfl)
theorem f17_eq (p q : D26) (ha : len p.2.2.1 < 9223372036854775808) : f17 p q = ((p.1 == q.1) && (p.2.1 == q.2.1) && eqC (len p.2.2.1) (len q.2.2.1) (ne0 p.2.2.1 q.2.2.1)) := by
  have h := eqScan (g := f17_L4_g (p, q, len p.2.2.1, ())) (next := f17_L4_next (p, q, len p.2.2.1, ())) (m := len q.2.2.1) (c := ne0 p.2.2.1 q.2.2.1) (len_nonneg _) ha (fun _ => rfl) (fun _ => rfl)
  rw [← h]
  show (bif (bif (bif (p.1 != q.1) then true else (p.2.1 != q.2.1)) then true else (len p.2.2.1 != len q.2.2.1)) then false else (bif f17_L4_e1 (p, q, len p.2.2.1, ()) (loopEnd (f17_L4_g (p, q, len p.2.2.1, ())) (f17_L4_next (p, q, len p.2.2.1, ())) (0, ())) then false else true)) = _
  generalize hB : (bif (decide ((loopEnd (f17_L4_g (p, q, len p.2.2.1, ())) (f17_L4_next (p, q, len p.2.2.1, ())) (0, ())).1 < len p.2.2.1) && ne0 p.2.2.1 q.2.2.1 (loopEnd (f17_L4_g (p, q, len p.2.2.1, ())) (f17_L4_next (p, q, len p.2.2.1, ())) (0, ())).1) then false else true) = B
  have hB' : (bif f17_L4_e1 (p, q, len p.2.2.1, ()) (loopEnd (f17_L4_g (p, q, len p.2.2.1, ())) (f17_L4_next (p, q, len p.2.2.1, ())) (0, ())) then false else true) = B := hB
  rw [hB']
  unfold bne
  cases (p.1 == q.1) <;> cases (p.2.1 == q.2.1) <;> cases (len p.2.2.1 == len q.2.2.1) <;> cases B <;> rfl
theorem f22_eq (p q : D26) (ha : len p.2.2.1 < 9223372036854775808) : f22 p q = ((p.1 == q.1) && (p.2.1 == q.2.1) && eqC (len p.2.2.1) (len q.2.2.1) (ne0 p.2.2.1 q.2.2.1)) := by
  unfold f22 f22t
  simp only [f35_eq _ _ ha]
  cases (p.1 == q.1) <;> cases (p.2.1 == q.2.1) <;> rfl

/-! Every equality is symmetric. -/
theorem f64_comm {a b : List Int} (ha : len a < 9223372036854775808) (hb : len b < 9223372036854775808) : f64 a b = f64 b a := by rw [f64_eq _ _ ha, f64_eq _ _ hb]; exact eqC_comm (ne0_comm a b)
theorem f66_comm {a b : List D88} (ha : len a < 9223372036854775808) (hb : len b < 9223372036854775808) : f66 a b = f66 b a := by rw [f66_eq _ _ ha, f66_eq _ _ hb]; exact eqC_comm (neT_comm (τ := T88) a b)
theorem f67_comm {a b : List D94} (ha : len a < 9223372036854775808) (hb : len b < 9223372036854775808) : f67 a b = f67 b a := by rw [f67_eq _ _ ha, f67_eq _ _ hb]; exact eqC_comm (neT_comm (τ := T94) a b)
theorem f65_comm {p q : D51} (ha : len p.2.2.1 < 9223372036854775808) (hb : len q.2.2.1 < 9223372036854775808) : f65 p q = f65 q p := by
  rw [f65_eq _ _ ha, f65_eq _ _ hb, eqC_comm (neT_comm (τ := T22) (z := Z22) p.2.2.1 q.2.2.1)]
  simp only [Bool.beq_comm]
theorem f68_comm {p q : D58} (ha : len p.2.2.2.1 < 9223372036854775808) (hb : len q.2.2.2.1 < 9223372036854775808) : f68 p q = f68 q p := by
  rw [f68_eq _ _ ha, f68_eq _ _ hb, eqC_comm (neT_comm (τ := T91) (z := Z91) p.2.2.2.1 q.2.2.2.1)]
  simp only [Bool.beq_comm]
theorem f34_comm {a b : D60} (ha : Lens a) (hb : Lens b) : f34 a b = f34 b a := by
  unfold f34 f34t f50 f50t f49 f49t
  dsimp only
  rw [f64_comm ha.mask hb.mask, f65_comm ha.pix hb.pix, f64_comm ha.params hb.params, f66_comm ha.stops hb.stops, f67_comm ha.segs hb.segs, f68_comm ha.warp hb.warp]
  rw [Bool.beq_comm (a := a.1) (b := b.1), Bool.beq_comm (a := a.2.1) (b := b.2.1), Bool.beq_comm (a := a.2.2.1) (b := b.2.2.1), Bool.beq_comm (a := a.2.2.2.1) (b := b.2.2.2.1), Bool.beq_comm (a := a.2.2.2.2.2.2.2.1) (b := b.2.2.2.2.2.2.2.1), Bool.beq_comm (a := a.2.2.2.2.2.2.2.2.1) (b := b.2.2.2.2.2.2.2.2.1), Bool.beq_comm (a := a.2.2.2.2.2.2.2.2.2.2.2.1) (b := b.2.2.2.2.2.2.2.2.2.2.2.1), Bool.beq_comm (a := a.2.2.2.2.2.2.2.2.2.2.2.2.2.2.1) (b := b.2.2.2.2.2.2.2.2.2.2.2.2.2.2.1), Bool.beq_comm (a := a.2.2.2.2.2.2.2.2.2.2.2.2.2.2.2.2.1) (b := b.2.2.2.2.2.2.2.2.2.2.2.2.2.2.2.2.1), Bool.beq_comm (a := a.2.2.2.2.2.2.2.2.2.2.2.2.2.2.2.2.2.2.2.1) (b := b.2.2.2.2.2.2.2.2.2.2.2.2.2.2.2.2.2.2.2.1), Bool.beq_comm (a := a.2.2.2.2.2.2.2.2.2.2.2.2.2.2.2.2.2.2.2.2.1) (b := b.2.2.2.2.2.2.2.2.2.2.2.2.2.2.2.2.2.2.2.2.1), Bool.beq_comm (a := a.2.2.2.2.2.2.2.2.2.2.2.2.2.2.2.2.2.2.2.2.2.1) (b := b.2.2.2.2.2.2.2.2.2.2.2.2.2.2.2.2.2.2.2.2.2.1), Bool.beq_comm (a := a.2.2.2.2.2.2.2.2.2.2.2.2.2.2.2.2.2.2.2.2.2.2.1) (b := b.2.2.2.2.2.2.2.2.2.2.2.2.2.2.2.2.2.2.2.2.2.2.1), Bool.beq_comm (a := a.2.2.2.2.2.2.2.2.2.2.2.2.2.2.2.2.2.2.2.2.2.2.2.1) (b := b.2.2.2.2.2.2.2.2.2.2.2.2.2.2.2.2.2.2.2.2.2.2.2.1), Bool.beq_comm (a := a.2.2.2.2.2.2.2.2.2.2.2.2.2.2.2.2.2.2.2.2.2.2.2.2.1) (b := b.2.2.2.2.2.2.2.2.2.2.2.2.2.2.2.2.2.2.2.2.2.2.2.2.1), Bool.beq_comm (a := a.2.2.2.2.2.2.2.2.2.2.2.2.2.2.2.2.2.2.2.2.2.2.2.2.2.1) (b := b.2.2.2.2.2.2.2.2.2.2.2.2.2.2.2.2.2.2.2.2.2.2.2.2.2.1), Bool.beq_comm (a := a.2.2.2.2.2.2.2.2.2.2.2.2.2.2.2.2.2.2.2.2.2.2.2.2.2.2.1) (b := b.2.2.2.2.2.2.2.2.2.2.2.2.2.2.2.2.2.2.2.2.2.2.2.2.2.2.1), Bool.beq_comm (a := a.2.2.2.2.2.2.2.2.2.1.1) (b := b.2.2.2.2.2.2.2.2.2.1.1), Bool.beq_comm (a := a.2.2.2.2.2.2.2.2.2.1.2.1) (b := b.2.2.2.2.2.2.2.2.2.1.2.1), eqb_comm .bool a.2.2.2.2.1 b.2.2.2.2.1, eqb_comm .bool a.2.2.2.2.2.1 b.2.2.2.2.2.1, eqb_comm .bool a.2.2.2.2.2.2.1 b.2.2.2.2.2.2.1, eqb_comm T48 a.2.2.2.2.2.2.2.2.2.2.1 b.2.2.2.2.2.2.2.2.2.2.1, eqb_comm T22 a.2.2.2.2.2.2.2.2.2.2.2.2.2.1 b.2.2.2.2.2.2.2.2.2.2.2.2.2.1]
theorem f38_comm {u v : D76} (hu : len u.2.2.2.2.1.2.2.1 < 9223372036854775808) (hv : len v.2.2.2.2.1.2.2.1 < 9223372036854775808) : f38 u v = f38 v u := by
  rw [f38_eq _ _ hu, f38_eq _ _ hv, eqC_comm (neT_comm (τ := T22) (z := Z22) u.2.2.2.2.1.2.2.1 v.2.2.2.2.1.2.2.1)]
  simp only [Bool.beq_comm]
theorem f16_comm {a b : List D60} (ha : NodesOk a) (hb : NodesOk b) : f16 a b = f16 b a := by
  rw [f16_eq _ _ ha, f16_eq _ _ hb]
  exact eqC_comm fun i => by unfold nodeC; rw [f34_comm (ha.2 i) (hb.2 i)]
theorem f19_comm {a b : List D76} (ha : LinksOk a) (hb : LinksOk b) : f19 a b = f19 b a := by
  rw [f19_eq _ _ ha, f19_eq _ _ hb]
  exact eqC_comm fun i => by unfold linkC; rw [f38_comm (ha.2 i) (hb.2 i)]
theorem f18_comm {a b : List D40} (ha : len a < 9223372036854775808) (hb : len b < 9223372036854775808) : f18 a b = f18 b a := by rw [f18_eq _ _ ha, f18_eq _ _ hb]; exact eqC_comm (neT_comm (τ := T40) a b)
theorem f17_comm {p q : D26} (ha : len p.2.2.1 < 9223372036854775808) (hb : len q.2.2.1 < 9223372036854775808) : f17 p q = f17 q p := by
  rw [f17_eq _ _ ha, f17_eq _ _ hb, eqC_comm (ne0_comm p.2.2.1 q.2.2.1)]
  simp only [Bool.beq_comm]

/-! Each is equal to itself. -/
theorem f16_self {a : List D60} (ha : NodesOk a) : f16 a a = true := by
  rw [f16_eq _ _ ha]
  exact eqC_self fun i => by unfold nodeC; rw [f34_self (ha.2 i)]; rfl
theorem f38_self {u : D76} (hu : len u.2.2.2.2.1.2.2.1 < 9223372036854775808) : f38 u u = true := by
  rw [f38_eq _ _ hu, eqC_self (neT_self (τ := T22) (by rfl) _)]
  simp
theorem f19_self {a : List D76} (ha : LinksOk a) : f19 a a = true := by
  rw [f19_eq _ _ ha]
  exact eqC_self fun i => by unfold linkC; rw [f38_self (ha.2 i)]; rfl
theorem f18_self {a : List D40} (ha : len a < 9223372036854775808) : f18 a a = true := by
  rw [f18_eq _ _ ha]
  exact eqC_self (neT_self (τ := T40) (by rfl) _)
theorem f17_self {p : D26} (ha : len p.2.2.1 < 9223372036854775808) : f17 p p = true := by
  rw [f17_eq _ _ ha, eqC_self (ne0_self _)]
  simp

/-- What is asked of a patch. -/
structure PatchOk (p : D30) : Prop where
  del : NodesOk p.2.2.2.1
  ins : NodesOk p.2.2.2.2.1
  so : len p.2.2.2.2.2.1.2.2.1 < 9223372036854775808
  sn : len p.2.2.2.2.2.2.1.2.2.1 < 9223372036854775808
  mo : len p.2.2.2.2.2.2.2.1 < 9223372036854775808
  mn : len p.2.2.2.2.2.2.2.2.1 < 9223372036854775808
  lo : LinksOk p.2.2.2.2.2.2.2.2.2.1
  ln : LinksOk p.2.2.2.2.2.2.2.2.2.2.1
theorem swap_ok {p : D30} (h : PatchOk p) : PatchOk (f6 p) := ⟨h.ins, h.del, h.sn, h.so, h.mn, h.mo, h.ln, h.lo⟩
theorem invert_eq {p : D30} (h : PatchOk p) : f4 p = f6 p := by
  unfold f4 f4t
  dsimp only
  rw [nodes_copy _ h.ins.1, nodes_copy _ h.del.1, links_copy _ h.lo.1, links_copy _ h.ln.1]
  rfl
theorem swap_swap (p : D30) : f6 (f6 p) = p := rfl
theorem same_self {p : D30} (h : PatchOk p) : f5 p p = true := by
  unfold f5 f5t
  dsimp only
  rw [f16_self h.del, f16_self h.ins, f17_self h.so, f17_self h.sn, f18_self h.mo, f18_self h.mn, f19_self h.lo, f19_self h.ln, eqb_refl T22 rfl, eqb_refl T22 rfl]
  simp
theorem empty_eq {p : D30} (h : PatchOk p) : f7 p = f8 p := by
  unfold f7 f7t f8 f8t
  dsimp only
  rw [f20_eq _ _ h.del, ← f16_eq _ _ h.del, f22_eq _ _ h.so, ← f17_eq _ _ h.so, f23_eq _ _ h.mo, ← f18_eq _ _ h.mo, f24_eq _ _ h.lo, ← f19_eq _ _ h.lo]
  cases Ty.eqb T22 p.1 p.2.1 <;> cases f16 p.2.2.2.1 p.2.2.2.2.1 <;> rfl
theorem empty_swap {p : D30} (h : PatchOk p) : f8 (f6 p) = f8 p := by
  unfold f8 f8t
  show _ = (bif _ then _ else _)
  dsimp only [f6, f6t]
  rw [f16_comm h.ins h.del, f17_comm h.sn h.so, f18_comm h.mn h.mo, f19_comm h.ln h.lo, eqb_comm T22]
end Go.Proofs.YtcjaalnbodmdgaaGreatDoor.Am
