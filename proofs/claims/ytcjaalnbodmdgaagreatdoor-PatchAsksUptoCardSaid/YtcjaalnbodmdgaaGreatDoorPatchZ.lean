/- Plain law of PatchAsks. No condition but the bound of the second form. -/
import Derived.Test.YtcjaalnbodmdgaaGreatDoorPatchY
namespace Go.Proofs.YtcjaalnbodmdgaaGreatDoor.Am
open Go Go.Am

theorem f18_all (a b : List D40) (ha : len a < 9223372036854775808) : f18_ok a b :=
  okScan (g := f18_L4_g (a, b, len a, ())) (next := f18_L4_next (a, b, len a, ())) (c := neT T40 Z40 a b) (len_nonneg a) ha (fun _ => rfl) (fun _ => rfl) fun x _ _ hx h => by
    have h := hx (of_decide_eq_true h)
    exact ⟨h.1, h.2.1, fun _ => h.2.2⟩
theorem f23_all (a b : List D40) (ha : len a < 9223372036854775808) : f23_ok a b :=
  okScan (g := f23_L4_g (a, b, len a, ())) (next := f23_L4_next (a, b, len a, ())) (c := neT T40 Z40 a b) (len_nonneg a) ha (fun _ => rfl) (fun _ => rfl) fun x _ _ hx h => by
    have h := hx (of_decide_eq_true h)
    exact ⟨h.1, h.2.1, fun _ => h.2.2⟩
theorem f16_all (a b : List D60) (ha : NodesOk a) : f16_ok a b :=
  okScan (g := f16_L4_g (a, b, len a, ())) (next := f16_L4_next (a, b, len a, ())) (c := nodeC a b) (len_nonneg a) ha.1 (fun _ => rfl) (fun _ => rfl) fun x _ _ hx h => by
    have h := hx (of_decide_eq_true h)
    exact ⟨h.1, h.2.1, f34_all (ha.2 _), fun _ => h.2.2⟩
theorem f20_all (a b : List D60) (ha : NodesOk a) : f20_v1_ok a b () :=
  okScan (g := f20_v1_L4_g (b, (), a, len a, ())) (next := f20_v1_L4_next (b, (), a, len a, ())) (c := fun i => !(f21 (nth a i Z60) (nth b i Z60))) (len_nonneg a) ha.1 (fun _ => rfl) (fun _ => rfl) fun x _ _ hx h => by
    have h := hx (of_decide_eq_true h)
    exact ⟨h.1, h.2.1, f21_all (ha.2 _), fun _ => h.2.2⟩
theorem f38_all (u v : D76) (h : len u.2.2.2.2.1.2.2.1 < 9223372036854775808) : f38_ok u v := fun _ _ => f54_all _ _ h
theorem f24_all (a b : List D76) (ha : LinksOk a) : f24_ok a b :=
  okScan (g := f37_v1_L4_g (b, (), a, len a, ())) (next := f37_v1_L4_next (b, (), a, len a, ())) (c := linkC a b) (len_nonneg a) ha.1 (fun _ => rfl) (fun _ => rfl) fun x _ _ hx h => by
    have h := hx (of_decide_eq_true h)
    exact ⟨h.1, h.2.1, f38_all _ _ (ha.2 _), fun _ => h.2.2⟩
theorem f22_all (p q : D26) (ha : len p.2.2.1 < 9223372036854775808) : f22_ok p q := fun _ => f35_all _ _ ha
theorem f17_all (p q : D26) (ha : len p.2.2.1 < 9223372036854775808) : f17_ok p q := by
  intro h
  have h' : (!(len p.2.2.1 != len q.2.2.1)) = true := by
    revert h
    show (!(bif (bif (p.1 != q.1) then true else (p.2.1 != q.2.1)) then true else (len p.2.2.1 != len q.2.2.1))) = true → _
    cases (len p.2.2.1 != len q.2.2.1) <;> cases (p.1 != q.1) <;> cases (p.2.1 != q.2.1) <;> simp
  exact okScan (g := f17_L4_g (p, q, len p.2.2.1, ())) (next := f17_L4_next (p, q, len p.2.2.1, ())) (c := ne0 p.2.2.1 q.2.2.1) (len_nonneg _) ha (fun _ => rfl) (fun _ => rfl) (fun x _ _ hx h => by
    have h := hx (of_decide_eq_true h)
    exact ⟨h.1, h.2.1, fun _ => h.2.2⟩) h'
theorem seven (w c : Bool) (h : (!(bif w then true else c)) = true) : (!c) = true := by
  cases w <;> cases c <;> simp_all
theorem f19_all (a b : List D76) (ha : LinksOk a) : f19_ok a b :=
  okScan (g := f19_L4_g (a, b, len a, ())) (next := f19_L4_next (a, b, len a, ())) (c := linkC a b) (len_nonneg a) ha.1 (fun x => link_g a b (len a) x.1 (ha.2 x.1)) (fun _ => rfl) fun z _ _ hx h => by
    have h := hx (of_decide_eq_true h)
    refine ⟨h.1, h.2.1, fun h' => ?_, fun _ => h.2.2⟩
    obtain ⟨x, _⟩ := z
    exact okScan (g := f19_L10_g (a, b, (nth a x Z76), (nth b x Z76), len a, x, len (nth a x Z76).2.2.2.2.1.2.2.1, ())) (next := f19_L10_next (a, b, (nth a x Z76), (nth b x Z76), len a, x, len (nth a x Z76).2.2.2.2.1.2.2.1, ())) (n := len (nth a x Z76).2.2.2.2.1.2.2.1) (m := len (nth b x Z76).2.2.2.2.1.2.2.1) (c := neT T22 Z22 (nth a x Z76).2.2.2.2.1.2.2.1 (nth b x Z76).2.2.2.2.1.2.2.1) (len_nonneg _) (ha.2 x) (fun _ => rfl) (fun _ => rfl) (fun x _ _ hx h => by
      have h := hx (of_decide_eq_true h)
      exact ⟨h.1, h.2.1, fun _ => h.2.2⟩) (seven _ _ h')

theorem sum_len {τ : Ty} (hb : ∀ x : τ.den, 1 ≤ τ.bulk x) : ∀ l : List τ.den, l.length ≤ (l.map τ.bulk).sum := by
  intro l
  induction l with
  | nil => simp
  | cons x l ih => have := hb x; simp only [List.length_cons, List.map_cons, List.sum_cons]; omega
theorem mem_sum {τ : Ty} {x : τ.den} : ∀ {l : List τ.den}, x ∈ l → τ.bulk x ≤ (l.map τ.bulk).sum := by
  intro l
  induction l with
  | nil => intro h; cases h
  | cons y l ih =>
    intro h
    simp only [List.map_cons, List.sum_cons]
    rcases List.mem_cons.1 h with rfl | h
    · omega
    · have := ih h; omega
theorem fb (f : Ty) : ∀ (k : Nat) (x : f.den), (f.fty k).bulk (f.fget k x) ≤ f.bulk x := by
  induction f with
  | cons h t _ iht =>
    intro k x
    cases k with
    | zero => simp only [Ty.fty, Ty.fget, Ty.bulk]; omega
    | succ k => simp only [Ty.fty, Ty.fget, Ty.bulk]; have := iht k x.2; omega
  | _ => intro k x; simp [Ty.fty, Ty.fget, Ty.bulk]
theorem sb (f : Ty) (k : Nat) (x : f.den) : (f.fty k).bulk (f.fget k x) ≤ (Ty.st f).bulk x := by
  have := fb f k x
  have e : (Ty.st f).bulk x = f.bulk x + 1 := rfl
  omega
def fieldsOf : Ty → Ty
  | .st f => f
  | τ => τ
theorem sl_len {τ : Ty} (hb : ∀ x : τ.den, 1 ≤ τ.bulk x) {l : List τ.den} {N : Nat} (h : (Ty.sl τ).bulk l ≤ N) : l.length ≤ N := by
  have := sum_len hb l
  have e : (Ty.sl τ).bulk l = (l.map τ.bulk).sum + 1 := rfl
  omega
theorem sl_mem {τ : Ty} {l : List τ.den} {N : Nat} (h : (Ty.sl τ).bulk l ≤ N) {x : τ.den} (hx : x ∈ l) : τ.bulk x ≤ N := by
  have := mem_sum hx
  have e : (Ty.sl τ).bulk l = (l.map τ.bulk).sum + 1 := rfl
  omega
theorem st_pos (f : Ty) (x : (Ty.st f).den) : 1 ≤ (Ty.st f).bulk x := by
  have e : (Ty.st f).bulk x = f.bulk x + 1 := rfl
  omega
structure Short (n : D60) : Prop where
  mask : n.2.2.2.2.2.2.2.2.2.1.2.2.1.length ≤ 1048576
  pix : n.2.2.2.2.2.2.2.2.2.2.2.2.1.2.2.1.length ≤ 1048576
  params : n.2.2.2.2.2.2.2.2.2.2.2.2.2.2.2.1.length ≤ 1048576
  stops : n.2.2.2.2.2.2.2.2.2.2.2.2.2.2.2.2.2.1.length ≤ 1048576
  segs : n.2.2.2.2.2.2.2.2.2.2.2.2.2.2.2.2.2.2.1.length ≤ 1048576
  warp : n.2.2.2.2.2.2.2.2.2.2.2.2.2.2.2.2.2.2.2.2.2.2.2.2.2.2.2.1.2.2.2.1.length ≤ 1048576
theorem short_zero : Short Z60 := ⟨by decide, by decide, by decide, by decide, by decide, by decide⟩
theorem short_of {n : D60} (h : Ty.bulk T60 n ≤ 1048576) : Short n := by
  refine ⟨?_, ?_, ?_, ?_, ?_, ?_⟩
  · exact sl_len (τ := .int .i64) (fun _ => Nat.le_refl _) (Nat.le_trans (sb (fieldsOf ((fieldsOf T60).fty 9)) 2 n.2.2.2.2.2.2.2.2.2.1) (Nat.le_trans (sb (fieldsOf T60) 9 n) h))
  · exact sl_len (τ := T22) (st_pos _) (Nat.le_trans (sb (fieldsOf ((fieldsOf T60).fty 12)) 2 n.2.2.2.2.2.2.2.2.2.2.2.2.1) (Nat.le_trans (sb (fieldsOf T60) 12 n) h))
  · exact sl_len (τ := .int .i64) (fun _ => Nat.le_refl _) (Nat.le_trans (sb (fieldsOf T60) 15 n) h)
  · exact sl_len (τ := T88) (st_pos _) (Nat.le_trans (sb (fieldsOf T60) 17 n) h)
  · exact sl_len (τ := T94) (st_pos _) (Nat.le_trans (sb (fieldsOf T60) 18 n) h)
  · exact sl_len (τ := T91) (st_pos _) (Nat.le_trans (sb (fieldsOf ((fieldsOf T60).fty 27)) 3 n.2.2.2.2.2.2.2.2.2.2.2.2.2.2.2.2.2.2.2.2.2.2.2.2.2.2.2.1) (Nat.le_trans (sb (fieldsOf T60) 27 n) h))
theorem clone_ok {α : Type} {l : List α} (h : l.length ≤ 1048576) : (l.length : Int) ≤ 4294967296 := by omega
theorem f30_all {a b : D60} (ha : Short a) (hb : Short b) : f30_ok a b := by
  intro _
  exact ⟨clone_ok ha.mask, clone_ok hb.pix, clone_ok hb.params, clone_ok hb.stops, clone_ok hb.segs, clone_ok hb.warp⟩
theorem len_small {α : Type} {l : List α} (h : l.length ≤ 1048576) : len l ≤ 1048576 := by unfold len; omega

theorem f12_all {l : List D60} (hn : l.length ≤ 1048576) (hs : ∀ i, Short (nth l i Z60)) : f12_ok l := by
  have h1 := len_small hn
  have h0 := len_nonneg l
  refine ⟨⟨h0, Int.le_refl _, by omega⟩, ?_⟩
  refine fold_ends (g := f12_L3_g (l, len l, ())) (next := f12_L3_next (l, len l, ())) (step := fun a i => List.set a i.toNat (f30 (nth l i Z60) (nth l i Z60)).1) (n := len l) h0 (by omega) (fun _ => rfl) (fun _ => rfl) (List.replicate (len l).toNat Z60) fun i hi hi2 => ?_
  intro hlt
  have hlt : i < len l := of_decide_eq_true hlt
  have hlen : ∀ k : Nat, (foldI (fun a i => List.set a i.toNat (f30 (nth l i Z60) (nth l i Z60)).1) k (List.replicate (len l).toNat Z60)).length = (len l).toNat := by
    intro k
    induction k with
    | zero => simp [foldI]
    | succ k ih => simp only [foldI, List.length_set]; exact ih
  have hb : i < len (foldI (fun a i => List.set a i.toNat (f30 (nth l i Z60) (nth l i Z60)).1) i.toNat (List.replicate (len l).toNat Z60)) := by
    have e : len (foldI (fun a i => List.set a i.toNat (f30 (nth l i Z60) (nth l i Z60)).1) i.toNat (List.replicate (len l).toNat Z60)) = ((len l).toNat : Int) := congrArg Int.ofNat (hlen i.toNat)
    rw [e]; omega
  exact ⟨⟨hi, hlt⟩, f30_all (hs i) (hs i), ⟨hi, hb⟩, hb, by unfold InR; show _ ≤ i + 1 ∧ i + 1 ≤ _; omega⟩
theorem f15_all {l : List D76} (hn : l.length ≤ 1048576) (hs : ∀ i, (nth l i Z76).2.2.2.2.1.2.2.1.length ≤ 1048576) : f15_ok l := by
  have h1 := len_small hn
  have h0 := len_nonneg l
  refine ⟨clone_ok hn, ?_⟩
  refine ends_ind (fun x : List D76 × Int × Unit => x.1 = l ∧ 0 ≤ x.2.1 ∧ x.2.1 ≤ len l) (fun x => (len l - x.2.1).toNat) (fun x hx hlt => ?_) (fun x hx hg => ?_) ⟨rfl, Int.le_refl 0, h0⟩ (by simp only [fuel]; show (len l - 0).toNat < 18446744073709551616; omega)
  · have hlt : x.2.1 < len l := of_decide_eq_true hlt
    have hb : x.2.1 < len x.1 := by rw [hx.1]; exact hlt
    exact ⟨⟨hx.2.1, hlt⟩, clone_ok (hs _), ⟨hx.2.1, hb⟩, hb, by unfold InR; omega⟩
  · have hg : x.2.1 < len l := of_decide_eq_true hg
    refine ⟨⟨?_, ?_, ?_⟩, ?_⟩
    · obtain ⟨a, i, _⟩ := x
      obtain ⟨ha, _⟩ := hx
      simp only at ha
      subst ha
      exact set_self a i Z76
    · show 0 ≤ x.2.1 + 1; omega
    · show x.2.1 + 1 ≤ len l; omega
    · show (len l - (x.2.1 + 1)).toNat < (len l - x.2.1).toNat; omega

/-- No list of the patch is long. -/
structure Few (p : D30) : Prop where
  del : p.2.2.2.1.length ≤ 1048576 ∧ ∀ i, Short (nth p.2.2.2.1 i Z60)
  ins : p.2.2.2.2.1.length ≤ 1048576 ∧ ∀ i, Short (nth p.2.2.2.2.1 i Z60)
  so : p.2.2.2.2.2.1.2.2.1.length ≤ 1048576
  sn : p.2.2.2.2.2.2.1.2.2.1.length ≤ 1048576
  mo : p.2.2.2.2.2.2.2.1.length ≤ 1048576
  mn : p.2.2.2.2.2.2.2.2.1.length ≤ 1048576
  lo : p.2.2.2.2.2.2.2.2.2.1.length ≤ 1048576 ∧ ∀ i, (nth p.2.2.2.2.2.2.2.2.2.1 i Z76).2.2.2.2.1.2.2.1.length ≤ 1048576
  ln : p.2.2.2.2.2.2.2.2.2.2.1.length ≤ 1048576 ∧ ∀ i, (nth p.2.2.2.2.2.2.2.2.2.2.1 i Z76).2.2.2.2.1.2.2.1.length ≤ 1048576
theorem few_swap {p : D30} (h : Few p) : Few (f6 p) := ⟨h.ins, h.del, h.sn, h.so, h.mn, h.mo, h.ln, h.lo⟩
theorem shorts {l : List D60} (h : (Ty.sl T60).bulk l ≤ 1048576) : l.length ≤ 1048576 ∧ ∀ i, Short (nth l i Z60) := by
  refine ⟨sl_len (τ := T60) (st_pos _) h, fun i => ?_⟩
  unfold nth
  rw [List.getD_eq_getElem?_getD]
  cases hx : l[i.toNat]? with
  | none => exact short_zero
  | some x => exact short_of (sl_mem (τ := T60) h (List.mem_of_getElem? hx))
theorem pixes {l : List D76} (h : (Ty.sl T76).bulk l ≤ 1048576) : l.length ≤ 1048576 ∧ ∀ i, (nth l i Z76).2.2.2.2.1.2.2.1.length ≤ 1048576 := by
  refine ⟨sl_len (τ := T76) (st_pos _) h, fun i => ?_⟩
  unfold nth
  rw [List.getD_eq_getElem?_getD]
  cases hx : l[i.toNat]? with
  | none => show 0 ≤ 1048576; omega
  | some x =>
    have hb : Ty.bulk T76 x ≤ 1048576 := sl_mem (τ := T76) h (List.mem_of_getElem? hx)
    exact sl_len (τ := T22) (st_pos _) (Nat.le_trans (sb (fieldsOf T51) 2 x.2.2.2.2.1) (Nat.le_trans (sb (fieldsOf T76) 4 x) hb))
theorem few_of {p : D30} (h : Ty.bulk T30 p ≤ 1048576) : Few p := by
  refine ⟨?_, ?_, ?_, ?_, ?_, ?_, ?_, ?_⟩
  · exact shorts (Nat.le_trans (sb (fieldsOf T30) 3 p) h)
  · exact shorts (Nat.le_trans (sb (fieldsOf T30) 4 p) h)
  · exact sl_len (τ := .int .i64) (fun _ => Nat.le_refl _) (Nat.le_trans (sb (fieldsOf T26) 2 p.2.2.2.2.2.1) (Nat.le_trans (sb (fieldsOf T30) 5 p) h))
  · exact sl_len (τ := .int .i64) (fun _ => Nat.le_refl _) (Nat.le_trans (sb (fieldsOf T26) 2 p.2.2.2.2.2.2.1) (Nat.le_trans (sb (fieldsOf T30) 6 p) h))
  · exact sl_len (τ := T40) (st_pos _) (Nat.le_trans (sb (fieldsOf T30) 7 p) h)
  · exact sl_len (τ := T40) (st_pos _) (Nat.le_trans (sb (fieldsOf T30) 8 p) h)
  · exact pixes (Nat.le_trans (sb (fieldsOf T30) 9 p) h)
  · exact pixes (Nat.le_trans (sb (fieldsOf T30) 10 p) h)
theorem linksOk_of {l : List D76} (h : Ty.wf (.sl T76) l) : LinksOk l := by
  refine ⟨len_lt h.1, fun i => ?_⟩
  unfold nth
  rw [List.getD_eq_getElem?_getD]
  cases hx : l[i.toNat]? with
  | none => show (0 : Int) < 9223372036854775808; decide
  | some x =>
    obtain ⟨_, _, _, _, ⟨_, _, ⟨h1, _⟩, _⟩, _⟩ := h.2 x (List.mem_of_getElem? hx)
    exact len_lt h1
theorem patchOk_of {p : D30} (h : Ty.wf T30 p) : PatchOk p := by
  obtain ⟨_, _, _, h3, h4, ⟨_, _, ⟨h5, _⟩, _⟩, ⟨_, _, ⟨h6, _⟩, _⟩, ⟨h7, _⟩, ⟨h8, _⟩, h9, h10, _⟩ := h
  exact ⟨nodesOk_of h3, nodesOk_of h4, len_lt h5, len_lt h6, len_lt h7, len_lt h8, linksOk_of h9, linksOk_of h10⟩

theorem invert_ok {p : D30} (h : Few p) : f4_ok p :=
  ⟨f12_all h.ins.1 h.ins.2, f12_all h.del.1 h.del.2, clone_ok h.sn, clone_ok h.so, clone_ok h.mn, clone_ok h.mo, f15_all h.ln.1 h.ln.2, f15_all h.lo.1 h.lo.2⟩
theorem same_ok {p q : D30} (h : PatchOk p) : f5_ok p q :=
  ⟨fun _ => f16_all _ _ h.del, fun _ => f16_all _ _ h.ins, fun _ => f17_all _ _ h.so, fun _ => f17_all _ _ h.sn, fun _ => f18_all _ _ h.mo, fun _ => f18_all _ _ h.mn, fun _ => f19_all _ _ h.lo, fun _ => f19_all _ _ h.ln⟩
theorem empty_ok {p : D30} (h : PatchOk p) : f7_ok p :=
  ⟨fun _ => f20_all _ _ h.del, fun _ => ⟨f22_all _ _ h.so, fun _ => f23_all _ _ h.mo, fun _ => f24_all _ _ h.lo⟩⟩
theorem empty_ok' {p : D30} (h : PatchOk p) : f8_ok p :=
  ⟨fun _ => f16_all _ _ h.del, fun _ => f17_all _ _ h.so, fun _ => f18_all _ _ h.mo, fun _ => f19_all _ _ h.lo⟩
theorem size_ok {p : D30} (h : Few p) : f9_ok p ∧ f10_ok p := by
  have h1 := len_small h.del.1
  have h2 := len_small h.ins.1
  have h3 := len_nonneg p.2.2.2.1
  have h4 := len_nonneg p.2.2.2.2.1
  constructor
  · show InR (len p.2.2.2.1 + len p.2.2.2.2.1); unfold InR; omega
  · show InR (len p.2.2.2.1 + len p.2.2.2.2.1); unfold InR; omega
theorem size_swap (p : D30) : f9 (f6 p) = f9 p := by
  show len p.2.2.2.2.1 + len p.2.2.2.1 = len p.2.2.2.1 + len p.2.2.2.2.1
  omega
theorem patchAsks_law : ∀ x, wfL 0 [T30] x → bulkL 0 [T30] x ≤ 1048576 → f3_ok x.1 ∧ f3 x.1 = true := by
  intro x hx hN
  have hw := patchOk_of hx.1
  have hb := few_of (p := x.1) (Nat.le_trans (Nat.le_add_right _ _) hN)
  generalize x.1 = p at hw hb
  have hw' := swap_ok hw
  have hb' := few_swap hb
  have e1 : f4 p = f6 p := invert_eq hw
  have e2 : f4 (f6 p) = p := by rw [invert_eq hw']; exact swap_swap p
  constructor
  · show (f3t p).1
    unfold f3t
    dsimp only
    rw [e1, e2]
    exact ⟨invert_ok hb, trivial, same_ok hw', fun _ => invert_ok hb', fun _ => same_ok hw, fun _ => empty_ok hw, fun _ => empty_ok' hw, fun _ => empty_ok hw', fun _ => empty_ok hw, fun _ => (size_ok hb).1, fun _ => (size_ok hb).2, fun _ => (size_ok hb').1, fun _ => (size_ok hb).1, fun _ => awake_ok⟩
  · show (f3t p).2 = true
    unfold f3t
    dsimp only
    rw [e1, e2, same_self hw', same_self hw, empty_eq hw, empty_eq hw', empty_swap hw, eqb_self, size_swap, awake_true, show f9 p = f10 p from rfl]
    simp
end Go.Proofs.YtcjaalnbodmdgaaGreatDoor.Am
