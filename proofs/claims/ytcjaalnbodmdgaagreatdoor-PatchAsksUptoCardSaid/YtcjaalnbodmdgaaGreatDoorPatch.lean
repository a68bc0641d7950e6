/- Printed by program: the functions that the statements reach, as plain functions, and their contracts. No condition. -/
import Derived.Test.YtcjaalnbodmdgaaGreatDoorPatchH
import Derived.Test.YtcjaalnbodmdgaaGreatDoorProg
set_option linter.unusedVariables false
set_option synthInstance.maxSize 4000
set_option synthInstance.maxHeartbeats 400000
namespace Go.Proofs.YtcjaalnbodmdgaaGreatDoor.Am
open Go Go.Am
abbrev T22 : Ty := .st (.cons (.int .i64) (.cons (.int .i64) (.cons (.int .i64) (.cons (.int .i64) .nl))))
abbrev D22 : Type := Int × Int × Int × Int × Unit
abbrev Z22 : D22 := ((0 : Int), (0 : Int), (0 : Int), (0 : Int), ())
abbrev T26 : Ty := .st (.cons (.int .i64) (.cons (.int .i64) (.cons (.sl (.int .i64)) .nl)))
abbrev D26 : Type := Int × Int × (List Int) × Unit
abbrev Z26 : D26 := ((0 : Int), (0 : Int), ([] : List Int), ())
abbrev T48 : Ty := .st (.cons (.int .i64) (.cons (.int .i64) (.cons (.int .i64) (.cons (.int .i64) (.cons (.int .i64) (.cons (.int .i64) .nl))))))
abbrev D48 : Type := Int × Int × Int × Int × Int × Int × Unit
abbrev Z48 : D48 := ((0 : Int), (0 : Int), (0 : Int), (0 : Int), (0 : Int), (0 : Int), ())
abbrev T51 : Ty := .st (.cons (.int .i64) (.cons (.int .i64) (.cons (.sl T22) .nl)))
abbrev D51 : Type := Int × Int × (List D22) × Unit
abbrev Z51 : D51 := ((0 : Int), (0 : Int), ([] : List D22), ())
abbrev T88 : Ty := .st (.cons (.int .i64) (.cons T22 .nl))
abbrev D88 : Type := Int × D22 × Unit
abbrev Z88 : D88 := ((0 : Int), Z22, ())
abbrev T91 : Ty := .st (.cons (.int .i64) (.cons (.int .i64) .nl))
abbrev D91 : Type := Int × Int × Unit
abbrev Z91 : D91 := ((0 : Int), (0 : Int), ())
abbrev T94 : Ty := .st (.cons (.int .i64) (.cons (.arr 3 T91) .nl))
abbrev D94 : Type := Int × (List D91) × Unit
abbrev Z94 : D94 := ((0 : Int), (List.replicate 3 Z91), ())
abbrev T58 : Ty := .st (.cons (.int .i64) (.cons (.int .i64) (.cons (.int .i64) (.cons (.sl T91) .nl))))
abbrev D58 : Type := Int × Int × Int × (List D91) × Unit
abbrev Z58 : D58 := ((0 : Int), (0 : Int), (0 : Int), ([] : List D91), ())
abbrev T60 : Ty := .st (.cons (.int .i64) (.cons (.int .i64) (.cons (.int .i64) (.cons .str (.cons .bool (.cons .bool (.cons .bool (.cons (.int .i64) (.cons (.int .i64) (.cons T26 (.cons T48 (.cons (.int .i64) (.cons T51 (.cons T22 (.cons (.int .i64) (.cons (.sl (.int .i64)) (.cons (.int .i64) (.cons (.sl T88) (.cons (.sl T94) (.cons (.int .i64) (.cons (.int .i64) (.cons (.int .i64) (.cons (.int .i64) (.cons .str (.cons (.int .i64) (.cons (.int .i64) (.cons (.int .i64) (.cons T58 .nl))))))))))))))))))))))))))))
abbrev D60 : Type := Int × Int × Int × (List UInt8) × Bool × Bool × Bool × Int × Int × D26 × D48 × Int × D51 × D22 × Int × (List Int) × Int × (List D88) × (List D94) × Int × Int × Int × Int × (List UInt8) × Int × Int × Int × D58 × Unit
abbrev Z60 : D60 := ((0 : Int), (0 : Int), (0 : Int), ([] : List UInt8), false, false, false, (0 : Int), (0 : Int), Z26, Z48, (0 : Int), Z51, Z22, (0 : Int), ([] : List Int), (0 : Int), ([] : List D88), ([] : List D94), (0 : Int), (0 : Int), (0 : Int), (0 : Int), ([] : List UInt8), (0 : Int), (0 : Int), (0 : Int), Z58, ())
abbrev T40 : Ty := .st (.cons .str (.cons .str .nl))
abbrev D40 : Type := (List UInt8) × (List UInt8) × Unit
abbrev Z40 : D40 := (([] : List UInt8), ([] : List UInt8), ())
abbrev T76 : Ty := .st (.cons (.int .i64) (.cons .str (.cons (.int .i64) (.cons (.int .i64) (.cons T51 .nl)))))
abbrev D76 : Type := Int × (List UInt8) × Int × Int × D51 × Unit
abbrev Z76 : D76 := ((0 : Int), ([] : List UInt8), (0 : Int), (0 : Int), Z51, ())
abbrev T30 : Ty := .st (.cons T22 (.cons T22 (.cons (.int .i64) (.cons (.sl T60) (.cons (.sl T60) (.cons T26 (.cons T26 (.cons (.sl T40) (.cons (.sl T40) (.cons (.sl T76) (.cons (.sl T76) .nl)))))))))))
abbrev D30 : Type := D22 × D22 × Int × (List D60) × (List D60) × D26 × D26 × (List D40) × (List D40) × (List D76) × (List D76) × Unit
abbrev Z30 : D30 := (Z22, Z22, (0 : Int), ([] : List D60), ([] : List D60), Z26, Z26, ([] : List D40), ([] : List D40), ([] : List D76), ([] : List D76), ())
abbrev T63 : Ty := .st (.cons (.int .i64) (.cons (.int .i64) (.cons (.int .i64) (.cons (.sl T60) (.cons (.int .i64) (.cons T26 (.cons (.sl T40) (.cons (.sl T76) .nl))))))))
abbrev D63 : Type := Int × Int × Int × (List D60) × Int × D26 × (List D40) × (List D76) × Unit
abbrev Z63 : D63 := ((0 : Int), (0 : Int), (0 : Int), ([] : List D60), (0 : Int), Z26, ([] : List D40), ([] : List D76), ())
abbrev T186 : Ty := .st (.cons (.int .u8) (.cons (.int .i64) (.cons (.sl T94) .nl)))
abbrev D186 : Type := Int × Int × (List D94) × Unit
abbrev Z186 : D186 := ((0 : Int), (0 : Int), ([] : List D94), ())
abbrev T191 : Ty := .st (.cons (.int .u8) (.cons (.int .u8) (.cons (.int .i64) .nl)))
abbrev D191 : Type := Int × Int × Int × Unit
abbrev Z191 : D191 := ((0 : Int), (0 : Int), (0 : Int), ())
abbrev T157 : Ty := .st (.cons (.int .i64) (.cons (.int .i64) (.cons (.int .i64) (.cons (.sl T186) (.cons (.sl T191) .nl)))))
abbrev D157 : Type := Int × Int × Int × (List D186) × (List D191) × Unit
abbrev Z157 : D157 := ((0 : Int), (0 : Int), (0 : Int), ([] : List D186), ([] : List D191), ())
abbrev T173 : Ty := .st (.cons (.int .i64) (.cons (.int .i64) (.cons (.int .i64) (.cons (.sl (.sl T91)) (.cons (.int .i64) .nl)))))
abbrev D173 : Type := Int × Int × Int × (List (List D91)) × Int × Unit
abbrev Z173 : D173 := ((0 : Int), (0 : Int), (0 : Int), ([] : List (List D91)), (0 : Int), ())
abbrev T207 : Ty := .st (.cons T157 (.cons (.arr 256 (.int .i64)) .nl))
abbrev D207 : Type := D157 × (List Int) × Unit
abbrev Z207 : D207 := (Z157, (List.replicate 256 (0 : Int)), ())
abbrev T199 : Ty := .st (.cons T91 (.cons T91 (.cons T91 (.cons T91 (.cons T91 .nl)))))
abbrev D199 : Type := D91 × D91 × D91 × D91 × D91 × Unit
abbrev Z199 : D199 := (Z91, Z91, Z91, Z91, Z91, ())
abbrev T248 : Ty := .st (.cons (.int .u16) (.cons (.int .u16) (.cons (.int .u16) .nl)))
abbrev D248 : Type := Int × Int × Int × Unit
abbrev Z248 : D248 := ((0 : Int), (0 : Int), (0 : Int), ())
abbrev T251 : Ty := .st (.cons (.int .u32) (.cons (.int .u32) (.cons (.int .u32) .nl)))
abbrev D251 : Type := Int × Int × Int × Unit
abbrev Z251 : D251 := ((0 : Int), (0 : Int), (0 : Int), ())
abbrev T245 : Ty := .st (.cons (.sl T248) (.cons (.sl T251) (.cons (.int .i64) .nl)))
abbrev D245 : Type := (List D248) × (List D251) × Int × Unit
abbrev Z245 : D245 := (([] : List D248), ([] : List D251), (0 : Int), ())
abbrev T7 : Ty := .st (.cons (.int .i64) (.cons (.int .i64) (.cons .bool (.cons (.int .u8) .nl))))
abbrev D7 : Type := Int × Int × Bool × Int × Unit
abbrev Z7 : D7 := ((0 : Int), (0 : Int), false, (0 : Int), ())
abbrev T13 : Ty := .st (.cons .str (.cons (.int .u64) .nl))
abbrev D13 : Type := (List UInt8) × Int × Unit
abbrev Z13 : D13 := (([] : List UInt8), (0 : Int), ())
abbrev T257 : Ty := .st (.cons (.int .u8) (.cons (.int .u8) .nl))
abbrev D257 : Type := Int × Int × Unit
abbrev Z257 : D257 := ((0 : Int), (0 : Int), ())

instance : GlobTab := ⟨⟨[]⟩⟩
theorem glob_of (W : World) {L : Prop} (_ : L) : GlobOk (fun b _ => if b < W.heap.size then 0 else 2) W := fun _ _ _ h => (List.not_mem_nil h).elim

def tys : List (Nat × Ty) := [(3, (.int .i64)), (4, .bool), (5, (.int .u8)), (9, .str), (23, T22), (24, (.sl T60)), (25, (.sl (.int .i64))), (27, T26), (28, (.sl T40)), (29, (.sl T76)), (31, T30), (41, T40), (49, T48), (50, (.sl T22)), (52, T51), (54, T22), (55, (.sl T88)), (56, (.sl T94)), (57, (.sl T91)), (59, T58), (61, T60), (64, T63), (66, (.int .i64)), (77, T76), (89, T88), (92, T91), (95, T94), (104, (.sl (.sl T60))), (118, (.sl .bool)), (147, (.sl (.sl T91))), (158, T157), (162, (.sl T91)), (165, T91)]
theorem tys_ok : tysOk Tryz.prog tys = true := by kernel_rfl
def maps : List (Nat × (Ty × Ty)) := [(108, ((.int .i64), (.int .i64)))]
def fts : List Nat := [119]
theorem mixed : Tryz.prog.follows .mixedOrders = true := by kernel_rfl

-- slices.Clone[[]int,int]
def f31at (p0 : Unit) : Prop × (List Int) :=
 (((!true) = true → ((List.length ([] : List Int) + List.length ([] : List Int) : Nat) : Int) ≤ 4294967296), (bif true then [] else (([] : List Int) ++ ([] : List Int))))
def f31a_ok (p0 : Unit) : Prop := (f31at p0).1
def f31a (p0 : Unit) : (List Int) := (f31at p0).2
instance (p0 : Unit) : Decidable (f31a_ok p0) := by
 unfold f31a_ok f31at
 try dsimp only
 infer_instance
def f31a_spec : Am.Spec := fnSpec [(0, (.nn true))] (.own (.int .i64) 0 false) [] (fun x => f31a_ok x.1) (fun x => f31a x.1) (fun _ => ())
def f31a_ctx : Ctx := Cx tys [] [] [(7, [(4, 0, 7, 0)])] false 8 [] []
theorem f31a_cok : CtxOk Tryz.prog f31a_ctx := ctxOk_mk tys_ok rfl trivial rfl (by kernel_rfl)
theorem f31a_is : SpecOk Tryz.prog 31 f31a_spec := fgen f31a_cok mixed Tryz.func31 (by kernel_rfl) (bs := []) (by kernel_rfl) trivial fun x => by kernel_rfl

-- slices.Clone[[]int,int]
def f31bt (p0 : Unit) : Prop × (List Int) :=
 (((!false) = true → ((List.length ([] : List Int) + List.length ([] : List Int) : Nat) : Int) ≤ 4294967296), (bif false then [] else (([] : List Int) ++ ([] : List Int))))
def f31b_ok (p0 : Unit) : Prop := (f31bt p0).1
def f31b (p0 : Unit) : (List Int) := (f31bt p0).2
instance (p0 : Unit) : Decidable (f31b_ok p0) := by
 unfold f31b_ok f31bt
 try dsimp only
 infer_instance
def f31b_spec : Am.Spec := fnSpec [(0, (.nn false))] (.own (.int .i64) 0 false) [] (fun x => f31b_ok x.1) (fun x => f31b x.1) (fun _ => ())
def f31b_ctx : Ctx := Cx tys [] [] [(7, [(4, 0, 7, 0)])] false 8 [] []
theorem f31b_cok : CtxOk Tryz.prog f31b_ctx := ctxOk_mk tys_ok rfl trivial rfl (by kernel_rfl)
theorem f31b_is : SpecOk Tryz.prog 31 f31b_spec := fgen f31b_cok mixed Tryz.func31 (by kernel_rfl) (bs := []) (by kernel_rfl) trivial fun x => by kernel_rfl

-- slices.Clone[[]int,int]
def f31ct (p0 : (List Int)) : Prop × (List Int) :=
 ((0 < List.length p0 ∧ ((!false) = true → ((List.length ([] : List Int) + List.length p0 : Nat) : Int) ≤ 4294967296)), (bif false then [] else (([] : List Int) ++ p0)))
def f31c_ok (p0 : (List Int)) : Prop := (f31ct p0).1
def f31c (p0 : (List Int)) : (List Int) := (f31ct p0).2
instance (p0 : (List Int)) : Decidable (f31c_ok p0) := by
 unfold f31c_ok f31ct
 try dsimp only
 infer_instance
def f31c_spec : Am.Spec := fnSpec [(0, (.val (.sl (.int .i64))))] (.own (.int .i64) 0 false) [] (fun x => f31c_ok x.1) (fun x => f31c x.1) (fun _ => ())
def f31c_ctx : Ctx := Cx tys [] [] [(7, [(4, 0, 7, 0)])] false 8 [] []
theorem f31c_cok : CtxOk Tryz.prog f31c_ctx := ctxOk_mk tys_ok rfl trivial rfl (by kernel_rfl)
theorem f31c_is : SpecOk Tryz.prog 31 f31c_spec := fgen f31c_cok mixed Tryz.func31 (by kernel_rfl) (bs := []) (by kernel_rfl) trivial fun x => by kernel_rfl

def f31 (p0 : (List Int)) : (List Int) := p0
def f31_ok (p0 : (List Int)) : Prop := (List.length p0 : Int) ≤ 4294967296
instance (p0 : (List Int)) : Decidable (f31_ok p0) := by
  unfold f31_ok
  infer_instance
def f31_ps : List (Nat × Sh) := [(0, (.val (.sl (.int .i64))))]
def f31_rs : Sh := (.own (.int .i64) 0 false)
def f31_os : List (Nat × Sh) := []
def f31_spec : Am.Spec := fnSpec f31_ps f31_rs f31_os (fun x => f31_ok x.1) (fun x => f31 x.1) (fun _ => ())
theorem f31_is : SpecOk Tryz.prog 31 f31_spec := nil_cases (rs := f31_rs) (F := f31) (ok := f31_ok) f31a_is f31b_is f31c_is (of_decide_eq_true (by kernel_rfl)) (of_decide_eq_true (by kernel_rfl)) (fun l h hp => ⟨hp, fun _ => by simpa [f31_ok] using h⟩) rfl rfl (fun _ => rfl)

-- slices.Clone[[]imageeditor/api.Pixel,imageeditor/api.Pixel]
def f33at (p0 : Unit) : Prop × (List D22) :=
 (((!true) = true → ((List.length ([] : List D22) + List.length ([] : List D22) : Nat) : Int) ≤ 4294967296), (bif true then [] else (([] : List D22) ++ ([] : List D22))))
def f33a_ok (p0 : Unit) : Prop := (f33at p0).1
def f33a (p0 : Unit) : (List D22) := (f33at p0).2
instance (p0 : Unit) : Decidable (f33a_ok p0) := by
 unfold f33a_ok f33at
 try dsimp only
 infer_instance
def f33a_spec : Am.Spec := fnSpec [(0, (.nn true))] (.own T22 0 false) [] (fun x => f33a_ok x.1) (fun x => f33a x.1) (fun _ => ())
def f33a_ctx : Ctx := Cx tys [] [] [(7, [(4, 0, 7, 0)])] false 8 [] []
theorem f33a_cok : CtxOk Tryz.prog f33a_ctx := ctxOk_mk tys_ok rfl trivial rfl (by kernel_rfl)
theorem f33a_is : SpecOk Tryz.prog 33 f33a_spec := fgen f33a_cok mixed Tryz.func33 (by kernel_rfl) (bs := []) (by kernel_rfl) trivial fun x => by kernel_rfl

-- slices.Clone[[]imageeditor/api.Pixel,imageeditor/api.Pixel]
def f33bt (p0 : Unit) : Prop × (List D22) :=
 (((!false) = true → ((List.length ([] : List D22) + List.length ([] : List D22) : Nat) : Int) ≤ 4294967296), (bif false then [] else (([] : List D22) ++ ([] : List D22))))
def f33b_ok (p0 : Unit) : Prop := (f33bt p0).1
def f33b (p0 : Unit) : (List D22) := (f33bt p0).2
instance (p0 : Unit) : Decidable (f33b_ok p0) := by
 unfold f33b_ok f33bt
 try dsimp only
 infer_instance
def f33b_spec : Am.Spec := fnSpec [(0, (.nn false))] (.own T22 0 false) [] (fun x => f33b_ok x.1) (fun x => f33b x.1) (fun _ => ())
def f33b_ctx : Ctx := Cx tys [] [] [(7, [(4, 0, 7, 0)])] false 8 [] []
theorem f33b_cok : CtxOk Tryz.prog f33b_ctx := ctxOk_mk tys_ok rfl trivial rfl (by kernel_rfl)
theorem f33b_is : SpecOk Tryz.prog 33 f33b_spec := fgen f33b_cok mixed Tryz.func33 (by kernel_rfl) (bs := []) (by kernel_rfl) trivial fun x => by kernel_rfl

-- slices.Clone[[]imageeditor/api.Pixel,imageeditor/api.Pixel]
def f33ct (p0 : (List D22)) : Prop × (List D22) :=
 ((0 < List.length p0 ∧ ((!false) = true → ((List.length ([] : List D22) + List.length p0 : Nat) : Int) ≤ 4294967296)), (bif false then [] else (([] : List D22) ++ p0)))
def f33c_ok (p0 : (List D22)) : Prop := (f33ct p0).1
def f33c (p0 : (List D22)) : (List D22) := (f33ct p0).2
instance (p0 : (List D22)) : Decidable (f33c_ok p0) := by
 unfold f33c_ok f33ct
 try dsimp only
 infer_instance
def f33c_spec : Am.Spec := fnSpec [(0, (.val (.sl T22)))] (.own T22 0 false) [] (fun x => f33c_ok x.1) (fun x => f33c x.1) (fun _ => ())
def f33c_ctx : Ctx := Cx tys [] [] [(7, [(4, 0, 7, 0)])] false 8 [] []
theorem f33c_cok : CtxOk Tryz.prog f33c_ctx := ctxOk_mk tys_ok rfl trivial rfl (by kernel_rfl)
theorem f33c_is : SpecOk Tryz.prog 33 f33c_spec := fgen f33c_cok mixed Tryz.func33 (by kernel_rfl) (bs := []) (by kernel_rfl) trivial fun x => by kernel_rfl

def f33 (p0 : (List D22)) : (List D22) := p0
def f33_ok (p0 : (List D22)) : Prop := (List.length p0 : Int) ≤ 4294967296
instance (p0 : (List D22)) : Decidable (f33_ok p0) := by
  unfold f33_ok
  infer_instance
def f33_ps : List (Nat × Sh) := [(0, (.val (.sl T22)))]
def f33_rs : Sh := (.own T22 0 false)
def f33_os : List (Nat × Sh) := []
def f33_spec : Am.Spec := fnSpec f33_ps f33_rs f33_os (fun x => f33_ok x.1) (fun x => f33 x.1) (fun _ => ())
theorem f33_is : SpecOk Tryz.prog 33 f33_spec := nil_cases (rs := f33_rs) (F := f33) (ok := f33_ok) f33a_is f33b_is f33c_is (of_decide_eq_true (by kernel_rfl)) (of_decide_eq_true (by kernel_rfl)) (fun l h hp => ⟨hp, fun _ => by simpa [f33_ok] using h⟩) rfl rfl (fun _ => rfl)

-- slices.Clone[[]imageeditor/api.Stop,imageeditor/api.Stop]
def f46at (p0 : Unit) : Prop × (List D88) :=
 (((!true) = true → ((List.length ([] : List D88) + List.length ([] : List D88) : Nat) : Int) ≤ 4294967296), (bif true then [] else (([] : List D88) ++ ([] : List D88))))
def f46a_ok (p0 : Unit) : Prop := (f46at p0).1
def f46a (p0 : Unit) : (List D88) := (f46at p0).2
instance (p0 : Unit) : Decidable (f46a_ok p0) := by
 unfold f46a_ok f46at
 try dsimp only
 infer_instance
def f46a_spec : Am.Spec := fnSpec [(0, (.nn true))] (.own T88 0 false) [] (fun x => f46a_ok x.1) (fun x => f46a x.1) (fun _ => ())
def f46a_ctx : Ctx := Cx tys [] [] [(7, [(4, 0, 7, 0)])] false 8 [] []
theorem f46a_cok : CtxOk Tryz.prog f46a_ctx := ctxOk_mk tys_ok rfl trivial rfl (by kernel_rfl)
theorem f46a_is : SpecOk Tryz.prog 46 f46a_spec := fgen f46a_cok mixed Tryz.func46 (by kernel_rfl) (bs := []) (by kernel_rfl) trivial fun x => by kernel_rfl

-- slices.Clone[[]imageeditor/api.Stop,imageeditor/api.Stop]
def f46bt (p0 : Unit) : Prop × (List D88) :=
 (((!false) = true → ((List.length ([] : List D88) + List.length ([] : List D88) : Nat) : Int) ≤ 4294967296), (bif false then [] else (([] : List D88) ++ ([] : List D88))))
def f46b_ok (p0 : Unit) : Prop := (f46bt p0).1
def f46b (p0 : Unit) : (List D88) := (f46bt p0).2
instance (p0 : Unit) : Decidable (f46b_ok p0) := by
 unfold f46b_ok f46bt
 try dsimp only
 infer_instance
def f46b_spec : Am.Spec := fnSpec [(0, (.nn false))] (.own T88 0 false) [] (fun x => f46b_ok x.1) (fun x => f46b x.1) (fun _ => ())
def f46b_ctx : Ctx := Cx tys [] [] [(7, [(4, 0, 7, 0)])] false 8 [] []
theorem f46b_cok : CtxOk Tryz.prog f46b_ctx := ctxOk_mk tys_ok rfl trivial rfl (by kernel_rfl)
theorem f46b_is : SpecOk Tryz.prog 46 f46b_spec := fgen f46b_cok mixed Tryz.func46 (by kernel_rfl) (bs := []) (by kernel_rfl) trivial fun x => by kernel_rfl

-- slices.Clone[[]imageeditor/api.Stop,imageeditor/api.Stop]
def f46ct (p0 : (List D88)) : Prop × (List D88) :=
 ((0 < List.length p0 ∧ ((!false) = true → ((List.length ([] : List D88) + List.length p0 : Nat) : Int) ≤ 4294967296)), (bif false then [] else (([] : List D88) ++ p0)))
def f46c_ok (p0 : (List D88)) : Prop := (f46ct p0).1
def f46c (p0 : (List D88)) : (List D88) := (f46ct p0).2
instance (p0 : (List D88)) : Decidable (f46c_ok p0) := by
 unfold f46c_ok f46ct
 try dsimp only
 infer_instance
def f46c_spec : Am.Spec := fnSpec [(0, (.val (.sl T88)))] (.own T88 0 false) [] (fun x => f46c_ok x.1) (fun x => f46c x.1) (fun _ => ())
def f46c_ctx : Ctx := Cx tys [] [] [(7, [(4, 0, 7, 0)])] false 8 [] []
theorem f46c_cok : CtxOk Tryz.prog f46c_ctx := ctxOk_mk tys_ok rfl trivial rfl (by kernel_rfl)
theorem f46c_is : SpecOk Tryz.prog 46 f46c_spec := fgen f46c_cok mixed Tryz.func46 (by kernel_rfl) (bs := []) (by kernel_rfl) trivial fun x => by kernel_rfl

def f46 (p0 : (List D88)) : (List D88) := p0
def f46_ok (p0 : (List D88)) : Prop := (List.length p0 : Int) ≤ 4294967296
instance (p0 : (List D88)) : Decidable (f46_ok p0) := by
  unfold f46_ok
  infer_instance
def f46_ps : List (Nat × Sh) := [(0, (.val (.sl T88)))]
def f46_rs : Sh := (.own T88 0 false)
def f46_os : List (Nat × Sh) := []
def f46_spec : Am.Spec := fnSpec f46_ps f46_rs f46_os (fun x => f46_ok x.1) (fun x => f46 x.1) (fun _ => ())
theorem f46_is : SpecOk Tryz.prog 46 f46_spec := nil_cases (rs := f46_rs) (F := f46) (ok := f46_ok) f46a_is f46b_is f46c_is (of_decide_eq_true (by kernel_rfl)) (of_decide_eq_true (by kernel_rfl)) (fun l h hp => ⟨hp, fun _ => by simpa [f46_ok] using h⟩) rfl rfl (fun _ => rfl)

-- slices.Clone[[]imageeditor/api.Seg,imageeditor/api.Seg]
def f47at (p0 : Unit) : Prop × (List D94) :=
 (((!true) = true → ((List.length ([] : List D94) + List.length ([] : List D94) : Nat) : Int) ≤ 4294967296), (bif true then [] else (([] : List D94) ++ ([] : List D94))))
def f47a_ok (p0 : Unit) : Prop := (f47at p0).1
def f47a (p0 : Unit) : (List D94) := (f47at p0).2
instance (p0 : Unit) : Decidable (f47a_ok p0) := by
 unfold f47a_ok f47at
 try dsimp only
 infer_instance
def f47a_spec : Am.Spec := fnSpec [(0, (.nn true))] (.own T94 0 false) [] (fun x => f47a_ok x.1) (fun x => f47a x.1) (fun _ => ())
def f47a_ctx : Ctx := Cx tys [] [] [(7, [(4, 0, 7, 0)])] false 8 [] []
theorem f47a_cok : CtxOk Tryz.prog f47a_ctx := ctxOk_mk tys_ok rfl trivial rfl (by kernel_rfl)
theorem f47a_is : SpecOk Tryz.prog 47 f47a_spec := fgen f47a_cok mixed Tryz.func47 (by kernel_rfl) (bs := []) (by kernel_rfl) trivial fun x => by kernel_rfl

-- slices.Clone[[]imageeditor/api.Seg,imageeditor/api.Seg]
def f47bt (p0 : Unit) : Prop × (List D94) :=
 (((!false) = true → ((List.length ([] : List D94) + List.length ([] : List D94) : Nat) : Int) ≤ 4294967296), (bif false then [] else (([] : List D94) ++ ([] : List D94))))
def f47b_ok (p0 : Unit) : Prop := (f47bt p0).1
def f47b (p0 : Unit) : (List D94) := (f47bt p0).2
instance (p0 : Unit) : Decidable (f47b_ok p0) := by
 unfold f47b_ok f47bt
 try dsimp only
 infer_instance
def f47b_spec : Am.Spec := fnSpec [(0, (.nn false))] (.own T94 0 false) [] (fun x => f47b_ok x.1) (fun x => f47b x.1) (fun _ => ())
def f47b_ctx : Ctx := Cx tys [] [] [(7, [(4, 0, 7, 0)])] false 8 [] []
theorem f47b_cok : CtxOk Tryz.prog f47b_ctx := ctxOk_mk tys_ok rfl trivial rfl (by kernel_rfl)
theorem f47b_is : SpecOk Tryz.prog 47 f47b_spec := fgen f47b_cok mixed Tryz.func47 (by kernel_rfl) (bs := []) (by kernel_rfl) trivial fun x => by kernel_rfl

-- slices.Clone[[]imageeditor/api.Seg,imageeditor/api.Seg]
def f47ct (p0 : (List D94)) : Prop × (List D94) :=
 ((0 < List.length p0 ∧ ((!false) = true → ((List.length ([] : List D94) + List.length p0 : Nat) : Int) ≤ 4294967296)), (bif false then [] else (([] : List D94) ++ p0)))
def f47c_ok (p0 : (List D94)) : Prop := (f47ct p0).1
def f47c (p0 : (List D94)) : (List D94) := (f47ct p0).2
instance (p0 : (List D94)) : Decidable (f47c_ok p0) := by
 unfold f47c_ok f47ct
 try dsimp only
 infer_instance
def f47c_spec : Am.Spec := fnSpec [(0, (.val (.sl T94)))] (.own T94 0 false) [] (fun x => f47c_ok x.1) (fun x => f47c x.1) (fun _ => ())
def f47c_ctx : Ctx := Cx tys [] [] [(7, [(4, 0, 7, 0)])] false 8 [] []
theorem f47c_cok : CtxOk Tryz.prog f47c_ctx := ctxOk_mk tys_ok rfl trivial rfl (by kernel_rfl)
theorem f47c_is : SpecOk Tryz.prog 47 f47c_spec := fgen f47c_cok mixed Tryz.func47 (by kernel_rfl) (bs := []) (by kernel_rfl) trivial fun x => by kernel_rfl

def f47 (p0 : (List D94)) : (List D94) := p0
def f47_ok (p0 : (List D94)) : Prop := (List.length p0 : Int) ≤ 4294967296
instance (p0 : (List D94)) : Decidable (f47_ok p0) := by
  unfold f47_ok
  infer_instance
def f47_ps : List (Nat × Sh) := [(0, (.val (.sl T94)))]
def f47_rs : Sh := (.own T94 0 false)
def f47_os : List (Nat × Sh) := []
def f47_spec : Am.Spec := fnSpec f47_ps f47_rs f47_os (fun x => f47_ok x.1) (fun x => f47 x.1) (fun _ => ())
theorem f47_is : SpecOk Tryz.prog 47 f47_spec := nil_cases (rs := f47_rs) (F := f47) (ok := f47_ok) f47a_is f47b_is f47c_is (of_decide_eq_true (by kernel_rfl)) (of_decide_eq_true (by kernel_rfl)) (fun l h hp => ⟨hp, fun _ => by simpa [f47_ok] using h⟩) rfl rfl (fun _ => rfl)

-- slices.Clone[[]imageeditor/api.Point,imageeditor/api.Point]
def f48at (p0 : Unit) : Prop × (List D91) :=
 (((!true) = true → ((List.length ([] : List D91) + List.length ([] : List D91) : Nat) : Int) ≤ 4294967296), (bif true then [] else (([] : List D91) ++ ([] : List D91))))
def f48a_ok (p0 : Unit) : Prop := (f48at p0).1
def f48a (p0 : Unit) : (List D91) := (f48at p0).2
instance (p0 : Unit) : Decidable (f48a_ok p0) := by
 unfold f48a_ok f48at
 try dsimp only
 infer_instance
def f48a_spec : Am.Spec := fnSpec [(0, (.nn true))] (.own T91 0 false) [] (fun x => f48a_ok x.1) (fun x => f48a x.1) (fun _ => ())
def f48a_ctx : Ctx := Cx tys [] [] [(7, [(4, 0, 7, 0)])] false 8 [] []
theorem f48a_cok : CtxOk Tryz.prog f48a_ctx := ctxOk_mk tys_ok rfl trivial rfl (by kernel_rfl)
theorem f48a_is : SpecOk Tryz.prog 48 f48a_spec := fgen f48a_cok mixed Tryz.func48 (by kernel_rfl) (bs := []) (by kernel_rfl) trivial fun x => by kernel_rfl

-- slices.Clone[[]imageeditor/api.Point,imageeditor/api.Point]
def f48bt (p0 : Unit) : Prop × (List D91) :=
 (((!false) = true → ((List.length ([] : List D91) + List.length ([] : List D91) : Nat) : Int) ≤ 4294967296), (bif false then [] else (([] : List D91) ++ ([] : List D91))))
def f48b_ok (p0 : Unit) : Prop := (f48bt p0).1
def f48b (p0 : Unit) : (List D91) := (f48bt p0).2
instance (p0 : Unit) : Decidable (f48b_ok p0) := by
 unfold f48b_ok f48bt
 try dsimp only
 infer_instance
def f48b_spec : Am.Spec := fnSpec [(0, (.nn false))] (.own T91 0 false) [] (fun x => f48b_ok x.1) (fun x => f48b x.1) (fun _ => ())
def f48b_ctx : Ctx := Cx tys [] [] [(7, [(4, 0, 7, 0)])] false 8 [] []
theorem f48b_cok : CtxOk Tryz.prog f48b_ctx := ctxOk_mk tys_ok rfl trivial rfl (by kernel_rfl)
theorem f48b_is : SpecOk Tryz.prog 48 f48b_spec := fgen f48b_cok mixed Tryz.func48 (by kernel_rfl) (bs := []) (by kernel_rfl) trivial fun x => by kernel_rfl

-- slices.Clone[[]imageeditor/api.Point,imageeditor/api.Point]
def f48ct (p0 : (List D91)) : Prop × (List D91) :=
 ((0 < List.length p0 ∧ ((!false) = true → ((List.length ([] : List D91) + List.length p0 : Nat) : Int) ≤ 4294967296)), (bif false then [] else (([] : List D91) ++ p0)))
def f48c_ok (p0 : (List D91)) : Prop := (f48ct p0).1
def f48c (p0 : (List D91)) : (List D91) := (f48ct p0).2
instance (p0 : (List D91)) : Decidable (f48c_ok p0) := by
 unfold f48c_ok f48ct
 try dsimp only
 infer_instance
def f48c_spec : Am.Spec := fnSpec [(0, (.val (.sl T91)))] (.own T91 0 false) [] (fun x => f48c_ok x.1) (fun x => f48c x.1) (fun _ => ())
def f48c_ctx : Ctx := Cx tys [] [] [(7, [(4, 0, 7, 0)])] false 8 [] []
theorem f48c_cok : CtxOk Tryz.prog f48c_ctx := ctxOk_mk tys_ok rfl trivial rfl (by kernel_rfl)
theorem f48c_is : SpecOk Tryz.prog 48 f48c_spec := fgen f48c_cok mixed Tryz.func48 (by kernel_rfl) (bs := []) (by kernel_rfl) trivial fun x => by kernel_rfl

def f48 (p0 : (List D91)) : (List D91) := p0
def f48_ok (p0 : (List D91)) : Prop := (List.length p0 : Int) ≤ 4294967296
instance (p0 : (List D91)) : Decidable (f48_ok p0) := by
  unfold f48_ok
  infer_instance
def f48_ps : List (Nat × Sh) := [(0, (.val (.sl T91)))]
def f48_rs : Sh := (.own T91 0 false)
def f48_os : List (Nat × Sh) := []
def f48_spec : Am.Spec := fnSpec f48_ps f48_rs f48_os (fun x => f48_ok x.1) (fun x => f48 x.1) (fun _ => ())
theorem f48_is : SpecOk Tryz.prog 48 f48_spec := nil_cases (rs := f48_rs) (F := f48) (ok := f48_ok) f48a_is f48b_is f48c_is (of_decide_eq_true (by kernel_rfl)) (of_decide_eq_true (by kernel_rfl)) (fun l h hp => ⟨hp, fun _ => by simpa [f48_ok] using h⟩) rfl rfl (fun _ => rfl)

-- imageeditor/node.With
def f30t (p0 : D60) (p1 : D60) : Prop × (D60 × Int × Unit) :=
 let v10 := (p0.2.1 != p1.2.1)
 let s_20 := (p1.2.2.2.2.2.2.2.2.2.2.2.2.2.2.2.2.2.2.2.2.2.2.2.2.2.2.2.1.1, p1.2.2.2.2.2.2.2.2.2.2.2.2.2.2.2.2.2.2.2.2.2.2.2.2.2.2.2.1.2.1, p1.2.2.2.2.2.2.2.2.2.2.2.2.2.2.2.2.2.2.2.2.2.2.2.2.2.2.2.1.2.2.1, (f48 p1.2.2.2.2.2.2.2.2.2.2.2.2.2.2.2.2.2.2.2.2.2.2.2.2.2.2.2.1.2.2.2.1), ())
 let s_21 := (p0.1, p0.2.1, p0.2.2.1, p0.2.2.2.1, p0.2.2.2.2.1, p0.2.2.2.2.2.1, p0.2.2.2.2.2.2.1, p0.2.2.2.2.2.2.2.1, p0.2.2.2.2.2.2.2.2.1, (p0.2.2.2.2.2.2.2.2.2.1.1, p0.2.2.2.2.2.2.2.2.2.1.2.1, (f31 p0.2.2.2.2.2.2.2.2.2.1.2.2.1), ()), p0.2.2.2.2.2.2.2.2.2.2.1, p0.2.2.2.2.2.2.2.2.2.2.2.1, (p1.2.2.2.2.2.2.2.2.2.2.2.2.1.1, p1.2.2.2.2.2.2.2.2.2.2.2.2.1.2.1, (f33 p1.2.2.2.2.2.2.2.2.2.2.2.2.1.2.2.1), ()), p1.2.2.2.2.2.2.2.2.2.2.2.2.2.1, p1.2.2.2.2.2.2.2.2.2.2.2.2.2.2.1, (f31 p1.2.2.2.2.2.2.2.2.2.2.2.2.2.2.2.1), p1.2.2.2.2.2.2.2.2.2.2.2.2.2.2.2.2.1, (f46 p1.2.2.2.2.2.2.2.2.2.2.2.2.2.2.2.2.2.1), (f47 p1.2.2.2.2.2.2.2.2.2.2.2.2.2.2.2.2.2.2.1), p1.2.2.2.2.2.2.2.2.2.2.2.2.2.2.2.2.2.2.2.1, p1.2.2.2.2.2.2.2.2.2.2.2.2.2.2.2.2.2.2.2.2.1, p1.2.2.2.2.2.2.2.2.2.2.2.2.2.2.2.2.2.2.2.2.2.1, p1.2.2.2.2.2.2.2.2.2.2.2.2.2.2.2.2.2.2.2.2.2.2.1, p1.2.2.2.2.2.2.2.2.2.2.2.2.2.2.2.2.2.2.2.2.2.2.2.1, p1.2.2.2.2.2.2.2.2.2.2.2.2.2.2.2.2.2.2.2.2.2.2.2.2.1, p1.2.2.2.2.2.2.2.2.2.2.2.2.2.2.2.2.2.2.2.2.2.2.2.2.2.1, p1.2.2.2.2.2.2.2.2.2.2.2.2.2.2.2.2.2.2.2.2.2.2.2.2.2.2.1, s_20, ())
 let s_25 := ((0 : Int), (0 : Int), (0 : Int), ([] : List UInt8), false, false, false, (0 : Int), (0 : Int), ((0 : Int), (0 : Int), ([] : List Int), ()), Z48, (0 : Int), ((0 : Int), (0 : Int), ([] : List D22), ()), Z22, (0 : Int), ([] : List Int), (0 : Int), ([] : List D88), ([] : List D94), (0 : Int), (0 : Int), (0 : Int), (0 : Int), ([] : List UInt8), (0 : Int), (0 : Int), (0 : Int), ((0 : Int), (0 : Int), (0 : Int), ([] : List D91), ()), ())
 (((!v10) = true → ((f31_ok p0.2.2.2.2.2.2.2.2.2.1.2.2.1) ∧ ((f33_ok p1.2.2.2.2.2.2.2.2.2.2.2.2.1.2.2.1) ∧ ((f31_ok p1.2.2.2.2.2.2.2.2.2.2.2.2.2.2.2.1) ∧ ((f46_ok p1.2.2.2.2.2.2.2.2.2.2.2.2.2.2.2.2.2.1) ∧ ((f47_ok p1.2.2.2.2.2.2.2.2.2.2.2.2.2.2.2.2.2.2.1) ∧ (f48_ok p1.2.2.2.2.2.2.2.2.2.2.2.2.2.2.2.2.2.2.2.2.2.2.2.2.2.2.2.1.2.2.2.1))))))), ((bif v10 then s_25 else s_21), (bif v10 then (8 : Int) else (0 : Int)), ()))
def f30_ok (p0 : D60) (p1 : D60) : Prop := (f30t p0 p1).1
def f30 (p0 : D60) (p1 : D60) : (D60 × Int × Unit) := (f30t p0 p1).2
instance (p0 : D60) (p1 : D60) : Decidable (f30_ok p0 p1) := by
 unfold f30_ok f30t
 try dsimp only
 infer_instance
def f30_spec : Am.Spec := fnSpec [(0, (.val T60)), (1, (.val T60))] (.tup (.cons (.val T60) (.cons vI .nl))) [] (fun x => f30_ok x.1 x.2.1) (fun x => f30 x.1 x.2.1) (fun _ => ())
def f30_ctx : Ctx := Cx tys [(31, f31_spec), (33, f33_spec), (46, f46_spec), (47, f47_spec), (48, f48_spec)] [] [] false 82 [] []
theorem f30_cok : CtxOk Tryz.prog f30_ctx := ctxOk_mk tys_ok rfl ⟨f31_is, f33_is, f46_is, f47_is, f48_is, trivial⟩ rfl (by kernel_rfl)
theorem f30_is : SpecOk Tryz.prog 30 f30_spec := fgen f30_cok mixed Tryz.func30 (by kernel_rfl) (bs := []) (by kernel_rfl) trivial fun x => by kernel_rfl

-- imageeditor/patch.copyNodes
abbrev f12_L3_Y : Type := ((List D60) × Int × Unit)
abbrev f12_L3_X : Type := ((List D60) × Int × Unit)
def f12_L3t (y : f12_L3_Y) (x : f12_L3_X) : Prop × Bool × f12_L3_X :=
 let a9 := y.1 
 let a3 := x.1 
 let a11 := x.2.1 
 let v12 := (decide (a11 < y.2.1))
 let v14 := (nth a9 a11 Z60)
 ((v12 = true → (InB a11 (len a9) ∧ ((f30_ok v14 v14) ∧ (InB a11 (len a3) ∧ (a11 < len a3 ∧ InR (a11 + 1)))))), v12, ((List.set a3 (Int.toNat a11) (f30 v14 v14).1), (a11 + 1), ()))
def f12_L3_ok (y : f12_L3_Y) (x : f12_L3_X) : Prop := (f12_L3t y x).1
def f12_L3_g (y : f12_L3_Y) (x : f12_L3_X) : Bool := (f12_L3t y x).2.1
def f12_L3_next (y : f12_L3_Y) (x : f12_L3_X) : f12_L3_X := (f12_L3t y x).2.2
instance (y : f12_L3_Y) (x : f12_L3_X) : Decidable (f12_L3_ok y x) := by
 unfold f12_L3_ok f12_L3t
 try dsimp only
 infer_instance
def f12_L3_x2_0 (y : f12_L3_Y) (x : f12_L3_X) : (List D60) :=
 x.1
def f12_L3_spec : St → Option Out := loopS [(9, (.val (.sl T60))), (10, vI)] [(3, (.own T60 1003 true)), (11, vI)] f12_L3_g f12_L3_next f12_L3_ok fun y x => [ex 2 none [(3, (.own T60 1003 true))] ((f12_L3_x2_0 y x), ())]
def f12t (p0 : (List D60)) : Prop × (List D60) :=
 let v7 := (len p0)
 let y3 := (p0, (len p0), ())
 let x3 := ((List.replicate (Int.toNat v7) Z60), (0 : Int), ())
 (((0 ≤ v7 ∧ v7 ≤ v7 ∧ v7 ≤ 4294967296) ∧ (Am.Ends (f12_L3_g y3) (f12_L3_next y3) (f12_L3_ok y3) x3)), (f12_L3_x2_0 y3 (loopEnd (f12_L3_g y3) (f12_L3_next y3) x3)))
def f12_ok (p0 : (List D60)) : Prop := (f12t p0).1
def f12 (p0 : (List D60)) : (List D60) := (f12t p0).2
instance (p0 : (List D60)) : Decidable (f12_ok p0) := by
 unfold f12_ok f12t
 try dsimp only
 infer_instance
def f12_spec : Am.Spec := fnSpec [(0, (.val (.sl T60)))] (.val (.sl T60)) [] (fun x => f12_ok x.1) (fun x => f12 x.1) (fun _ => ())
def f12_ctx : Ctx := Cx tys [(30, f30_spec)] [(3, f12_L3_spec)] [(3, [(4, 0, 8, 1003)]), (15, [(1, 2, 0, 0), (4, 0, 1003, 0)])] false 27 [] [8]
theorem f12_cok : CtxOk Tryz.prog f12_ctx := ctxOk_mk tys_ok rfl ⟨f30_is, trivial⟩ rfl (by kernel_rfl)
noncomputable def f12_code : Code := Tryz.f12.body.getD .skip
noncomputable def f12_L3 : Code := nthLoop f12_code 0
theorem f12_L3_is : LoopSnd Tryz.prog f12_ctx f12_L3 := lgen f12_cok mixed (sp := f12_L3_spec) rfl [[(3, (.own T60 1003 true))]] (bs := []) (by kernel_rfl) trivial (by kernel_rfl) (by kernel_rfl) fun y x => by kernel_rfl
theorem f12_is : SpecOk Tryz.prog 12 f12_spec := fgen f12_cok mixed Tryz.func12 (by kernel_rfl) (bs := [f12_L3]) (by kernel_rfl) ⟨f12_L3_is, trivial⟩ fun x => by kernel_rfl

-- imageeditor/patch.copyMask
def f13t (p0 : D26) : Prop × D26 :=
 ((f31_ok p0.2.2.1), (p0.1, p0.2.1, (f31 p0.2.2.1), ()))
def f13_ok (p0 : D26) : Prop := (f13t p0).1
def f13 (p0 : D26) : D26 := (f13t p0).2
instance (p0 : D26) : Decidable (f13_ok p0) := by
 unfold f13_ok f13t
 try dsimp only
 infer_instance
def f13_spec : Am.Spec := fnSpec [(0, (.val T26))] (.val T26) [] (fun x => f13_ok x.1) (fun x => f13 x.1) (fun _ => ())
def f13_ctx : Ctx := Cx tys [(31, f31_spec)] [] [] false 8 [] []
theorem f13_cok : CtxOk Tryz.prog f13_ctx := ctxOk_mk tys_ok rfl ⟨f31_is, trivial⟩ rfl (by kernel_rfl)
theorem f13_is : SpecOk Tryz.prog 13 f13_spec := fgen f13_cok mixed Tryz.func13 (by kernel_rfl) (bs := []) (by kernel_rfl) trivial fun x => by kernel_rfl

-- slices.Clone[[]imageeditor/api.Meta,imageeditor/api.Meta]
def f14at (p0 : Unit) : Prop × (List D40) :=
 (((!true) = true → ((List.length ([] : List D40) + List.length ([] : List D40) : Nat) : Int) ≤ 4294967296), (bif true then [] else (([] : List D40) ++ ([] : List D40))))
def f14a_ok (p0 : Unit) : Prop := (f14at p0).1
def f14a (p0 : Unit) : (List D40) := (f14at p0).2
instance (p0 : Unit) : Decidable (f14a_ok p0) := by
 unfold f14a_ok f14at
 try dsimp only
 infer_instance
def f14a_spec : Am.Spec := fnSpec [(0, (.nn true))] (.own T40 0 false) [] (fun x => f14a_ok x.1) (fun x => f14a x.1) (fun _ => ())
def f14a_ctx : Ctx := Cx tys [] [] [(7, [(4, 0, 7, 0)])] false 8 [] []
theorem f14a_cok : CtxOk Tryz.prog f14a_ctx := ctxOk_mk tys_ok rfl trivial rfl (by kernel_rfl)
theorem f14a_is : SpecOk Tryz.prog 14 f14a_spec := fgen f14a_cok mixed Tryz.func14 (by kernel_rfl) (bs := []) (by kernel_rfl) trivial fun x => by kernel_rfl

-- slices.Clone[[]imageeditor/api.Meta,imageeditor/api.Meta]
def f14bt (p0 : Unit) : Prop × (List D40) :=
 (((!false) = true → ((List.length ([] : List D40) + List.length ([] : List D40) : Nat) : Int) ≤ 4294967296), (bif false then [] else (([] : List D40) ++ ([] : List D40))))
def f14b_ok (p0 : Unit) : Prop := (f14bt p0).1
def f14b (p0 : Unit) : (List D40) := (f14bt p0).2
instance (p0 : Unit) : Decidable (f14b_ok p0) := by
 unfold f14b_ok f14bt
 try dsimp only
 infer_instance
def f14b_spec : Am.Spec := fnSpec [(0, (.nn false))] (.own T40 0 false) [] (fun x => f14b_ok x.1) (fun x => f14b x.1) (fun _ => ())
def f14b_ctx : Ctx := Cx tys [] [] [(7, [(4, 0, 7, 0)])] false 8 [] []
theorem f14b_cok : CtxOk Tryz.prog f14b_ctx := ctxOk_mk tys_ok rfl trivial rfl (by kernel_rfl)
theorem f14b_is : SpecOk Tryz.prog 14 f14b_spec := fgen f14b_cok mixed Tryz.func14 (by kernel_rfl) (bs := []) (by kernel_rfl) trivial fun x => by kernel_rfl

-- slices.Clone[[]imageeditor/api.Meta,imageeditor/api.Meta]
def f14ct (p0 : (List D40)) : Prop × (List D40) :=
 ((0 < List.length p0 ∧ ((!false) = true → ((List.length ([] : List D40) + List.length p0 : Nat) : Int) ≤ 4294967296)), (bif false then [] else (([] : List D40) ++ p0)))
def f14c_ok (p0 : (List D40)) : Prop := (f14ct p0).1
def f14c (p0 : (List D40)) : (List D40) := (f14ct p0).2
instance (p0 : (List D40)) : Decidable (f14c_ok p0) := by
 unfold f14c_ok f14ct
 try dsimp only
 infer_instance
def f14c_spec : Am.Spec := fnSpec [(0, (.val (.sl T40)))] (.own T40 0 false) [] (fun x => f14c_ok x.1) (fun x => f14c x.1) (fun _ => ())
def f14c_ctx : Ctx := Cx tys [] [] [(7, [(4, 0, 7, 0)])] false 8 [] []
theorem f14c_cok : CtxOk Tryz.prog f14c_ctx := ctxOk_mk tys_ok rfl trivial rfl (by kernel_rfl)
theorem f14c_is : SpecOk Tryz.prog 14 f14c_spec := fgen f14c_cok mixed Tryz.func14 (by kernel_rfl) (bs := []) (by kernel_rfl) trivial fun x => by kernel_rfl

def f14 (p0 : (List D40)) : (List D40) := p0
def f14_ok (p0 : (List D40)) : Prop := (List.length p0 : Int) ≤ 4294967296
instance (p0 : (List D40)) : Decidable (f14_ok p0) := by
  unfold f14_ok
  infer_instance
def f14_ps : List (Nat × Sh) := [(0, (.val (.sl T40)))]
def f14_rs : Sh := (.own T40 0 false)
def f14_os : List (Nat × Sh) := []
def f14_spec : Am.Spec := fnSpec f14_ps f14_rs f14_os (fun x => f14_ok x.1) (fun x => f14 x.1) (fun _ => ())
theorem f14_is : SpecOk Tryz.prog 14 f14_spec := nil_cases (rs := f14_rs) (F := f14) (ok := f14_ok) f14a_is f14b_is f14c_is (of_decide_eq_true (by kernel_rfl)) (of_decide_eq_true (by kernel_rfl)) (fun l h hp => ⟨hp, fun _ => by simpa [f14_ok] using h⟩) rfl rfl (fun _ => rfl)

-- slices.Clone[[]imageeditor/api.Link,imageeditor/api.Link]
def f32at (p0 : Unit) : Prop × (List D76) :=
 (((!true) = true → ((List.length ([] : List D76) + List.length ([] : List D76) : Nat) : Int) ≤ 4294967296), (bif true then [] else (([] : List D76) ++ ([] : List D76))))
def f32a_ok (p0 : Unit) : Prop := (f32at p0).1
def f32a (p0 : Unit) : (List D76) := (f32at p0).2
instance (p0 : Unit) : Decidable (f32a_ok p0) := by
 unfold f32a_ok f32at
 try dsimp only
 infer_instance
def f32a_spec : Am.Spec := fnSpec [(0, (.nn true))] (.own T76 0 true) [] (fun x => f32a_ok x.1) (fun x => f32a x.1) (fun _ => ())
def f32a_ctx : Ctx := Cx tys [] [] [(7, [(4, 0, 7, 0)])] false 8 [] [5, 7]
theorem f32a_cok : CtxOk Tryz.prog f32a_ctx := ctxOk_mk tys_ok rfl trivial rfl (by kernel_rfl)
theorem f32a_is : SpecOk Tryz.prog 32 f32a_spec := fgen f32a_cok mixed Tryz.func32 (by kernel_rfl) (bs := []) (by kernel_rfl) trivial fun x => by kernel_rfl

-- slices.Clone[[]imageeditor/api.Link,imageeditor/api.Link]
def f32bt (p0 : Unit) : Prop × (List D76) :=
 (((!false) = true → ((List.length ([] : List D76) + List.length ([] : List D76) : Nat) : Int) ≤ 4294967296), (bif false then [] else (([] : List D76) ++ ([] : List D76))))
def f32b_ok (p0 : Unit) : Prop := (f32bt p0).1
def f32b (p0 : Unit) : (List D76) := (f32bt p0).2
instance (p0 : Unit) : Decidable (f32b_ok p0) := by
 unfold f32b_ok f32bt
 try dsimp only
 infer_instance
def f32b_spec : Am.Spec := fnSpec [(0, (.nn false))] (.own T76 0 true) [] (fun x => f32b_ok x.1) (fun x => f32b x.1) (fun _ => ())
def f32b_ctx : Ctx := Cx tys [] [] [(7, [(4, 0, 7, 0)])] false 8 [] [5, 7]
theorem f32b_cok : CtxOk Tryz.prog f32b_ctx := ctxOk_mk tys_ok rfl trivial rfl (by kernel_rfl)
theorem f32b_is : SpecOk Tryz.prog 32 f32b_spec := fgen f32b_cok mixed Tryz.func32 (by kernel_rfl) (bs := []) (by kernel_rfl) trivial fun x => by kernel_rfl

-- slices.Clone[[]imageeditor/api.Link,imageeditor/api.Link]
def f32ct (p0 : (List D76)) : Prop × (List D76) :=
 ((0 < List.length p0 ∧ ((!false) = true → ((List.length ([] : List D76) + List.length p0 : Nat) : Int) ≤ 4294967296)), (bif false then [] else (([] : List D76) ++ p0)))
def f32c_ok (p0 : (List D76)) : Prop := (f32ct p0).1
def f32c (p0 : (List D76)) : (List D76) := (f32ct p0).2
instance (p0 : (List D76)) : Decidable (f32c_ok p0) := by
 unfold f32c_ok f32ct
 try dsimp only
 infer_instance
def f32c_spec : Am.Spec := fnSpec [(0, (.val (.sl T76)))] (.own T76 0 true) [] (fun x => f32c_ok x.1) (fun x => f32c x.1) (fun _ => ())
def f32c_ctx : Ctx := Cx tys [] [] [(7, [(4, 0, 7, 0)])] false 8 [] [5, 7]
theorem f32c_cok : CtxOk Tryz.prog f32c_ctx := ctxOk_mk tys_ok rfl trivial rfl (by kernel_rfl)
theorem f32c_is : SpecOk Tryz.prog 32 f32c_spec := fgen f32c_cok mixed Tryz.func32 (by kernel_rfl) (bs := []) (by kernel_rfl) trivial fun x => by kernel_rfl

def f32 (p0 : (List D76)) : (List D76) := p0
def f32_ok (p0 : (List D76)) : Prop := (List.length p0 : Int) ≤ 4294967296
instance (p0 : (List D76)) : Decidable (f32_ok p0) := by
  unfold f32_ok
  infer_instance
def f32_ps : List (Nat × Sh) := [(0, (.val (.sl T76)))]
def f32_rs : Sh := (.own T76 0 true)
def f32_os : List (Nat × Sh) := []
def f32_spec : Am.Spec := fnSpec f32_ps f32_rs f32_os (fun x => f32_ok x.1) (fun x => f32 x.1) (fun _ => ())
theorem f32_is : SpecOk Tryz.prog 32 f32_spec := nil_cases (rs := f32_rs) (F := f32) (ok := f32_ok) f32a_is f32b_is f32c_is (of_decide_eq_true (by kernel_rfl)) (of_decide_eq_true (by kernel_rfl)) (fun l h hp => ⟨hp, fun _ => by simpa [f32_ok] using h⟩) rfl rfl (fun _ => rfl)

-- imageeditor/patch.copyLinks
abbrev f15_L3_Y : Type := ((List D76) × Int × Unit)
abbrev f15_L3_X : Type := ((List D76) × Int × Unit)
def f15_L3t (y : f15_L3_Y) (x : f15_L3_X) : Prop × Bool × f15_L3_X :=
 let a0 := y.1 
 let a3 := x.1 
 let a9 := x.2.1 
 let v10 := (decide (a9 < y.2.1))
 let v16 := (nth a0 a9 Z76)
 let l1003 := (List.set a3 (Int.toNat a9) ((nth a3 a9 Z76).1, (nth a3 a9 Z76).2.1, (nth a3 a9 Z76).2.2.1, (nth a3 a9 Z76).2.2.2.1, ((nth a3 a9 Z76).2.2.2.2.1.1, (nth a3 a9 Z76).2.2.2.2.1.2.1, (f33 v16.2.2.2.2.1.2.2.1), ()), ()))
 ((v10 = true → (InB a9 (len a0) ∧ ((f33_ok v16.2.2.2.2.1.2.2.1) ∧ (InB a9 (len a3) ∧ (a9 < len a3 ∧ InR (a9 + 1)))))), v10, (l1003, (a9 + 1), ()))
def f15_L3_ok (y : f15_L3_Y) (x : f15_L3_X) : Prop := (f15_L3t y x).1
def f15_L3_g (y : f15_L3_Y) (x : f15_L3_X) : Bool := (f15_L3t y x).2.1
def f15_L3_next (y : f15_L3_Y) (x : f15_L3_X) : f15_L3_X := (f15_L3t y x).2.2
instance (y : f15_L3_Y) (x : f15_L3_X) : Decidable (f15_L3_ok y x) := by
 unfold f15_L3_ok f15_L3t
 try dsimp only
 infer_instance
def f15_L3_x2_0 (y : f15_L3_Y) (x : f15_L3_X) : (List D76) :=
 x.1
def f15_L3_spec : St → Option Out := loopS [(0, (.val (.sl T76))), (8, vI)] [(3, (.own T76 1003 true)), (9, vI)] f15_L3_g f15_L3_next f15_L3_ok fun y x => [ex 2 none [(3, (.own T76 1003 true))] ((f15_L3_x2_0 y x), ())]
def f15t (p0 : (List D76)) : Prop × (List D76) :=
 let v6 := (f32 p0)
 let y3 := (p0, (len v6), ())
 let x3 := (v6, (0 : Int), ())
 (((f32_ok p0) ∧ (Am.Ends (f15_L3_g y3) (f15_L3_next y3) (f15_L3_ok y3) x3)), (f15_L3_x2_0 y3 (loopEnd (f15_L3_g y3) (f15_L3_next y3) x3)))
def f15_ok (p0 : (List D76)) : Prop := (f15t p0).1
def f15 (p0 : (List D76)) : (List D76) := (f15t p0).2
instance (p0 : (List D76)) : Decidable (f15_ok p0) := by
 unfold f15_ok f15t
 try dsimp only
 infer_instance
def f15_spec : Am.Spec := fnSpec [(0, (.val (.sl T76)))] (.val (.sl T76)) [] (fun x => f15_ok x.1) (fun x => f15 x.1) (fun _ => ())
def f15_ctx : Ctx := Cx tys [(32, f32_spec), (33, f33_spec)] [(3, f15_L3_spec)] [(3, [(4, 0, 6, 1003)]), (15, [(1, 2, 0, 0), (4, 0, 1003, 0)])] false 26 [] []
theorem f15_cok : CtxOk Tryz.prog f15_ctx := ctxOk_mk tys_ok rfl ⟨f32_is, f33_is, trivial⟩ rfl (by kernel_rfl)
noncomputable def f15_code : Code := Tryz.f15.body.getD .skip
noncomputable def f15_L3 : Code := nthLoop f15_code 0
theorem f15_L3_is : LoopSnd Tryz.prog f15_ctx f15_L3 := lgen f15_cok mixed (sp := f15_L3_spec) rfl [[(3, (.own T76 1003 true))]] (bs := []) (by kernel_rfl) trivial (by kernel_rfl) (by kernel_rfl) fun y x => by kernel_rfl
theorem f15_is : SpecOk Tryz.prog 15 f15_spec := fgen f15_cok mixed Tryz.func15 (by kernel_rfl) (bs := [f15_L3]) (by kernel_rfl) ⟨f15_L3_is, trivial⟩ fun x => by kernel_rfl

-- imageeditor/patch.Invert
def f4t (p0 : D30) : Prop × D30 :=
 let s := (p0.2.1, p0.1, p0.2.2.1, (f12 p0.2.2.2.2.1), (f12 p0.2.2.2.1), (f13 p0.2.2.2.2.2.2.1), (f13 p0.2.2.2.2.2.1), (f14 p0.2.2.2.2.2.2.2.2.1), (f14 p0.2.2.2.2.2.2.2.1), (f15 p0.2.2.2.2.2.2.2.2.2.2.1), (f15 p0.2.2.2.2.2.2.2.2.2.1), ())
 (((f12_ok p0.2.2.2.2.1) ∧ ((f12_ok p0.2.2.2.1) ∧ ((f13_ok p0.2.2.2.2.2.2.1) ∧ ((f13_ok p0.2.2.2.2.2.1) ∧ ((f14_ok p0.2.2.2.2.2.2.2.2.1) ∧ ((f14_ok p0.2.2.2.2.2.2.2.1) ∧ ((f15_ok p0.2.2.2.2.2.2.2.2.2.2.1) ∧ (f15_ok p0.2.2.2.2.2.2.2.2.2.1)))))))), s)
def f4_ok (p0 : D30) : Prop := (f4t p0).1
def f4 (p0 : D30) : D30 := (f4t p0).2
instance (p0 : D30) : Decidable (f4_ok p0) := by
 unfold f4_ok f4t
 try dsimp only
 infer_instance
def f4_spec : Am.Spec := fnSpec [(0, (.val T30))] (.val T30) [] (fun x => f4_ok x.1) (fun x => f4 x.1) (fun _ => ())
def f4_ctx : Ctx := Cx tys [(12, f12_spec), (13, f13_spec), (14, f14_spec), (15, f15_spec)] [] [(3, [(4, 0, 23, 400204), (4, 0, 26, 400205)])] false 34 [] []
theorem f4_cok : CtxOk Tryz.prog f4_ctx := ctxOk_mk tys_ok rfl ⟨f12_is, f13_is, f14_is, f15_is, trivial⟩ rfl (by kernel_rfl)
theorem f4_is : SpecOk Tryz.prog 4 f4_spec := fgen f4_cok mixed Tryz.func4 (by kernel_rfl) (bs := []) (by kernel_rfl) trivial fun x => by kernel_rfl

-- imageeditor/imageeditorref31.SameInts
abbrev f64_L4_Y : Type := ((List Int) × (List Int) × Unit)
abbrev f64_L4_X : Type := (Int × Unit)
def f64_L4t (y : f64_L4_Y) (x : f64_L4_X) : Prop × Bool × f64_L4_X × Bool × Bool :=
 let a0 := y.1 
 let a1 := y.2.1 
 let a5 := x.1 
 let v14 := (decide (a5 < (len a0)))
 let v25 := ((nth a0 a5 (0 : Int)) != (nth a1 a5 (0 : Int)))
 ((v14 = true → (InB a5 (len a0) ∧ (InB a5 (len a1) ∧ ((!v25) = true → InR (a5 + 1))))), (v14 && (!v25)), ((a5 + 1), ()), (v14 && v25), (!v14))
def f64_L4_ok (y : f64_L4_Y) (x : f64_L4_X) : Prop := (f64_L4t y x).1
def f64_L4_g (y : f64_L4_Y) (x : f64_L4_X) : Bool := (f64_L4t y x).2.1
def f64_L4_next (y : f64_L4_Y) (x : f64_L4_X) : f64_L4_X := (f64_L4t y x).2.2.1
def f64_L4_e1 (y : f64_L4_Y) (x : f64_L4_X) : Bool := (f64_L4t y x).2.2.2.1
def f64_L4_e2 (y : f64_L4_Y) (x : f64_L4_X) : Bool := (f64_L4t y x).2.2.2.2
instance (y : f64_L4_Y) (x : f64_L4_X) : Decidable (f64_L4_ok y x) := by
 unfold f64_L4_ok f64_L4t
 try dsimp only
 infer_instance
def f64_L4_x1_0 (y : f64_L4_Y) (x : f64_L4_X) : Bool :=
 false
def f64_L4_spec : St → Option Out := loopS [(0, (.val (.sl (.int .i64)))), (1, (.val (.sl (.int .i64))))] [(5, vI)] f64_L4_g f64_L4_next f64_L4_ok fun y x => [ex 1 (some (f64_L4_e1 y x)) [(4, vB)] ((f64_L4_x1_0 y x), ()), ex 2 (some (f64_L4_e2 y x)) [] ()]
def f64t (p0 : (List Int)) (p1 : (List Int)) : Prop × Bool :=
 let v10 := ((len p0) != (len p1))
 let y4 := (p0, p1, ())
 let x4 := ((0 : Int), ())
 let e4 := (loopEnd (f64_L4_g y4) (f64_L4_next y4) x4)
 (((!v10) = true → (Am.Ends (f64_L4_g y4) (f64_L4_next y4) (f64_L4_ok y4) x4)), (bif v10 then false else (bif (f64_L4_e1 y4 e4) then (f64_L4_x1_0 y4 e4) else true)))
def f64_ok (p0 : (List Int)) (p1 : (List Int)) : Prop := (f64t p0 p1).1
def f64 (p0 : (List Int)) (p1 : (List Int)) : Bool := (f64t p0 p1).2
instance (p0 : (List Int)) (p1 : (List Int)) : Decidable (f64_ok p0 p1) := by
 unfold f64_ok f64t
 try dsimp only
 infer_instance
def f64_spec : Am.Spec := fnSpec [(0, (.val (.sl (.int .i64)))), (1, (.val (.sl (.int .i64))))] vB [] (fun x => f64_ok x.1 x.2.1) (fun x => f64 x.1 x.2.1) (fun _ => ())
def f64_ctx : Ctx := Cx tys [] [(4, f64_L4_spec)] [] false 26 [] []
theorem f64_cok : CtxOk Tryz.prog f64_ctx := ctxOk_mk tys_ok rfl trivial rfl (by kernel_rfl)
noncomputable def f64_code : Code := Tryz.f64.body.getD .skip
noncomputable def f64_L4 : Code := nthLoop f64_code 0
theorem f64_L4_is : LoopSnd Tryz.prog f64_ctx f64_L4 := lgen f64_cok mixed (sp := f64_L4_spec) rfl [[(4, vB)], []] (bs := []) (by kernel_rfl) trivial (by kernel_rfl) (by kernel_rfl) fun y x => by kernel_rfl
theorem f64_is : SpecOk Tryz.prog 64 f64_spec := fgen f64_cok mixed Tryz.func64 (by kernel_rfl) (bs := [f64_L4]) (by kernel_rfl) ⟨f64_L4_is, trivial⟩ fun x => by kernel_rfl

-- imageeditor/imageeditorref31.SameMask
def f49t (p0 : D26) (p1 : D26) : Prop × Bool :=
 let v16 := (bif (p0.1 == p1.1) then (p0.2.1 == p1.2.1) else false)
 ((v16 = true → (f64_ok p0.2.2.1 p1.2.2.1)), (bif v16 then (f64 p0.2.2.1 p1.2.2.1) else false))
def f49_ok (p0 : D26) (p1 : D26) : Prop := (f49t p0 p1).1
def f49 (p0 : D26) (p1 : D26) : Bool := (f49t p0 p1).2
instance (p0 : D26) (p1 : D26) : Decidable (f49_ok p0 p1) := by
 unfold f49_ok f49t
 try dsimp only
 infer_instance
def f49_spec : Am.Spec := fnSpec [(0, (.val T26)), (1, (.val T26))] vB [] (fun x => f49_ok x.1 x.2.1) (fun x => f49 x.1 x.2.1) (fun _ => ())
def f49_ctx : Ctx := Cx tys [(64, f64_spec)] [] [] false 24 [] []
theorem f49_cok : CtxOk Tryz.prog f49_ctx := ctxOk_mk tys_ok rfl ⟨f64_is, trivial⟩ rfl (by kernel_rfl)
theorem f49_is : SpecOk Tryz.prog 49 f49_spec := fgen f49_cok mixed Tryz.func49 (by kernel_rfl) (bs := []) (by kernel_rfl) trivial fun x => by kernel_rfl

-- imageeditor/imageeditorref31.SameImage
abbrev f65_L4_Y : Type := (D51 × D51 × Unit)
abbrev f65_L4_X : Type := (Int × Unit)
def f65_L4t (y : f65_L4_Y) (x : f65_L4_X) : Prop × Bool × f65_L4_X × Bool × Bool :=
 let a2 := y.1 
 let a3 := y.2.1 
 let a5 := x.1 
 let v31 := (decide (a5 < (len a2.2.2.1)))
 let v44 := (!(Ty.eqb T22 (nth a2.2.2.1 a5 Z22) (nth a3.2.2.1 a5 Z22)))
 ((v31 = true → (InB a5 (len a2.2.2.1) ∧ (InB a5 (len a3.2.2.1) ∧ ((!v44) = true → InR (a5 + 1))))), (v31 && (!v44)), ((a5 + 1), ()), (v31 && v44), (!v31))
def f65_L4_ok (y : f65_L4_Y) (x : f65_L4_X) : Prop := (f65_L4t y x).1
def f65_L4_g (y : f65_L4_Y) (x : f65_L4_X) : Bool := (f65_L4t y x).2.1
def f65_L4_next (y : f65_L4_Y) (x : f65_L4_X) : f65_L4_X := (f65_L4t y x).2.2.1
def f65_L4_e1 (y : f65_L4_Y) (x : f65_L4_X) : Bool := (f65_L4t y x).2.2.2.1
def f65_L4_e2 (y : f65_L4_Y) (x : f65_L4_X) : Bool := (f65_L4t y x).2.2.2.2
instance (y : f65_L4_Y) (x : f65_L4_X) : Decidable (f65_L4_ok y x) := by
 unfold f65_L4_ok f65_L4t
 try dsimp only
 infer_instance
def f65_L4_x1_0 (y : f65_L4_Y) (x : f65_L4_X) : Bool :=
 false
def f65_L4_spec : St → Option Out := loopS [(2, (.box T51 (.val T51))), (3, (.box T51 (.val T51)))] [(5, vI)] f65_L4_g f65_L4_next f65_L4_ok fun y x => [ex 1 (some (f65_L4_e1 y x)) [(4, vB)] ((f65_L4_x1_0 y x), ()), ex 2 (some (f65_L4_e2 y x)) [] ()]
def f65t (p0 : D51) (p1 : D51) : Prop × Bool :=
 let v26 := (bif (bif (p0.1 != p1.1) then true else (p0.2.1 != p1.2.1)) then true else ((len p0.2.2.1) != (len p1.2.2.1)))
 let y4 := (p0, p1, ())
 let x4 := ((0 : Int), ())
 let e4 := (loopEnd (f65_L4_g y4) (f65_L4_next y4) x4)
 (((!v26) = true → (Am.Ends (f65_L4_g y4) (f65_L4_next y4) (f65_L4_ok y4) x4)), (bif v26 then false else (bif (f65_L4_e1 y4 e4) then (f65_L4_x1_0 y4 e4) else true)))
def f65_ok (p0 : D51) (p1 : D51) : Prop := (f65t p0 p1).1
def f65 (p0 : D51) (p1 : D51) : Bool := (f65t p0 p1).2
instance (p0 : D51) (p1 : D51) : Decidable (f65_ok p0 p1) := by
 unfold f65_ok f65t
 try dsimp only
 infer_instance
def f65_spec : Am.Spec := fnSpec [(0, (.val T51)), (1, (.val T51))] vB [] (fun x => f65_ok x.1 x.2.1) (fun x => f65 x.1 x.2.1) (fun _ => ())
def f65_ctx : Ctx := Cx tys [] [(4, f65_L4_spec)] [] false 45 [] []
theorem f65_cok : CtxOk Tryz.prog f65_ctx := ctxOk_mk tys_ok rfl trivial rfl (by kernel_rfl)
noncomputable def f65_code : Code := Tryz.f65.body.getD .skip
noncomputable def f65_L4 : Code := nthLoop f65_code 0
theorem f65_L4_is : LoopSnd Tryz.prog f65_ctx f65_L4 := lgen f65_cok mixed (sp := f65_L4_spec) rfl [[(4, vB)], []] (bs := []) (by kernel_rfl) trivial (by kernel_rfl) (by kernel_rfl) fun y x => by kernel_rfl
theorem f65_is : SpecOk Tryz.prog 65 f65_spec := fgen f65_cok mixed Tryz.func65 (by kernel_rfl) (bs := [f65_L4]) (by kernel_rfl) ⟨f65_L4_is, trivial⟩ fun x => by kernel_rfl

-- imageeditor/imageeditorref31.sameStops
abbrev f66_L4_Y : Type := ((List D88) × (List D88) × Unit)
abbrev f66_L4_X : Type := (Int × Unit)
def f66_L4t (y : f66_L4_Y) (x : f66_L4_X) : Prop × Bool × f66_L4_X × Bool × Bool :=
 let a0 := y.1 
 let a1 := y.2.1 
 let a5 := x.1 
 let v14 := (decide (a5 < (len a0)))
 let v25 := (!(Ty.eqb T88 (nth a0 a5 Z88) (nth a1 a5 Z88)))
 ((v14 = true → (InB a5 (len a0) ∧ (InB a5 (len a1) ∧ ((!v25) = true → InR (a5 + 1))))), (v14 && (!v25)), ((a5 + 1), ()), (v14 && v25), (!v14))
def f66_L4_ok (y : f66_L4_Y) (x : f66_L4_X) : Prop := (f66_L4t y x).1
def f66_L4_g (y : f66_L4_Y) (x : f66_L4_X) : Bool := (f66_L4t y x).2.1
def f66_L4_next (y : f66_L4_Y) (x : f66_L4_X) : f66_L4_X := (f66_L4t y x).2.2.1
def f66_L4_e1 (y : f66_L4_Y) (x : f66_L4_X) : Bool := (f66_L4t y x).2.2.2.1
def f66_L4_e2 (y : f66_L4_Y) (x : f66_L4_X) : Bool := (f66_L4t y x).2.2.2.2
instance (y : f66_L4_Y) (x : f66_L4_X) : Decidable (f66_L4_ok y x) := by
 unfold f66_L4_ok f66_L4t
 try dsimp only
 infer_instance
def f66_L4_x1_0 (y : f66_L4_Y) (x : f66_L4_X) : Bool :=
 false
def f66_L4_spec : St → Option Out := loopS [(0, (.val (.sl T88))), (1, (.val (.sl T88)))] [(5, vI)] f66_L4_g f66_L4_next f66_L4_ok fun y x => [ex 1 (some (f66_L4_e1 y x)) [(4, vB)] ((f66_L4_x1_0 y x), ()), ex 2 (some (f66_L4_e2 y x)) [] ()]
def f66t (p0 : (List D88)) (p1 : (List D88)) : Prop × Bool :=
 let v10 := ((len p0) != (len p1))
 let y4 := (p0, p1, ())
 let x4 := ((0 : Int), ())
 let e4 := (loopEnd (f66_L4_g y4) (f66_L4_next y4) x4)
 (((!v10) = true → (Am.Ends (f66_L4_g y4) (f66_L4_next y4) (f66_L4_ok y4) x4)), (bif v10 then false else (bif (f66_L4_e1 y4 e4) then (f66_L4_x1_0 y4 e4) else true)))
def f66_ok (p0 : (List D88)) (p1 : (List D88)) : Prop := (f66t p0 p1).1
def f66 (p0 : (List D88)) (p1 : (List D88)) : Bool := (f66t p0 p1).2
instance (p0 : (List D88)) (p1 : (List D88)) : Decidable (f66_ok p0 p1) := by
 unfold f66_ok f66t
 try dsimp only
 infer_instance
def f66_spec : Am.Spec := fnSpec [(0, (.val (.sl T88))), (1, (.val (.sl T88)))] vB [] (fun x => f66_ok x.1 x.2.1) (fun x => f66 x.1 x.2.1) (fun _ => ())
def f66_ctx : Ctx := Cx tys [] [(4, f66_L4_spec)] [] false 26 [] []
theorem f66_cok : CtxOk Tryz.prog f66_ctx := ctxOk_mk tys_ok rfl trivial rfl (by kernel_rfl)
noncomputable def f66_code : Code := Tryz.f66.body.getD .skip
noncomputable def f66_L4 : Code := nthLoop f66_code 0
theorem f66_L4_is : LoopSnd Tryz.prog f66_ctx f66_L4 := lgen f66_cok mixed (sp := f66_L4_spec) rfl [[(4, vB)], []] (bs := []) (by kernel_rfl) trivial (by kernel_rfl) (by kernel_rfl) fun y x => by kernel_rfl
theorem f66_is : SpecOk Tryz.prog 66 f66_spec := fgen f66_cok mixed Tryz.func66 (by kernel_rfl) (bs := [f66_L4]) (by kernel_rfl) ⟨f66_L4_is, trivial⟩ fun x => by kernel_rfl

-- imageeditor/imageeditorref31.sameSegs
abbrev f67_L4_Y : Type := ((List D94) × (List D94) × Unit)
abbrev f67_L4_X : Type := (Int × Unit)
def f67_L4t (y : f67_L4_Y) (x : f67_L4_X) : Prop × Bool × f67_L4_X × Bool × Bool :=
 let a0 := y.1 
 let a1 := y.2.1 
 let a5 := x.1 
 let v14 := (decide (a5 < (len a0)))
 let v25 := (!(Ty.eqb T94 (nth a0 a5 Z94) (nth a1 a5 Z94)))
 ((v14 = true → (InB a5 (len a0) ∧ (InB a5 (len a1) ∧ ((!v25) = true → InR (a5 + 1))))), (v14 && (!v25)), ((a5 + 1), ()), (v14 && v25), (!v14))
def f67_L4_ok (y : f67_L4_Y) (x : f67_L4_X) : Prop := (f67_L4t y x).1
def f67_L4_g (y : f67_L4_Y) (x : f67_L4_X) : Bool := (f67_L4t y x).2.1
def f67_L4_next (y : f67_L4_Y) (x : f67_L4_X) : f67_L4_X := (f67_L4t y x).2.2.1
def f67_L4_e1 (y : f67_L4_Y) (x : f67_L4_X) : Bool := (f67_L4t y x).2.2.2.1
def f67_L4_e2 (y : f67_L4_Y) (x : f67_L4_X) : Bool := (f67_L4t y x).2.2.2.2
instance (y : f67_L4_Y) (x : f67_L4_X) : Decidable (f67_L4_ok y x) := by
 unfold f67_L4_ok f67_L4t
 try dsimp only
 infer_instance
def f67_L4_x1_0 (y : f67_L4_Y) (x : f67_L4_X) : Bool :=
 false
def f67_L4_spec : St → Option Out := loopS [(0, (.val (.sl T94))), (1, (.val (.sl T94)))] [(5, vI)] f67_L4_g f67_L4_next f67_L4_ok fun y x => [ex 1 (some (f67_L4_e1 y x)) [(4, vB)] ((f67_L4_x1_0 y x), ()), ex 2 (some (f67_L4_e2 y x)) [] ()]
def f67t (p0 : (List D94)) (p1 : (List D94)) : Prop × Bool :=
 let v10 := ((len p0) != (len p1))
 let y4 := (p0, p1, ())
 let x4 := ((0 : Int), ())
 let e4 := (loopEnd (f67_L4_g y4) (f67_L4_next y4) x4)
 (((!v10) = true → (Am.Ends (f67_L4_g y4) (f67_L4_next y4) (f67_L4_ok y4) x4)), (bif v10 then false else (bif (f67_L4_e1 y4 e4) then (f67_L4_x1_0 y4 e4) else true)))
def f67_ok (p0 : (List D94)) (p1 : (List D94)) : Prop := (f67t p0 p1).1
def f67 (p0 : (List D94)) (p1 : (List D94)) : Bool := (f67t p0 p1).2
instance (p0 : (List D94)) (p1 : (List D94)) : Decidable (f67_ok p0 p1) := by
 unfold f67_ok f67t
 try dsimp only
 infer_instance
def f67_spec : Am.Spec := fnSpec [(0, (.val (.sl T94))), (1, (.val (.sl T94)))] vB [] (fun x => f67_ok x.1 x.2.1) (fun x => f67 x.1 x.2.1) (fun _ => ())
def f67_ctx : Ctx := Cx tys [] [(4, f67_L4_spec)] [] false 26 [] []
theorem f67_cok : CtxOk Tryz.prog f67_ctx := ctxOk_mk tys_ok rfl trivial rfl (by kernel_rfl)
noncomputable def f67_code : Code := Tryz.f67.body.getD .skip
noncomputable def f67_L4 : Code := nthLoop f67_code 0
theorem f67_L4_is : LoopSnd Tryz.prog f67_ctx f67_L4 := lgen f67_cok mixed (sp := f67_L4_spec) rfl [[(4, vB)], []] (bs := []) (by kernel_rfl) trivial (by kernel_rfl) (by kernel_rfl) fun y x => by kernel_rfl
theorem f67_is : SpecOk Tryz.prog 67 f67_spec := fgen f67_cok mixed Tryz.func67 (by kernel_rfl) (bs := [f67_L4]) (by kernel_rfl) ⟨f67_L4_is, trivial⟩ fun x => by kernel_rfl

-- imageeditor/imageeditorref31.sameWarp
abbrev f68_L4_Y : Type := (D58 × D58 × Unit)
abbrev f68_L4_X : Type := (Int × Unit)
def f68_L4t (y : f68_L4_Y) (x : f68_L4_X) : Prop × Bool × f68_L4_X × Bool × Bool :=
 let a2 := y.1 
 let a3 := y.2.1 
 let a5 := x.1 
 let v38 := (decide (a5 < (len a2.2.2.2.1)))
 let v51 := (!(Ty.eqb T91 (nth a2.2.2.2.1 a5 Z91) (nth a3.2.2.2.1 a5 Z91)))
 ((v38 = true → (InB a5 (len a2.2.2.2.1) ∧ (InB a5 (len a3.2.2.2.1) ∧ ((!v51) = true → InR (a5 + 1))))), (v38 && (!v51)), ((a5 + 1), ()), (v38 && v51), (!v38))
def f68_L4_ok (y : f68_L4_Y) (x : f68_L4_X) : Prop := (f68_L4t y x).1
def f68_L4_g (y : f68_L4_Y) (x : f68_L4_X) : Bool := (f68_L4t y x).2.1
def f68_L4_next (y : f68_L4_Y) (x : f68_L4_X) : f68_L4_X := (f68_L4t y x).2.2.1
def f68_L4_e1 (y : f68_L4_Y) (x : f68_L4_X) : Bool := (f68_L4t y x).2.2.2.1
def f68_L4_e2 (y : f68_L4_Y) (x : f68_L4_X) : Bool := (f68_L4t y x).2.2.2.2
instance (y : f68_L4_Y) (x : f68_L4_X) : Decidable (f68_L4_ok y x) := by
 unfold f68_L4_ok f68_L4t
 try dsimp only
 infer_instance
def f68_L4_x1_0 (y : f68_L4_Y) (x : f68_L4_X) : Bool :=
 false
def f68_L4_spec : St → Option Out := loopS [(2, (.box T58 (.val T58))), (3, (.box T58 (.val T58)))] [(5, vI)] f68_L4_g f68_L4_next f68_L4_ok fun y x => [ex 1 (some (f68_L4_e1 y x)) [(4, vB)] ((f68_L4_x1_0 y x), ()), ex 2 (some (f68_L4_e2 y x)) [] ()]
def f68t (p0 : D58) (p1 : D58) : Prop × Bool :=
 let v33 := (bif (bif (bif (p0.1 != p1.1) then true else (p0.2.1 != p1.2.1)) then true else (p0.2.2.1 != p1.2.2.1)) then true else ((len p0.2.2.2.1) != (len p1.2.2.2.1)))
 let y4 := (p0, p1, ())
 let x4 := ((0 : Int), ())
 let e4 := (loopEnd (f68_L4_g y4) (f68_L4_next y4) x4)
 (((!v33) = true → (Am.Ends (f68_L4_g y4) (f68_L4_next y4) (f68_L4_ok y4) x4)), (bif v33 then false else (bif (f68_L4_e1 y4 e4) then (f68_L4_x1_0 y4 e4) else true)))
def f68_ok (p0 : D58) (p1 : D58) : Prop := (f68t p0 p1).1
def f68 (p0 : D58) (p1 : D58) : Bool := (f68t p0 p1).2
instance (p0 : D58) (p1 : D58) : Decidable (f68_ok p0 p1) := by
 unfold f68_ok f68t
 try dsimp only
 infer_instance
def f68_spec : Am.Spec := fnSpec [(0, (.val T58)), (1, (.val T58))] vB [] (fun x => f68_ok x.1 x.2.1) (fun x => f68 x.1 x.2.1) (fun _ => ())
def f68_ctx : Ctx := Cx tys [] [(4, f68_L4_spec)] [] false 52 [] []
theorem f68_cok : CtxOk Tryz.prog f68_ctx := ctxOk_mk tys_ok rfl trivial rfl (by kernel_rfl)
noncomputable def f68_code : Code := Tryz.f68.body.getD .skip
noncomputable def f68_L4 : Code := nthLoop f68_code 0
theorem f68_L4_is : LoopSnd Tryz.prog f68_ctx f68_L4 := lgen f68_cok mixed (sp := f68_L4_spec) rfl [[(4, vB)], []] (bs := []) (by kernel_rfl) trivial (by kernel_rfl) (by kernel_rfl) fun y x => by kernel_rfl
theorem f68_is : SpecOk Tryz.prog 68 f68_spec := fgen f68_cok mixed Tryz.func68 (by kernel_rfl) (bs := [f68_L4]) (by kernel_rfl) ⟨f68_L4_is, trivial⟩ fun x => by kernel_rfl

-- imageeditor/imageeditorref31.SameContent
def f50t (p0 : D60) (p1 : D60) : Prop × Bool :=
 let v23 := (bif (bif (f65 p0.2.2.2.2.2.2.2.2.2.2.2.2.1 p1.2.2.2.2.2.2.2.2.2.2.2.2.1) then (Ty.eqb T22 p0.2.2.2.2.2.2.2.2.2.2.2.2.2.1 p1.2.2.2.2.2.2.2.2.2.2.2.2.2.1) else false) then (p0.2.2.2.2.2.2.2.2.2.2.2.2.2.2.1 == p1.2.2.2.2.2.2.2.2.2.2.2.2.2.2.1) else false)
 let v37 := (bif (bif v23 then (f64 p0.2.2.2.2.2.2.2.2.2.2.2.2.2.2.2.1 p1.2.2.2.2.2.2.2.2.2.2.2.2.2.2.2.1) else false) then (p0.2.2.2.2.2.2.2.2.2.2.2.2.2.2.2.2.1 == p1.2.2.2.2.2.2.2.2.2.2.2.2.2.2.2.2.1) else false)
 let v44 := (bif v37 then (f66 p0.2.2.2.2.2.2.2.2.2.2.2.2.2.2.2.2.2.1 p1.2.2.2.2.2.2.2.2.2.2.2.2.2.2.2.2.2.1) else false)
 let v58 := (bif (bif v44 then (f67 p0.2.2.2.2.2.2.2.2.2.2.2.2.2.2.2.2.2.2.1 p1.2.2.2.2.2.2.2.2.2.2.2.2.2.2.2.2.2.2.1) else false) then (p0.2.2.2.2.2.2.2.2.2.2.2.2.2.2.2.2.2.2.2.1 == p1.2.2.2.2.2.2.2.2.2.2.2.2.2.2.2.2.2.2.2.1) else false)
 let v72 := (bif (bif v58 then (p0.2.2.2.2.2.2.2.2.2.2.2.2.2.2.2.2.2.2.2.2.1 == p1.2.2.2.2.2.2.2.2.2.2.2.2.2.2.2.2.2.2.2.2.1) else false) then (p0.2.2.2.2.2.2.2.2.2.2.2.2.2.2.2.2.2.2.2.2.2.1 == p1.2.2.2.2.2.2.2.2.2.2.2.2.2.2.2.2.2.2.2.2.2.1) else false)
 let v86 := (bif (bif v72 then (p0.2.2.2.2.2.2.2.2.2.2.2.2.2.2.2.2.2.2.2.2.2.2.1 == p1.2.2.2.2.2.2.2.2.2.2.2.2.2.2.2.2.2.2.2.2.2.2.1) else false) then (p0.2.2.2.2.2.2.2.2.2.2.2.2.2.2.2.2.2.2.2.2.2.2.2.1 == p1.2.2.2.2.2.2.2.2.2.2.2.2.2.2.2.2.2.2.2.2.2.2.2.1) else false)
 let v100 := (bif (bif v86 then (p0.2.2.2.2.2.2.2.2.2.2.2.2.2.2.2.2.2.2.2.2.2.2.2.2.1 == p1.2.2.2.2.2.2.2.2.2.2.2.2.2.2.2.2.2.2.2.2.2.2.2.2.1) else false) then (p0.2.2.2.2.2.2.2.2.2.2.2.2.2.2.2.2.2.2.2.2.2.2.2.2.2.1 == p1.2.2.2.2.2.2.2.2.2.2.2.2.2.2.2.2.2.2.2.2.2.2.2.2.2.1) else false)
 let v107 := (bif v100 then (p0.2.2.2.2.2.2.2.2.2.2.2.2.2.2.2.2.2.2.2.2.2.2.2.2.2.2.1 == p1.2.2.2.2.2.2.2.2.2.2.2.2.2.2.2.2.2.2.2.2.2.2.2.2.2.2.1) else false)
 (((f65_ok p0.2.2.2.2.2.2.2.2.2.2.2.2.1 p1.2.2.2.2.2.2.2.2.2.2.2.2.1) ∧ ((v23 = true → (f64_ok p0.2.2.2.2.2.2.2.2.2.2.2.2.2.2.2.1 p1.2.2.2.2.2.2.2.2.2.2.2.2.2.2.2.1)) ∧ ((v37 = true → (f66_ok p0.2.2.2.2.2.2.2.2.2.2.2.2.2.2.2.2.2.1 p1.2.2.2.2.2.2.2.2.2.2.2.2.2.2.2.2.2.1)) ∧ ((v44 = true → (f67_ok p0.2.2.2.2.2.2.2.2.2.2.2.2.2.2.2.2.2.2.1 p1.2.2.2.2.2.2.2.2.2.2.2.2.2.2.2.2.2.2.1)) ∧ (v107 = true → (f68_ok p0.2.2.2.2.2.2.2.2.2.2.2.2.2.2.2.2.2.2.2.2.2.2.2.2.2.2.2.1 p1.2.2.2.2.2.2.2.2.2.2.2.2.2.2.2.2.2.2.2.2.2.2.2.2.2.2.2.1)))))), (bif v107 then (f68 p0.2.2.2.2.2.2.2.2.2.2.2.2.2.2.2.2.2.2.2.2.2.2.2.2.2.2.2.1 p1.2.2.2.2.2.2.2.2.2.2.2.2.2.2.2.2.2.2.2.2.2.2.2.2.2.2.2.1) else false))
def f50_ok (p0 : D60) (p1 : D60) : Prop := (f50t p0 p1).1
def f50 (p0 : D60) (p1 : D60) : Bool := (f50t p0 p1).2
instance (p0 : D60) (p1 : D60) : Decidable (f50_ok p0 p1) := by
 unfold f50_ok f50t
 try dsimp only
 infer_instance
def f50_spec : Am.Spec := fnSpec [(0, (.val T60)), (1, (.val T60))] vB [] (fun x => f50_ok x.1 x.2.1) (fun x => f50 x.1 x.2.1) (fun _ => ())
def f50_ctx : Ctx := Cx tys [(64, f64_spec), (65, f65_spec), (66, f66_spec), (67, f67_spec), (68, f68_spec)] [] [] false 115 [] []
theorem f50_cok : CtxOk Tryz.prog f50_ctx := ctxOk_mk tys_ok rfl ⟨f64_is, f65_is, f66_is, f67_is, f68_is, trivial⟩ rfl (by kernel_rfl)
theorem f50_is : SpecOk Tryz.prog 50 f50_spec := fgen f50_cok mixed Tryz.func50 (by kernel_rfl) (bs := []) (by kernel_rfl) trivial fun x => by kernel_rfl

-- imageeditor/imageeditorref31.Same
def f34t (p0 : D60) (p1 : D60) : Prop × Bool :=
 let v37 := (bif (bif (bif (bif (p0.1 == p1.1) then (p0.2.1 == p1.2.1) else false) then (p0.2.2.1 == p1.2.2.1) else false) then (p0.2.2.2.1 == p1.2.2.2.1) else false) then (Ty.eqb .bool p0.2.2.2.2.1 p1.2.2.2.2.1) else false)
 let v58 := (bif (bif (bif v37 then (Ty.eqb .bool p0.2.2.2.2.2.1 p1.2.2.2.2.2.1) else false) then (Ty.eqb .bool p0.2.2.2.2.2.2.1 p1.2.2.2.2.2.2.1) else false) then (p0.2.2.2.2.2.2.2.1 == p1.2.2.2.2.2.2.2.1) else false)
 let v65 := (bif v58 then (p0.2.2.2.2.2.2.2.2.1 == p1.2.2.2.2.2.2.2.2.1) else false)
 let v86 := (bif (bif (bif v65 then (f49 p0.2.2.2.2.2.2.2.2.2.1 p1.2.2.2.2.2.2.2.2.2.1) else false) then (Ty.eqb T48 p0.2.2.2.2.2.2.2.2.2.2.1 p1.2.2.2.2.2.2.2.2.2.2.1) else false) then (p0.2.2.2.2.2.2.2.2.2.2.2.1 == p1.2.2.2.2.2.2.2.2.2.2.2.1) else false)
 (((v65 = true → (f49_ok p0.2.2.2.2.2.2.2.2.2.1 p1.2.2.2.2.2.2.2.2.2.1)) ∧ (v86 = true → (f50_ok p0 p1))), (bif v86 then (f50 p0 p1) else false))
def f34_ok (p0 : D60) (p1 : D60) : Prop := (f34t p0 p1).1
def f34 (p0 : D60) (p1 : D60) : Bool := (f34t p0 p1).2
instance (p0 : D60) (p1 : D60) : Decidable (f34_ok p0 p1) := by
 unfold f34_ok f34t
 try dsimp only
 infer_instance
def f34_spec : Am.Spec := fnSpec [(0, (.val T60)), (1, (.val T60))] vB [] (fun x => f34_ok x.1 x.2.1) (fun x => f34 x.1 x.2.1) (fun _ => ())
def f34_ctx : Ctx := Cx tys [(49, f49_spec), (50, f50_spec)] [] [] false 92 [] []
theorem f34_cok : CtxOk Tryz.prog f34_ctx := ctxOk_mk tys_ok rfl ⟨f49_is, f50_is, trivial⟩ rfl (by kernel_rfl)
theorem f34_is : SpecOk Tryz.prog 34 f34_spec := fgen f34_cok mixed Tryz.func34 (by kernel_rfl) (bs := []) (by kernel_rfl) trivial fun x => by kernel_rfl

-- imageeditor/imageeditorref42.Nodes
abbrev f16_L4_Y : Type := ((List D60) × (List D60) × Int × Unit)
abbrev f16_L4_X : Type := (Int × Unit)
def f16_L4t (y : f16_L4_Y) (x : f16_L4_X) : Prop × Bool × f16_L4_X × Bool × Bool :=
 let a0 := y.1 
 let a1 := y.2.1 
 let a13 := x.1 
 let v14 := (decide (a13 < y.2.2.1))
 let v18 := (nth a0 a13 Z60)
 let v22 := (nth a1 a13 Z60)
 let v25 := (!(f34 v18 v22))
 ((v14 = true → (InB a13 (len a0) ∧ (InB a13 (len a1) ∧ ((f34_ok v18 v22) ∧ ((!v25) = true → InR (a13 + 1)))))), (v14 && (!v25)), ((a13 + 1), ()), (v14 && v25), (!v14))
def f16_L4_ok (y : f16_L4_Y) (x : f16_L4_X) : Prop := (f16_L4t y x).1
def f16_L4_g (y : f16_L4_Y) (x : f16_L4_X) : Bool := (f16_L4t y x).2.1
def f16_L4_next (y : f16_L4_Y) (x : f16_L4_X) : f16_L4_X := (f16_L4t y x).2.2.1
def f16_L4_e1 (y : f16_L4_Y) (x : f16_L4_X) : Bool := (f16_L4t y x).2.2.2.1
def f16_L4_e2 (y : f16_L4_Y) (x : f16_L4_X) : Bool := (f16_L4t y x).2.2.2.2
instance (y : f16_L4_Y) (x : f16_L4_X) : Decidable (f16_L4_ok y x) := by
 unfold f16_L4_ok f16_L4t
 try dsimp only
 infer_instance
def f16_L4_x1_0 (y : f16_L4_Y) (x : f16_L4_X) : Bool :=
 false
def f16_L4_spec : St → Option Out := loopS [(0, (.val (.sl T60))), (1, (.val (.sl T60))), (12, vI)] [(13, vI)] f16_L4_g f16_L4_next f16_L4_ok fun y x => [ex 1 (some (f16_L4_e1 y x)) [(4, vB)] ((f16_L4_x1_0 y x), ()), ex 2 (some (f16_L4_e2 y x)) [] ()]
def f16t (p0 : (List D60)) (p1 : (List D60)) : Prop × Bool :=
 let v10 := ((len p0) != (len p1))
 let y4 := (p0, p1, (len p0), ())
 let x4 := ((0 : Int), ())
 let e4 := (loopEnd (f16_L4_g y4) (f16_L4_next y4) x4)
 (((!v10) = true → (Am.Ends (f16_L4_g y4) (f16_L4_next y4) (f16_L4_ok y4) x4)), (bif v10 then false else (bif (f16_L4_e1 y4 e4) then (f16_L4_x1_0 y4 e4) else true)))
def f16_ok (p0 : (List D60)) (p1 : (List D60)) : Prop := (f16t p0 p1).1
def f16 (p0 : (List D60)) (p1 : (List D60)) : Bool := (f16t p0 p1).2
instance (p0 : (List D60)) (p1 : (List D60)) : Decidable (f16_ok p0 p1) := by
 unfold f16_ok f16t
 try dsimp only
 infer_instance
def f16_spec : Am.Spec := fnSpec [(0, (.val (.sl T60))), (1, (.val (.sl T60)))] vB [] (fun x => f16_ok x.1 x.2.1) (fun x => f16 x.1 x.2.1) (fun _ => ())
def f16_ctx : Ctx := Cx tys [(34, f34_spec)] [(4, f16_L4_spec)] [] false 27 [] []
theorem f16_cok : CtxOk Tryz.prog f16_ctx := ctxOk_mk tys_ok rfl ⟨f34_is, trivial⟩ rfl (by kernel_rfl)
noncomputable def f16_code : Code := Tryz.f16.body.getD .skip
noncomputable def f16_L4 : Code := nthLoop f16_code 0
theorem f16_L4_is : LoopSnd Tryz.prog f16_ctx f16_L4 := lgen f16_cok mixed (sp := f16_L4_spec) rfl [[(4, vB)], []] (bs := []) (by kernel_rfl) trivial (by kernel_rfl) (by kernel_rfl) fun y x => by kernel_rfl
theorem f16_is : SpecOk Tryz.prog 16 f16_spec := fgen f16_cok mixed Tryz.func16 (by kernel_rfl) (bs := [f16_L4]) (by kernel_rfl) ⟨f16_L4_is, trivial⟩ fun x => by kernel_rfl

-- imageeditor/imageeditorref42.Mask
abbrev f17_L4_Y : Type := (D26 × D26 × Int × Unit)
abbrev f17_L4_X : Type := (Int × Unit)
def f17_L4t (y : f17_L4_Y) (x : f17_L4_X) : Prop × Bool × f17_L4_X × Bool × Bool :=
 let a2 := y.1 
 let a3 := y.2.1 
 let a30 := x.1 
 let v31 := (decide (a30 < y.2.2.1))
 let v43 := ((nth a2.2.2.1 a30 (0 : Int)) != (nth a3.2.2.1 a30 (0 : Int)))
 ((v31 = true → (InB a30 (len a2.2.2.1) ∧ (InB a30 (len a3.2.2.1) ∧ ((!v43) = true → InR (a30 + 1))))), (v31 && (!v43)), ((a30 + 1), ()), (v31 && v43), (!v31))
def f17_L4_ok (y : f17_L4_Y) (x : f17_L4_X) : Prop := (f17_L4t y x).1
def f17_L4_g (y : f17_L4_Y) (x : f17_L4_X) : Bool := (f17_L4t y x).2.1
def f17_L4_next (y : f17_L4_Y) (x : f17_L4_X) : f17_L4_X := (f17_L4t y x).2.2.1
def f17_L4_e1 (y : f17_L4_Y) (x : f17_L4_X) : Bool := (f17_L4t y x).2.2.2.1
def f17_L4_e2 (y : f17_L4_Y) (x : f17_L4_X) : Bool := (f17_L4t y x).2.2.2.2
instance (y : f17_L4_Y) (x : f17_L4_X) : Decidable (f17_L4_ok y x) := by
 unfold f17_L4_ok f17_L4t
 try dsimp only
 infer_instance
def f17_L4_x1_0 (y : f17_L4_Y) (x : f17_L4_X) : Bool :=
 false
def f17_L4_spec : St → Option Out := loopS [(2, (.box T26 (.val T26))), (3, (.box T26 (.val T26))), (29, vI)] [(30, vI)] f17_L4_g f17_L4_next f17_L4_ok fun y x => [ex 1 (some (f17_L4_e1 y x)) [(4, vB)] ((f17_L4_x1_0 y x), ()), ex 2 (some (f17_L4_e2 y x)) [] ()]
def f17t (p0 : D26) (p1 : D26) : Prop × Bool :=
 let v26 := (bif (bif (p0.1 != p1.1) then true else (p0.2.1 != p1.2.1)) then true else ((len p0.2.2.1) != (len p1.2.2.1)))
 let y4 := (p0, p1, (len p0.2.2.1), ())
 let x4 := ((0 : Int), ())
 let e4 := (loopEnd (f17_L4_g y4) (f17_L4_next y4) x4)
 (((!v26) = true → (Am.Ends (f17_L4_g y4) (f17_L4_next y4) (f17_L4_ok y4) x4)), (bif v26 then false else (bif (f17_L4_e1 y4 e4) then (f17_L4_x1_0 y4 e4) else true)))
def f17_ok (p0 : D26) (p1 : D26) : Prop := (f17t p0 p1).1
def f17 (p0 : D26) (p1 : D26) : Bool := (f17t p0 p1).2
instance (p0 : D26) (p1 : D26) : Decidable (f17_ok p0 p1) := by
 unfold f17_ok f17t
 try dsimp only
 infer_instance
def f17_spec : Am.Spec := fnSpec [(0, (.val T26)), (1, (.val T26))] vB [] (fun x => f17_ok x.1 x.2.1) (fun x => f17 x.1 x.2.1) (fun _ => ())
def f17_ctx : Ctx := Cx tys [] [(4, f17_L4_spec)] [] false 45 [] []
theorem f17_cok : CtxOk Tryz.prog f17_ctx := ctxOk_mk tys_ok rfl trivial rfl (by kernel_rfl)
noncomputable def f17_code : Code := Tryz.f17.body.getD .skip
noncomputable def f17_L4 : Code := nthLoop f17_code 0
theorem f17_L4_is : LoopSnd Tryz.prog f17_ctx f17_L4 := lgen f17_cok mixed (sp := f17_L4_spec) rfl [[(4, vB)], []] (bs := []) (by kernel_rfl) trivial (by kernel_rfl) (by kernel_rfl) fun y x => by kernel_rfl
theorem f17_is : SpecOk Tryz.prog 17 f17_spec := fgen f17_cok mixed Tryz.func17 (by kernel_rfl) (bs := [f17_L4]) (by kernel_rfl) ⟨f17_L4_is, trivial⟩ fun x => by kernel_rfl

-- imageeditor/imageeditorref42.Meta
abbrev f18_L4_Y : Type := ((List D40) × (List D40) × Int × Unit)
abbrev f18_L4_X : Type := (Int × Unit)
def f18_L4t (y : f18_L4_Y) (x : f18_L4_X) : Prop × Bool × f18_L4_X × Bool × Bool :=
 let a0 := y.1 
 let a1 := y.2.1 
 let a13 := x.1 
 let v14 := (decide (a13 < y.2.2.1))
 let v24 := (!(Ty.eqb T40 (nth a0 a13 Z40) (nth a1 a13 Z40)))
 ((v14 = true → (InB a13 (len a0) ∧ (InB a13 (len a1) ∧ ((!v24) = true → InR (a13 + 1))))), (v14 && (!v24)), ((a13 + 1), ()), (v14 && v24), (!v14))
def f18_L4_ok (y : f18_L4_Y) (x : f18_L4_X) : Prop := (f18_L4t y x).1
def f18_L4_g (y : f18_L4_Y) (x : f18_L4_X) : Bool := (f18_L4t y x).2.1
def f18_L4_next (y : f18_L4_Y) (x : f18_L4_X) : f18_L4_X := (f18_L4t y x).2.2.1
def f18_L4_e1 (y : f18_L4_Y) (x : f18_L4_X) : Bool := (f18_L4t y x).2.2.2.1
def f18_L4_e2 (y : f18_L4_Y) (x : f18_L4_X) : Bool := (f18_L4t y x).2.2.2.2
instance (y : f18_L4_Y) (x : f18_L4_X) : Decidable (f18_L4_ok y x) := by
 unfold f18_L4_ok f18_L4t
 try dsimp only
 infer_instance
def f18_L4_x1_0 (y : f18_L4_Y) (x : f18_L4_X) : Bool :=
 false
def f18_L4_spec : St → Option Out := loopS [(0, (.val (.sl T40))), (1, (.val (.sl T40))), (12, vI)] [(13, vI)] f18_L4_g f18_L4_next f18_L4_ok fun y x => [ex 1 (some (f18_L4_e1 y x)) [(4, vB)] ((f18_L4_x1_0 y x), ()), ex 2 (some (f18_L4_e2 y x)) [] ()]
def f18t (p0 : (List D40)) (p1 : (List D40)) : Prop × Bool :=
 let v10 := ((len p0) != (len p1))
 let y4 := (p0, p1, (len p0), ())
 let x4 := ((0 : Int), ())
 let e4 := (loopEnd (f18_L4_g y4) (f18_L4_next y4) x4)
 (((!v10) = true → (Am.Ends (f18_L4_g y4) (f18_L4_next y4) (f18_L4_ok y4) x4)), (bif v10 then false else (bif (f18_L4_e1 y4 e4) then (f18_L4_x1_0 y4 e4) else true)))
def f18_ok (p0 : (List D40)) (p1 : (List D40)) : Prop := (f18t p0 p1).1
def f18 (p0 : (List D40)) (p1 : (List D40)) : Bool := (f18t p0 p1).2
instance (p0 : (List D40)) (p1 : (List D40)) : Decidable (f18_ok p0 p1) := by
 unfold f18_ok f18t
 try dsimp only
 infer_instance
def f18_spec : Am.Spec := fnSpec [(0, (.val (.sl T40))), (1, (.val (.sl T40)))] vB [] (fun x => f18_ok x.1 x.2.1) (fun x => f18 x.1 x.2.1) (fun _ => ())
def f18_ctx : Ctx := Cx tys [] [(4, f18_L4_spec)] [] false 26 [] []
theorem f18_cok : CtxOk Tryz.prog f18_ctx := ctxOk_mk tys_ok rfl trivial rfl (by kernel_rfl)
noncomputable def f18_code : Code := Tryz.f18.body.getD .skip
noncomputable def f18_L4 : Code := nthLoop f18_code 0
theorem f18_L4_is : LoopSnd Tryz.prog f18_ctx f18_L4 := lgen f18_cok mixed (sp := f18_L4_spec) rfl [[(4, vB)], []] (bs := []) (by kernel_rfl) trivial (by kernel_rfl) (by kernel_rfl) fun y x => by kernel_rfl
theorem f18_is : SpecOk Tryz.prog 18 f18_spec := fgen f18_cok mixed Tryz.func18 (by kernel_rfl) (bs := [f18_L4]) (by kernel_rfl) ⟨f18_L4_is, trivial⟩ fun x => by kernel_rfl

-- imageeditor/imageeditorref42.Links
abbrev f19_L10_Y : Type := ((List D76) × (List D76) × D76 × D76 × Int × Int × Int × Unit)
abbrev f19_L10_X : Type := (Int × Unit)
def f19_L10t (y : f19_L10_Y) (x : f19_L10_X) : Prop × Bool × f19_L10_X × Bool × Bool :=
 let a6 := y.2.2.1 
 let a7 := y.2.2.2.1 
 let a86 := x.1 
 let v87 := (decide (a86 < y.2.2.2.2.2.2.1))
 let v101 := (!(Ty.eqb T22 (nth a6.2.2.2.2.1.2.2.1 a86 Z22) (nth a7.2.2.2.2.1.2.2.1 a86 Z22)))
 ((v87 = true → (InB a86 (len a6.2.2.2.2.1.2.2.1) ∧ (InB a86 (len a7.2.2.2.2.1.2.2.1) ∧ ((!v101) = true → InR (a86 + 1))))), (v87 && (!v101)), ((a86 + 1), ()), (v87 && v101), (!v87))
def f19_L10_ok (y : f19_L10_Y) (x : f19_L10_X) : Prop := (f19_L10t y x).1
def f19_L10_g (y : f19_L10_Y) (x : f19_L10_X) : Bool := (f19_L10t y x).2.1
def f19_L10_next (y : f19_L10_Y) (x : f19_L10_X) : f19_L10_X := (f19_L10t y x).2.2.1
def f19_L10_e1 (y : f19_L10_Y) (x : f19_L10_X) : Bool := (f19_L10t y x).2.2.2.1
def f19_L10_e4 (y : f19_L10_Y) (x : f19_L10_X) : Bool := (f19_L10t y x).2.2.2.2
instance (y : f19_L10_Y) (x : f19_L10_X) : Decidable (f19_L10_ok y x) := by
 unfold f19_L10_ok f19_L10t
 try dsimp only
 infer_instance
def f19_L10_x1_0 (y : f19_L10_Y) (x : f19_L10_X) : Bool :=
 false
def f19_L10_l4 : List (Nat × Sh) := [(0, (.val (.sl T76))), (1, (.val (.sl T76))), (15, vI), (16, vI)]
def f19_L10_spec : St → Option Out := loopS [(0, (.val (.sl T76))), (1, (.val (.sl T76))), (6, (.box T76 (.val T76))), (7, (.box T76 (.val T76))), (15, vI), (16, vI), (85, vI)] [(86, vI)] f19_L10_g f19_L10_next f19_L10_ok fun y x => [ex 1 (some (f19_L10_e1 y x)) [(4, vB)] ((f19_L10_x1_0 y x), ()), ex 4 (some (f19_L10_e4 y x)) f19_L10_l4 (y.1, y.2.1, y.2.2.2.2.1, y.2.2.2.2.2.1, ())]
abbrev f19_L4_Y : Type := ((List D76) × (List D76) × Int × Unit)
abbrev f19_L4_X : Type := (Int × Unit)
def f19_L4t (y : f19_L4_Y) (x : f19_L4_X) : Prop × Bool × f19_L4_X × Bool × Bool :=
 let a0 := y.1 
 let a1 := y.2.1 
 let a15 := y.2.2.1 
 let a16 := x.1 
 let v17 := (decide (a16 < a15))
 let v21 := (nth a0 a16 Z76)
 let v25 := (nth a1 a16 Z76)
 let v61 := (bif (bif (bif (bif (v21.1 != v25.1) then true else (!(v21.2.1 == v25.2.1))) then true else (v21.2.2.1 != v25.2.2.1)) then true else (v21.2.2.2.1 != v25.2.2.2.1)) then true else (v21.2.2.2.2.1.1 != v25.2.2.2.2.1.1))
 let v81 := (bif (bif v61 then true else (v21.2.2.2.2.1.2.1 != v25.2.2.2.2.1.2.1)) then true else ((len v21.2.2.2.2.1.2.2.1) != (len v25.2.2.2.2.1.2.2.1)))
 let y10 := (a0, a1, v21, v25, a15, a16, (len v21.2.2.2.2.1.2.2.1), ())
 let x10 := ((0 : Int), ())
 let e10 := (loopEnd (f19_L10_g y10) (f19_L10_next y10) x10)
 let c := ((!v81) && (f19_L10_e4 y10 e10))
 ((v17 = true → (InB a16 (len a0) ∧ (InB a16 (len a1) ∧ (((!v81) = true → (Am.Ends (f19_L10_g y10) (f19_L10_next y10) (f19_L10_ok y10) x10)) ∧ (c = true → InR (a16 + 1)))))), (v17 && c), ((a16 + 1), ()), (v17 && (v81 || ((!v81) && (f19_L10_e1 y10 e10)))), (!v17))
def f19_L4_ok (y : f19_L4_Y) (x : f19_L4_X) : Prop := (f19_L4t y x).1
def f19_L4_g (y : f19_L4_Y) (x : f19_L4_X) : Bool := (f19_L4t y x).2.1
def f19_L4_next (y : f19_L4_Y) (x : f19_L4_X) : f19_L4_X := (f19_L4t y x).2.2.1
def f19_L4_e1 (y : f19_L4_Y) (x : f19_L4_X) : Bool := (f19_L4t y x).2.2.2.1
def f19_L4_e2 (y : f19_L4_Y) (x : f19_L4_X) : Bool := (f19_L4t y x).2.2.2.2
instance (y : f19_L4_Y) (x : f19_L4_X) : Decidable (f19_L4_ok y x) := by
 unfold f19_L4_ok f19_L4t
 try dsimp only
 infer_instance
def f19_L4_x1_0 (y : f19_L4_Y) (x : f19_L4_X) : Bool :=
 let a0 := y.1 
 let a1 := y.2.1 
 let a16 := x.1 
 let v21 := (nth a0 a16 Z76)
 let v25 := (nth a1 a16 Z76)
 let v61 := (bif (bif (bif (bif (v21.1 != v25.1) then true else (!(v21.2.1 == v25.2.1))) then true else (v21.2.2.1 != v25.2.2.1)) then true else (v21.2.2.2.1 != v25.2.2.2.1)) then true else (v21.2.2.2.2.1.1 != v25.2.2.2.2.1.1))
 let y10 := (a0, a1, v21, v25, y.2.2.1, a16, (len v21.2.2.2.2.1.2.2.1), ())
 let m4 := (bif (bif (bif v61 then true else (v21.2.2.2.2.1.2.1 != v25.2.2.2.2.1.2.1)) then true else ((len v21.2.2.2.2.1.2.2.1) != (len v25.2.2.2.2.1.2.2.1))) then false else (f19_L10_x1_0 y10 (loopEnd (f19_L10_g y10) (f19_L10_next y10) ((0 : Int), ()))))
 m4
def f19_L4_spec : St → Option Out := loopS [(0, (.val (.sl T76))), (1, (.val (.sl T76))), (15, vI)] [(16, vI)] f19_L4_g f19_L4_next f19_L4_ok fun y x => [ex 1 (some (f19_L4_e1 y x)) [(4, vB)] ((f19_L4_x1_0 y x), ()), ex 2 (some (f19_L4_e2 y x)) [] ()]
def f19t (p0 : (List D76)) (p1 : (List D76)) : Prop × Bool :=
 let v13 := ((len p0) != (len p1))
 let y4 := (p0, p1, (len p0), ())
 let x4 := ((0 : Int), ())
 let e4 := (loopEnd (f19_L4_g y4) (f19_L4_next y4) x4)
 (((!v13) = true → (Am.Ends (f19_L4_g y4) (f19_L4_next y4) (f19_L4_ok y4) x4)), (bif v13 then false else (bif (f19_L4_e1 y4 e4) then (f19_L4_x1_0 y4 e4) else true)))
def f19_ok (p0 : (List D76)) (p1 : (List D76)) : Prop := (f19t p0 p1).1
def f19 (p0 : (List D76)) (p1 : (List D76)) : Bool := (f19t p0 p1).2
instance (p0 : (List D76)) (p1 : (List D76)) : Decidable (f19_ok p0 p1) := by
 unfold f19_ok f19t
 try dsimp only
 infer_instance
def f19_spec : Am.Spec := fnSpec [(0, (.val (.sl T76))), (1, (.val (.sl T76)))] vB [] (fun x => f19_ok x.1 x.2.1) (fun x => f19 x.1 x.2.1) (fun _ => ())
def f19_ctx : Ctx := Cx tys [] [(10, f19_L10_spec), (4, f19_L4_spec)] [] false 104 [] []
theorem f19_cok : CtxOk Tryz.prog f19_ctx := ctxOk_mk tys_ok rfl trivial rfl (by kernel_rfl)
noncomputable def f19_code : Code := Tryz.f19.body.getD .skip
noncomputable def f19_L4 : Code := nthLoop f19_code 0
noncomputable def f19_L10 : Code := nthLoop f19_L4 0
theorem f19_L10_is : LoopSnd Tryz.prog f19_ctx f19_L10 := lgen f19_cok mixed (sp := f19_L10_spec) rfl [[(4, vB)], f19_L10_l4] (bs := []) (by kernel_rfl) trivial (by kernel_rfl) (by kernel_rfl) fun y x => by kernel_rfl
theorem f19_L4_is : LoopSnd Tryz.prog f19_ctx f19_L4 := lgen f19_cok mixed (sp := f19_L4_spec) rfl [[(4, vB)], []] (bs := [f19_L10]) (by kernel_rfl) ⟨f19_L10_is, trivial⟩ (by kernel_rfl) (by kernel_rfl) fun y x => by kernel_rfl
theorem f19_is : SpecOk Tryz.prog 19 f19_spec := fgen f19_cok mixed Tryz.func19 (by kernel_rfl) (bs := [f19_L4]) (by kernel_rfl) ⟨f19_L4_is, trivial⟩ fun x => by kernel_rfl

-- imageeditor/imageeditorref42.Same
def f5t (p0 : D30) (p1 : D30) : Prop × Bool :=
 let v23 := (bif (bif (Ty.eqb T22 p0.1 p1.1) then (Ty.eqb T22 p0.2.1 p1.2.1) else false) then (p0.2.2.1 == p1.2.2.1) else false)
 let v30 := (bif v23 then (f16 p0.2.2.2.1 p1.2.2.2.1) else false)
 let v37 := (bif v30 then (f16 p0.2.2.2.2.1 p1.2.2.2.2.1) else false)
 let v44 := (bif v37 then (f17 p0.2.2.2.2.2.1 p1.2.2.2.2.2.1) else false)
 let v51 := (bif v44 then (f17 p0.2.2.2.2.2.2.1 p1.2.2.2.2.2.2.1) else false)
 let v58 := (bif v51 then (f18 p0.2.2.2.2.2.2.2.1 p1.2.2.2.2.2.2.2.1) else false)
 let v65 := (bif v58 then (f18 p0.2.2.2.2.2.2.2.2.1 p1.2.2.2.2.2.2.2.2.1) else false)
 let v72 := (bif v65 then (f19 p0.2.2.2.2.2.2.2.2.2.1 p1.2.2.2.2.2.2.2.2.2.1) else false)
 (((v23 = true → (f16_ok p0.2.2.2.1 p1.2.2.2.1)) ∧ ((v30 = true → (f16_ok p0.2.2.2.2.1 p1.2.2.2.2.1)) ∧ ((v37 = true → (f17_ok p0.2.2.2.2.2.1 p1.2.2.2.2.2.1)) ∧ ((v44 = true → (f17_ok p0.2.2.2.2.2.2.1 p1.2.2.2.2.2.2.1)) ∧ ((v51 = true → (f18_ok p0.2.2.2.2.2.2.2.1 p1.2.2.2.2.2.2.2.1)) ∧ ((v58 = true → (f18_ok p0.2.2.2.2.2.2.2.2.1 p1.2.2.2.2.2.2.2.2.1)) ∧ ((v65 = true → (f19_ok p0.2.2.2.2.2.2.2.2.2.1 p1.2.2.2.2.2.2.2.2.2.1)) ∧ (v72 = true → (f19_ok p0.2.2.2.2.2.2.2.2.2.2.1 p1.2.2.2.2.2.2.2.2.2.2.1))))))))), (bif v72 then (f19 p0.2.2.2.2.2.2.2.2.2.2.1 p1.2.2.2.2.2.2.2.2.2.2.1) else false))
def f5_ok (p0 : D30) (p1 : D30) : Prop := (f5t p0 p1).1
def f5 (p0 : D30) (p1 : D30) : Bool := (f5t p0 p1).2
instance (p0 : D30) (p1 : D30) : Decidable (f5_ok p0 p1) := by
 unfold f5_ok f5t
 try dsimp only
 infer_instance
def f5_spec : Am.Spec := fnSpec [(0, (.val T30)), (1, (.val T30))] vB [] (fun x => f5_ok x.1 x.2.1) (fun x => f5 x.1 x.2.1) (fun _ => ())
def f5_ctx : Ctx := Cx tys [(16, f16_spec), (17, f17_spec), (18, f18_spec), (19, f19_spec)] [] [] false 80 [] []
theorem f5_cok : CtxOk Tryz.prog f5_ctx := ctxOk_mk tys_ok rfl ⟨f16_is, f17_is, f18_is, f19_is, trivial⟩ rfl (by kernel_rfl)
theorem f5_is : SpecOk Tryz.prog 5 f5_spec := fgen f5_cok mixed Tryz.func5 (by kernel_rfl) (bs := []) (by kernel_rfl) trivial fun x => by kernel_rfl

-- imageeditor/imageeditorref42.Invert
def f6t (p0 : D30) : Prop × D30 :=
 (True, (p0.2.1, p0.1, p0.2.2.1, p0.2.2.2.2.1, p0.2.2.2.1, p0.2.2.2.2.2.2.1, p0.2.2.2.2.2.1, p0.2.2.2.2.2.2.2.2.1, p0.2.2.2.2.2.2.2.1, p0.2.2.2.2.2.2.2.2.2.2.1, p0.2.2.2.2.2.2.2.2.2.1, ()))
def f6_ok (p0 : D30) : Prop := (f6t p0).1
def f6 (p0 : D30) : D30 := (f6t p0).2
instance (p0 : D30) : Decidable (f6_ok p0) := by
 unfold f6_ok f6t
 try dsimp only
 infer_instance
def f6_spec : Am.Spec := fnSpec [(0, (.val T30))] (.val T30) [] (fun x => f6_ok x.1) (fun x => f6 x.1) (fun _ => ())
def f6_ctx : Ctx := Cx tys [] [] [] false 26 [] []
theorem f6_cok : CtxOk Tryz.prog f6_ctx := ctxOk_mk tys_ok rfl trivial rfl (by kernel_rfl)
theorem f6_is : SpecOk Tryz.prog 6 f6_spec := fgen f6_cok mixed Tryz.func6 (by kernel_rfl) (bs := []) (by kernel_rfl) trivial fun x => by kernel_rfl

-- slices.Equal[[]int,int]
abbrev f35_L4_Y : Type := ((List Int) × (List Int) × Int × Unit)
abbrev f35_L4_X : Type := (Int × Unit)
def f35_L4t (y : f35_L4_Y) (x : f35_L4_X) : Prop × Bool × f35_L4_X × Bool × Bool :=
 let a0 := y.1 
 let a1 := y.2.1 
 let a13 := x.1 
 let v14 := (decide (a13 < y.2.2.1))
 let v24 := ((nth a0 a13 (0 : Int)) != (nth a1 a13 (0 : Int)))
 ((v14 = true → (InB a13 (len a0) ∧ (InB a13 (len a1) ∧ ((!v24) = true → InR (a13 + 1))))), (v14 && (!v24)), ((a13 + 1), ()), (v14 && v24), (!v14))
def f35_L4_ok (y : f35_L4_Y) (x : f35_L4_X) : Prop := (f35_L4t y x).1
def f35_L4_g (y : f35_L4_Y) (x : f35_L4_X) : Bool := (f35_L4t y x).2.1
def f35_L4_next (y : f35_L4_Y) (x : f35_L4_X) : f35_L4_X := (f35_L4t y x).2.2.1
def f35_L4_e1 (y : f35_L4_Y) (x : f35_L4_X) : Bool := (f35_L4t y x).2.2.2.1
def f35_L4_e2 (y : f35_L4_Y) (x : f35_L4_X) : Bool := (f35_L4t y x).2.2.2.2
instance (y : f35_L4_Y) (x : f35_L4_X) : Decidable (f35_L4_ok y x) := by
 unfold f35_L4_ok f35_L4t
 try dsimp only
 infer_instance
def f35_L4_x1_0 (y : f35_L4_Y) (x : f35_L4_X) : Bool :=
 false
def f35_L4_spec : St → Option Out := loopS [(0, (.val (.sl (.int .i64)))), (1, (.val (.sl (.int .i64)))), (12, vI)] [(13, vI)] f35_L4_g f35_L4_next f35_L4_ok fun y x => [ex 1 (some (f35_L4_e1 y x)) [(4, vB)] ((f35_L4_x1_0 y x), ()), ex 2 (some (f35_L4_e2 y x)) [] ()]
def f35t (p0 : (List Int)) (p1 : (List Int)) : Prop × Bool :=
 let v10 := ((len p0) != (len p1))
 let y4 := (p0, p1, (len p0), ())
 let x4 := ((0 : Int), ())
 let e4 := (loopEnd (f35_L4_g y4) (f35_L4_next y4) x4)
 (((!v10) = true → (Am.Ends (f35_L4_g y4) (f35_L4_next y4) (f35_L4_ok y4) x4)), (bif v10 then false else (bif (f35_L4_e1 y4 e4) then (f35_L4_x1_0 y4 e4) else true)))
def f35_ok (p0 : (List Int)) (p1 : (List Int)) : Prop := (f35t p0 p1).1
def f35 (p0 : (List Int)) (p1 : (List Int)) : Bool := (f35t p0 p1).2
instance (p0 : (List Int)) (p1 : (List Int)) : Decidable (f35_ok p0 p1) := by
 unfold f35_ok f35t
 try dsimp only
 infer_instance
def f35_spec : Am.Spec := fnSpec [(0, (.val (.sl (.int .i64)))), (1, (.val (.sl (.int .i64))))] vB [] (fun x => f35_ok x.1 x.2.1) (fun x => f35 x.1 x.2.1) (fun _ => ())
def f35_ctx : Ctx := Cx tys [] [(4, f35_L4_spec)] [] false 26 [] []
theorem f35_cok : CtxOk Tryz.prog f35_ctx := ctxOk_mk tys_ok rfl trivial rfl (by kernel_rfl)
noncomputable def f35_code : Code := Tryz.f35.body.getD .skip
noncomputable def f35_L4 : Code := nthLoop f35_code 0
theorem f35_L4_is : LoopSnd Tryz.prog f35_ctx f35_L4 := lgen f35_cok mixed (sp := f35_L4_spec) rfl [[(4, vB)], []] (bs := []) (by kernel_rfl) trivial (by kernel_rfl) (by kernel_rfl) fun y x => by kernel_rfl
theorem f35_is : SpecOk Tryz.prog 35 f35_spec := fgen f35_cok mixed Tryz.func35 (by kernel_rfl) (bs := [f35_L4]) (by kernel_rfl) ⟨f35_L4_is, trivial⟩ fun x => by kernel_rfl

-- slices.Equal[[]imageeditor/api.Pixel,imageeditor/api.Pixel]
abbrev f54_L4_Y : Type := ((List D22) × (List D22) × Int × Unit)
abbrev f54_L4_X : Type := (Int × Unit)
def f54_L4t (y : f54_L4_Y) (x : f54_L4_X) : Prop × Bool × f54_L4_X × Bool × Bool :=
 let a0 := y.1 
 let a1 := y.2.1 
 let a13 := x.1 
 let v14 := (decide (a13 < y.2.2.1))
 let v24 := (!(Ty.eqb T22 (nth a0 a13 Z22) (nth a1 a13 Z22)))
 ((v14 = true → (InB a13 (len a0) ∧ (InB a13 (len a1) ∧ ((!v24) = true → InR (a13 + 1))))), (v14 && (!v24)), ((a13 + 1), ()), (v14 && v24), (!v14))
def f54_L4_ok (y : f54_L4_Y) (x : f54_L4_X) : Prop := (f54_L4t y x).1
def f54_L4_g (y : f54_L4_Y) (x : f54_L4_X) : Bool := (f54_L4t y x).2.1
def f54_L4_next (y : f54_L4_Y) (x : f54_L4_X) : f54_L4_X := (f54_L4t y x).2.2.1
def f54_L4_e1 (y : f54_L4_Y) (x : f54_L4_X) : Bool := (f54_L4t y x).2.2.2.1
def f54_L4_e2 (y : f54_L4_Y) (x : f54_L4_X) : Bool := (f54_L4t y x).2.2.2.2
instance (y : f54_L4_Y) (x : f54_L4_X) : Decidable (f54_L4_ok y x) := by
 unfold f54_L4_ok f54_L4t
 try dsimp only
 infer_instance
def f54_L4_x1_0 (y : f54_L4_Y) (x : f54_L4_X) : Bool :=
 false
def f54_L4_spec : St → Option Out := loopS [(0, (.val (.sl T22))), (1, (.val (.sl T22))), (12, vI)] [(13, vI)] f54_L4_g f54_L4_next f54_L4_ok fun y x => [ex 1 (some (f54_L4_e1 y x)) [(4, vB)] ((f54_L4_x1_0 y x), ()), ex 2 (some (f54_L4_e2 y x)) [] ()]
def f54t (p0 : (List D22)) (p1 : (List D22)) : Prop × Bool :=
 let v10 := ((len p0) != (len p1))
 let y4 := (p0, p1, (len p0), ())
 let x4 := ((0 : Int), ())
 let e4 := (loopEnd (f54_L4_g y4) (f54_L4_next y4) x4)
 (((!v10) = true → (Am.Ends (f54_L4_g y4) (f54_L4_next y4) (f54_L4_ok y4) x4)), (bif v10 then false else (bif (f54_L4_e1 y4 e4) then (f54_L4_x1_0 y4 e4) else true)))
def f54_ok (p0 : (List D22)) (p1 : (List D22)) : Prop := (f54t p0 p1).1
def f54 (p0 : (List D22)) (p1 : (List D22)) : Bool := (f54t p0 p1).2
instance (p0 : (List D22)) (p1 : (List D22)) : Decidable (f54_ok p0 p1) := by
 unfold f54_ok f54t
 try dsimp only
 infer_instance
def f54_spec : Am.Spec := fnSpec [(0, (.val (.sl T22))), (1, (.val (.sl T22)))] vB [] (fun x => f54_ok x.1 x.2.1) (fun x => f54 x.1 x.2.1) (fun _ => ())
def f54_ctx : Ctx := Cx tys [] [(4, f54_L4_spec)] [] false 26 [] []
theorem f54_cok : CtxOk Tryz.prog f54_ctx := ctxOk_mk tys_ok rfl trivial rfl (by kernel_rfl)
noncomputable def f54_code : Code := Tryz.f54.body.getD .skip
noncomputable def f54_L4 : Code := nthLoop f54_code 0
theorem f54_L4_is : LoopSnd Tryz.prog f54_ctx f54_L4 := lgen f54_cok mixed (sp := f54_L4_spec) rfl [[(4, vB)], []] (bs := []) (by kernel_rfl) trivial (by kernel_rfl) (by kernel_rfl) fun y x => by kernel_rfl
theorem f54_is : SpecOk Tryz.prog 54 f54_spec := fgen f54_cok mixed Tryz.func54 (by kernel_rfl) (bs := [f54_L4]) (by kernel_rfl) ⟨f54_L4_is, trivial⟩ fun x => by kernel_rfl

-- imageeditor/raster.Same
def f39t (p0 : D51) (p1 : D51) : Prop × Bool :=
 let v16 := (bif (p0.1 == p1.1) then (p0.2.1 == p1.2.1) else false)
 ((v16 = true → (f54_ok p0.2.2.1 p1.2.2.1)), (bif v16 then (f54 p0.2.2.1 p1.2.2.1) else false))
def f39_ok (p0 : D51) (p1 : D51) : Prop := (f39t p0 p1).1
def f39 (p0 : D51) (p1 : D51) : Bool := (f39t p0 p1).2
instance (p0 : D51) (p1 : D51) : Decidable (f39_ok p0 p1) := by
 unfold f39_ok f39t
 try dsimp only
 infer_instance
def f39_spec : Am.Spec := fnSpec [(0, (.val T51)), (1, (.val T51))] vB [] (fun x => f39_ok x.1 x.2.1) (fun x => f39 x.1 x.2.1) (fun _ => ())
def f39_ctx : Ctx := Cx tys [(54, f54_spec)] [] [] false 24 [] []
theorem f39_cok : CtxOk Tryz.prog f39_ctx := ctxOk_mk tys_ok rfl ⟨f54_is, trivial⟩ rfl (by kernel_rfl)
theorem f39_is : SpecOk Tryz.prog 39 f39_spec := fgen f39_cok mixed Tryz.func39 (by kernel_rfl) (bs := []) (by kernel_rfl) trivial fun x => by kernel_rfl

-- slices.Equal[[]imageeditor/api.Stop,imageeditor/api.Stop]
abbrev f51_L4_Y : Type := ((List D88) × (List D88) × Int × Unit)
abbrev f51_L4_X : Type := (Int × Unit)
def f51_L4t (y : f51_L4_Y) (x : f51_L4_X) : Prop × Bool × f51_L4_X × Bool × Bool :=
 let a0 := y.1 
 let a1 := y.2.1 
 let a13 := x.1 
 let v14 := (decide (a13 < y.2.2.1))
 let v24 := (!(Ty.eqb T88 (nth a0 a13 Z88) (nth a1 a13 Z88)))
 ((v14 = true → (InB a13 (len a0) ∧ (InB a13 (len a1) ∧ ((!v24) = true → InR (a13 + 1))))), (v14 && (!v24)), ((a13 + 1), ()), (v14 && v24), (!v14))
def f51_L4_ok (y : f51_L4_Y) (x : f51_L4_X) : Prop := (f51_L4t y x).1
def f51_L4_g (y : f51_L4_Y) (x : f51_L4_X) : Bool := (f51_L4t y x).2.1
def f51_L4_next (y : f51_L4_Y) (x : f51_L4_X) : f51_L4_X := (f51_L4t y x).2.2.1
def f51_L4_e1 (y : f51_L4_Y) (x : f51_L4_X) : Bool := (f51_L4t y x).2.2.2.1
def f51_L4_e2 (y : f51_L4_Y) (x : f51_L4_X) : Bool := (f51_L4t y x).2.2.2.2
instance (y : f51_L4_Y) (x : f51_L4_X) : Decidable (f51_L4_ok y x) := by
 unfold f51_L4_ok f51_L4t
 try dsimp only
 infer_instance
def f51_L4_x1_0 (y : f51_L4_Y) (x : f51_L4_X) : Bool :=
 false
def f51_L4_spec : St → Option Out := loopS [(0, (.val (.sl T88))), (1, (.val (.sl T88))), (12, vI)] [(13, vI)] f51_L4_g f51_L4_next f51_L4_ok fun y x => [ex 1 (some (f51_L4_e1 y x)) [(4, vB)] ((f51_L4_x1_0 y x), ()), ex 2 (some (f51_L4_e2 y x)) [] ()]
def f51t (p0 : (List D88)) (p1 : (List D88)) : Prop × Bool :=
 let v10 := ((len p0) != (len p1))
 let y4 := (p0, p1, (len p0), ())
 let x4 := ((0 : Int), ())
 let e4 := (loopEnd (f51_L4_g y4) (f51_L4_next y4) x4)
 (((!v10) = true → (Am.Ends (f51_L4_g y4) (f51_L4_next y4) (f51_L4_ok y4) x4)), (bif v10 then false else (bif (f51_L4_e1 y4 e4) then (f51_L4_x1_0 y4 e4) else true)))
def f51_ok (p0 : (List D88)) (p1 : (List D88)) : Prop := (f51t p0 p1).1
def f51 (p0 : (List D88)) (p1 : (List D88)) : Bool := (f51t p0 p1).2
instance (p0 : (List D88)) (p1 : (List D88)) : Decidable (f51_ok p0 p1) := by
 unfold f51_ok f51t
 try dsimp only
 infer_instance
def f51_spec : Am.Spec := fnSpec [(0, (.val (.sl T88))), (1, (.val (.sl T88)))] vB [] (fun x => f51_ok x.1 x.2.1) (fun x => f51 x.1 x.2.1) (fun _ => ())
def f51_ctx : Ctx := Cx tys [] [(4, f51_L4_spec)] [] false 26 [] []
theorem f51_cok : CtxOk Tryz.prog f51_ctx := ctxOk_mk tys_ok rfl trivial rfl (by kernel_rfl)
noncomputable def f51_code : Code := Tryz.f51.body.getD .skip
noncomputable def f51_L4 : Code := nthLoop f51_code 0
theorem f51_L4_is : LoopSnd Tryz.prog f51_ctx f51_L4 := lgen f51_cok mixed (sp := f51_L4_spec) rfl [[(4, vB)], []] (bs := []) (by kernel_rfl) trivial (by kernel_rfl) (by kernel_rfl) fun y x => by kernel_rfl
theorem f51_is : SpecOk Tryz.prog 51 f51_spec := fgen f51_cok mixed Tryz.func51 (by kernel_rfl) (bs := [f51_L4]) (by kernel_rfl) ⟨f51_L4_is, trivial⟩ fun x => by kernel_rfl

-- slices.Equal[[]imageeditor/api.Seg,imageeditor/api.Seg]
abbrev f52_L4_Y : Type := ((List D94) × (List D94) × Int × Unit)
abbrev f52_L4_X : Type := (Int × Unit)
def f52_L4t (y : f52_L4_Y) (x : f52_L4_X) : Prop × Bool × f52_L4_X × Bool × Bool :=
 let a0 := y.1 
 let a1 := y.2.1 
 let a13 := x.1 
 let v14 := (decide (a13 < y.2.2.1))
 let v24 := (!(Ty.eqb T94 (nth a0 a13 Z94) (nth a1 a13 Z94)))
 ((v14 = true → (InB a13 (len a0) ∧ (InB a13 (len a1) ∧ ((!v24) = true → InR (a13 + 1))))), (v14 && (!v24)), ((a13 + 1), ()), (v14 && v24), (!v14))
def f52_L4_ok (y : f52_L4_Y) (x : f52_L4_X) : Prop := (f52_L4t y x).1
def f52_L4_g (y : f52_L4_Y) (x : f52_L4_X) : Bool := (f52_L4t y x).2.1
def f52_L4_next (y : f52_L4_Y) (x : f52_L4_X) : f52_L4_X := (f52_L4t y x).2.2.1
def f52_L4_e1 (y : f52_L4_Y) (x : f52_L4_X) : Bool := (f52_L4t y x).2.2.2.1
def f52_L4_e2 (y : f52_L4_Y) (x : f52_L4_X) : Bool := (f52_L4t y x).2.2.2.2
instance (y : f52_L4_Y) (x : f52_L4_X) : Decidable (f52_L4_ok y x) := by
 unfold f52_L4_ok f52_L4t
 try dsimp only
 infer_instance
def f52_L4_x1_0 (y : f52_L4_Y) (x : f52_L4_X) : Bool :=
 false
def f52_L4_spec : St → Option Out := loopS [(0, (.val (.sl T94))), (1, (.val (.sl T94))), (12, vI)] [(13, vI)] f52_L4_g f52_L4_next f52_L4_ok fun y x => [ex 1 (some (f52_L4_e1 y x)) [(4, vB)] ((f52_L4_x1_0 y x), ()), ex 2 (some (f52_L4_e2 y x)) [] ()]
def f52t (p0 : (List D94)) (p1 : (List D94)) : Prop × Bool :=
 let v10 := ((len p0) != (len p1))
 let y4 := (p0, p1, (len p0), ())
 let x4 := ((0 : Int), ())
 let e4 := (loopEnd (f52_L4_g y4) (f52_L4_next y4) x4)
 (((!v10) = true → (Am.Ends (f52_L4_g y4) (f52_L4_next y4) (f52_L4_ok y4) x4)), (bif v10 then false else (bif (f52_L4_e1 y4 e4) then (f52_L4_x1_0 y4 e4) else true)))
def f52_ok (p0 : (List D94)) (p1 : (List D94)) : Prop := (f52t p0 p1).1
def f52 (p0 : (List D94)) (p1 : (List D94)) : Bool := (f52t p0 p1).2
instance (p0 : (List D94)) (p1 : (List D94)) : Decidable (f52_ok p0 p1) := by
 unfold f52_ok f52t
 try dsimp only
 infer_instance
def f52_spec : Am.Spec := fnSpec [(0, (.val (.sl T94))), (1, (.val (.sl T94)))] vB [] (fun x => f52_ok x.1 x.2.1) (fun x => f52 x.1 x.2.1) (fun _ => ())
def f52_ctx : Ctx := Cx tys [] [(4, f52_L4_spec)] [] false 26 [] []
theorem f52_cok : CtxOk Tryz.prog f52_ctx := ctxOk_mk tys_ok rfl trivial rfl (by kernel_rfl)
noncomputable def f52_code : Code := Tryz.f52.body.getD .skip
noncomputable def f52_L4 : Code := nthLoop f52_code 0
theorem f52_L4_is : LoopSnd Tryz.prog f52_ctx f52_L4 := lgen f52_cok mixed (sp := f52_L4_spec) rfl [[(4, vB)], []] (bs := []) (by kernel_rfl) trivial (by kernel_rfl) (by kernel_rfl) fun y x => by kernel_rfl
theorem f52_is : SpecOk Tryz.prog 52 f52_spec := fgen f52_cok mixed Tryz.func52 (by kernel_rfl) (bs := [f52_L4]) (by kernel_rfl) ⟨f52_L4_is, trivial⟩ fun x => by kernel_rfl

-- slices.Equal[[]imageeditor/api.Point,imageeditor/api.Point]
abbrev f53_L4_Y : Type := ((List D91) × (List D91) × Int × Unit)
abbrev f53_L4_X : Type := (Int × Unit)
def f53_L4t (y : f53_L4_Y) (x : f53_L4_X) : Prop × Bool × f53_L4_X × Bool × Bool :=
 let a0 := y.1 
 let a1 := y.2.1 
 let a13 := x.1 
 let v14 := (decide (a13 < y.2.2.1))
 let v24 := (!(Ty.eqb T91 (nth a0 a13 Z91) (nth a1 a13 Z91)))
 ((v14 = true → (InB a13 (len a0) ∧ (InB a13 (len a1) ∧ ((!v24) = true → InR (a13 + 1))))), (v14 && (!v24)), ((a13 + 1), ()), (v14 && v24), (!v14))
def f53_L4_ok (y : f53_L4_Y) (x : f53_L4_X) : Prop := (f53_L4t y x).1
def f53_L4_g (y : f53_L4_Y) (x : f53_L4_X) : Bool := (f53_L4t y x).2.1
def f53_L4_next (y : f53_L4_Y) (x : f53_L4_X) : f53_L4_X := (f53_L4t y x).2.2.1
def f53_L4_e1 (y : f53_L4_Y) (x : f53_L4_X) : Bool := (f53_L4t y x).2.2.2.1
def f53_L4_e2 (y : f53_L4_Y) (x : f53_L4_X) : Bool := (f53_L4t y x).2.2.2.2
instance (y : f53_L4_Y) (x : f53_L4_X) : Decidable (f53_L4_ok y x) := by
 unfold f53_L4_ok f53_L4t
 try dsimp only
 infer_instance
def f53_L4_x1_0 (y : f53_L4_Y) (x : f53_L4_X) : Bool :=
 false
def f53_L4_spec : St → Option Out := loopS [(0, (.val (.sl T91))), (1, (.val (.sl T91))), (12, vI)] [(13, vI)] f53_L4_g f53_L4_next f53_L4_ok fun y x => [ex 1 (some (f53_L4_e1 y x)) [(4, vB)] ((f53_L4_x1_0 y x), ()), ex 2 (some (f53_L4_e2 y x)) [] ()]
def f53t (p0 : (List D91)) (p1 : (List D91)) : Prop × Bool :=
 let v10 := ((len p0) != (len p1))
 let y4 := (p0, p1, (len p0), ())
 let x4 := ((0 : Int), ())
 let e4 := (loopEnd (f53_L4_g y4) (f53_L4_next y4) x4)
 (((!v10) = true → (Am.Ends (f53_L4_g y4) (f53_L4_next y4) (f53_L4_ok y4) x4)), (bif v10 then false else (bif (f53_L4_e1 y4 e4) then (f53_L4_x1_0 y4 e4) else true)))
def f53_ok (p0 : (List D91)) (p1 : (List D91)) : Prop := (f53t p0 p1).1
def f53 (p0 : (List D91)) (p1 : (List D91)) : Bool := (f53t p0 p1).2
instance (p0 : (List D91)) (p1 : (List D91)) : Decidable (f53_ok p0 p1) := by
 unfold f53_ok f53t
 try dsimp only
 infer_instance
def f53_spec : Am.Spec := fnSpec [(0, (.val (.sl T91))), (1, (.val (.sl T91)))] vB [] (fun x => f53_ok x.1 x.2.1) (fun x => f53 x.1 x.2.1) (fun _ => ())
def f53_ctx : Ctx := Cx tys [] [(4, f53_L4_spec)] [] false 26 [] []
theorem f53_cok : CtxOk Tryz.prog f53_ctx := ctxOk_mk tys_ok rfl trivial rfl (by kernel_rfl)
noncomputable def f53_code : Code := Tryz.f53.body.getD .skip
noncomputable def f53_L4 : Code := nthLoop f53_code 0
theorem f53_L4_is : LoopSnd Tryz.prog f53_ctx f53_L4 := lgen f53_cok mixed (sp := f53_L4_spec) rfl [[(4, vB)], []] (bs := []) (by kernel_rfl) trivial (by kernel_rfl) (by kernel_rfl) fun y x => by kernel_rfl
theorem f53_is : SpecOk Tryz.prog 53 f53_spec := fgen f53_cok mixed Tryz.func53 (by kernel_rfl) (bs := [f53_L4]) (by kernel_rfl) ⟨f53_L4_is, trivial⟩ fun x => by kernel_rfl

-- imageeditor/node.sameContent
def f36t (p0 : D60) (p1 : D60) : Prop × Bool :=
 let v17 := (bif (!(f39 p0.2.2.2.2.2.2.2.2.2.2.2.2.1 p1.2.2.2.2.2.2.2.2.2.2.2.2.1)) then true else (!(Ty.eqb T22 p0.2.2.2.2.2.2.2.2.2.2.2.2.2.1 p1.2.2.2.2.2.2.2.2.2.2.2.2.2.1)))
 let v29 := (bif (p0.2.2.2.2.2.2.2.2.2.2.2.2.2.2.1 != p1.2.2.2.2.2.2.2.2.2.2.2.2.2.2.1) then true else (p0.2.2.2.2.2.2.2.2.2.2.2.2.2.2.2.2.1 != p1.2.2.2.2.2.2.2.2.2.2.2.2.2.2.2.2.1))
 let v35 := (!(f35 p0.2.2.2.2.2.2.2.2.2.2.2.2.2.2.2.1 p1.2.2.2.2.2.2.2.2.2.2.2.2.2.2.2.1))
 let v43 := (bif v35 then true else (!(f51 p0.2.2.2.2.2.2.2.2.2.2.2.2.2.2.2.2.2.1 p1.2.2.2.2.2.2.2.2.2.2.2.2.2.2.2.2.2.1)))
 let v51 := (bif v43 then true else (!(f52 p0.2.2.2.2.2.2.2.2.2.2.2.2.2.2.2.2.2.2.1 p1.2.2.2.2.2.2.2.2.2.2.2.2.2.2.2.2.2.2.1)))
 let v63 := (bif (p0.2.2.2.2.2.2.2.2.2.2.2.2.2.2.2.2.2.2.2.1 != p1.2.2.2.2.2.2.2.2.2.2.2.2.2.2.2.2.2.2.2.1) then true else (p0.2.2.2.2.2.2.2.2.2.2.2.2.2.2.2.2.2.2.2.2.1 != p1.2.2.2.2.2.2.2.2.2.2.2.2.2.2.2.2.2.2.2.2.1))
 let v77 := (bif (bif v63 then true else (p0.2.2.2.2.2.2.2.2.2.2.2.2.2.2.2.2.2.2.2.2.2.1 != p1.2.2.2.2.2.2.2.2.2.2.2.2.2.2.2.2.2.2.2.2.2.1)) then true else (p0.2.2.2.2.2.2.2.2.2.2.2.2.2.2.2.2.2.2.2.2.2.2.1 != p1.2.2.2.2.2.2.2.2.2.2.2.2.2.2.2.2.2.2.2.2.2.2.1))
 let v89 := (bif (!(p0.2.2.2.2.2.2.2.2.2.2.2.2.2.2.2.2.2.2.2.2.2.2.2.1 == p1.2.2.2.2.2.2.2.2.2.2.2.2.2.2.2.2.2.2.2.2.2.2.2.1)) then true else (p0.2.2.2.2.2.2.2.2.2.2.2.2.2.2.2.2.2.2.2.2.2.2.2.2.1 != p1.2.2.2.2.2.2.2.2.2.2.2.2.2.2.2.2.2.2.2.2.2.2.2.2.1))
 let v103 := (bif (bif v89 then true else (p0.2.2.2.2.2.2.2.2.2.2.2.2.2.2.2.2.2.2.2.2.2.2.2.2.2.1 != p1.2.2.2.2.2.2.2.2.2.2.2.2.2.2.2.2.2.2.2.2.2.2.2.2.2.1)) then true else (p0.2.2.2.2.2.2.2.2.2.2.2.2.2.2.2.2.2.2.2.2.2.2.2.2.2.2.1 != p1.2.2.2.2.2.2.2.2.2.2.2.2.2.2.2.2.2.2.2.2.2.2.2.2.2.2.1))
 let v119 := (bif (p0.2.2.2.2.2.2.2.2.2.2.2.2.2.2.2.2.2.2.2.2.2.2.2.2.2.2.2.1.1 != p1.2.2.2.2.2.2.2.2.2.2.2.2.2.2.2.2.2.2.2.2.2.2.2.2.2.2.2.1.1) then true else (p0.2.2.2.2.2.2.2.2.2.2.2.2.2.2.2.2.2.2.2.2.2.2.2.2.2.2.2.1.2.1 != p1.2.2.2.2.2.2.2.2.2.2.2.2.2.2.2.2.2.2.2.2.2.2.2.2.2.2.2.1.2.1))
 let v128 := (bif v119 then true else (p0.2.2.2.2.2.2.2.2.2.2.2.2.2.2.2.2.2.2.2.2.2.2.2.2.2.2.2.1.2.2.1 != p1.2.2.2.2.2.2.2.2.2.2.2.2.2.2.2.2.2.2.2.2.2.2.2.2.2.2.2.1.2.2.1))
 let m4_2 := (bif v77 then false else (bif v103 then false else (bif v128 then false else (f53 p0.2.2.2.2.2.2.2.2.2.2.2.2.2.2.2.2.2.2.2.2.2.2.2.2.2.2.2.1.2.2.2.1 p1.2.2.2.2.2.2.2.2.2.2.2.2.2.2.2.2.2.2.2.2.2.2.2.2.2.2.2.1.2.2.2.1))))
 (((f39_ok p0.2.2.2.2.2.2.2.2.2.2.2.2.1 p1.2.2.2.2.2.2.2.2.2.2.2.2.1) ∧ ((!v17) = true → ((!v29) = true → ((f35_ok p0.2.2.2.2.2.2.2.2.2.2.2.2.2.2.2.1 p1.2.2.2.2.2.2.2.2.2.2.2.2.2.2.2.1) ∧ (((!v35) = true → (f51_ok p0.2.2.2.2.2.2.2.2.2.2.2.2.2.2.2.2.2.1 p1.2.2.2.2.2.2.2.2.2.2.2.2.2.2.2.2.2.1)) ∧ (((!v43) = true → (f52_ok p0.2.2.2.2.2.2.2.2.2.2.2.2.2.2.2.2.2.2.1 p1.2.2.2.2.2.2.2.2.2.2.2.2.2.2.2.2.2.2.1)) ∧ ((!v51) = true → ((!v77) = true → ((!v103) = true → ((!v128) = true → (f53_ok p0.2.2.2.2.2.2.2.2.2.2.2.2.2.2.2.2.2.2.2.2.2.2.2.2.2.2.2.1.2.2.2.1 p1.2.2.2.2.2.2.2.2.2.2.2.2.2.2.2.2.2.2.2.2.2.2.2.2.2.2.2.1.2.2.2.1))))))))))), (bif v17 then false else (bif v29 then false else (bif v51 then false else m4_2))))
def f36_ok (p0 : D60) (p1 : D60) : Prop := (f36t p0 p1).1
def f36 (p0 : D60) (p1 : D60) : Bool := (f36t p0 p1).2
instance (p0 : D60) (p1 : D60) : Decidable (f36_ok p0 p1) := by
 unfold f36_ok f36t
 try dsimp only
 infer_instance
def f36_spec : Am.Spec := fnSpec [(0, (.val T60)), (1, (.val T60))] vB [] (fun x => f36_ok x.1 x.2.1) (fun x => f36 x.1 x.2.1) (fun _ => ())
def f36_ctx : Ctx := Cx tys [(35, f35_spec), (39, f39_spec), (51, f51_spec), (52, f52_spec), (53, f53_spec)] [] [] false 136 [] []
theorem f36_cok : CtxOk Tryz.prog f36_ctx := ctxOk_mk tys_ok rfl ⟨f35_is, f39_is, f51_is, f52_is, f53_is, trivial⟩ rfl (by kernel_rfl)
theorem f36_is : SpecOk Tryz.prog 36 f36_spec := fgen f36_cok mixed Tryz.func36 (by kernel_rfl) (bs := []) (by kernel_rfl) trivial fun x => by kernel_rfl

-- imageeditor/node.Same
def f21t (p0 : D60) (p1 : D60) : Prop × Bool :=
 let v30 := (bif (bif (bif (p0.1 != p1.1) then true else (p0.2.1 != p1.2.1)) then true else (p0.2.2.1 != p1.2.2.1)) then true else (!(p0.2.2.2.1 == p1.2.2.2.1)))
 let v49 := (bif (bif (!(Ty.eqb .bool p0.2.2.2.2.1 p1.2.2.2.2.1)) then true else (!(Ty.eqb .bool p0.2.2.2.2.2.1 p1.2.2.2.2.2.1))) then true else (!(Ty.eqb .bool p0.2.2.2.2.2.2.1 p1.2.2.2.2.2.2.1)))
 let v75 := (bif (bif (bif (p0.2.2.2.2.2.2.2.1 != p1.2.2.2.2.2.2.2.1) then true else (p0.2.2.2.2.2.2.2.2.1 != p1.2.2.2.2.2.2.2.2.1)) then true else (!(Ty.eqb T48 p0.2.2.2.2.2.2.2.2.2.2.1 p1.2.2.2.2.2.2.2.2.2.2.1))) then true else (p0.2.2.2.2.2.2.2.2.2.2.2.1 != p1.2.2.2.2.2.2.2.2.2.2.2.1))
 let v91 := (bif (p0.2.2.2.2.2.2.2.2.2.1.1 != p1.2.2.2.2.2.2.2.2.2.1.1) then true else (p0.2.2.2.2.2.2.2.2.2.1.2.1 != p1.2.2.2.2.2.2.2.2.2.1.2.1))
 let v101 := (bif v91 then true else (!(f35 p0.2.2.2.2.2.2.2.2.2.1.2.2.1 p1.2.2.2.2.2.2.2.2.2.1.2.2.1)))
 (((!v30) = true → ((!v49) = true → ((!v75) = true → (((!v91) = true → (f35_ok p0.2.2.2.2.2.2.2.2.2.1.2.2.1 p1.2.2.2.2.2.2.2.2.2.1.2.2.1)) ∧ ((!v101) = true → (f36_ok p0 p1)))))), (bif v30 then false else (bif v49 then false else (bif v75 then false else (bif v101 then false else (f36 p0 p1))))))
def f21_ok (p0 : D60) (p1 : D60) : Prop := (f21t p0 p1).1
def f21 (p0 : D60) (p1 : D60) : Bool := (f21t p0 p1).2
instance (p0 : D60) (p1 : D60) : Decidable (f21_ok p0 p1) := by
 unfold f21_ok f21t
 try dsimp only
 infer_instance
def f21_spec : Am.Spec := fnSpec [(0, (.val T60)), (1, (.val T60))] vB [] (fun x => f21_ok x.1 x.2.1) (fun x => f21 x.1 x.2.1) (fun _ => ())
def f21_ctx : Ctx := Cx tys [(35, f35_spec), (36, f36_spec)] [] [] false 105 [] []
theorem f21_cok : CtxOk Tryz.prog f21_ctx := ctxOk_mk tys_ok rfl ⟨f35_is, f36_is, trivial⟩ rfl (by kernel_rfl)
theorem f21_is : SpecOk Tryz.prog 21 f21_spec := fgen f21_cok mixed Tryz.func21 (by kernel_rfl) (bs := []) (by kernel_rfl) trivial fun x => by kernel_rfl

-- imageeditor/patch.sameMask
def f22t (p0 : D26) (p1 : D26) : Prop × Bool :=
 let v16 := (bif (p0.1 == p1.1) then (p0.2.1 == p1.2.1) else false)
 ((v16 = true → (f35_ok p0.2.2.1 p1.2.2.1)), (bif v16 then (f35 p0.2.2.1 p1.2.2.1) else false))
def f22_ok (p0 : D26) (p1 : D26) : Prop := (f22t p0 p1).1
def f22 (p0 : D26) (p1 : D26) : Bool := (f22t p0 p1).2
instance (p0 : D26) (p1 : D26) : Decidable (f22_ok p0 p1) := by
 unfold f22_ok f22t
 try dsimp only
 infer_instance
def f22_spec : Am.Spec := fnSpec [(0, (.val T26)), (1, (.val T26))] vB [] (fun x => f22_ok x.1 x.2.1) (fun x => f22 x.1 x.2.1) (fun _ => ())
def f22_ctx : Ctx := Cx tys [(35, f35_spec)] [] [] false 24 [] []
theorem f22_cok : CtxOk Tryz.prog f22_ctx := ctxOk_mk tys_ok rfl ⟨f35_is, trivial⟩ rfl (by kernel_rfl)
theorem f22_is : SpecOk Tryz.prog 22 f22_spec := fgen f22_cok mixed Tryz.func22 (by kernel_rfl) (bs := []) (by kernel_rfl) trivial fun x => by kernel_rfl

-- slices.Equal[[]imageeditor/api.Meta,imageeditor/api.Meta]
abbrev f23_L4_Y : Type := ((List D40) × (List D40) × Int × Unit)
abbrev f23_L4_X : Type := (Int × Unit)
def f23_L4t (y : f23_L4_Y) (x : f23_L4_X) : Prop × Bool × f23_L4_X × Bool × Bool :=
 let a0 := y.1 
 let a1 := y.2.1 
 let a13 := x.1 
 let v14 := (decide (a13 < y.2.2.1))
 let v24 := (!(Ty.eqb T40 (nth a0 a13 Z40) (nth a1 a13 Z40)))
 ((v14 = true → (InB a13 (len a0) ∧ (InB a13 (len a1) ∧ ((!v24) = true → InR (a13 + 1))))), (v14 && (!v24)), ((a13 + 1), ()), (v14 && v24), (!v14))
def f23_L4_ok (y : f23_L4_Y) (x : f23_L4_X) : Prop := (f23_L4t y x).1
def f23_L4_g (y : f23_L4_Y) (x : f23_L4_X) : Bool := (f23_L4t y x).2.1
def f23_L4_next (y : f23_L4_Y) (x : f23_L4_X) : f23_L4_X := (f23_L4t y x).2.2.1
def f23_L4_e1 (y : f23_L4_Y) (x : f23_L4_X) : Bool := (f23_L4t y x).2.2.2.1
def f23_L4_e2 (y : f23_L4_Y) (x : f23_L4_X) : Bool := (f23_L4t y x).2.2.2.2
instance (y : f23_L4_Y) (x : f23_L4_X) : Decidable (f23_L4_ok y x) := by
 unfold f23_L4_ok f23_L4t
 try dsimp only
 infer_instance
def f23_L4_x1_0 (y : f23_L4_Y) (x : f23_L4_X) : Bool :=
 false
def f23_L4_spec : St → Option Out := loopS [(0, (.val (.sl T40))), (1, (.val (.sl T40))), (12, vI)] [(13, vI)] f23_L4_g f23_L4_next f23_L4_ok fun y x => [ex 1 (some (f23_L4_e1 y x)) [(4, vB)] ((f23_L4_x1_0 y x), ()), ex 2 (some (f23_L4_e2 y x)) [] ()]
def f23t (p0 : (List D40)) (p1 : (List D40)) : Prop × Bool :=
 let v10 := ((len p0) != (len p1))
 let y4 := (p0, p1, (len p0), ())
 let x4 := ((0 : Int), ())
 let e4 := (loopEnd (f23_L4_g y4) (f23_L4_next y4) x4)
 (((!v10) = true → (Am.Ends (f23_L4_g y4) (f23_L4_next y4) (f23_L4_ok y4) x4)), (bif v10 then false else (bif (f23_L4_e1 y4 e4) then (f23_L4_x1_0 y4 e4) else true)))
def f23_ok (p0 : (List D40)) (p1 : (List D40)) : Prop := (f23t p0 p1).1
def f23 (p0 : (List D40)) (p1 : (List D40)) : Bool := (f23t p0 p1).2
instance (p0 : (List D40)) (p1 : (List D40)) : Decidable (f23_ok p0 p1) := by
 unfold f23_ok f23t
 try dsimp only
 infer_instance
def f23_spec : Am.Spec := fnSpec [(0, (.val (.sl T40))), (1, (.val (.sl T40)))] vB [] (fun x => f23_ok x.1 x.2.1) (fun x => f23 x.1 x.2.1) (fun _ => ())
def f23_ctx : Ctx := Cx tys [] [(4, f23_L4_spec)] [] false 26 [] []
theorem f23_cok : CtxOk Tryz.prog f23_ctx := ctxOk_mk tys_ok rfl trivial rfl (by kernel_rfl)
noncomputable def f23_code : Code := Tryz.f23.body.getD .skip
noncomputable def f23_L4 : Code := nthLoop f23_code 0
theorem f23_L4_is : LoopSnd Tryz.prog f23_ctx f23_L4 := lgen f23_cok mixed (sp := f23_L4_spec) rfl [[(4, vB)], []] (bs := []) (by kernel_rfl) trivial (by kernel_rfl) (by kernel_rfl) fun y x => by kernel_rfl
theorem f23_is : SpecOk Tryz.prog 23 f23_spec := fgen f23_cok mixed Tryz.func23 (by kernel_rfl) (bs := [f23_L4]) (by kernel_rfl) ⟨f23_L4_is, trivial⟩ fun x => by kernel_rfl

-- imageeditor/patch.sameLinks$1
def f38t (p0 : D76) (p1 : D76) : Prop × Bool :=
 let v30 := (bif (bif (bif (p0.1 == p1.1) then (p0.2.1 == p1.2.1) else false) then (p0.2.2.1 == p1.2.2.1) else false) then (p0.2.2.2.1 == p1.2.2.2.1) else false)
 ((v30 = true → (f39_ok p0.2.2.2.2.1 p1.2.2.2.2.1)), (bif v30 then (f39 p0.2.2.2.2.1 p1.2.2.2.2.1) else false))
def f38_ok (p0 : D76) (p1 : D76) : Prop := (f38t p0 p1).1
def f38 (p0 : D76) (p1 : D76) : Bool := (f38t p0 p1).2
instance (p0 : D76) (p1 : D76) : Decidable (f38_ok p0 p1) := by
 unfold f38_ok f38t
 try dsimp only
 infer_instance
def f38_spec : Am.Spec := fnSpec [(0, (.val T76)), (1, (.val T76))] vB [] (fun x => f38_ok x.1 x.2.1) (fun x => f38 x.1 x.2.1) (fun _ => ())
def f38_ctx : Ctx := Cx tys [(39, f39_spec)] [] [] false 38 [] []
theorem f38_cok : CtxOk Tryz.prog f38_ctx := ctxOk_mk tys_ok rfl ⟨f39_is, trivial⟩ rfl (by kernel_rfl)
theorem f38_is : SpecOk Tryz.prog 38 f38_spec := fgen f38_cok mixed Tryz.func38 (by kernel_rfl) (bs := []) (by kernel_rfl) trivial fun x => by kernel_rfl

-- slices.EqualFunc[[]imageeditor/api.Link,[]imageeditor/api.Link,imageeditor/api.Link,imageeditor/api.Link]
abbrev f37_v1_L4_Y : Type := ((List D76) × (Unit) × (List D76) × Int × Unit)
abbrev f37_v1_L4_X : Type := (Int × Unit)
def f37_v1_L4t (y : f37_v1_L4_Y) (x : f37_v1_L4_X) : Prop × Bool × f37_v1_L4_X × Bool × Bool :=
 let a1 := y.1 
 let a15 := y.2.2.1 
 let a17 := x.1 
 let v18 := (decide (a17 < y.2.2.2.1))
 let v20 := (nth a15 a17 Z76)
 let v24 := (nth a1 a17 Z76)
 let v30 := (!(f38 v20 v24))
 ((v18 = true → (InB a17 (len a15) ∧ (InB a17 (len a1) ∧ ((f38_ok v20 v24) ∧ ((!v30) = true → InR (a17 + 1)))))), (v18 && (!v30)), ((a17 + 1), ()), (v18 && v30), (!v18))
def f37_v1_L4_ok (y : f37_v1_L4_Y) (x : f37_v1_L4_X) : Prop := (f37_v1_L4t y x).1
def f37_v1_L4_g (y : f37_v1_L4_Y) (x : f37_v1_L4_X) : Bool := (f37_v1_L4t y x).2.1
def f37_v1_L4_next (y : f37_v1_L4_Y) (x : f37_v1_L4_X) : f37_v1_L4_X := (f37_v1_L4t y x).2.2.1
def f37_v1_L4_e1 (y : f37_v1_L4_Y) (x : f37_v1_L4_X) : Bool := (f37_v1_L4t y x).2.2.2.1
def f37_v1_L4_e2 (y : f37_v1_L4_Y) (x : f37_v1_L4_X) : Bool := (f37_v1_L4t y x).2.2.2.2
instance (y : f37_v1_L4_Y) (x : f37_v1_L4_X) : Decidable (f37_v1_L4_ok y x) := by
 unfold f37_v1_L4_ok f37_v1_L4t
 try dsimp only
 infer_instance
def f37_v1_L4_x1_0 (y : f37_v1_L4_Y) (x : f37_v1_L4_X) : Bool :=
 false
def f37_v1_L4_spec : St → Option Out := loopS [(1, (.val (.sl T76))), (2, (.fn 38 .nl)), (15, (.val (.sl T76))), (16, vI)] [(17, vI)] f37_v1_L4_g f37_v1_L4_next f37_v1_L4_ok fun y x => [ex 1 (some (f37_v1_L4_e1 y x)) [(6, vB)] ((f37_v1_L4_x1_0 y x), ()), ex 2 (some (f37_v1_L4_e2 y x)) [] ()]
def f37_v1t (p0 : (List D76)) (p1 : (List D76)) (p2 : (Unit)) : Prop × Bool :=
 let v14 := ((len p0) != (len p1))
 let y4 := (p1, (), p0, (len p0), ())
 let x4 := ((0 : Int), ())
 let e4 := (loopEnd (f37_v1_L4_g y4) (f37_v1_L4_next y4) x4)
 (((!v14) = true → (Am.Ends (f37_v1_L4_g y4) (f37_v1_L4_next y4) (f37_v1_L4_ok y4) x4)), (bif v14 then false else (bif (f37_v1_L4_e1 y4 e4) then (f37_v1_L4_x1_0 y4 e4) else true)))
def f37_v1_ok (p0 : (List D76)) (p1 : (List D76)) (p2 : (Unit)) : Prop := (f37_v1t p0 p1 p2).1
def f37_v1 (p0 : (List D76)) (p1 : (List D76)) (p2 : (Unit)) : Bool := (f37_v1t p0 p1 p2).2
instance (p0 : (List D76)) (p1 : (List D76)) (p2 : (Unit)) : Decidable (f37_v1_ok p0 p1 p2) := by
 unfold f37_v1_ok f37_v1t
 try dsimp only
 infer_instance
def f37_v1_spec : Am.Spec := fnSpec [(0, (.val (.sl T76))), (1, (.val (.sl T76))), (2, (.fn 38 .nl))] vB [] (fun x => f37_v1_ok x.1 x.2.1 x.2.2.1) (fun x => f37_v1 x.1 x.2.1 x.2.2.1) (fun _ => ())
def f37_v1_ctx : Ctx := Cx tys [(38, f38_spec)] [(4, f37_v1_L4_spec)] [] false 32 [] []
theorem f37_v1_cok : CtxOk Tryz.prog f37_v1_ctx := ctxOk_mk tys_ok rfl ⟨f38_is, trivial⟩ rfl (by kernel_rfl)
noncomputable def f37_v1_code : Code := Tryz.f37.body.getD .skip
noncomputable def f37_v1_L4 : Code := nthLoop f37_v1_code 0
theorem f37_v1_L4_is : LoopSnd Tryz.prog f37_v1_ctx f37_v1_L4 := lgen f37_v1_cok mixed (sp := f37_v1_L4_spec) rfl [[(6, vB)], []] (bs := []) (by kernel_rfl) trivial (by kernel_rfl) (by kernel_rfl) fun y x => by kernel_rfl
theorem f37_v1_is : SpecOk Tryz.prog 37 f37_v1_spec := fgen f37_v1_cok mixed Tryz.func37 (by kernel_rfl) (bs := [f37_v1_L4]) (by kernel_rfl) ⟨f37_v1_L4_is, trivial⟩ fun x => by kernel_rfl

-- imageeditor/patch.sameLinks
def f24t (p0 : (List D76)) (p1 : (List D76)) : Prop × Bool :=
 ((f37_v1_ok p0 p1 ()), (f37_v1 p0 p1 ()))
def f24_ok (p0 : (List D76)) (p1 : (List D76)) : Prop := (f24t p0 p1).1
def f24 (p0 : (List D76)) (p1 : (List D76)) : Bool := (f24t p0 p1).2
instance (p0 : (List D76)) (p1 : (List D76)) : Decidable (f24_ok p0 p1) := by
 unfold f24_ok f24t
 try dsimp only
 infer_instance
def f24_spec : Am.Spec := fnSpec [(0, (.val (.sl T76))), (1, (.val (.sl T76)))] vB [] (fun x => f24_ok x.1 x.2.1) (fun x => f24 x.1 x.2.1) (fun _ => ())
def f24_ctx : Ctx := Cx tys [(37, f37_v1_spec)] [] [] false 8 [] []
theorem f24_cok : CtxOk Tryz.prog f24_ctx := ctxOk_mk tys_ok rfl ⟨f37_v1_is, trivial⟩ rfl (by kernel_rfl)
theorem f24_is : SpecOk Tryz.prog 24 f24_spec := fgen f24_cok mixed Tryz.func24 (by kernel_rfl) (bs := []) (by kernel_rfl) trivial fun x => by kernel_rfl

-- slices.EqualFunc[[]imageeditor/api.Node,[]imageeditor/api.Node,imageeditor/api.Node,imageeditor/api.Node]
abbrev f20_v1_L4_Y : Type := ((List D60) × (Unit) × (List D60) × Int × Unit)
abbrev f20_v1_L4_X : Type := (Int × Unit)
def f20_v1_L4t (y : f20_v1_L4_Y) (x : f20_v1_L4_X) : Prop × Bool × f20_v1_L4_X × Bool × Bool :=
 let a1 := y.1 
 let a15 := y.2.2.1 
 let a17 := x.1 
 let v18 := (decide (a17 < y.2.2.2.1))
 let v20 := (nth a15 a17 Z60)
 let v24 := (nth a1 a17 Z60)
 let v30 := (!(f21 v20 v24))
 ((v18 = true → (InB a17 (len a15) ∧ (InB a17 (len a1) ∧ ((f21_ok v20 v24) ∧ ((!v30) = true → InR (a17 + 1)))))), (v18 && (!v30)), ((a17 + 1), ()), (v18 && v30), (!v18))
def f20_v1_L4_ok (y : f20_v1_L4_Y) (x : f20_v1_L4_X) : Prop := (f20_v1_L4t y x).1
def f20_v1_L4_g (y : f20_v1_L4_Y) (x : f20_v1_L4_X) : Bool := (f20_v1_L4t y x).2.1
def f20_v1_L4_next (y : f20_v1_L4_Y) (x : f20_v1_L4_X) : f20_v1_L4_X := (f20_v1_L4t y x).2.2.1
def f20_v1_L4_e1 (y : f20_v1_L4_Y) (x : f20_v1_L4_X) : Bool := (f20_v1_L4t y x).2.2.2.1
def f20_v1_L4_e2 (y : f20_v1_L4_Y) (x : f20_v1_L4_X) : Bool := (f20_v1_L4t y x).2.2.2.2
instance (y : f20_v1_L4_Y) (x : f20_v1_L4_X) : Decidable (f20_v1_L4_ok y x) := by
 unfold f20_v1_L4_ok f20_v1_L4t
 try dsimp only
 infer_instance
def f20_v1_L4_x1_0 (y : f20_v1_L4_Y) (x : f20_v1_L4_X) : Bool :=
 false
def f20_v1_L4_spec : St → Option Out := loopS [(1, (.val (.sl T60))), (2, (.fn 21 .nl)), (15, (.val (.sl T60))), (16, vI)] [(17, vI)] f20_v1_L4_g f20_v1_L4_next f20_v1_L4_ok fun y x => [ex 1 (some (f20_v1_L4_e1 y x)) [(6, vB)] ((f20_v1_L4_x1_0 y x), ()), ex 2 (some (f20_v1_L4_e2 y x)) [] ()]
def f20_v1t (p0 : (List D60)) (p1 : (List D60)) (p2 : (Unit)) : Prop × Bool :=
 let v14 := ((len p0) != (len p1))
 let y4 := (p1, (), p0, (len p0), ())
 let x4 := ((0 : Int), ())
 let e4 := (loopEnd (f20_v1_L4_g y4) (f20_v1_L4_next y4) x4)
 (((!v14) = true → (Am.Ends (f20_v1_L4_g y4) (f20_v1_L4_next y4) (f20_v1_L4_ok y4) x4)), (bif v14 then false else (bif (f20_v1_L4_e1 y4 e4) then (f20_v1_L4_x1_0 y4 e4) else true)))
def f20_v1_ok (p0 : (List D60)) (p1 : (List D60)) (p2 : (Unit)) : Prop := (f20_v1t p0 p1 p2).1
def f20_v1 (p0 : (List D60)) (p1 : (List D60)) (p2 : (Unit)) : Bool := (f20_v1t p0 p1 p2).2
instance (p0 : (List D60)) (p1 : (List D60)) (p2 : (Unit)) : Decidable (f20_v1_ok p0 p1 p2) := by
 unfold f20_v1_ok f20_v1t
 try dsimp only
 infer_instance
def f20_v1_spec : Am.Spec := fnSpec [(0, (.val (.sl T60))), (1, (.val (.sl T60))), (2, (.fn 21 .nl))] vB [] (fun x => f20_v1_ok x.1 x.2.1 x.2.2.1) (fun x => f20_v1 x.1 x.2.1 x.2.2.1) (fun _ => ())
def f20_v1_ctx : Ctx := Cx tys [(21, f21_spec)] [(4, f20_v1_L4_spec)] [] false 32 [] []
theorem f20_v1_cok : CtxOk Tryz.prog f20_v1_ctx := ctxOk_mk tys_ok rfl ⟨f21_is, trivial⟩ rfl (by kernel_rfl)
noncomputable def f20_v1_code : Code := Tryz.f20.body.getD .skip
noncomputable def f20_v1_L4 : Code := nthLoop f20_v1_code 0
theorem f20_v1_L4_is : LoopSnd Tryz.prog f20_v1_ctx f20_v1_L4 := lgen f20_v1_cok mixed (sp := f20_v1_L4_spec) rfl [[(6, vB)], []] (bs := []) (by kernel_rfl) trivial (by kernel_rfl) (by kernel_rfl) fun y x => by kernel_rfl
theorem f20_v1_is : SpecOk Tryz.prog 20 f20_v1_spec := fgen f20_v1_cok mixed Tryz.func20 (by kernel_rfl) (bs := [f20_v1_L4]) (by kernel_rfl) ⟨f20_v1_L4_is, trivial⟩ fun x => by kernel_rfl

-- imageeditor/patch.Empty
def f7t (p0 : D30) : Prop × Bool :=
 let v7 := (!(Ty.eqb T22 p0.1 p0.2.1))
 let v15 := (bif v7 then true else (!(f20_v1 p0.2.2.2.1 p0.2.2.2.2.1 ())))
 let v20 := (f22 p0.2.2.2.2.2.1 p0.2.2.2.2.2.2.1)
 let v27 := (bif v20 then (f23 p0.2.2.2.2.2.2.2.1 p0.2.2.2.2.2.2.2.2.1) else false)
 ((((!v7) = true → (f20_v1_ok p0.2.2.2.1 p0.2.2.2.2.1 ())) ∧ ((!v15) = true → ((f22_ok p0.2.2.2.2.2.1 p0.2.2.2.2.2.2.1) ∧ ((v20 = true → (f23_ok p0.2.2.2.2.2.2.2.1 p0.2.2.2.2.2.2.2.2.1)) ∧ (v27 = true → (f24_ok p0.2.2.2.2.2.2.2.2.2.1 p0.2.2.2.2.2.2.2.2.2.2.1)))))), (bif v15 then false else (bif v27 then (f24 p0.2.2.2.2.2.2.2.2.2.1 p0.2.2.2.2.2.2.2.2.2.2.1) else false)))
def f7_ok (p0 : D30) : Prop := (f7t p0).1
def f7 (p0 : D30) : Bool := (f7t p0).2
instance (p0 : D30) : Decidable (f7_ok p0) := by
 unfold f7_ok f7t
 try dsimp only
 infer_instance
def f7_spec : Am.Spec := fnSpec [(0, (.val T30))] vB [] (fun x => f7_ok x.1) (fun x => f7 x.1) (fun _ => ())
def f7_ctx : Ctx := Cx tys [(20, f20_v1_spec), (22, f22_spec), (23, f23_spec), (24, f24_spec)] [] [] false 35 [] []
theorem f7_cok : CtxOk Tryz.prog f7_ctx := ctxOk_mk tys_ok rfl ⟨f20_v1_is, f22_is, f23_is, f24_is, trivial⟩ rfl (by kernel_rfl)
theorem f7_is : SpecOk Tryz.prog 7 f7_spec := fgen f7_cok mixed Tryz.func7 (by kernel_rfl) (bs := []) (by kernel_rfl) trivial fun x => by kernel_rfl

-- imageeditor/imageeditorref42.Empty
def f8t (p0 : D30) : Prop × Bool :=
 let v7 := (Ty.eqb T22 p0.1 p0.2.1)
 let v14 := (bif v7 then (f16 p0.2.2.2.1 p0.2.2.2.2.1) else false)
 let v21 := (bif v14 then (f17 p0.2.2.2.2.2.1 p0.2.2.2.2.2.2.1) else false)
 let v28 := (bif v21 then (f18 p0.2.2.2.2.2.2.2.1 p0.2.2.2.2.2.2.2.2.1) else false)
 (((v7 = true → (f16_ok p0.2.2.2.1 p0.2.2.2.2.1)) ∧ ((v14 = true → (f17_ok p0.2.2.2.2.2.1 p0.2.2.2.2.2.2.1)) ∧ ((v21 = true → (f18_ok p0.2.2.2.2.2.2.2.1 p0.2.2.2.2.2.2.2.2.1)) ∧ (v28 = true → (f19_ok p0.2.2.2.2.2.2.2.2.2.1 p0.2.2.2.2.2.2.2.2.2.2.1))))), (bif v28 then (f19 p0.2.2.2.2.2.2.2.2.2.1 p0.2.2.2.2.2.2.2.2.2.2.1) else false))
def f8_ok (p0 : D30) : Prop := (f8t p0).1
def f8 (p0 : D30) : Bool := (f8t p0).2
instance (p0 : D30) : Decidable (f8_ok p0) := by
 unfold f8_ok f8t
 try dsimp only
 infer_instance
def f8_spec : Am.Spec := fnSpec [(0, (.val T30))] vB [] (fun x => f8_ok x.1) (fun x => f8 x.1) (fun _ => ())
def f8_ctx : Ctx := Cx tys [(16, f16_spec), (17, f17_spec), (18, f18_spec), (19, f19_spec)] [] [] false 36 [] []
theorem f8_cok : CtxOk Tryz.prog f8_ctx := ctxOk_mk tys_ok rfl ⟨f16_is, f17_is, f18_is, f19_is, trivial⟩ rfl (by kernel_rfl)
theorem f8_is : SpecOk Tryz.prog 8 f8_spec := fgen f8_cok mixed Tryz.func8 (by kernel_rfl) (bs := []) (by kernel_rfl) trivial fun x => by kernel_rfl

-- imageeditor/patch.Size
def f9t (p0 : D30) : Prop × Int :=
 let v5 := (len p0.2.2.2.1)
 let v8 := (len p0.2.2.2.2.1)
 (InR (v5 + v8), (v5 + v8))
def f9_ok (p0 : D30) : Prop := (f9t p0).1
def f9 (p0 : D30) : Int := (f9t p0).2
instance (p0 : D30) : Decidable (f9_ok p0) := by
 unfold f9_ok f9t
 try dsimp only
 infer_instance
def f9_spec : Am.Spec := fnSpec [(0, (.val T30))] vI [] (fun x => f9_ok x.1) (fun x => f9 x.1) (fun _ => ())
def f9_ctx : Ctx := Cx tys [] [] [] false 10 [] []
theorem f9_cok : CtxOk Tryz.prog f9_ctx := ctxOk_mk tys_ok rfl trivial rfl (by kernel_rfl)
theorem f9_is : SpecOk Tryz.prog 9 f9_spec := fgen f9_cok mixed Tryz.func9 (by kernel_rfl) (bs := []) (by kernel_rfl) trivial fun x => by kernel_rfl

-- imageeditor/imageeditorref42.Size
def f10t (p0 : D30) : Prop × Int :=
 let v5 := (len p0.2.2.2.1)
 let v8 := (len p0.2.2.2.2.1)
 (InR (v5 + v8), (v5 + v8))
def f10_ok (p0 : D30) : Prop := (f10t p0).1
def f10 (p0 : D30) : Int := (f10t p0).2
instance (p0 : D30) : Decidable (f10_ok p0) := by
 unfold f10_ok f10t
 try dsimp only
 infer_instance
def f10_spec : Am.Spec := fnSpec [(0, (.val T30))] vI [] (fun x => f10_ok x.1) (fun x => f10 x.1) (fun _ => ())
def f10_ctx : Ctx := Cx tys [] [] [] false 10 [] []
theorem f10_cok : CtxOk Tryz.prog f10_ctx := ctxOk_mk tys_ok rfl trivial rfl (by kernel_rfl)
theorem f10_is : SpecOk Tryz.prog 10 f10_spec := fgen f10_cok mixed Tryz.func10 (by kernel_rfl) (bs := []) (by kernel_rfl) trivial fun x => by kernel_rfl

-- imageeditor/imageeditorlaw42.fills
abbrev f25_L3_Y : Type := ((List Int) × Unit)
abbrev f25_L3_X : Type := ((Int × Int × Int × (List D60) × Int × (Int × Int × (List Int) × Unit) × (List D40) × (List D76) × Unit) × (Int × Int × Int × (List D60) × Int × (Int × Int × (List Int) × Unit) × (List D40) × (List D76) × Unit) × Int × Unit)
def f25_L3t (y : f25_L3_Y) (x : f25_L3_X) : Prop × Bool × f25_L3_X :=
 let a0 := y.1 
 let a2 := x.1 
 let a3 := x.2.1 
 let a4 := x.2.2.1 
 let v10 := (decide ((a4 + 1) < (len a0)))
 let v21 := (a4 + 1)
 let s_3 := ((nth a0 a4 (0 : Int)), (3 : Int), (0 : Int), ([102, 105, 108, 108] : List UInt8), false, false, false, (nth a0 v21 (0 : Int)), (0 : Int), ((0 : Int), (0 : Int), ([] : List Int), ()), Z48, (0 : Int), ((0 : Int), (0 : Int), ([] : List D22), ()), Z22, (0 : Int), ([] : List Int), (0 : Int), ([] : List D88), ([] : List D94), (0 : Int), (0 : Int), (0 : Int), (0 : Int), ([] : List UInt8), (0 : Int), (0 : Int), (0 : Int), ((0 : Int), (0 : Int), (0 : Int), ([] : List D91), ()), ())
 let v25 := ([s_3] : List D60)
 ((InR (a4 + 1) ∧ (v10 = true → (InB a4 (len a0) ∧ (InR (a4 + 1) ∧ (InB v21 (len a0) ∧ (((List.length a3.2.2.2.1 + List.length v25 : Nat) : Int) ≤ 4294967296 ∧ InR (a4 + 2))))))), v10, ((a2.1, a2.2.1, a2.2.2.1, a2.2.2.2.1, a2.2.2.2.2.1, (a2.2.2.2.2.2.1.1, a2.2.2.2.2.2.1.2.1, a2.2.2.2.2.2.1.2.2.1, ()), a2.2.2.2.2.2.2.1, a2.2.2.2.2.2.2.2.1, ()), (a3.1, a3.2.1, a3.2.2.1, (a3.2.2.2.1 ++ v25), a3.2.2.2.2.1, (a3.2.2.2.2.2.1.1, a3.2.2.2.2.2.1.2.1, a3.2.2.2.2.2.1.2.2.1, ()), a3.2.2.2.2.2.2.1, a3.2.2.2.2.2.2.2.1, ()), (a4 + 2), ()))
def f25_L3_ok (y : f25_L3_Y) (x : f25_L3_X) : Prop := (f25_L3t y x).1
def f25_L3_g (y : f25_L3_Y) (x : f25_L3_X) : Bool := (f25_L3t y x).2.1
def f25_L3_next (y : f25_L3_Y) (x : f25_L3_X) : f25_L3_X := (f25_L3t y x).2.2
instance (y : f25_L3_Y) (x : f25_L3_X) : Decidable (f25_L3_ok y x) := by
 unfold f25_L3_ok f25_L3t
 try dsimp only
 infer_instance
def f25_L3_x2_0 (y : f25_L3_Y) (x : f25_L3_X) : (Int × Int × Int × (List D60) × Int × (Int × Int × (List Int) × Unit) × (List D40) × (List D76) × Unit) :=
 let a2 := x.1 
 (a2.1, a2.2.1, a2.2.2.1, a2.2.2.2.1, a2.2.2.2.2.1, (a2.2.2.2.2.2.1.1, a2.2.2.2.2.2.1.2.1, a2.2.2.2.2.2.1.2.2.1, ()), a2.2.2.2.2.2.2.1, a2.2.2.2.2.2.2.2.1, ())
def f25_L3_x2_1 (y : f25_L3_Y) (x : f25_L3_X) : (Int × Int × Int × (List D60) × Int × (Int × Int × (List Int) × Unit) × (List D40) × (List D76) × Unit) :=
 let a3 := x.2.1 
 (a3.1, a3.2.1, a3.2.2.1, a3.2.2.2.1, a3.2.2.2.2.1, (a3.2.2.2.2.2.1.1, a3.2.2.2.2.2.1.2.1, a3.2.2.2.2.2.1.2.2.1, ()), a3.2.2.2.2.2.2.1, a3.2.2.2.2.2.2.2.1, ())
def f25_L3_l2 : List (Nat × Sh) := [(2, (.box T63 (.agg (.cons (.int .i64) (.cons (.int .i64) (.cons (.int .i64) (.cons (.sl T60) (.cons (.int .i64) (.cons T26 (.cons (.sl T40) (.cons (.sl T76) .nl)))))))) (.cons vI (.cons vI (.cons vI (.cons (.own T60 400200 false) (.cons vI (.cons (.agg (.cons (.int .i64) (.cons (.int .i64) (.cons (.sl (.int .i64)) .nl))) (.cons vI (.cons vI (.cons (.own (.int .i64) 400201 false) .nl)))) (.cons (.own T40 400202 false) (.cons (.own T76 400203 false) .nl))))))))))), (3, (.box T63 (.agg (.cons (.int .i64) (.cons (.int .i64) (.cons (.int .i64) (.cons (.sl T60) (.cons (.int .i64) (.cons T26 (.cons (.sl T40) (.cons (.sl T76) .nl)))))))) (.cons vI (.cons vI (.cons vI (.cons (.own T60 400300 false) (.cons vI (.cons (.agg (.cons (.int .i64) (.cons (.int .i64) (.cons (.sl (.int .i64)) .nl))) (.cons vI (.cons vI (.cons (.own (.int .i64) 400301 false) .nl)))) (.cons (.own T40 400302 false) (.cons (.own T76 400303 false) .nl)))))))))))]
def f25_L3_spec : St → Option Out := loopS [(0, (.val (.sl (.int .i64))))] [(2, (.box T63 (.agg (.cons (.int .i64) (.cons (.int .i64) (.cons (.int .i64) (.cons (.sl T60) (.cons (.int .i64) (.cons T26 (.cons (.sl T40) (.cons (.sl T76) .nl)))))))) (.cons vI (.cons vI (.cons vI (.cons (.own T60 400200 false) (.cons vI (.cons (.agg (.cons (.int .i64) (.cons (.int .i64) (.cons (.sl (.int .i64)) .nl))) (.cons vI (.cons vI (.cons (.own (.int .i64) 400201 false) .nl)))) (.cons (.own T40 400202 false) (.cons (.own T76 400203 false) .nl))))))))))), (3, (.box T63 (.agg (.cons (.int .i64) (.cons (.int .i64) (.cons (.int .i64) (.cons (.sl T60) (.cons (.int .i64) (.cons T26 (.cons (.sl T40) (.cons (.sl T76) .nl)))))))) (.cons vI (.cons vI (.cons vI (.cons (.own T60 400300 false) (.cons vI (.cons (.agg (.cons (.int .i64) (.cons (.int .i64) (.cons (.sl (.int .i64)) .nl))) (.cons vI (.cons vI (.cons (.own (.int .i64) 400301 false) .nl)))) (.cons (.own T40 400302 false) (.cons (.own T76 400303 false) .nl))))))))))), (4, vI)] f25_L3_g f25_L3_next f25_L3_ok fun y x => [ex 2 none f25_L3_l2 ((f25_L3_x2_0 y x), (f25_L3_x2_1 y x), ())]
def f25t (p0 : (List Int)) : Prop × D63 :=
 let y3 := (p0, ())
 let x3 := (((0 : Int), (0 : Int), (0 : Int), ([] : List D60), (0 : Int), ((0 : Int), (0 : Int), ([] : List Int), ()), ([] : List D40), ([] : List D76), ()), ((4 : Int), (4 : Int), (0 : Int), ([] : List D60), (9 : Int), ((0 : Int), (0 : Int), ([] : List Int), ()), ([] : List D40), ([] : List D76), ()), (0 : Int), ())
 let r3_2_1 := (f25_L3_x2_1 y3 (loopEnd (f25_L3_g y3) (f25_L3_next y3) x3))
 ((Am.Ends (f25_L3_g y3) (f25_L3_next y3) (f25_L3_ok y3) x3), (r3_2_1.1, r3_2_1.2.1, r3_2_1.2.2.1, r3_2_1.2.2.2.1, r3_2_1.2.2.2.2.1, (r3_2_1.2.2.2.2.2.1.1, r3_2_1.2.2.2.2.2.1.2.1, r3_2_1.2.2.2.2.2.1.2.2.1, ()), r3_2_1.2.2.2.2.2.2.1, r3_2_1.2.2.2.2.2.2.2.1, ()))
def f25_ok (p0 : (List Int)) : Prop := (f25t p0).1
def f25 (p0 : (List Int)) : D63 := (f25t p0).2
instance (p0 : (List Int)) : Decidable (f25_ok p0) := by
 unfold f25_ok f25t
 try dsimp only
 infer_instance
def f25_spec : Am.Spec := fnSpec [(0, (.val (.sl (.int .i64))))] (.val T63) [] (fun x => f25_ok x.1) (fun x => f25 x.1) (fun _ => ())
def f25_ctx : Ctx := Cx tys [] [(3, f25_L3_spec)] [(11, [(4, 0, 26, 400300)]), (13, [(4, 0, 400300, 400200), (4, 0, 400301, 400201), (4, 0, 400302, 400202), (4, 0, 400303, 400203)])] false 29 [] []
theorem f25_cok : CtxOk Tryz.prog f25_ctx := ctxOk_mk tys_ok rfl trivial rfl (by kernel_rfl)
noncomputable def f25_code : Code := Tryz.f25.body.getD .skip
noncomputable def f25_L3 : Code := nthLoop f25_code 0
theorem f25_L3_is : LoopSnd Tryz.prog f25_ctx f25_L3 := lgen f25_cok mixed (sp := f25_L3_spec) rfl [f25_L3_l2] (bs := []) (by kernel_rfl) trivial (by kernel_rfl) (by kernel_rfl) fun y x => by kernel_rfl
theorem f25_is : SpecOk Tryz.prog 25 f25_spec := fgen f25_cok mixed Tryz.func25 (by kernel_rfl) (bs := [f25_L3]) (by kernel_rfl) ⟨f25_L3_is, trivial⟩ fun x => by kernel_rfl

-- imageeditor/profile.Count
def f69t  : Prop × Int :=
 (True, (4 : Int))
def f69_ok  : Prop := (f69t).1
def f69  : Int := (f69t).2
instance  : Decidable (f69_ok) := by
 unfold f69_ok f69t
 try dsimp only
 infer_instance
def f69_spec : Am.Spec := fnSpec [] vI [] (fun x => f69_ok ) (fun x => f69 ) (fun _ => ())
def f69_ctx : Ctx := Cx tys [] [] [] false 1 [] []
theorem f69_cok : CtxOk Tryz.prog f69_ctx := ctxOk_mk tys_ok rfl trivial rfl (by kernel_rfl)
theorem f69_is : SpecOk Tryz.prog 69 f69_spec := fgen f69_cok mixed Tryz.func69 (by kernel_rfl) (bs := []) (by kernel_rfl) trivial fun x => by kernel_rfl

-- imageeditor/document.checkHead
def f55t (p0 : D63) : Prop × Int :=
 let v20 := (bif (bif (bif (decide (p0.1 < 1)) then true else (decide (p0.1 > 256))) then true else (decide (p0.2.1 < 1))) then true else (decide (p0.2.1 > 256)))
 let v23 := (decide (p0.2.2.1 < 0))
 (((!v20) = true → ((!v23) = true → f69_ok)), (bif v20 then (15 : Int) else (bif (bif v23 then true else (decide (p0.2.2.1 ≥ f69))) then (2 : Int) else (0 : Int))))
def f55_ok (p0 : D63) : Prop := (f55t p0).1
def f55 (p0 : D63) : Int := (f55t p0).2
instance (p0 : D63) : Decidable (f55_ok p0) := by
 unfold f55_ok f55t
 try dsimp only
 infer_instance
def f55_spec : Am.Spec := fnSpec [(0, (.val T63))] vI [] (fun x => f55_ok x.1) (fun x => f55 x.1) (fun _ => ())
def f55_ctx : Ctx := Cx tys [(69, f69_spec)] [] [] false 30 [] []
theorem f55_cok : CtxOk Tryz.prog f55_ctx := ctxOk_mk tys_ok rfl ⟨f69_is, trivial⟩ rfl (by kernel_rfl)
theorem f55_is : SpecOk Tryz.prog 55 f55_spec := fgen f55_cok mixed Tryz.func55 (by kernel_rfl) (bs := []) (by kernel_rfl) trivial fun x => by kernel_rfl

-- imageeditor/mask.unit
def f80t (p0 : Int) : Prop × Bool :=
 (True, (bif (decide (p0 ≥ 0)) then (decide (p0 ≤ 65535)) else false))
def f80_ok (p0 : Int) : Prop := (f80t p0).1
def f80 (p0 : Int) : Bool := (f80t p0).2
instance (p0 : Int) : Decidable (f80_ok p0) := by
 unfold f80_ok f80t
 try dsimp only
 infer_instance
def f80_spec : Am.Spec := fnSpec [(0, vI)] vB [] (fun x => f80_ok x.1) (fun x => f80 x.1) (fun _ => ())
def f80_ctx : Ctx := Cx tys [] [] [] false 9 [] []
theorem f80_cok : CtxOk Tryz.prog f80_ctx := ctxOk_mk tys_ok rfl trivial rfl (by kernel_rfl)
theorem f80_is : SpecOk Tryz.prog 80 f80_spec := fgen f80_cok mixed Tryz.func80 (by kernel_rfl) (bs := []) (by kernel_rfl) trivial fun x => by kernel_rfl

-- imageeditor/mask.Check
abbrev f61_L6_Y : Type := ((List Int) × Int × Unit)
abbrev f61_L6_X : Type := (Int × Unit)
def f61_L6t (y : f61_L6_Y) (x : f61_L6_X) : Prop × Bool × f61_L6_X × Bool × Bool :=
 let a42 := y.1 
 let a44 := x.1 
 let v45 := (decide (a44 < y.2.1))
 let v46 := (nth a42 a44 (0 : Int))
 let v50 := (!(f80 v46))
 ((v45 = true → (InB a44 (len a42) ∧ ((f80_ok v46) ∧ ((!v50) = true → InR (a44 + 1))))), (v45 && (!v50)), ((a44 + 1), ()), (v45 && v50), (!v45))
def f61_L6_ok (y : f61_L6_Y) (x : f61_L6_X) : Prop := (f61_L6t y x).1
def f61_L6_g (y : f61_L6_Y) (x : f61_L6_X) : Bool := (f61_L6t y x).2.1
def f61_L6_next (y : f61_L6_Y) (x : f61_L6_X) : f61_L6_X := (f61_L6t y x).2.2.1
def f61_L6_e1 (y : f61_L6_Y) (x : f61_L6_X) : Bool := (f61_L6t y x).2.2.2.1
def f61_L6_e2 (y : f61_L6_Y) (x : f61_L6_X) : Bool := (f61_L6t y x).2.2.2.2
instance (y : f61_L6_Y) (x : f61_L6_X) : Decidable (f61_L6_ok y x) := by
 unfold f61_L6_ok f61_L6t
 try dsimp only
 infer_instance
def f61_L6_x1_0 (y : f61_L6_Y) (x : f61_L6_X) : Int :=
 (2 : Int)
def f61_L6_spec : St → Option Out := loopS [(42, (.val (.sl (.int .i64)))), (43, vI)] [(44, vI)] f61_L6_g f61_L6_next f61_L6_ok fun y x => [ex 1 (some (f61_L6_e1 y x)) [(2, vI)] ((f61_L6_x1_0 y x), ()), ex 2 (some (f61_L6_e2 y x)) [] ()]
def f61t (p0 : D26) : Prop × Int :=
 let v22 := (bif (bif (bif (decide (p0.1 < 0)) then true else (decide (p0.1 > 256))) then true else (decide (p0.2.1 < 0))) then true else (decide (p0.2.1 > 256)))
 let v29 := (!(Ty.eqb .bool (p0.1 == 0) (p0.2.1 == 0)))
 let v40 := (bif v29 then true else ((len p0.2.2.1) != (p0.1 * p0.2.1)))
 let y6 := (p0.2.2.1, (len p0.2.2.1), ())
 let x6 := ((0 : Int), ())
 let e6 := (loopEnd (f61_L6_g y6) (f61_L6_next y6) x6)
 (((!v22) = true → (((!v29) = true → InR (p0.1 * p0.2.1)) ∧ ((!v40) = true → (Am.Ends (f61_L6_g y6) (f61_L6_next y6) (f61_L6_ok y6) x6)))), (bif v22 then (15 : Int) else (bif v40 then (15 : Int) else (bif (f61_L6_e1 y6 e6) then (f61_L6_x1_0 y6 e6) else (0 : Int)))))
def f61_ok (p0 : D26) : Prop := (f61t p0).1
def f61 (p0 : D26) : Int := (f61t p0).2
instance (p0 : D26) : Decidable (f61_ok p0) := by
 unfold f61_ok f61t
 try dsimp only
 infer_instance
def f61_spec : Am.Spec := fnSpec [(0, (.val T26))] vI [] (fun x => f61_ok x.1) (fun x => f61 x.1) (fun _ => ())
def f61_ctx : Ctx := Cx tys [(80, f80_spec)] [(6, f61_L6_spec)] [] false 52 [] []
theorem f61_cok : CtxOk Tryz.prog f61_ctx := ctxOk_mk tys_ok rfl ⟨f80_is, trivial⟩ rfl (by kernel_rfl)
noncomputable def f61_code : Code := Tryz.f61.body.getD .skip
noncomputable def f61_L6 : Code := nthLoop f61_code 0
theorem f61_L6_is : LoopSnd Tryz.prog f61_ctx f61_L6 := lgen f61_cok mixed (sp := f61_L6_spec) rfl [[(2, vI)], []] (bs := []) (by kernel_rfl) trivial (by kernel_rfl) (by kernel_rfl) fun y x => by kernel_rfl
theorem f61_is : SpecOk Tryz.prog 61 f61_spec := fgen f61_cok mixed Tryz.func61 (by kernel_rfl) (bs := [f61_L6]) (by kernel_rfl) ⟨f61_L6_is, trivial⟩ fun x => by kernel_rfl

-- imageeditor/node.Reads
def f72t (p0 : D60) : Prop × Bool :=
 (True, (bif (bif (p0.2.1 == 7) then true else (p0.2.1 == 8)) then true else (p0.2.1 == 11)))
def f72_ok (p0 : D60) : Prop := (f72t p0).1
def f72 (p0 : D60) : Bool := (f72t p0).2
instance (p0 : D60) : Decidable (f72_ok p0) := by
 unfold f72_ok f72t
 try dsimp only
 infer_instance
def f72_spec : Am.Spec := fnSpec [(0, (.val T60))] vB [] (fun x => f72_ok x.1) (fun x => f72 x.1) (fun _ => ())
def f72_ctx : Ctx := Cx tys [] [] [] false 16 [] []
theorem f72_cok : CtxOk Tryz.prog f72_ctx := ctxOk_mk tys_ok rfl trivial rfl (by kernel_rfl)
theorem f72_is : SpecOk Tryz.prog 72 f72_spec := fgen f72_cok mixed Tryz.func72 (by kernel_rfl) (bs := []) (by kernel_rfl) trivial fun x => by kernel_rfl

-- imageeditor/node.Name
def f98t (p0 : Int) : Prop × (List UInt8) :=
 let v5 := (p0 == 1)
 let v7 := (p0 == 2)
 let v9 := (p0 == 3)
 let v11 := (p0 == 4)
 let v13 := (p0 == 5)
 let v15 := (p0 == 6)
 let v17 := (p0 == 7)
 let v19 := (p0 == 8)
 let v21 := (p0 == 9)
 let v23 := (p0 == 10)
 let m2_2 := (bif v19 then ([102, 105, 108, 116, 101, 114] : List UInt8) else (bif v21 then ([108, 105, 110, 107] : List UInt8) else (bif v23 then ([99, 108, 111, 110, 101] : List UInt8) else ([119, 97, 114, 112] : List UInt8))))
 let m2_6 := (bif v11 then ([103, 114, 97, 100, 105, 101, 110, 116] : List UInt8) else (bif v13 then ([112, 97, 116, 104] : List UInt8) else (bif v15 then ([116, 101, 120, 116] : List UInt8) else (bif v17 then ([97, 100, 106, 117, 115, 116] : List UInt8) else m2_2))))
 let c_14 := (bif v9 then true else (bif v11 then true else (bif v13 then true else (bif v15 then true else (bif v17 then true else (bif v19 then true else (bif v21 then true else (bif v23 then true else (p0 == 11)))))))))
 let m2_10 := (bif (bif v5 then true else (bif v7 then true else c_14)) then (bif v5 then ([103, 114, 111, 117, 112] : List UInt8) else (bif v7 then ([105, 109, 97, 103, 101] : List UInt8) else (bif v9 then ([102, 105, 108, 108] : List UInt8) else m2_6))) else ([] : List UInt8))
 (True, m2_10)
def f98_ok (p0 : Int) : Prop := (f98t p0).1
def f98 (p0 : Int) : (List UInt8) := (f98t p0).2
instance (p0 : Int) : Decidable (f98_ok p0) := by
 unfold f98_ok f98t
 try dsimp only
 infer_instance
def f98_spec : Am.Spec := fnSpec [(0, vI)] vS [] (fun x => f98_ok x.1) (fun x => f98 x.1) (fun _ => ())
def f98_ctx : Ctx := Cx tys [] [] [] false 26 [] []
theorem f98_cok : CtxOk Tryz.prog f98_ctx := ctxOk_mk tys_ok rfl trivial rfl (by kernel_rfl)
theorem f98_is : SpecOk Tryz.prog 98 f98_spec := fgen f98_cok mixed Tryz.func98 (by kernel_rfl) (bs := []) (by kernel_rfl) trivial fun x => by kernel_rfl

-- imageeditor/node.isName
abbrev f99_L4_Y : Type := ((List UInt8) × Int × Unit)
abbrev f99_L4_X : Type := (Int × Unit)
def f99_L4t (y : f99_L4_Y) (x : f99_L4_X) : Prop × Bool × f99_L4_X × Bool × Bool :=
 let a0 := y.1 
 let a14 := x.1 
 let v15 := (decide (a14 < y.2.1))
 let v20 := (decide ((byteAt a0 a14) < 33))
 let v26 := (bif v20 then true else (decide ((byteAt a0 a14) > 126)))
 ((v15 = true → (InB a14 (len a0) ∧ (((!v20) = true → InB a14 (len a0)) ∧ ((!v26) = true → InR (a14 + 1))))), (v15 && (!v26)), ((a14 + 1), ()), (v15 && v26), (!v15))
def f99_L4_ok (y : f99_L4_Y) (x : f99_L4_X) : Prop := (f99_L4t y x).1
def f99_L4_g (y : f99_L4_Y) (x : f99_L4_X) : Bool := (f99_L4t y x).2.1
def f99_L4_next (y : f99_L4_Y) (x : f99_L4_X) : f99_L4_X := (f99_L4t y x).2.2.1
def f99_L4_e1 (y : f99_L4_Y) (x : f99_L4_X) : Bool := (f99_L4t y x).2.2.2.1
def f99_L4_e2 (y : f99_L4_Y) (x : f99_L4_X) : Bool := (f99_L4t y x).2.2.2.2
instance (y : f99_L4_Y) (x : f99_L4_X) : Decidable (f99_L4_ok y x) := by
 unfold f99_L4_ok f99_L4t
 try dsimp only
 infer_instance
def f99_L4_x1_0 (y : f99_L4_Y) (x : f99_L4_X) : Bool :=
 false
def f99_L4_spec : St → Option Out := loopS [(0, vS), (13, vI)] [(14, vI)] f99_L4_g f99_L4_next f99_L4_ok fun y x => [ex 1 (some (f99_L4_e1 y x)) [(2, vB)] ((f99_L4_x1_0 y x), ()), ex 2 (some (f99_L4_e2 y x)) [] ()]
def f99t (p0 : (List UInt8)) : Prop × Bool :=
 let v11 := (bif (decide ((len p0) < 1)) then true else (decide ((len p0) > 32)))
 let y4 := (p0, (len p0), ())
 let x4 := ((0 : Int), ())
 let e4 := (loopEnd (f99_L4_g y4) (f99_L4_next y4) x4)
 (((!v11) = true → (Am.Ends (f99_L4_g y4) (f99_L4_next y4) (f99_L4_ok y4) x4)), (bif v11 then false else (bif (f99_L4_e1 y4 e4) then (f99_L4_x1_0 y4 e4) else true)))
def f99_ok (p0 : (List UInt8)) : Prop := (f99t p0).1
def f99 (p0 : (List UInt8)) : Bool := (f99t p0).2
instance (p0 : (List UInt8)) : Decidable (f99_ok p0) := by
 unfold f99_ok f99t
 try dsimp only
 infer_instance
def f99_spec : Am.Spec := fnSpec [(0, vS)] vB [] (fun x => f99_ok x.1) (fun x => f99 x.1) (fun _ => ())
def f99_ctx : Ctx := Cx tys [] [(4, f99_L4_spec)] [] false 28 [] []
theorem f99_cok : CtxOk Tryz.prog f99_ctx := ctxOk_mk tys_ok rfl trivial rfl (by kernel_rfl)
noncomputable def f99_code : Code := Tryz.f99.body.getD .skip
noncomputable def f99_L4 : Code := nthLoop f99_code 0
theorem f99_L4_is : LoopSnd Tryz.prog f99_ctx f99_L4 := lgen f99_cok mixed (sp := f99_L4_spec) rfl [[(2, vB)], []] (bs := []) (by kernel_rfl) trivial (by kernel_rfl) (by kernel_rfl) fun y x => by kernel_rfl
theorem f99_is : SpecOk Tryz.prog 99 f99_spec := fgen f99_cok mixed Tryz.func99 (by kernel_rfl) (bs := [f99_L4]) (by kernel_rfl) ⟨f99_L4_is, trivial⟩ fun x => by kernel_rfl

-- imageeditor/node.isId
def f100t (p0 : Int) : Prop × Bool :=
 (True, (bif (decide (p0 ≥ 0)) then (decide (p0 ≤ 1073741824)) else false))
def f100_ok (p0 : Int) : Prop := (f100t p0).1
def f100 (p0 : Int) : Bool := (f100t p0).2
instance (p0 : Int) : Decidable (f100_ok p0) := by
 unfold f100_ok f100t
 try dsimp only
 infer_instance
def f100_spec : Am.Spec := fnSpec [(0, vI)] vB [] (fun x => f100_ok x.1) (fun x => f100 x.1) (fun _ => ())
def f100_ctx : Ctx := Cx tys [] [] [] false 9 [] []
theorem f100_cok : CtxOk Tryz.prog f100_ctx := ctxOk_mk tys_ok rfl trivial rfl (by kernel_rfl)
theorem f100_is : SpecOk Tryz.prog 100 f100_spec := fgen f100_cok mixed Tryz.func100 (by kernel_rfl) (bs := []) (by kernel_rfl) trivial fun x => by kernel_rfl

-- imageeditor/node.isUnit
def f101t (p0 : Int) : Prop × Bool :=
 (True, (bif (decide (p0 ≥ 0)) then (decide (p0 ≤ 65535)) else false))
def f101_ok (p0 : Int) : Prop := (f101t p0).1
def f101 (p0 : Int) : Bool := (f101t p0).2
instance (p0 : Int) : Decidable (f101_ok p0) := by
 unfold f101_ok f101t
 try dsimp only
 infer_instance
def f101_spec : Am.Spec := fnSpec [(0, vI)] vB [] (fun x => f101_ok x.1) (fun x => f101 x.1) (fun _ => ())
def f101_ctx : Ctx := Cx tys [] [] [] false 9 [] []
theorem f101_cok : CtxOk Tryz.prog f101_ctx := ctxOk_mk tys_ok rfl trivial rfl (by kernel_rfl)
theorem f101_is : SpecOk Tryz.prog 101 f101_spec := fgen f101_cok mixed Tryz.func101 (by kernel_rfl) (bs := []) (by kernel_rfl) trivial fun x => by kernel_rfl

-- imageeditor/blend.Valid
def f102t (p0 : Int) : Prop × Bool :=
 (True, (bif (decide (p0 ≥ 0)) then (decide (p0 < 18)) else false))
def f102_ok (p0 : Int) : Prop := (f102t p0).1
def f102 (p0 : Int) : Bool := (f102t p0).2
instance (p0 : Int) : Decidable (f102_ok p0) := by
 unfold f102_ok f102t
 try dsimp only
 infer_instance
def f102_spec : Am.Spec := fnSpec [(0, vI)] vB [] (fun x => f102_ok x.1) (fun x => f102 x.1) (fun _ => ())
def f102_ctx : Ctx := Cx tys [] [] [] false 9 [] []
theorem f102_cok : CtxOk Tryz.prog f102_ctx := ctxOk_mk tys_ok rfl trivial rfl (by kernel_rfl)
theorem f102_is : SpecOk Tryz.prog 102 f102_spec := fgen f102_cok mixed Tryz.func102 (by kernel_rfl) (bs := []) (by kernel_rfl) trivial fun x => by kernel_rfl

-- imageeditor/node.checkCommon
def f82t (p0 : D60) (p1 : Int) (p2 : Int) : Prop × Int :=
 let v21 := (bif (bif (bif (decide (p1 < 1)) then true else (decide (p1 > 256))) then true else (decide (p2 < 1))) then true else (decide (p2 > 256)))
 let v25 := ((f98 p0.2.1) == ([] : List UInt8))
 let v29 := (!(f99 p0.2.2.2.1))
 let v33 := (!(f100 p0.1))
 let v39 := (bif v33 then true else (!(f100 p0.2.2.1)))
 let v45 := (bif v39 then true else (!(f101 p0.2.2.2.2.2.2.2.1)))
 let v49 := (!(f102 p0.2.2.2.2.2.2.2.2.1))
 let v58 := (bif v49 then true else (bif (f72 p0) then (p0.2.2.2.2.2.2.2.2.1 != 0) else false))
 let v61 := (f61 p0.2.2.2.2.2.2.2.2.2.1)
 let m6_1 := (bif (v61 != 0) then v61 else (bif (bif (p0.2.2.2.2.2.2.2.2.2.1.1 != 0) then (bif (p0.2.2.2.2.2.2.2.2.2.1.1 != p1) then true else (p0.2.2.2.2.2.2.2.2.2.1.2.1 != p2)) else false) then (15 : Int) else (0 : Int)))
 (((!v21) = true → ((f98_ok p0.2.1) ∧ ((!v25) = true → ((f99_ok p0.2.2.2.1) ∧ ((!v29) = true → ((f100_ok p0.1) ∧ (((!v33) = true → (f100_ok p0.2.2.1)) ∧ (((!v39) = true → (f101_ok p0.2.2.2.2.2.2.2.1)) ∧ ((!v45) = true → ((f102_ok p0.2.2.2.2.2.2.2.2.1) ∧ (((!v49) = true → (f72_ok p0)) ∧ ((!v58) = true → (f61_ok p0.2.2.2.2.2.2.2.2.2.1))))))))))))), (bif v21 then (15 : Int) else (bif v25 then (8 : Int) else (bif v29 then (13 : Int) else (bif v45 then (2 : Int) else (bif v58 then (8 : Int) else m6_1))))))
def f82_ok (p0 : D60) (p1 : Int) (p2 : Int) : Prop := (f82t p0 p1 p2).1
def f82 (p0 : D60) (p1 : Int) (p2 : Int) : Int := (f82t p0 p1 p2).2
instance (p0 : D60) (p1 : Int) (p2 : Int) : Decidable (f82_ok p0 p1 p2) := by
 unfold f82_ok f82t
 try dsimp only
 infer_instance
def f82_spec : Am.Spec := fnSpec [(0, (.val T60)), (1, vI), (2, vI)] vI [] (fun x => f82_ok x.1 x.2.1 x.2.2.1) (fun x => f82 x.1 x.2.1 x.2.2.1) (fun _ => ())
def f82_ctx : Ctx := Cx tys [(61, f61_spec), (72, f72_spec), (98, f98_spec), (99, f99_spec), (100, f100_spec), (101, f101_spec), (102, f102_spec)] [] [] false 83 [] []
theorem f82_cok : CtxOk Tryz.prog f82_ctx := ctxOk_mk tys_ok rfl ⟨f61_is, f72_is, f98_is, f99_is, f100_is, f101_is, f102_is, trivial⟩ rfl (by kernel_rfl)
theorem f82_is : SpecOk Tryz.prog 82 f82_spec := fgen f82_cok mixed Tryz.func82 (by kernel_rfl) (bs := []) (by kernel_rfl) trivial fun x => by kernel_rfl

-- imageeditor/node.placed
def f83t (p0 : Int) : Prop × Bool :=
 let v5 := (p0 == 2)
 let v6 := (p0 == 5)
 let v7 := (p0 == 6)
 let v8 := (p0 == 9)
 (True, (bif (bif v5 then v5 else (bif v6 then v6 else (bif v7 then v7 else (bif v8 then v8 else (p0 == 10))))) then true else false))
def f83_ok (p0 : Int) : Prop := (f83t p0).1
def f83 (p0 : Int) : Bool := (f83t p0).2
instance (p0 : Int) : Decidable (f83_ok p0) := by
 unfold f83_ok f83t
 try dsimp only
 infer_instance
def f83_spec : Am.Spec := fnSpec [(0, vI)] vB [] (fun x => f83_ok x.1) (fun x => f83 x.1) (fun _ => ())
def f83_ctx : Ctx := Cx tys [] [] [] false 10 [] []
theorem f83_cok : CtxOk Tryz.prog f83_ctx := ctxOk_mk tys_ok rfl trivial rfl (by kernel_rfl)
theorem f83_is : SpecOk Tryz.prog 83 f83_spec := fgen f83_cok mixed Tryz.func83 (by kernel_rfl) (bs := []) (by kernel_rfl) trivial fun x => by kernel_rfl

-- imageeditor/num.Clamp
def f133t (p0 : Int) (p1 : Int) (p2 : Int) : Prop × Int :=
 (True, (imin p2 (imax p0 p1)))
def f133_ok (p0 : Int) (p1 : Int) (p2 : Int) : Prop := (f133t p0 p1 p2).1
def f133 (p0 : Int) (p1 : Int) (p2 : Int) : Int := (f133t p0 p1 p2).2
instance (p0 : Int) (p1 : Int) (p2 : Int) : Decidable (f133_ok p0 p1 p2) := by
 unfold f133_ok f133t
 try dsimp only
 infer_instance
def f133_spec : Am.Spec := fnSpec [(0, vI), (1, vI), (2, vI)] vI [] (fun x => f133_ok x.1 x.2.1 x.2.2.1) (fun x => f133 x.1 x.2.1 x.2.2.1) (fun _ => ())
def f133_ctx : Ctx := Cx tys [] [] [] false 12 [] []
theorem f133_cok : CtxOk Tryz.prog f133_ctx := ctxOk_mk tys_ok rfl trivial rfl (by kernel_rfl)
theorem f133_is : SpecOk Tryz.prog 133 f133_spec := fgen f133_cok mixed Tryz.func133 (by kernel_rfl) (bs := []) (by kernel_rfl) trivial fun x => by kernel_rfl

-- imageeditor/affine.factor
def f115t (p0 : Int) : Prop × Int :=
 ((f133_ok p0 (-16777216 : Int) (16777216 : Int)), (f133 p0 (-16777216 : Int) (16777216 : Int)))
def f115_ok (p0 : Int) : Prop := (f115t p0).1
def f115 (p0 : Int) : Int := (f115t p0).2
instance (p0 : Int) : Decidable (f115_ok p0) := by
 unfold f115_ok f115t
 try dsimp only
 infer_instance
def f115_spec : Am.Spec := fnSpec [(0, vI)] vI [] (fun x => f115_ok x.1) (fun x => f115 x.1) (fun _ => ())
def f115_ctx : Ctx := Cx tys [(133, f133_spec)] [] [] false 5 [] []
theorem f115_cok : CtxOk Tryz.prog f115_ctx := ctxOk_mk tys_ok rfl ⟨f133_is, trivial⟩ rfl (by kernel_rfl)
theorem f115_is : SpecOk Tryz.prog 115 f115_spec := fgen f115_cok mixed Tryz.func115 (by kernel_rfl) (bs := []) (by kernel_rfl) trivial fun x => by kernel_rfl

-- imageeditor/affine.place
def f116t (p0 : Int) : Prop × Int :=
 ((f133_ok p0 (-1099511627776 : Int) (1099511627776 : Int)), (f133 p0 (-1099511627776 : Int) (1099511627776 : Int)))
def f116_ok (p0 : Int) : Prop := (f116t p0).1
def f116 (p0 : Int) : Int := (f116t p0).2
instance (p0 : Int) : Decidable (f116_ok p0) := by
 unfold f116_ok f116t
 try dsimp only
 infer_instance
def f116_spec : Am.Spec := fnSpec [(0, vI)] vI [] (fun x => f116_ok x.1) (fun x => f116 x.1) (fun _ => ())
def f116_ctx : Ctx := Cx tys [(133, f133_spec)] [] [] false 5 [] []
theorem f116_cok : CtxOk Tryz.prog f116_ctx := ctxOk_mk tys_ok rfl ⟨f133_is, trivial⟩ rfl (by kernel_rfl)
theorem f116_is : SpecOk Tryz.prog 116 f116_spec := fgen f116_cok mixed Tryz.func116 (by kernel_rfl) (bs := []) (by kernel_rfl) trivial fun x => by kernel_rfl

-- imageeditor/affine.limited
def f103t (p0 : D48) : Prop × D48 :=
 (((f115_ok p0.1) ∧ ((f115_ok p0.2.1) ∧ ((f115_ok p0.2.2.1) ∧ ((f115_ok p0.2.2.2.1) ∧ ((f116_ok p0.2.2.2.2.1) ∧ (f116_ok p0.2.2.2.2.2.1)))))), ((f115 p0.1), (f115 p0.2.1), (f115 p0.2.2.1), (f115 p0.2.2.2.1), (f116 p0.2.2.2.2.1), (f116 p0.2.2.2.2.2.1), ()))
def f103_ok (p0 : D48) : Prop := (f103t p0).1
def f103 (p0 : D48) : D48 := (f103t p0).2
instance (p0 : D48) : Decidable (f103_ok p0) := by
 unfold f103_ok f103t
 try dsimp only
 infer_instance
def f103_spec : Am.Spec := fnSpec [(0, (.val T48))] (.val T48) [] (fun x => f103_ok x.1) (fun x => f103 x.1) (fun _ => ())
def f103_ctx : Ctx := Cx tys [(115, f115_spec), (116, f116_spec)] [] [] false 22 [] []
theorem f103_cok : CtxOk Tryz.prog f103_ctx := ctxOk_mk tys_ok rfl ⟨f115_is, f116_is, trivial⟩ rfl (by kernel_rfl)
theorem f103_is : SpecOk Tryz.prog 103 f103_spec := fgen f103_cok mixed Tryz.func103 (by kernel_rfl) (bs := []) (by kernel_rfl) trivial fun x => by kernel_rfl

-- imageeditor/affine.Check
def f84t (p0 : D48) : Prop × Int :=
 ((f103_ok p0), (bif (!(Ty.eqb T48 p0 (f103 p0))) then (2 : Int) else (0 : Int)))
def f84_ok (p0 : D48) : Prop := (f84t p0).1
def f84 (p0 : D48) : Int := (f84t p0).2
instance (p0 : D48) : Decidable (f84_ok p0) := by
 unfold f84_ok f84t
 try dsimp only
 infer_instance
def f84_spec : Am.Spec := fnSpec [(0, (.val T48))] vI [] (fun x => f84_ok x.1) (fun x => f84 x.1) (fun _ => ())
def f84_ctx : Ctx := Cx tys [(103, f103_spec)] [] [] false 7 [] []
theorem f84_cok : CtxOk Tryz.prog f84_ctx := ctxOk_mk tys_ok rfl ⟨f103_is, trivial⟩ rfl (by kernel_rfl)
theorem f84_is : SpecOk Tryz.prog 84 f84_spec := fgen f84_cok mixed Tryz.func84 (by kernel_rfl) (bs := []) (by kernel_rfl) trivial fun x => by kernel_rfl

-- imageeditor/num.Floor
def f117t (p0 : Int) (p1 : Int) : Prop × Int :=
 let v7 := (p1 == 0)
 let v13 := (bif (p0 == (-9223372036854775808)) then (p1 == (-1)) else false)
 let v16 := (Int.tdiv p0 p1)
 let v27 := (bif ((Int.tmod p0 p1) != 0) then (!(Ty.eqb .bool (decide (p0 < 0)) (decide (p1 < 0)))) else false)
 (((!v7) = true → ((!v13) = true → (p1 ≠ 0 ∧ (InR (Int.tdiv p0 p1) ∧ (p1 ≠ 0 ∧ (v27 = true → InR (v16 - 1))))))), (bif v7 then (0 : Int) else (bif v13 then (9223372036854775807 : Int) else (bif v27 then (v16 - 1) else v16))))
def f117_ok (p0 : Int) (p1 : Int) : Prop := (f117t p0 p1).1
def f117 (p0 : Int) (p1 : Int) : Int := (f117t p0 p1).2
instance (p0 : Int) (p1 : Int) : Decidable (f117_ok p0 p1) := by
 unfold f117_ok f117t
 try dsimp only
 infer_instance
def f117_spec : Am.Spec := fnSpec [(0, vI), (1, vI)] vI [] (fun x => f117_ok x.1 x.2.1) (fun x => f117 x.1 x.2.1) (fun _ => ())
def f117_ctx : Ctx := Cx tys [] [] [] false 31 [] []
theorem f117_cok : CtxOk Tryz.prog f117_ctx := ctxOk_mk tys_ok rfl trivial rfl (by kernel_rfl)
theorem f117_is : SpecOk Tryz.prog 117 f117_spec := fgen f117_cok mixed Tryz.func117 (by kernel_rfl) (bs := []) (by kernel_rfl) trivial fun x => by kernel_rfl

-- imageeditor/num.Div
def f104t (p0 : Int) (p1 : Int) : Prop × Int :=
 let v8 := (p1 == 0)
 let v14 := (bif (p0 == (-9223372036854775808)) then (p1 == (-1)) else false)
 let v17 := (f117 p0 p1)
 let v21 := (p1 * v17)
 let v22 := (p0 - v21)
 let v24 := (decide (p1 > 0))
 let v31 := (bif v24 then (decide (v22 ≥ (p1 - v22))) else false)
 let v34 := (decide (p1 < 0))
 let v42 := (bif v31 then true else (bif v34 then (decide (v22 ≤ (p1 - v22))) else false))
 (((!v8) = true → ((!v14) = true → ((f117_ok p0 p1) ∧ (InR (p1 * v17) ∧ (InR (p0 - v21) ∧ ((v24 = true → InR (p1 - v22)) ∧ ((((!v31) && v34) = true → InR (p1 - v22)) ∧ (v42 = true → InR (v17 + 1))))))))), (bif v8 then (0 : Int) else (bif v14 then (9223372036854775807 : Int) else (bif v42 then (v17 + 1) else v17))))
def f104_ok (p0 : Int) (p1 : Int) : Prop := (f104t p0 p1).1
def f104 (p0 : Int) (p1 : Int) : Int := (f104t p0 p1).2
instance (p0 : Int) (p1 : Int) : Decidable (f104_ok p0 p1) := by
 unfold f104_ok f104t
 try dsimp only
 infer_instance
def f104_spec : Am.Spec := fnSpec [(0, vI), (1, vI)] vI [] (fun x => f104_ok x.1 x.2.1) (fun x => f104 x.1 x.2.1) (fun _ => ())
def f104_ctx : Ctx := Cx tys [(117, f117_spec)] [] [] false 46 [] []
theorem f104_cok : CtxOk Tryz.prog f104_ctx := ctxOk_mk tys_ok rfl ⟨f117_is, trivial⟩ rfl (by kernel_rfl)
theorem f104_is : SpecOk Tryz.prog 104 f104_spec := fgen f104_cok mixed Tryz.func104 (by kernel_rfl) (bs := []) (by kernel_rfl) trivial fun x => by kernel_rfl

-- imageeditor/affine.dot
def f105t (p0 : Int) (p1 : Int) (p2 : Int) (p3 : Int) : Prop × Int :=
 let v12 := (f117 p1 (65536 : Int))
 let v14 := (f117 p3 (65536 : Int))
 let v17 := (p0 * v12)
 let v20 := (p2 * v14)
 let v21 := (v17 + v20)
 let v25 := (v12 * 65536)
 let v26 := (p1 - v25)
 let v27 := (p0 * v26)
 let v31 := (v14 * 65536)
 let v32 := (p3 - v31)
 let v33 := (p2 * v32)
 let v34 := (v27 + v33)
 let v35 := (f104 v34 (65536 : Int))
 (((f117_ok p1 (65536 : Int)) ∧ ((f117_ok p3 (65536 : Int)) ∧ (InR (p0 * v12) ∧ (InR (p2 * v14) ∧ (InR (v17 + v20) ∧ (InR (v12 * 65536) ∧ (InR (p1 - v25) ∧ (InR (p0 * v26) ∧ (InR (v14 * 65536) ∧ (InR (p3 - v31) ∧ (InR (p2 * v32) ∧ (InR (v27 + v33) ∧ ((f104_ok v34 (65536 : Int)) ∧ InR (v21 + v35)))))))))))))), (v21 + v35))
def f105_ok (p0 : Int) (p1 : Int) (p2 : Int) (p3 : Int) : Prop := (f105t p0 p1 p2 p3).1
def f105 (p0 : Int) (p1 : Int) (p2 : Int) (p3 : Int) : Int := (f105t p0 p1 p2 p3).2
instance (p0 : Int) (p1 : Int) (p2 : Int) (p3 : Int) : Decidable (f105_ok p0 p1 p2 p3) := by
 unfold f105_ok f105t
 try dsimp only
 infer_instance
def f105_spec : Am.Spec := fnSpec [(0, vI), (1, vI), (2, vI), (3, vI)] vI [] (fun x => f105_ok x.1 x.2.1 x.2.2.1 x.2.2.2.1) (fun x => f105 x.1 x.2.1 x.2.2.1 x.2.2.2.1) (fun _ => ())
def f105_ctx : Ctx := Cx tys [(104, f104_spec), (117, f117_spec)] [] [] false 37 [] []
theorem f105_cok : CtxOk Tryz.prog f105_ctx := ctxOk_mk tys_ok rfl ⟨f104_is, f117_is, trivial⟩ rfl (by kernel_rfl)
theorem f105_is : SpecOk Tryz.prog 105 f105_spec := fgen f105_cok mixed Tryz.func105 (by kernel_rfl) (bs := []) (by kernel_rfl) trivial fun x => by kernel_rfl

-- imageeditor/affine.Inverse
def f85t (p0 : D48) : Prop × (D48 × Int × Unit) :=
 let v8 := (f84 p0)
 let v10 := (v8 != 0)
 let v17 := (p0.1 * p0.2.2.2.1)
 let v22 := (p0.2.1 * p0.2.2.1)
 let v23 := (v17 - v22)
 let v25 := (v23 == 0)
 let v29 := (p0.2.2.2.1 * 4294967296)
 let v31 := (f104 v29 v23)
 let v34 := (Int.sub 0 p0.2.1)
 let v35 := (v34 * 4294967296)
 let v37 := (f104 v35 v23)
 let v40 := (Int.sub 0 p0.2.2.1)
 let v41 := (v40 * 4294967296)
 let v43 := (f104 v41 v23)
 let v46 := (p0.1 * 4294967296)
 let v48 := (f104 v46 v23)
 let s_2 := (v31, v37, v43, v48, (0 : Int), (0 : Int), ())
 let v52 := ((f84 s_2) != 0)
 let v56 := (Int.sub 0 v31)
 let v61 := (Int.sub 0 v43)
 let v68 := (Int.sub 0 v37)
 let v73 := (Int.sub 0 v48)
 let s_5 := (v31, v37, v43, v48, (f105 v56 p0.2.2.2.2.1 v61 p0.2.2.2.2.2.1), (f105 v68 p0.2.2.2.2.1 v73 p0.2.2.2.2.2.1), ())
 let v80 := ((f84 s_5) != 0)
 let m2_2 := (bif v25 then ((0 : Int), (0 : Int), (0 : Int), (0 : Int), (0 : Int), (0 : Int), ()) else (bif v52 then ((0 : Int), (0 : Int), (0 : Int), (0 : Int), (0 : Int), (0 : Int), ()) else (bif v80 then ((0 : Int), (0 : Int), (0 : Int), (0 : Int), (0 : Int), (0 : Int), ()) else s_5)))
 (((f84_ok p0) ∧ ((!v10) = true → (InR (p0.1 * p0.2.2.2.1) ∧ (InR (p0.2.1 * p0.2.2.1) ∧ (InR (v17 - v22) ∧ ((!v25) = true → (InR (p0.2.2.2.1 * 4294967296) ∧ ((f104_ok v29 v23) ∧ (InR (Int.sub 0 p0.2.1) ∧ (InR (v34 * 4294967296) ∧ ((f104_ok v35 v23) ∧ (InR (Int.sub 0 p0.2.2.1) ∧ (InR (v40 * 4294967296) ∧ ((f104_ok v41 v23) ∧ (InR (p0.1 * 4294967296) ∧ ((f104_ok v46 v23) ∧ ((f84_ok s_2) ∧ ((!v52) = true → (InR (Int.sub 0 v31) ∧ (InR (Int.sub 0 v43) ∧ ((f105_ok v56 p0.2.2.2.2.1 v61 p0.2.2.2.2.2.1) ∧ (InR (Int.sub 0 v37) ∧ (InR (Int.sub 0 v48) ∧ ((f105_ok v68 p0.2.2.2.2.1 v73 p0.2.2.2.2.2.1) ∧ (f84_ok s_5))))))))))))))))))))))))), ((bif v10 then ((0 : Int), (0 : Int), (0 : Int), (0 : Int), (0 : Int), (0 : Int), ()) else m2_2), (bif v10 then v8 else (bif v25 then (17 : Int) else (bif v52 then (17 : Int) else (bif v80 then (17 : Int) else (0 : Int))))), ()))
def f85_ok (p0 : D48) : Prop := (f85t p0).1
def f85 (p0 : D48) : (D48 × Int × Unit) := (f85t p0).2
instance (p0 : D48) : Decidable (f85_ok p0) := by
 unfold f85_ok f85t
 try dsimp only
 infer_instance
def f85_spec : Am.Spec := fnSpec [(0, (.val T48))] (.tup (.cons (.val T48) (.cons vI .nl))) [] (fun x => f85_ok x.1) (fun x => f85 x.1) (fun _ => ())
def f85_ctx : Ctx := Cx tys [(84, f84_spec), (104, f104_spec), (105, f105_spec)] [] [] false 83 [] []
theorem f85_cok : CtxOk Tryz.prog f85_ctx := ctxOk_mk tys_ok rfl ⟨f84_is, f104_is, f105_is, trivial⟩ rfl (by kernel_rfl)
theorem f85_is : SpecOk Tryz.prog 85 f85_spec := fgen f85_cok mixed Tryz.func85 (by kernel_rfl) (bs := []) (by kernel_rfl) trivial fun x => by kernel_rfl

-- imageeditor/node.resampled
def f86t (p0 : Int) : Prop × Bool :=
 let v5 := (p0 == 2)
 let v6 := (p0 == 9)
 let v7 := (p0 == 10)
 (True, (bif (bif v5 then v5 else (bif v6 then v6 else (bif v7 then v7 else (p0 == 11)))) then true else false))
def f86_ok (p0 : Int) : Prop := (f86t p0).1
def f86 (p0 : Int) : Bool := (f86t p0).2
instance (p0 : Int) : Decidable (f86_ok p0) := by
 unfold f86_ok f86t
 try dsimp only
 infer_instance
def f86_spec : Am.Spec := fnSpec [(0, vI)] vB [] (fun x => f86_ok x.1) (fun x => f86 x.1) (fun _ => ())
def f86_ctx : Ctx := Cx tys [] [] [] false 9 [] []
theorem f86_cok : CtxOk Tryz.prog f86_ctx := ctxOk_mk tys_ok rfl trivial rfl (by kernel_rfl)
theorem f86_is : SpecOk Tryz.prog 86 f86_spec := fgen f86_cok mixed Tryz.func86 (by kernel_rfl) (bs := []) (by kernel_rfl) trivial fun x => by kernel_rfl

-- imageeditor/kernel.Valid
def f87t (p0 : Int) : Prop × Bool :=
 (True, (bif (decide (p0 ≥ 0)) then (decide (p0 ≤ 4)) else false))
def f87_ok (p0 : Int) : Prop := (f87t p0).1
def f87 (p0 : Int) : Bool := (f87t p0).2
instance (p0 : Int) : Decidable (f87_ok p0) := by
 unfold f87_ok f87t
 try dsimp only
 infer_instance
def f87_spec : Am.Spec := fnSpec [(0, vI)] vB [] (fun x => f87_ok x.1) (fun x => f87 x.1) (fun _ => ())
def f87_ctx : Ctx := Cx tys [] [] [] false 9 [] []
theorem f87_cok : CtxOk Tryz.prog f87_ctx := ctxOk_mk tys_ok rfl trivial rfl (by kernel_rfl)
theorem f87_is : SpecOk Tryz.prog 87 f87_spec := fgen f87_cok mixed Tryz.func87 (by kernel_rfl) (bs := []) (by kernel_rfl) trivial fun x => by kernel_rfl

-- imageeditor/raster.sized
def f91t (p0 : Int) (p1 : Int) : Prop × Bool :=
 (True, (bif (bif (bif (bif (decide (p0 ≥ 0)) then (decide (p0 ≤ 256)) else false) then (decide (p1 ≥ 0)) else false) then (decide (p1 ≤ 256)) else false) then (Ty.eqb .bool (p0 == 0) (p1 == 0)) else false))
def f91_ok (p0 : Int) (p1 : Int) : Prop := (f91t p0 p1).1
def f91 (p0 : Int) (p1 : Int) : Bool := (f91t p0 p1).2
instance (p0 : Int) (p1 : Int) : Decidable (f91_ok p0 p1) := by
 unfold f91_ok f91t
 try dsimp only
 infer_instance
def f91_spec : Am.Spec := fnSpec [(0, vI), (1, vI)] vB [] (fun x => f91_ok x.1 x.2.1) (fun x => f91 x.1 x.2.1) (fun _ => ())
def f91_ctx : Ctx := Cx tys [] [] [] false 26 [] []
theorem f91_cok : CtxOk Tryz.prog f91_ctx := ctxOk_mk tys_ok rfl trivial rfl (by kernel_rfl)
theorem f91_is : SpecOk Tryz.prog 91 f91_spec := fgen f91_cok mixed Tryz.func91 (by kernel_rfl) (bs := []) (by kernel_rfl) trivial fun x => by kernel_rfl

-- imageeditor/pixel.unit
def f132t (p0 : Int) : Prop × Int :=
 ((f133_ok p0 (0 : Int) (65535 : Int)), (f133 p0 (0 : Int) (65535 : Int)))
def f132_ok (p0 : Int) : Prop := (f132t p0).1
def f132 (p0 : Int) : Int := (f132t p0).2
instance (p0 : Int) : Decidable (f132_ok p0) := by
 unfold f132_ok f132t
 try dsimp only
 infer_instance
def f132_spec : Am.Spec := fnSpec [(0, vI)] vI [] (fun x => f132_ok x.1) (fun x => f132 x.1) (fun _ => ())
def f132_ctx : Ctx := Cx tys [(133, f133_spec)] [] [] false 5 [] []
theorem f132_cok : CtxOk Tryz.prog f132_ctx := ctxOk_mk tys_ok rfl ⟨f133_is, trivial⟩ rfl (by kernel_rfl)
theorem f132_is : SpecOk Tryz.prog 132 f132_spec := fgen f132_cok mixed Tryz.func132 (by kernel_rfl) (bs := []) (by kernel_rfl) trivial fun x => by kernel_rfl

-- imageeditor/pixel.Limit
def f113t (p0 : D22) : Prop × D22 :=
 (((f132_ok p0.1) ∧ ((f132_ok p0.2.1) ∧ ((f132_ok p0.2.2.1) ∧ (f132_ok p0.2.2.2.1)))), ((f132 p0.1), (f132 p0.2.1), (f132 p0.2.2.1), (f132 p0.2.2.2.1), ()))
def f113_ok (p0 : D22) : Prop := (f113t p0).1
def f113 (p0 : D22) : D22 := (f113t p0).2
instance (p0 : D22) : Decidable (f113_ok p0) := by
 unfold f113_ok f113t
 try dsimp only
 infer_instance
def f113_spec : Am.Spec := fnSpec [(0, (.val T22))] (.val T22) [] (fun x => f113_ok x.1) (fun x => f113 x.1) (fun _ => ())
def f113_ctx : Ctx := Cx tys [(132, f132_spec)] [] [] false 16 [] []
theorem f113_cok : CtxOk Tryz.prog f113_ctx := ctxOk_mk tys_ok rfl ⟨f132_is, trivial⟩ rfl (by kernel_rfl)
theorem f113_is : SpecOk Tryz.prog 113 f113_spec := fgen f113_cok mixed Tryz.func113 (by kernel_rfl) (bs := []) (by kernel_rfl) trivial fun x => by kernel_rfl

-- imageeditor/pixel.Valid
def f92t (p0 : D22) : Prop × Bool :=
 ((f113_ok p0), (Ty.eqb T22 p0 (f113 p0)))
def f92_ok (p0 : D22) : Prop := (f92t p0).1
def f92 (p0 : D22) : Bool := (f92t p0).2
instance (p0 : D22) : Decidable (f92_ok p0) := by
 unfold f92_ok f92t
 try dsimp only
 infer_instance
def f92_spec : Am.Spec := fnSpec [(0, (.val T22))] vB [] (fun x => f92_ok x.1) (fun x => f92 x.1) (fun _ => ())
def f92_ctx : Ctx := Cx tys [(113, f113_spec)] [] [] false 7 [] []
theorem f92_cok : CtxOk Tryz.prog f92_ctx := ctxOk_mk tys_ok rfl ⟨f113_is, trivial⟩ rfl (by kernel_rfl)
theorem f92_is : SpecOk Tryz.prog 92 f92_spec := fgen f92_cok mixed Tryz.func92 (by kernel_rfl) (bs := []) (by kernel_rfl) trivial fun x => by kernel_rfl

-- imageeditor/raster.Check
abbrev f74_L4_Y : Type := ((List D22) × Int × Unit)
abbrev f74_L4_X : Type := (Int × Unit)
def f74_L4t (y : f74_L4_Y) (x : f74_L4_X) : Prop × Bool × f74_L4_X × Bool × Bool :=
 let a23 := y.1 
 let a25 := x.1 
 let v26 := (decide (a25 < y.2.1))
 let v27 := (nth a23 a25 Z22)
 let v31 := (!(f92 v27))
 ((v26 = true → (InB a25 (len a23) ∧ ((f92_ok v27) ∧ ((!v31) = true → InR (a25 + 1))))), (v26 && (!v31)), ((a25 + 1), ()), (v26 && v31), (!v26))
def f74_L4_ok (y : f74_L4_Y) (x : f74_L4_X) : Prop := (f74_L4t y x).1
def f74_L4_g (y : f74_L4_Y) (x : f74_L4_X) : Bool := (f74_L4t y x).2.1
def f74_L4_next (y : f74_L4_Y) (x : f74_L4_X) : f74_L4_X := (f74_L4t y x).2.2.1
def f74_L4_e1 (y : f74_L4_Y) (x : f74_L4_X) : Bool := (f74_L4t y x).2.2.2.1
def f74_L4_e2 (y : f74_L4_Y) (x : f74_L4_X) : Bool := (f74_L4t y x).2.2.2.2
instance (y : f74_L4_Y) (x : f74_L4_X) : Decidable (f74_L4_ok y x) := by
 unfold f74_L4_ok f74_L4t
 try dsimp only
 infer_instance
def f74_L4_x1_0 (y : f74_L4_Y) (x : f74_L4_X) : Int :=
 (2 : Int)
def f74_L4_spec : St → Option Out := loopS [(23, (.val (.sl T22))), (24, vI)] [(25, vI)] f74_L4_g f74_L4_next f74_L4_ok fun y x => [ex 1 (some (f74_L4_e1 y x)) [(2, vI)] ((f74_L4_x1_0 y x), ()), ex 2 (some (f74_L4_e2 y x)) [] ()]
def f74t (p0 : D51) : Prop × Int :=
 let v10 := (!(f91 p0.1 p0.2.1))
 let v21 := (bif v10 then true else ((len p0.2.2.1) != (p0.1 * p0.2.1)))
 let y4 := (p0.2.2.1, (len p0.2.2.1), ())
 let x4 := ((0 : Int), ())
 let e4 := (loopEnd (f74_L4_g y4) (f74_L4_next y4) x4)
 (((f91_ok p0.1 p0.2.1) ∧ (((!v10) = true → InR (p0.1 * p0.2.1)) ∧ ((!v21) = true → (Am.Ends (f74_L4_g y4) (f74_L4_next y4) (f74_L4_ok y4) x4)))), (bif v21 then (15 : Int) else (bif (f74_L4_e1 y4 e4) then (f74_L4_x1_0 y4 e4) else (0 : Int))))
def f74_ok (p0 : D51) : Prop := (f74t p0).1
def f74 (p0 : D51) : Int := (f74t p0).2
instance (p0 : D51) : Decidable (f74_ok p0) := by
 unfold f74_ok f74t
 try dsimp only
 infer_instance
def f74_spec : Am.Spec := fnSpec [(0, (.val T51))] vI [] (fun x => f74_ok x.1) (fun x => f74 x.1) (fun _ => ())
def f74_ctx : Ctx := Cx tys [(91, f91_spec), (92, f92_spec)] [(4, f74_L4_spec)] [] false 33 [] []
theorem f74_cok : CtxOk Tryz.prog f74_ctx := ctxOk_mk tys_ok rfl ⟨f91_is, f92_is, trivial⟩ rfl (by kernel_rfl)
noncomputable def f74_code : Code := Tryz.f74.body.getD .skip
noncomputable def f74_L4 : Code := nthLoop f74_code 0
theorem f74_L4_is : LoopSnd Tryz.prog f74_ctx f74_L4 := lgen f74_cok mixed (sp := f74_L4_spec) rfl [[(2, vI)], []] (bs := []) (by kernel_rfl) trivial (by kernel_rfl) (by kernel_rfl) fun y x => by kernel_rfl
theorem f74_is : SpecOk Tryz.prog 74 f74_spec := fgen f74_cok mixed Tryz.func74 (by kernel_rfl) (bs := [f74_L4]) (by kernel_rfl) ⟨f74_L4_is, trivial⟩ fun x => by kernel_rfl

-- imageeditor/node.checkColor
def f106t (p0 : D22) : Prop × Int :=
 ((f92_ok p0), (bif (!(f92 p0)) then (2 : Int) else (0 : Int)))
def f106_ok (p0 : D22) : Prop := (f106t p0).1
def f106 (p0 : D22) : Int := (f106t p0).2
instance (p0 : D22) : Decidable (f106_ok p0) := by
 unfold f106_ok f106t
 try dsimp only
 infer_instance
def f106_spec : Am.Spec := fnSpec [(0, (.val T22))] vI [] (fun x => f106_ok x.1) (fun x => f106 x.1) (fun _ => ())
def f106_ctx : Ctx := Cx tys [(92, f92_spec)] [] [] false 6 [] []
theorem f106_cok : CtxOk Tryz.prog f106_ctx := ctxOk_mk tys_ok rfl ⟨f92_is, trivial⟩ rfl (by kernel_rfl)
theorem f106_is : SpecOk Tryz.prog 106 f106_spec := fgen f106_cok mixed Tryz.func106 (by kernel_rfl) (bs := []) (by kernel_rfl) trivial fun x => by kernel_rfl

-- imageeditor/gradient.counted
def f134t (p0 : Int) (p1 : Int) : Prop × Bool :=
 (True, (bif (p0 == 1) then (p1 == 4) else (p1 == 3)))
def f134_ok (p0 : Int) (p1 : Int) : Prop := (f134t p0 p1).1
def f134 (p0 : Int) (p1 : Int) : Bool := (f134t p0 p1).2
instance (p0 : Int) (p1 : Int) : Decidable (f134_ok p0 p1) := by
 unfold f134_ok f134t
 try dsimp only
 infer_instance
def f134_spec : Am.Spec := fnSpec [(0, vI), (1, vI)] vB [] (fun x => f134_ok x.1 x.2.1) (fun x => f134 x.1 x.2.1) (fun _ => ())
def f134_ctx : Ctx := Cx tys [] [] [] false 11 [] []
theorem f134_cok : CtxOk Tryz.prog f134_ctx := ctxOk_mk tys_ok rfl trivial rfl (by kernel_rfl)
theorem f134_is : SpecOk Tryz.prog 134 f134_spec := fgen f134_cok mixed Tryz.func134 (by kernel_rfl) (bs := []) (by kernel_rfl) trivial fun x => by kernel_rfl

-- imageeditor/gradient.checkParams
abbrev f118_L8_Y : Type := (Int × (List Int) × (List Int) × Int × Unit)
abbrev f118_L8_X : Type := (Int × Unit)
def f118_L8t (y : f118_L8_Y) (x : f118_L8_X) : Prop × Bool × f118_L8_X × Bool × Bool :=
 let a36 := y.2.2.1 
 let a38 := x.1 
 let v39 := (decide (a38 < y.2.2.2.1))
 let v40 := (nth a36 a38 (0 : Int))
 let v47 := (bif (decide (v40 < (-1048576))) then true else (decide (v40 > 1048576)))
 ((v39 = true → (InB a38 (len a36) ∧ ((!v47) = true → InR (a38 + 1)))), (v39 && (!v47)), ((a38 + 1), ()), (v39 && v47), (!v39))
def f118_L8_ok (y : f118_L8_Y) (x : f118_L8_X) : Prop := (f118_L8t y x).1
def f118_L8_g (y : f118_L8_Y) (x : f118_L8_X) : Bool := (f118_L8t y x).2.1
def f118_L8_next (y : f118_L8_Y) (x : f118_L8_X) : f118_L8_X := (f118_L8t y x).2.2.1
def f118_L8_e1 (y : f118_L8_Y) (x : f118_L8_X) : Bool := (f118_L8t y x).2.2.2.1
def f118_L8_e2 (y : f118_L8_Y) (x : f118_L8_X) : Bool := (f118_L8t y x).2.2.2.2
instance (y : f118_L8_Y) (x : f118_L8_X) : Decidable (f118_L8_ok y x) := by
 unfold f118_L8_ok f118_L8t
 try dsimp only
 infer_instance
def f118_L8_x1_0 (y : f118_L8_Y) (x : f118_L8_X) : Int :=
 (2 : Int)
def f118_L8_l2 : List (Nat × Sh) := [(0, vI), (1, (.val (.sl (.int .i64))))]
def f118_L8_spec : St → Option Out := loopS [(0, vI), (1, (.val (.sl (.int .i64)))), (36, (.val (.sl (.int .i64)))), (37, vI)] [(38, vI)] f118_L8_g f118_L8_next f118_L8_ok fun y x => [ex 1 (some (f118_L8_e1 y x)) [(8, vI)] ((f118_L8_x1_0 y x), ()), ex 2 (some (f118_L8_e2 y x)) f118_L8_l2 (y.1, y.2.1, ())]
def f118t (p0 : Int) (p1 : (List Int)) (p2 : Int) (p3 : Int) : Prop × Int :=
 let v24 := (bif (bif (bif (decide (p0 < 1)) then true else (decide (p0 > 4))) then true else (decide (p2 < 0))) then true else (decide (p2 > 2)))
 let v27 := (len p1)
 let v33 := (bif (!(f134 p0 v27)) then true else (p3 == 0))
 let v35 := (decide (p3 > 16))
 let y8 := (p0, p1, p1, (len p1), ())
 let x8 := ((0 : Int), ())
 let e8 := (loopEnd (f118_L8_g y8) (f118_L8_next y8) x8)
 let v54 := (bif (p0 == 2) then true else (p0 == 4))
 let m8_3 := (bif v33 then (1 : Int) else (bif v35 then (3 : Int) else (bif (f118_L8_e1 y8 e8) then (f118_L8_x1_0 y8 e8) else (bif (bif v54 then (decide ((nth p1 (2 : Int) (0 : Int)) < 0)) else false) then (2 : Int) else (0 : Int)))))
 (((!v24) = true → ((f134_ok p0 v27) ∧ ((!v33) = true → ((!v35) = true → ((Am.Ends (f118_L8_g y8) (f118_L8_next y8) (f118_L8_ok y8) x8) ∧ ((f118_L8_e2 y8 e8) = true → (v54 = true → InB (2 : Int) (len p1)))))))), (bif v24 then (8 : Int) else m8_3))
def f118_ok (p0 : Int) (p1 : (List Int)) (p2 : Int) (p3 : Int) : Prop := (f118t p0 p1 p2 p3).1
def f118 (p0 : Int) (p1 : (List Int)) (p2 : Int) (p3 : Int) : Int := (f118t p0 p1 p2 p3).2
instance (p0 : Int) (p1 : (List Int)) (p2 : Int) (p3 : Int) : Decidable (f118_ok p0 p1 p2 p3) := by
 unfold f118_ok f118t
 try dsimp only
 infer_instance
def f118_spec : Am.Spec := fnSpec [(0, vI), (1, (.val (.sl (.int .i64)))), (2, vI), (3, vI)] vI [] (fun x => f118_ok x.1 x.2.1 x.2.2.1 x.2.2.2.1) (fun x => f118 x.1 x.2.1 x.2.2.1 x.2.2.2.1) (fun _ => ())
def f118_ctx : Ctx := Cx tys [(134, f134_spec)] [(8, f118_L8_spec)] [] false 61 [] []
theorem f118_cok : CtxOk Tryz.prog f118_ctx := ctxOk_mk tys_ok rfl ⟨f134_is, trivial⟩ rfl (by kernel_rfl)
noncomputable def f118_code : Code := Tryz.f118.body.getD .skip
noncomputable def f118_L8 : Code := nthLoop f118_code 0
theorem f118_L8_is : LoopSnd Tryz.prog f118_ctx f118_L8 := lgen f118_cok mixed (sp := f118_L8_spec) rfl [[(8, vI)], f118_L8_l2] (bs := []) (by kernel_rfl) trivial (by kernel_rfl) (by kernel_rfl) fun y x => by kernel_rfl
theorem f118_is : SpecOk Tryz.prog 118 f118_spec := fgen f118_cok mixed Tryz.func118 (by kernel_rfl) (bs := [f118_L8]) (by kernel_rfl) ⟨f118_L8_is, trivial⟩ fun x => by kernel_rfl

-- imageeditor/gradient.checkStops
abbrev f119_L2_Y : Type := ((List D88) × (List D88) × Int × Unit)
abbrev f119_L2_X : Type := (Int × Unit)
def f119_L2t (y : f119_L2_Y) (x : f119_L2_X) : Prop × Bool × f119_L2_X × Bool × Bool :=
 let a0 := y.1 
 let a5 := y.2.1 
 let a7 := x.1 
 let v8 := (decide (a7 < y.2.2.1))
 let v10 := (nth a5 a7 Z88)
 let v19 := (bif (decide (v10.1 < 0)) then true else (decide (v10.1 > 65535)))
 let v25 := (bif v19 then true else (!(f92 v10.2.1)))
 let v27 := (decide (a7 > 0))
 let v33 := (a7 - 1)
 let v38 := (bif v27 then (decide (v10.1 ≤ (nth a0 v33 Z88).1)) else false)
 let c_2 := ((!v25) && (!v38))
 ((v8 = true → (InB a7 (len a5) ∧ (((!v19) = true → (f92_ok v10.2.1)) ∧ (((!v25) = true → ((v27 = true → InR (a7 - 1)) ∧ (v27 = true → InB v33 (len a0)))) ∧ (c_2 = true → InR (a7 + 1)))))), (v8 && c_2), ((a7 + 1), ()), (v8 && (v25 || ((!v25) && v38))), (!v8))
def f119_L2_ok (y : f119_L2_Y) (x : f119_L2_X) : Prop := (f119_L2t y x).1
def f119_L2_g (y : f119_L2_Y) (x : f119_L2_X) : Bool := (f119_L2t y x).2.1
def f119_L2_next (y : f119_L2_Y) (x : f119_L2_X) : f119_L2_X := (f119_L2t y x).2.2.1
def f119_L2_e1 (y : f119_L2_Y) (x : f119_L2_X) : Bool := (f119_L2t y x).2.2.2.1
def f119_L2_e2 (y : f119_L2_Y) (x : f119_L2_X) : Bool := (f119_L2t y x).2.2.2.2
instance (y : f119_L2_Y) (x : f119_L2_X) : Decidable (f119_L2_ok y x) := by
 unfold f119_L2_ok f119_L2t
 try dsimp only
 infer_instance
def f119_L2_x1_0 (y : f119_L2_Y) (x : f119_L2_X) : Int :=
 let v10 := (nth y.2.1 x.1 Z88)
 (bif (bif (bif (decide (v10.1 < 0)) then true else (decide (v10.1 > 65535))) then true else (!(f92 v10.2.1))) then (2 : Int) else (24 : Int))
def f119_L2_spec : St → Option Out := loopS [(0, (.val (.sl T88))), (5, (.val (.sl T88))), (6, vI)] [(7, vI)] f119_L2_g f119_L2_next f119_L2_ok fun y x => [ex 1 (some (f119_L2_e1 y x)) [(2, vI)] ((f119_L2_x1_0 y x), ()), ex 2 (some (f119_L2_e2 y x)) [] ()]
def f119t (p0 : (List D88)) : Prop × Int :=
 let y2 := (p0, p0, (len p0), ())
 let x2 := ((0 : Int), ())
 let e2 := (loopEnd (f119_L2_g y2) (f119_L2_next y2) x2)
 ((Am.Ends (f119_L2_g y2) (f119_L2_next y2) (f119_L2_ok y2) x2), (bif (f119_L2_e1 y2 e2) then (f119_L2_x1_0 y2 e2) else (0 : Int)))
def f119_ok (p0 : (List D88)) : Prop := (f119t p0).1
def f119 (p0 : (List D88)) : Int := (f119t p0).2
instance (p0 : (List D88)) : Decidable (f119_ok p0) := by
 unfold f119_ok f119t
 try dsimp only
 infer_instance
def f119_spec : Am.Spec := fnSpec [(0, (.val (.sl T88)))] vI [] (fun x => f119_ok x.1) (fun x => f119 x.1) (fun _ => ())
def f119_ctx : Ctx := Cx tys [(92, f92_spec)] [(2, f119_L2_spec)] [] false 40 [] []
theorem f119_cok : CtxOk Tryz.prog f119_ctx := ctxOk_mk tys_ok rfl ⟨f92_is, trivial⟩ rfl (by kernel_rfl)
noncomputable def f119_code : Code := Tryz.f119.body.getD .skip
noncomputable def f119_L2 : Code := nthLoop f119_code 0
theorem f119_L2_is : LoopSnd Tryz.prog f119_ctx f119_L2 := lgen f119_cok mixed (sp := f119_L2_spec) rfl [[(2, vI)], []] (bs := []) (by kernel_rfl) trivial (by kernel_rfl) (by kernel_rfl) fun y x => by kernel_rfl
theorem f119_is : SpecOk Tryz.prog 119 f119_spec := fgen f119_cok mixed Tryz.func119 (by kernel_rfl) (bs := [f119_L2]) (by kernel_rfl) ⟨f119_L2_is, trivial⟩ fun x => by kernel_rfl

-- imageeditor/gradient.Check
def f107t (p0 : Int) (p1 : (List Int)) (p2 : Int) (p3 : (List D88)) : Prop × Int :=
 let v14 := (len p3)
 let v15 := (f118 p0 p1 p2 v14)
 let v17 := (v15 != 0)
 (((f118_ok p0 p1 p2 v14) ∧ ((!v17) = true → (f119_ok p3))), (bif v17 then v15 else (f119 p3)))
def f107_ok (p0 : Int) (p1 : (List Int)) (p2 : Int) (p3 : (List D88)) : Prop := (f107t p0 p1 p2 p3).1
def f107 (p0 : Int) (p1 : (List Int)) (p2 : Int) (p3 : (List D88)) : Int := (f107t p0 p1 p2 p3).2
instance (p0 : Int) (p1 : (List Int)) (p2 : Int) (p3 : (List D88)) : Decidable (f107_ok p0 p1 p2 p3) := by
 unfold f107_ok f107t
 try dsimp only
 infer_instance
def f107_spec : Am.Spec := fnSpec [(0, vI), (1, (.val (.sl (.int .i64)))), (2, vI), (3, (.val (.sl T88)))] vI [] (fun x => f107_ok x.1 x.2.1 x.2.2.1 x.2.2.2.1) (fun x => f107 x.1 x.2.1 x.2.2.1 x.2.2.2.1) (fun _ => ())
def f107_ctx : Ctx := Cx tys [(118, f118_spec), (119, f119_spec)] [] [] false 21 [] []
theorem f107_cok : CtxOk Tryz.prog f107_ctx := ctxOk_mk tys_ok rfl ⟨f118_is, f119_is, trivial⟩ rfl (by kernel_rfl)
theorem f107_is : SpecOk Tryz.prog 107 f107_spec := fgen f107_cok mixed Tryz.func107 (by kernel_rfl) (bs := []) (by kernel_rfl) trivial fun x => by kernel_rfl

-- never called: imageeditor/node.checkPath
def f108 (_p0 : D60) : Int := (0 : Int)
def f108_ok (_p0 : D60) : Prop := False
instance (_p0 : D60) : Decidable (f108_ok _p0) := by
  unfold f108_ok
  infer_instance
def f108_ps : List (Nat × Sh) := [(0, (.val T60))]
def f108_rs : Sh := vI
def f108_os : List (Nat × Sh) := []
def f108_spec : Am.Spec := fnSpec f108_ps f108_rs f108_os (fun x => f108_ok x.1) (fun x => f108 x.1) (fun _ => ())
theorem f108_is : SpecOk Tryz.prog 108 f108_spec := func_never Tryz.func108 (by kernel_rfl) (by decide)

-- never called: imageeditor/node.checkText
def f109 (_p0 : D60) : Int := (0 : Int)
def f109_ok (_p0 : D60) : Prop := False
instance (_p0 : D60) : Decidable (f109_ok _p0) := by
  unfold f109_ok
  infer_instance
def f109_ps : List (Nat × Sh) := [(0, (.val T60))]
def f109_rs : Sh := vI
def f109_os : List (Nat × Sh) := []
def f109_spec : Am.Spec := fnSpec f109_ps f109_rs f109_os (fun x => f109_ok x.1) (fun x => f109 x.1) (fun _ => ())
theorem f109_is : SpecOk Tryz.prog 109 f109_spec := func_never Tryz.func109 (by kernel_rfl) (by decide)

-- imageeditor/adjust.counted
def f128t (p0 : Int) (p1 : Int) : Prop × Bool :=
 let v7 := (p0 == 2)
 let v11 := (p0 == 3)
 let v24 := (p0 == 4)
 let m23 := (bif v24 then v24 else (p0 == 11))
 let v29 := (p0 == 5)
 let m28 := (bif v29 then v29 else (p0 == 9))
 let v34 := (p0 == 6)
 let m33 := (bif v34 then v34 else (p0 == 7))
 let m4_3 := (bif v11 then (bif (bif (decide (p1 ≥ 4)) then (decide (p1 ≤ 16)) else false) then ((Int.tmod p1 (2 : Int)) == 0) else false) else (bif m23 then (p1 == 2) else (bif m28 then (p1 == 3) else (bif m33 then (p1 == 1) else (p1 == 9)))))
 (True, (bif (bif v7 then true else (bif v11 then true else (bif m23 then true else (bif m28 then true else (bif m33 then true else (p0 == 8)))))) then (bif v7 then (p1 == 5) else m4_3) else (p1 == 0)))
def f128_ok (p0 : Int) (p1 : Int) : Prop := (f128t p0 p1).1
def f128 (p0 : Int) (p1 : Int) : Bool := (f128t p0 p1).2
instance (p0 : Int) (p1 : Int) : Decidable (f128_ok p0 p1) := by
 unfold f128_ok f128t
 try dsimp only
 infer_instance
def f128_spec : Am.Spec := fnSpec [(0, vI), (1, vI)] vB [] (fun x => f128_ok x.1 x.2.1) (fun x => f128 x.1 x.2.1) (fun _ => ())
def f128_ctx : Ctx := Cx tys [] [] [] false 44 [] []
theorem f128_cok : CtxOk Tryz.prog f128_ctx := ctxOk_mk tys_ok rfl trivial rfl (by kernel_rfl)
theorem f128_is : SpecOk Tryz.prog 128 f128_spec := fgen f128_cok mixed Tryz.func128 (by kernel_rfl) (bs := []) (by kernel_rfl) trivial fun x => by kernel_rfl

-- imageeditor/adjust.span
def f149t (p0 : Int) (p1 : Int) : Prop × (Int × Int × Unit) :=
 let v12 := (bif (p0 == 2) then (p1 == 2) else false)
 let v15 := (p0 == 4)
 let v21 := (bif (p0 == 5) then (decide (p1 > 0)) else false)
 let m13_1 := (bif v15 then v15 else (bif v21 then v21 else (bif (p0 == 11) then (p1 == 1) else false)))
 let v30 := (p0 == 5)
 let v33 := (p0 == 7)
 let v36 := (p0 == 8)
 let c_8 := (bif v12 then true else (bif m13_1 then true else (bif v30 then true else (bif v33 then true else (bif v36 then true else (p0 == 11))))))
 let m4_5 := (bif c_8 then (bif v12 then (1 : Int) else (bif m13_1 then (-65535 : Int) else (bif v30 then (-32768 : Int) else (bif v33 then (2 : Int) else (bif v36 then (-262140 : Int) else (-128 : Int)))))) else (0 : Int))
 let m5_5 := (bif c_8 then (bif v12 then (256 : Int) else (bif m13_1 then (65535 : Int) else (bif v30 then (32768 : Int) else (bif v33 then (256 : Int) else (bif v36 then (262140 : Int) else (128 : Int)))))) else (65535 : Int))
 (True, (m4_5, m5_5, ()))
def f149_ok (p0 : Int) (p1 : Int) : Prop := (f149t p0 p1).1
def f149 (p0 : Int) (p1 : Int) : (Int × Int × Unit) := (f149t p0 p1).2
instance (p0 : Int) (p1 : Int) : Decidable (f149_ok p0 p1) := by
 unfold f149_ok f149t
 try dsimp only
 infer_instance
def f149_spec : Am.Spec := fnSpec [(0, vI), (1, vI)] (.tup (.cons vI (.cons vI .nl))) [] (fun x => f149_ok x.1 x.2.1) (fun x => f149 x.1 x.2.1) (fun _ => ())
def f149_ctx : Ctx := Cx tys [] [] [] false 40 [] []
theorem f149_cok : CtxOk Tryz.prog f149_ctx := ctxOk_mk tys_ok rfl trivial rfl (by kernel_rfl)
theorem f149_is : SpecOk Tryz.prog 149 f149_spec := fgen f149_cok mixed Tryz.func149 (by kernel_rfl) (bs := []) (by kernel_rfl) trivial fun x => by kernel_rfl

-- imageeditor/adjust.ranged
abbrev f129_L2_Y : Type := (Int × (List Int) × (List D88) × (List Int) × Int × Unit)
abbrev f129_L2_X : Type := (Int × Unit)
def f129_L2t (y : f129_L2_Y) (x : f129_L2_X) : Prop × Bool × f129_L2_X × Bool × Bool :=
 let a0 := y.1 
 let a13 := y.2.2.2.1 
 let a15 := x.1 
 let v16 := (decide (a15 < y.2.2.2.2.1))
 let v18 := (nth a13 a15 (0 : Int))
 let v23 := (f149 a0 a15)
 let v33 := (bif (decide (v18 < v23.1)) then true else (decide (v18 > v23.2.1)))
 ((v16 = true → (InB a15 (len a13) ∧ ((f149_ok a0 a15) ∧ ((!v33) = true → InR (a15 + 1))))), (v16 && (!v33)), ((a15 + 1), ()), (v16 && v33), (!v16))
def f129_L2_ok (y : f129_L2_Y) (x : f129_L2_X) : Prop := (f129_L2t y x).1
def f129_L2_g (y : f129_L2_Y) (x : f129_L2_X) : Bool := (f129_L2t y x).2.1
def f129_L2_next (y : f129_L2_Y) (x : f129_L2_X) : f129_L2_X := (f129_L2t y x).2.2.1
def f129_L2_e1 (y : f129_L2_Y) (x : f129_L2_X) : Bool := (f129_L2t y x).2.2.2.1
def f129_L2_e2 (y : f129_L2_Y) (x : f129_L2_X) : Bool := (f129_L2t y x).2.2.2.2
instance (y : f129_L2_Y) (x : f129_L2_X) : Decidable (f129_L2_ok y x) := by
 unfold f129_L2_ok f129_L2t
 try dsimp only
 infer_instance
def f129_L2_x1_0 (y : f129_L2_Y) (x : f129_L2_X) : Bool :=
 false
def f129_L2_l2 : List (Nat × Sh) := [(0, vI), (1, (.val (.sl (.int .i64)))), (2, (.val (.sl T88)))]
def f129_L2_spec : St → Option Out := loopS [(0, vI), (1, (.val (.sl (.int .i64)))), (2, (.val (.sl T88))), (13, (.val (.sl (.int .i64)))), (14, vI)] [(15, vI)] f129_L2_g f129_L2_next f129_L2_ok fun y x => [ex 1 (some (f129_L2_e1 y x)) [(6, vB)] ((f129_L2_x1_0 y x), ()), ex 2 (some (f129_L2_e2 y x)) f129_L2_l2 (y.1, y.2.1, y.2.2.1, ())]
abbrev f129_L11_Y : Type := ((List D88) × Int × Unit)
abbrev f129_L11_X : Type := (Int × Unit)
def f129_L11t (y : f129_L11_Y) (x : f129_L11_X) : Prop × Bool × f129_L11_X × Bool × Bool :=
 let a55 := y.1 
 let a57 := x.1 
 let v58 := (decide (a57 < y.2.1))
 let v59 := (nth a55 a57 Z88)
 let v68 := (bif (decide (v59.1 < 0)) then true else (decide (v59.1 > 65535)))
 let v74 := (bif v68 then true else (!(f92 v59.2.1)))
 ((v58 = true → (InB a57 (len a55) ∧ (((!v68) = true → (f92_ok v59.2.1)) ∧ ((!v74) = true → InR (a57 + 1))))), (v58 && (!v74)), ((a57 + 1), ()), (v58 && v74), (!v58))
def f129_L11_ok (y : f129_L11_Y) (x : f129_L11_X) : Prop := (f129_L11t y x).1
def f129_L11_g (y : f129_L11_Y) (x : f129_L11_X) : Bool := (f129_L11t y x).2.1
def f129_L11_next (y : f129_L11_Y) (x : f129_L11_X) : f129_L11_X := (f129_L11t y x).2.2.1
def f129_L11_e1 (y : f129_L11_Y) (x : f129_L11_X) : Bool := (f129_L11t y x).2.2.2.1
def f129_L11_e4 (y : f129_L11_Y) (x : f129_L11_X) : Bool := (f129_L11t y x).2.2.2.2
instance (y : f129_L11_Y) (x : f129_L11_X) : Decidable (f129_L11_ok y x) := by
 unfold f129_L11_ok f129_L11t
 try dsimp only
 infer_instance
def f129_L11_x1_0 (y : f129_L11_Y) (x : f129_L11_X) : Bool :=
 false
def f129_L11_spec : St → Option Out := loopS [(55, (.val (.sl T88))), (56, vI)] [(57, vI)] f129_L11_g f129_L11_next f129_L11_ok fun y x => [ex 1 (some (f129_L11_e1 y x)) [(6, vB)] ((f129_L11_x1_0 y x), ()), ex 4 (some (f129_L11_e4 y x)) [] ()]
def f129t (p0 : Int) (p1 : (List Int)) (p2 : (List D88)) : Prop × Bool :=
 let y2 := (p0, p1, p2, p1, (len p1), ())
 let x2 := ((0 : Int), ())
 let e2 := (loopEnd (f129_L2_g y2) (f129_L2_next y2) x2)
 let v36 := (p0 == 9)
 let v42 := (bif v36 then ((nth p1 (0 : Int) (0 : Int)) == 0) else false)
 let v48 := (bif v42 then ((nth p1 (1 : Int) (0 : Int)) == 0) else false)
 let v54 := (bif v48 then ((nth p1 (2 : Int) (0 : Int)) == 0) else false)
 let y11 := (p2, (len p2), ())
 let x11 := ((0 : Int), ())
 let e11 := (loopEnd (f129_L11_g y11) (f129_L11_next y11) x11)
 (((Am.Ends (f129_L2_g y2) (f129_L2_next y2) (f129_L2_ok y2) x2) ∧ ((f129_L2_e2 y2 e2) = true → ((v36 = true → InB (0 : Int) (len p1)) ∧ ((v42 = true → InB (1 : Int) (len p1)) ∧ ((v48 = true → InB (2 : Int) (len p1)) ∧ ((!v54) = true → (Am.Ends (f129_L11_g y11) (f129_L11_next y11) (f129_L11_ok y11) x11))))))), (bif (f129_L2_e1 y2 e2) then (f129_L2_x1_0 y2 e2) else (bif v54 then false else (bif (f129_L11_e1 y11 e11) then (f129_L11_x1_0 y11 e11) else true))))
def f129_ok (p0 : Int) (p1 : (List Int)) (p2 : (List D88)) : Prop := (f129t p0 p1 p2).1
def f129 (p0 : Int) (p1 : (List Int)) (p2 : (List D88)) : Bool := (f129t p0 p1 p2).2
instance (p0 : Int) (p1 : (List Int)) (p2 : (List D88)) : Decidable (f129_ok p0 p1 p2) := by
 unfold f129_ok f129t
 try dsimp only
 infer_instance
def f129_spec : Am.Spec := fnSpec [(0, vI), (1, (.val (.sl (.int .i64)))), (2, (.val (.sl T88)))] vB [] (fun x => f129_ok x.1 x.2.1 x.2.2.1) (fun x => f129 x.1 x.2.1 x.2.2.1) (fun _ => ())
def f129_ctx : Ctx := Cx tys [(92, f92_spec), (149, f149_spec)] [(2, f129_L2_spec), (11, f129_L11_spec)] [] false 76 [] []
theorem f129_cok : CtxOk Tryz.prog f129_ctx := ctxOk_mk tys_ok rfl ⟨f92_is, f149_is, trivial⟩ rfl (by kernel_rfl)
noncomputable def f129_code : Code := Tryz.f129.body.getD .skip
noncomputable def f129_L2 : Code := nthLoop f129_code 0
theorem f129_L2_is : LoopSnd Tryz.prog f129_ctx f129_L2 := lgen f129_cok mixed (sp := f129_L2_spec) rfl [[(6, vB)], f129_L2_l2] (bs := []) (by kernel_rfl) trivial (by kernel_rfl) (by kernel_rfl) fun y x => by kernel_rfl
noncomputable def f129_L11 : Code := nthLoop f129_code 1
theorem f129_L11_is : LoopSnd Tryz.prog f129_ctx f129_L11 := lgen f129_cok mixed (sp := f129_L11_spec) rfl [[(6, vB)], []] (bs := []) (by kernel_rfl) trivial (by kernel_rfl) (by kernel_rfl) fun y x => by kernel_rfl
theorem f129_is : SpecOk Tryz.prog 129 f129_spec := fgen f129_cok mixed Tryz.func129 (by kernel_rfl) (bs := [f129_L2, f129_L11]) (by kernel_rfl) ⟨f129_L2_is, f129_L11_is, trivial⟩ fun x => by kernel_rfl

-- imageeditor/adjust.ordered
abbrev f130_L5_Y : Type := ((List Int) × (List D88) × Unit)
abbrev f130_L5_X : Type := (Int × Unit)
def f130_L5t (y : f130_L5_Y) (x : f130_L5_X) : Prop × Bool × f130_L5_X × Bool × Bool :=
 let a1 := y.1 
 let a7 := x.1 
 let v25 := (decide (a7 < (len a1)))
 let v34 := (a7 - 2)
 let v37 := (decide ((nth a1 a7 (0 : Int)) ≤ (nth a1 v34 (0 : Int))))
 ((v25 = true → (InB a7 (len a1) ∧ (InR (a7 - 2) ∧ (InB v34 (len a1) ∧ ((!v37) = true → InR (a7 + 2)))))), (v25 && (!v37)), ((a7 + 2), ()), (v25 && v37), (!v25))
def f130_L5_ok (y : f130_L5_Y) (x : f130_L5_X) : Prop := (f130_L5t y x).1
def f130_L5_g (y : f130_L5_Y) (x : f130_L5_X) : Bool := (f130_L5t y x).2.1
def f130_L5_next (y : f130_L5_Y) (x : f130_L5_X) : f130_L5_X := (f130_L5t y x).2.2.1
def f130_L5_e1 (y : f130_L5_Y) (x : f130_L5_X) : Bool := (f130_L5t y x).2.2.2.1
def f130_L5_e2 (y : f130_L5_Y) (x : f130_L5_X) : Bool := (f130_L5t y x).2.2.2.2
instance (y : f130_L5_Y) (x : f130_L5_X) : Decidable (f130_L5_ok y x) := by
 unfold f130_L5_ok f130_L5t
 try dsimp only
 infer_instance
def f130_L5_x1_0 (y : f130_L5_Y) (x : f130_L5_X) : Bool :=
 false
def f130_L5_spec : St → Option Out := loopS [(1, (.val (.sl (.int .i64)))), (2, (.val (.sl T88)))] [(7, vI)] f130_L5_g f130_L5_next f130_L5_ok fun y x => [ex 1 (some (f130_L5_e1 y x)) [(6, vB)] ((f130_L5_x1_0 y x), ()), ex 2 (some (f130_L5_e2 y x)) [(2, (.val (.sl T88)))] (y.2.1, ())]
abbrev f130_L10_Y : Type := ((List D88) × Unit)
abbrev f130_L10_X : Type := (Int × Unit)
def f130_L10t (y : f130_L10_Y) (x : f130_L10_X) : Prop × Bool × f130_L10_X × Bool × Bool :=
 let a2 := y.1 
 let a8 := x.1 
 let v41 := (decide (a8 < (len a2)))
 let v51 := (a8 - 1)
 let v55 := (decide ((nth a2 a8 Z88).1 ≤ (nth a2 v51 Z88).1))
 ((v41 = true → (InB a8 (len a2) ∧ (InR (a8 - 1) ∧ (InB v51 (len a2) ∧ ((!v55) = true → InR (a8 + 1)))))), (v41 && (!v55)), ((a8 + 1), ()), (v41 && v55), (!v41))
def f130_L10_ok (y : f130_L10_Y) (x : f130_L10_X) : Prop := (f130_L10t y x).1
def f130_L10_g (y : f130_L10_Y) (x : f130_L10_X) : Bool := (f130_L10t y x).2.1
def f130_L10_next (y : f130_L10_Y) (x : f130_L10_X) : f130_L10_X := (f130_L10t y x).2.2.1
def f130_L10_e1 (y : f130_L10_Y) (x : f130_L10_X) : Bool := (f130_L10t y x).2.2.2.1
def f130_L10_e4 (y : f130_L10_Y) (x : f130_L10_X) : Bool := (f130_L10t y x).2.2.2.2
instance (y : f130_L10_Y) (x : f130_L10_X) : Decidable (f130_L10_ok y x) := by
 unfold f130_L10_ok f130_L10t
 try dsimp only
 infer_instance
def f130_L10_x1_0 (y : f130_L10_Y) (x : f130_L10_X) : Bool :=
 false
def f130_L10_spec : St → Option Out := loopS [(2, (.val (.sl T88)))] [(8, vI)] f130_L10_g f130_L10_next f130_L10_ok fun y x => [ex 1 (some (f130_L10_e1 y x)) [(6, vB)] ((f130_L10_x1_0 y x), ()), ex 4 (some (f130_L10_e4 y x)) [] ()]
def f130t (p0 : Int) (p1 : (List Int)) (p2 : (List D88)) : Prop × Bool :=
 let v10 := (p0 == 2)
 let v19 := (bif v10 then (decide ((nth p1 (1 : Int) (0 : Int)) ≤ (nth p1 (0 : Int) (0 : Int)))) else false)
 let v21 := (p0 == 3)
 let y5 := (p1, p2, ())
 let x5 := ((2 : Int), ())
 let e5 := (loopEnd (f130_L5_g y5) (f130_L5_next y5) x5)
 let y10 := ((bif v21 then p2 else p2), ())
 let x10 := ((1 : Int), ())
 let e10 := (loopEnd (f130_L10_g y10) (f130_L10_next y10) x10)
 (((v10 = true → InB (1 : Int) (len p1)) ∧ ((v10 = true → InB (0 : Int) (len p1)) ∧ ((!v19) = true → ((v21 = true → (Am.Ends (f130_L5_g y5) (f130_L5_next y5) (f130_L5_ok y5) x5)) ∧ ((bif v21 then (f130_L5_e2 y5 e5) else true) = true → (Am.Ends (f130_L10_g y10) (f130_L10_next y10) (f130_L10_ok y10) x10)))))), (bif v19 then false else (bif ((f130_L5_e1 y5 e5) && v21) then (f130_L5_x1_0 y5 e5) else (bif (f130_L10_e1 y10 e10) then (f130_L10_x1_0 y10 e10) else true))))
def f130_ok (p0 : Int) (p1 : (List Int)) (p2 : (List D88)) : Prop := (f130t p0 p1 p2).1
def f130 (p0 : Int) (p1 : (List Int)) (p2 : (List D88)) : Bool := (f130t p0 p1 p2).2
instance (p0 : Int) (p1 : (List Int)) (p2 : (List D88)) : Decidable (f130_ok p0 p1 p2) := by
 unfold f130_ok f130t
 try dsimp only
 infer_instance
def f130_spec : Am.Spec := fnSpec [(0, vI), (1, (.val (.sl (.int .i64)))), (2, (.val (.sl T88)))] vB [] (fun x => f130_ok x.1 x.2.1 x.2.2.1) (fun x => f130 x.1 x.2.1 x.2.2.1) (fun _ => ())
def f130_ctx : Ctx := Cx tys [] [(5, f130_L5_spec), (10, f130_L10_spec)] [] false 56 [] []
theorem f130_cok : CtxOk Tryz.prog f130_ctx := ctxOk_mk tys_ok rfl trivial rfl (by kernel_rfl)
noncomputable def f130_code : Code := Tryz.f130.body.getD .skip
noncomputable def f130_L5 : Code := nthLoop f130_code 0
theorem f130_L5_is : LoopSnd Tryz.prog f130_ctx f130_L5 := lgen f130_cok mixed (sp := f130_L5_spec) rfl [[(6, vB)], [(2, (.val (.sl T88)))]] (bs := []) (by kernel_rfl) trivial (by kernel_rfl) (by kernel_rfl) fun y x => by kernel_rfl
noncomputable def f130_L10 : Code := nthLoop f130_code 1
theorem f130_L10_is : LoopSnd Tryz.prog f130_ctx f130_L10 := lgen f130_cok mixed (sp := f130_L10_spec) rfl [[(6, vB)], []] (bs := []) (by kernel_rfl) trivial (by kernel_rfl) (by kernel_rfl) fun y x => by kernel_rfl
theorem f130_is : SpecOk Tryz.prog 130 f130_spec := fgen f130_cok mixed Tryz.func130 (by kernel_rfl) (bs := [f130_L5, f130_L10]) (by kernel_rfl) ⟨f130_L5_is, f130_L10_is, trivial⟩ fun x => by kernel_rfl

-- imageeditor/adjust.Check
def f110t (p0 : Int) (p1 : (List Int)) (p2 : (List D88)) : Prop × Int :=
 let v13 := (bif (decide (p0 < 1)) then true else (decide (p0 > 11)))
 let v17 := (len p1)
 let v27 := (bif (!(f128 p0 v17)) then true else (!(Ty.eqb .bool (decide ((len p2) > 0)) (p0 == 10))))
 let v31 := (decide ((len p2) > 16))
 let v37 := (!(f129 p0 p1 p2))
 let m6_4 := (bif (bif v13 then true else (bif v27 then true else (bif v31 then true else (bif v37 then true else (!(f130 p0 p1 p2)))))) then (bif v13 then (8 : Int) else (bif v27 then (1 : Int) else (bif v31 then (3 : Int) else (bif v37 then (2 : Int) else (24 : Int))))) else (0 : Int))
 ((v13 = false → ((f128_ok p0 v17) ∧ (v27 = false → (v31 = false → ((f129_ok p0 p1 p2) ∧ (v37 = false → (f130_ok p0 p1 p2))))))), m6_4)
def f110_ok (p0 : Int) (p1 : (List Int)) (p2 : (List D88)) : Prop := (f110t p0 p1 p2).1
def f110 (p0 : Int) (p1 : (List Int)) (p2 : (List D88)) : Int := (f110t p0 p1 p2).2
instance (p0 : Int) (p1 : (List Int)) (p2 : (List D88)) : Decidable (f110_ok p0 p1 p2) := by
 unfold f110_ok f110t
 try dsimp only
 infer_instance
def f110_spec : Am.Spec := fnSpec [(0, vI), (1, (.val (.sl (.int .i64)))), (2, (.val (.sl T88)))] vI [] (fun x => f110_ok x.1 x.2.1 x.2.2.1) (fun x => f110 x.1 x.2.1 x.2.2.1) (fun _ => ())
def f110_ctx : Ctx := Cx tys [(128, f128_spec), (129, f129_spec), (130, f130_spec)] [] [] false 44 [] []
theorem f110_cok : CtxOk Tryz.prog f110_ctx := ctxOk_mk tys_ok rfl ⟨f128_is, f129_is, f130_is, trivial⟩ rfl (by kernel_rfl)
theorem f110_is : SpecOk Tryz.prog 110 f110_spec := fgen f110_cok mixed Tryz.func110 (by kernel_rfl) (bs := []) (by kernel_rfl) trivial fun x => by kernel_rfl

-- imageeditor/filter.spans
def f131t (p0 : Int) : Prop × (List D91) :=
 let v5 := (p0 == 1)
 let v6 := (p0 == 7)
 let m4_1 := (bif v5 then v5 else (bif v6 then v6 else (p0 == 8)))
 let v11 := (p0 == 2)
 let v15 := (p0 == 4)
 let v19 := (p0 == 3)
 let v24 := (p0 == 9)
 let m2_1 := (bif v19 then ([((0 : Int), (16 : Int), ()), ((0 : Int), (262140 : Int), ())] : List D91) else (bif v24 then ([((-16 : Int), (16 : Int), ()), ((-16 : Int), (16 : Int), ())] : List D91) else ([((1 : Int), (16 : Int), ())] : List D91)))
 let m2_5 := (bif (bif m4_1 then true else (bif v11 then true else (bif v15 then true else (bif v19 then true else (bif v24 then true else (p0 == 10)))))) then (bif m4_1 then ([((0 : Int), (16 : Int), ())] : List D91) else (bif v11 then ([((0 : Int), (7 : Int), ())] : List D91) else (bif v15 then ([((0 : Int), (4 : Int), ())] : List D91) else m2_1))) else [])
 (True, m2_5)
def f131_ok (p0 : Int) : Prop := (f131t p0).1
def f131 (p0 : Int) : (List D91) := (f131t p0).2
instance (p0 : Int) : Decidable (f131_ok p0) := by
 unfold f131_ok f131t
 try dsimp only
 infer_instance
def f131_spec : Am.Spec := fnSpec [(0, vI)] (.own T91 0 false) [] (fun x => f131_ok x.1) (fun x => f131 x.1) (fun _ => ())
def f131_ctx : Ctx := Cx tys [] [] [(11, [(4, 0, 9, 0)]), (15, [(4, 0, 13, 0)]), (19, [(4, 0, 17, 0)]), (23, [(4, 0, 22, 0)]), (27, [(4, 0, 27, 0)]), (31, [(4, 0, 31, 0)])] false 32 [] []
theorem f131_cok : CtxOk Tryz.prog f131_ctx := ctxOk_mk tys_ok rfl trivial rfl (by kernel_rfl)
theorem f131_is : SpecOk Tryz.prog 131 f131_spec := fgen f131_cok mixed Tryz.func131 (by kernel_rfl) (bs := []) (by kernel_rfl) trivial fun x => by kernel_rfl

-- imageeditor/filter.Check
abbrev f111_L7_Y : Type := ((List D91) × (List Int) × Int × Unit)
abbrev f111_L7_X : Type := (Int × Unit)
def f111_L7t (y : f111_L7_Y) (x : f111_L7_X) : Prop × Bool × f111_L7_X × Bool × Bool :=
 let a5 := y.1 
 let a21 := y.2.1 
 let a23 := x.1 
 let v24 := (decide (a23 < y.2.2.1))
 let v26 := (nth a21 a23 (0 : Int))
 let v34 := (decide (v26 < (nth a5 a23 Z91).1))
 let v43 := (bif v34 then true else (decide (v26 > (nth a5 a23 Z91).2.1)))
 ((v24 = true → (InB a23 (len a21) ∧ (InB a23 (len a5) ∧ (((!v34) = true → InB a23 (len a5)) ∧ ((!v43) = true → InR (a23 + 1)))))), (v24 && (!v43)), ((a23 + 1), ()), (v24 && v43), (!v24))
def f111_L7_ok (y : f111_L7_Y) (x : f111_L7_X) : Prop := (f111_L7t y x).1
def f111_L7_g (y : f111_L7_Y) (x : f111_L7_X) : Bool := (f111_L7t y x).2.1
def f111_L7_next (y : f111_L7_Y) (x : f111_L7_X) : f111_L7_X := (f111_L7t y x).2.2.1
def f111_L7_e1 (y : f111_L7_Y) (x : f111_L7_X) : Bool := (f111_L7t y x).2.2.2.1
def f111_L7_e2 (y : f111_L7_Y) (x : f111_L7_X) : Bool := (f111_L7t y x).2.2.2.2
instance (y : f111_L7_Y) (x : f111_L7_X) : Decidable (f111_L7_ok y x) := by
 unfold f111_L7_ok f111_L7t
 try dsimp only
 infer_instance
def f111_L7_x1_0 (y : f111_L7_Y) (x : f111_L7_X) : Int :=
 (2 : Int)
def f111_L7_spec : St → Option Out := loopS [(5, (.own T91 1005 false)), (21, (.val (.sl (.int .i64)))), (22, vI)] [(23, vI)] f111_L7_g f111_L7_next f111_L7_ok fun y x => [ex 1 (some (f111_L7_e1 y x)) [(4, vI)] ((f111_L7_x1_0 y x), ()), ex 2 (some (f111_L7_e2 y x)) [] ()]
def f111t (p0 : Int) (p1 : (List Int)) : Prop × Int :=
 let v13 := (bif (decide (p0 < 1)) then true else (decide (p0 > 10)))
 let v15 := (f131 p0)
 let v20 := ((len p1) != (len v15))
 let y7 := (v15, p1, (len p1), ())
 let x7 := ((0 : Int), ())
 let e7 := (loopEnd (f111_L7_g y7) (f111_L7_next y7) x7)
 (((!v13) = true → ((f131_ok p0) ∧ ((!v20) = true → (Am.Ends (f111_L7_g y7) (f111_L7_next y7) (f111_L7_ok y7) x7)))), (bif v13 then (8 : Int) else (bif v20 then (1 : Int) else (bif (f111_L7_e1 y7 e7) then (f111_L7_x1_0 y7 e7) else (0 : Int)))))
def f111_ok (p0 : Int) (p1 : (List Int)) : Prop := (f111t p0 p1).1
def f111 (p0 : Int) (p1 : (List Int)) : Int := (f111t p0 p1).2
instance (p0 : Int) (p1 : (List Int)) : Decidable (f111_ok p0 p1) := by
 unfold f111_ok f111t
 try dsimp only
 infer_instance
def f111_spec : Am.Spec := fnSpec [(0, vI), (1, (.val (.sl (.int .i64))))] vI [] (fun x => f111_ok x.1 x.2.1) (fun x => f111 x.1 x.2.1) (fun _ => ())
def f111_ctx : Ctx := Cx tys [(131, f131_spec)] [(7, f111_L7_spec)] [(7, [(4, 0, 15, 1005)])] false 45 [] []
theorem f111_cok : CtxOk Tryz.prog f111_ctx := ctxOk_mk tys_ok rfl ⟨f131_is, trivial⟩ rfl (by kernel_rfl)
noncomputable def f111_code : Code := Tryz.f111.body.getD .skip
noncomputable def f111_L7 : Code := nthLoop f111_code 0
theorem f111_L7_is : LoopSnd Tryz.prog f111_ctx f111_L7 := lgen f111_cok mixed (sp := f111_L7_spec) rfl [[(4, vI)], []] (bs := []) (by kernel_rfl) trivial (by kernel_rfl) (by kernel_rfl) fun y x => by kernel_rfl
theorem f111_is : SpecOk Tryz.prog 111 f111_spec := fgen f111_cok mixed Tryz.func111 (by kernel_rfl) (bs := [f111_L7]) (by kernel_rfl) ⟨f111_L7_is, trivial⟩ fun x => by kernel_rfl

-- imageeditor/warp.Check
abbrev f112_L6_Y : Type := ((List D91) × Int × Unit)
abbrev f112_L6_X : Type := (Int × Unit)
def f112_L6t (y : f112_L6_Y) (x : f112_L6_X) : Prop × Bool × f112_L6_X × Bool × Bool :=
 let a43 := y.1 
 let a45 := x.1 
 let v46 := (decide (a45 < y.2.1))
 let v47 := (nth a43 a45 Z91)
 let v66 := (bif (bif (bif (decide (v47.1 < (-1048576))) then true else (decide (v47.1 > 1048576))) then true else (decide (v47.2.1 < (-1048576)))) then true else (decide (v47.2.1 > 1048576)))
 ((v46 = true → (InB a45 (len a43) ∧ ((!v66) = true → InR (a45 + 1)))), (v46 && (!v66)), ((a45 + 1), ()), (v46 && v66), (!v46))
def f112_L6_ok (y : f112_L6_Y) (x : f112_L6_X) : Prop := (f112_L6t y x).1
def f112_L6_g (y : f112_L6_Y) (x : f112_L6_X) : Bool := (f112_L6t y x).2.1
def f112_L6_next (y : f112_L6_Y) (x : f112_L6_X) : f112_L6_X := (f112_L6t y x).2.2.1
def f112_L6_e1 (y : f112_L6_Y) (x : f112_L6_X) : Bool := (f112_L6t y x).2.2.2.1
def f112_L6_e2 (y : f112_L6_Y) (x : f112_L6_X) : Bool := (f112_L6t y x).2.2.2.2
instance (y : f112_L6_Y) (x : f112_L6_X) : Decidable (f112_L6_ok y x) := by
 unfold f112_L6_ok f112_L6t
 try dsimp only
 infer_instance
def f112_L6_x1_0 (y : f112_L6_Y) (x : f112_L6_X) : Int :=
 (2 : Int)
def f112_L6_spec : St → Option Out := loopS [(43, (.val (.sl T91))), (44, vI)] [(45, vI)] f112_L6_g f112_L6_next f112_L6_ok fun y x => [ex 1 (some (f112_L6_e1 y x)) [(2, vI)] ((f112_L6_x1_0 y x), ()), ex 2 (some (f112_L6_e2 y x)) [] ()]
def f112t (p0 : D58) : Prop × Int :=
 let v22 := (bif (bif (bif (decide (p0.1 < 2)) then true else (decide (p0.1 > 8))) then true else (decide (p0.2.1 < 2))) then true else (decide (p0.2.1 > 8)))
 let v30 := (bif (decide (p0.2.2.1 < 1)) then true else (decide (p0.2.2.1 > 256)))
 let v41 := (bif v30 then true else ((len p0.2.2.2.1) != (p0.1 * p0.2.1)))
 let y6 := (p0.2.2.2.1, (len p0.2.2.2.1), ())
 let x6 := ((0 : Int), ())
 let e6 := (loopEnd (f112_L6_g y6) (f112_L6_next y6) x6)
 (((!v22) = true → (((!v30) = true → InR (p0.1 * p0.2.1)) ∧ ((!v41) = true → (Am.Ends (f112_L6_g y6) (f112_L6_next y6) (f112_L6_ok y6) x6)))), (bif v22 then (15 : Int) else (bif v41 then (15 : Int) else (bif (f112_L6_e1 y6 e6) then (f112_L6_x1_0 y6 e6) else (0 : Int)))))
def f112_ok (p0 : D58) : Prop := (f112t p0).1
def f112 (p0 : D58) : Int := (f112t p0).2
instance (p0 : D58) : Decidable (f112_ok p0) := by
 unfold f112_ok f112t
 try dsimp only
 infer_instance
def f112_spec : Am.Spec := fnSpec [(0, (.val T58))] vI [] (fun x => f112_ok x.1) (fun x => f112 x.1) (fun _ => ())
def f112_ctx : Ctx := Cx tys [] [(6, f112_L6_spec)] [] false 68 [] []
theorem f112_cok : CtxOk Tryz.prog f112_ctx := ctxOk_mk tys_ok rfl trivial rfl (by kernel_rfl)
noncomputable def f112_code : Code := Tryz.f112.body.getD .skip
noncomputable def f112_L6 : Code := nthLoop f112_code 0
theorem f112_L6_is : LoopSnd Tryz.prog f112_ctx f112_L6 := lgen f112_cok mixed (sp := f112_L6_spec) rfl [[(2, vI)], []] (bs := []) (by kernel_rfl) trivial (by kernel_rfl) (by kernel_rfl) fun y x => by kernel_rfl
theorem f112_is : SpecOk Tryz.prog 112 f112_spec := fgen f112_cok mixed Tryz.func112 (by kernel_rfl) (bs := [f112_L6]) (by kernel_rfl) ⟨f112_L6_is, trivial⟩ fun x => by kernel_rfl

-- imageeditor/node.checkContent
def f88t (p0 : D60) : Prop × Int :=
 let v6 := (p0.2.1 == 2)
 let v11 := (p0.2.1 == 3)
 let v16 := (p0.2.1 == 4)
 let v27 := (p0.2.1 == 5)
 let v31 := (p0.2.1 == 6)
 let v35 := (p0.2.1 == 7)
 let v44 := (p0.2.1 == 8)
 let v51 := (p0.2.1 == 9)
 let m50 := (bif v51 then v51 else (p0.2.1 == 10))
 let v62 := (p0.2.1 == 11)
 let c_2 := (bif v44 then true else (bif m50 then (bif (decide (p0.2.2.2.2.2.2.2.2.2.2.2.2.2.2.2.2.2.2.2.2.2.2.2.2.2.2.1 < 1)) then true else (decide (p0.2.2.2.2.2.2.2.2.2.2.2.2.2.2.2.2.2.2.2.2.2.2.2.2.2.2.1 > 1073741824))) else v62))
 let m2_2 := (bif v35 then (f110 p0.2.2.2.2.2.2.2.2.2.2.2.2.2.2.1 p0.2.2.2.2.2.2.2.2.2.2.2.2.2.2.2.1 p0.2.2.2.2.2.2.2.2.2.2.2.2.2.2.2.2.2.1) else (bif v44 then (f111 p0.2.2.2.2.2.2.2.2.2.2.2.2.2.2.1 p0.2.2.2.2.2.2.2.2.2.2.2.2.2.2.2.1) else (bif m50 then (2 : Int) else (f112 p0.2.2.2.2.2.2.2.2.2.2.2.2.2.2.2.2.2.2.2.2.2.2.2.2.2.2.2.1))))
 let m2_5 := (bif v16 then (f107 p0.2.2.2.2.2.2.2.2.2.2.2.2.2.2.1 p0.2.2.2.2.2.2.2.2.2.2.2.2.2.2.2.1 p0.2.2.2.2.2.2.2.2.2.2.2.2.2.2.2.2.1 p0.2.2.2.2.2.2.2.2.2.2.2.2.2.2.2.2.2.1) else (bif v27 then (f108 p0) else (bif v31 then (f109 p0) else m2_2)))
 let m2_8 := (bif (bif v6 then true else (bif v11 then true else (bif v16 then true else (bif v27 then true else (bif v31 then true else (bif v35 then true else c_2)))))) then (bif v6 then (f74 p0.2.2.2.2.2.2.2.2.2.2.2.2.1) else (bif v11 then (f106 p0.2.2.2.2.2.2.2.2.2.2.2.2.2.1) else m2_5)) else (0 : Int))
 (((v6 = true → (f74_ok p0.2.2.2.2.2.2.2.2.2.2.2.2.1)) ∧ (v6 = false → ((v11 = true → (f106_ok p0.2.2.2.2.2.2.2.2.2.2.2.2.2.1)) ∧ (v11 = false → ((v16 = true → (f107_ok p0.2.2.2.2.2.2.2.2.2.2.2.2.2.2.1 p0.2.2.2.2.2.2.2.2.2.2.2.2.2.2.2.1 p0.2.2.2.2.2.2.2.2.2.2.2.2.2.2.2.2.1 p0.2.2.2.2.2.2.2.2.2.2.2.2.2.2.2.2.2.1)) ∧ (v16 = false → ((v27 = true → (f108_ok p0)) ∧ (v27 = false → ((v31 = true → (f109_ok p0)) ∧ (v31 = false → ((v35 = true → (f110_ok p0.2.2.2.2.2.2.2.2.2.2.2.2.2.2.1 p0.2.2.2.2.2.2.2.2.2.2.2.2.2.2.2.1 p0.2.2.2.2.2.2.2.2.2.2.2.2.2.2.2.2.2.1)) ∧ (v35 = false → ((v44 = true → (f111_ok p0.2.2.2.2.2.2.2.2.2.2.2.2.2.2.1 p0.2.2.2.2.2.2.2.2.2.2.2.2.2.2.2.1)) ∧ (v44 = false → (m50 = false → (v62 = true → (f112_ok p0.2.2.2.2.2.2.2.2.2.2.2.2.2.2.2.2.2.2.2.2.2.2.2.2.2.2.2.1))))))))))))))))), m2_8)
def f88_ok (p0 : D60) : Prop := (f88t p0).1
def f88 (p0 : D60) : Int := (f88t p0).2
instance (p0 : D60) : Decidable (f88_ok p0) := by
 unfold f88_ok f88t
 try dsimp only
 infer_instance
def f88_spec : Am.Spec := fnSpec [(0, (.val T60))] vI [] (fun x => f88_ok x.1) (fun x => f88 x.1) (fun _ => ())
def f88_ctx : Ctx := Cx tys [(74, f74_spec), (106, f106_spec), (107, f107_spec), (108, f108_spec), (109, f109_spec), (110, f110_spec), (111, f111_spec), (112, f112_spec)] [] [] false 66 [] []
theorem f88_cok : CtxOk Tryz.prog f88_ctx := ctxOk_mk tys_ok rfl ⟨f74_is, f106_is, f107_is, f108_is, f109_is, f110_is, f111_is, f112_is, trivial⟩ rfl (by kernel_rfl)
theorem f88_is : SpecOk Tryz.prog 88 f88_spec := fgen f88_cok mixed Tryz.func88 (by kernel_rfl) (bs := []) (by kernel_rfl) trivial fun x => by kernel_rfl

-- imageeditor/node.bare
def f89t (p0 : D60) : Prop × Bool :=
 let v17 := (bif (bif (!(Ty.eqb T48 p0.2.2.2.2.2.2.2.2.2.2.1 ((0 : Int), (0 : Int), (0 : Int), (0 : Int), (0 : Int), (0 : Int), ()))) then true else (p0.2.2.2.2.2.2.2.2.2.2.2.1 != 0)) then true else (!(Ty.eqb T22 p0.2.2.2.2.2.2.2.2.2.2.2.2.2.1 ((0 : Int), (0 : Int), (0 : Int), (0 : Int), ()))))
 let v54 := (bif (bif (bif (p0.2.2.2.2.2.2.2.2.2.2.2.2.2.2.1 != 0) then true else ((len p0.2.2.2.2.2.2.2.2.2.2.2.2.2.2.2.1) != 0)) then true else (p0.2.2.2.2.2.2.2.2.2.2.2.2.2.2.2.2.1 != 0)) then true else ((len p0.2.2.2.2.2.2.2.2.2.2.2.2.2.2.2.2.2.1) != 0))
 let v73 := (bif (bif (bif ((len p0.2.2.2.2.2.2.2.2.2.2.2.2.2.2.2.2.2.2.1) != 0) then true else (p0.2.2.2.2.2.2.2.2.2.2.2.2.2.2.2.2.2.2.2.1 != 0)) then true else (p0.2.2.2.2.2.2.2.2.2.2.2.2.2.2.2.2.2.2.2.2.1 != 0)) then true else (p0.2.2.2.2.2.2.2.2.2.2.2.2.2.2.2.2.2.2.2.2.2.1 != 0))
 let v91 := (bif (bif (!(p0.2.2.2.2.2.2.2.2.2.2.2.2.2.2.2.2.2.2.2.2.2.2.2.1 == ([] : List UInt8))) then true else (p0.2.2.2.2.2.2.2.2.2.2.2.2.2.2.2.2.2.2.2.2.2.2.2.2.1 != 0)) then true else (p0.2.2.2.2.2.2.2.2.2.2.2.2.2.2.2.2.2.2.2.2.2.2.2.2.2.1 != 0))
 let v112 := (bif (bif (p0.2.2.2.2.2.2.2.2.2.2.2.2.2.2.2.2.2.2.2.2.2.2.2.2.2.2.2.1.1 == 0) then (p0.2.2.2.2.2.2.2.2.2.2.2.2.2.2.2.2.2.2.2.2.2.2.2.2.2.2.2.1.2.1 == 0) else false) then (p0.2.2.2.2.2.2.2.2.2.2.2.2.2.2.2.2.2.2.2.2.2.2.2.2.2.2.2.1.2.2.1 == 0) else false)
 let m2 := (bif (bif v91 then true else (p0.2.2.2.2.2.2.2.2.2.2.2.2.2.2.2.2.2.2.2.2.2.2.2.2.2.2.1 != 0)) then false else (bif v112 then ((len p0.2.2.2.2.2.2.2.2.2.2.2.2.2.2.2.2.2.2.2.2.2.2.2.2.2.2.2.1.2.2.2.1) == 0) else false))
 let m2_3 := (bif (bif (bif (p0.2.2.2.2.2.2.2.2.2.2.2.2.1.1 != 0) then true else (p0.2.2.2.2.2.2.2.2.2.2.2.2.1.2.1 != 0)) then true else ((len p0.2.2.2.2.2.2.2.2.2.2.2.2.1.2.2.1) != 0)) then false else (bif v54 then false else (bif (bif v73 then true else (p0.2.2.2.2.2.2.2.2.2.2.2.2.2.2.2.2.2.2.2.2.2.2.1 != 0)) then false else m2)))
 (True, (bif v17 then false else m2_3))
def f89_ok (p0 : D60) : Prop := (f89t p0).1
def f89 (p0 : D60) : Bool := (f89t p0).2
instance (p0 : D60) : Decidable (f89_ok p0) := by
 unfold f89_ok f89t
 try dsimp only
 infer_instance
def f89_spec : Am.Spec := fnSpec [(0, (.val T60))] vB [] (fun x => f89_ok x.1) (fun x => f89 x.1) (fun _ => ())
def f89_ctx : Ctx := Cx tys [] [] [] false 120 [] []
theorem f89_cok : CtxOk Tryz.prog f89_ctx := ctxOk_mk tys_ok rfl trivial rfl (by kernel_rfl)
theorem f89_is : SpecOk Tryz.prog 89 f89_spec := fgen f89_cok mixed Tryz.func89 (by kernel_rfl) (bs := []) (by kernel_rfl) trivial fun x => by kernel_rfl

-- imageeditor/node.rest
def f90t (p0 : D60) : Prop × D60 :=
 let s_1 := (p0.1, p0.2.1, p0.2.2.1, p0.2.2.2.1, p0.2.2.2.2.1, p0.2.2.2.2.2.1, p0.2.2.2.2.2.2.1, p0.2.2.2.2.2.2.2.1, p0.2.2.2.2.2.2.2.2.1, p0.2.2.2.2.2.2.2.2.2.1, ((0 : Int), (0 : Int), (0 : Int), (0 : Int), (0 : Int), (0 : Int), ()), p0.2.2.2.2.2.2.2.2.2.2.2.1, p0.2.2.2.2.2.2.2.2.2.2.2.2.1, p0.2.2.2.2.2.2.2.2.2.2.2.2.2.1, p0.2.2.2.2.2.2.2.2.2.2.2.2.2.2.1, p0.2.2.2.2.2.2.2.2.2.2.2.2.2.2.2.1, p0.2.2.2.2.2.2.2.2.2.2.2.2.2.2.2.2.1, p0.2.2.2.2.2.2.2.2.2.2.2.2.2.2.2.2.2.1, p0.2.2.2.2.2.2.2.2.2.2.2.2.2.2.2.2.2.2.1, p0.2.2.2.2.2.2.2.2.2.2.2.2.2.2.2.2.2.2.2.1, p0.2.2.2.2.2.2.2.2.2.2.2.2.2.2.2.2.2.2.2.2.1, p0.2.2.2.2.2.2.2.2.2.2.2.2.2.2.2.2.2.2.2.2.2.1, p0.2.2.2.2.2.2.2.2.2.2.2.2.2.2.2.2.2.2.2.2.2.2.1, p0.2.2.2.2.2.2.2.2.2.2.2.2.2.2.2.2.2.2.2.2.2.2.2.1, p0.2.2.2.2.2.2.2.2.2.2.2.2.2.2.2.2.2.2.2.2.2.2.2.2.1, p0.2.2.2.2.2.2.2.2.2.2.2.2.2.2.2.2.2.2.2.2.2.2.2.2.2.1, p0.2.2.2.2.2.2.2.2.2.2.2.2.2.2.2.2.2.2.2.2.2.2.2.2.2.2.1, p0.2.2.2.2.2.2.2.2.2.2.2.2.2.2.2.2.2.2.2.2.2.2.2.2.2.2.2.1, ())
 let m1 := (bif (f83 p0.2.1) then s_1 else p0)
 let s_2 := (m1.1, m1.2.1, m1.2.2.1, m1.2.2.2.1, m1.2.2.2.2.1, m1.2.2.2.2.2.1, m1.2.2.2.2.2.2.1, m1.2.2.2.2.2.2.2.1, m1.2.2.2.2.2.2.2.2.1, m1.2.2.2.2.2.2.2.2.2.1, m1.2.2.2.2.2.2.2.2.2.2.1, (0 : Int), m1.2.2.2.2.2.2.2.2.2.2.2.2.1, m1.2.2.2.2.2.2.2.2.2.2.2.2.2.1, m1.2.2.2.2.2.2.2.2.2.2.2.2.2.2.1, m1.2.2.2.2.2.2.2.2.2.2.2.2.2.2.2.1, m1.2.2.2.2.2.2.2.2.2.2.2.2.2.2.2.2.1, m1.2.2.2.2.2.2.2.2.2.2.2.2.2.2.2.2.2.1, m1.2.2.2.2.2.2.2.2.2.2.2.2.2.2.2.2.2.2.1, m1.2.2.2.2.2.2.2.2.2.2.2.2.2.2.2.2.2.2.2.1, m1.2.2.2.2.2.2.2.2.2.2.2.2.2.2.2.2.2.2.2.2.1, m1.2.2.2.2.2.2.2.2.2.2.2.2.2.2.2.2.2.2.2.2.2.1, m1.2.2.2.2.2.2.2.2.2.2.2.2.2.2.2.2.2.2.2.2.2.2.1, m1.2.2.2.2.2.2.2.2.2.2.2.2.2.2.2.2.2.2.2.2.2.2.2.1, m1.2.2.2.2.2.2.2.2.2.2.2.2.2.2.2.2.2.2.2.2.2.2.2.2.1, m1.2.2.2.2.2.2.2.2.2.2.2.2.2.2.2.2.2.2.2.2.2.2.2.2.2.1, m1.2.2.2.2.2.2.2.2.2.2.2.2.2.2.2.2.2.2.2.2.2.2.2.2.2.2.1, m1.2.2.2.2.2.2.2.2.2.2.2.2.2.2.2.2.2.2.2.2.2.2.2.2.2.2.2.1, ())
 let m1_1 := (bif (f86 m1.2.1) then s_2 else m1)
 let s_4 := (m1_1.1, m1_1.2.1, m1_1.2.2.1, m1_1.2.2.2.1, m1_1.2.2.2.2.1, m1_1.2.2.2.2.2.1, m1_1.2.2.2.2.2.2.1, m1_1.2.2.2.2.2.2.2.1, m1_1.2.2.2.2.2.2.2.2.1, m1_1.2.2.2.2.2.2.2.2.2.1, m1_1.2.2.2.2.2.2.2.2.2.2.1, m1_1.2.2.2.2.2.2.2.2.2.2.2.1, ((0 : Int), (0 : Int), ([] : List D22), ()), m1_1.2.2.2.2.2.2.2.2.2.2.2.2.2.1, m1_1.2.2.2.2.2.2.2.2.2.2.2.2.2.2.1, m1_1.2.2.2.2.2.2.2.2.2.2.2.2.2.2.2.1, m1_1.2.2.2.2.2.2.2.2.2.2.2.2.2.2.2.2.1, m1_1.2.2.2.2.2.2.2.2.2.2.2.2.2.2.2.2.2.1, m1_1.2.2.2.2.2.2.2.2.2.2.2.2.2.2.2.2.2.2.1, m1_1.2.2.2.2.2.2.2.2.2.2.2.2.2.2.2.2.2.2.2.1, m1_1.2.2.2.2.2.2.2.2.2.2.2.2.2.2.2.2.2.2.2.2.1, m1_1.2.2.2.2.2.2.2.2.2.2.2.2.2.2.2.2.2.2.2.2.2.1, m1_1.2.2.2.2.2.2.2.2.2.2.2.2.2.2.2.2.2.2.2.2.2.2.1, m1_1.2.2.2.2.2.2.2.2.2.2.2.2.2.2.2.2.2.2.2.2.2.2.2.1, m1_1.2.2.2.2.2.2.2.2.2.2.2.2.2.2.2.2.2.2.2.2.2.2.2.2.1, m1_1.2.2.2.2.2.2.2.2.2.2.2.2.2.2.2.2.2.2.2.2.2.2.2.2.2.1, m1_1.2.2.2.2.2.2.2.2.2.2.2.2.2.2.2.2.2.2.2.2.2.2.2.2.2.2.1, m1_1.2.2.2.2.2.2.2.2.2.2.2.2.2.2.2.2.2.2.2.2.2.2.2.2.2.2.2.1, ())
 let s_6 := (m1_1.1, m1_1.2.1, m1_1.2.2.1, m1_1.2.2.2.1, m1_1.2.2.2.2.1, m1_1.2.2.2.2.2.1, m1_1.2.2.2.2.2.2.1, m1_1.2.2.2.2.2.2.2.1, m1_1.2.2.2.2.2.2.2.2.1, m1_1.2.2.2.2.2.2.2.2.2.1, m1_1.2.2.2.2.2.2.2.2.2.2.1, m1_1.2.2.2.2.2.2.2.2.2.2.2.1, m1_1.2.2.2.2.2.2.2.2.2.2.2.2.1, ((0 : Int), (0 : Int), (0 : Int), (0 : Int), ()), m1_1.2.2.2.2.2.2.2.2.2.2.2.2.2.2.1, m1_1.2.2.2.2.2.2.2.2.2.2.2.2.2.2.2.1, m1_1.2.2.2.2.2.2.2.2.2.2.2.2.2.2.2.2.1, m1_1.2.2.2.2.2.2.2.2.2.2.2.2.2.2.2.2.2.1, m1_1.2.2.2.2.2.2.2.2.2.2.2.2.2.2.2.2.2.2.1, m1_1.2.2.2.2.2.2.2.2.2.2.2.2.2.2.2.2.2.2.2.1, m1_1.2.2.2.2.2.2.2.2.2.2.2.2.2.2.2.2.2.2.2.2.1, m1_1.2.2.2.2.2.2.2.2.2.2.2.2.2.2.2.2.2.2.2.2.2.1, m1_1.2.2.2.2.2.2.2.2.2.2.2.2.2.2.2.2.2.2.2.2.2.2.1, m1_1.2.2.2.2.2.2.2.2.2.2.2.2.2.2.2.2.2.2.2.2.2.2.2.1, m1_1.2.2.2.2.2.2.2.2.2.2.2.2.2.2.2.2.2.2.2.2.2.2.2.2.1, m1_1.2.2.2.2.2.2.2.2.2.2.2.2.2.2.2.2.2.2.2.2.2.2.2.2.2.1, m1_1.2.2.2.2.2.2.2.2.2.2.2.2.2.2.2.2.2.2.2.2.2.2.2.2.2.2.1, m1_1.2.2.2.2.2.2.2.2.2.2.2.2.2.2.2.2.2.2.2.2.2.2.2.2.2.2.2.1, ())
 let s_10 := (m1_1.1, m1_1.2.1, m1_1.2.2.1, m1_1.2.2.2.1, m1_1.2.2.2.2.1, m1_1.2.2.2.2.2.1, m1_1.2.2.2.2.2.2.1, m1_1.2.2.2.2.2.2.2.1, m1_1.2.2.2.2.2.2.2.2.1, m1_1.2.2.2.2.2.2.2.2.2.1, m1_1.2.2.2.2.2.2.2.2.2.2.1, m1_1.2.2.2.2.2.2.2.2.2.2.2.1, m1_1.2.2.2.2.2.2.2.2.2.2.2.2.1, m1_1.2.2.2.2.2.2.2.2.2.2.2.2.2.1, (0 : Int), ([] : List Int), (0 : Int), ([] : List D88), m1_1.2.2.2.2.2.2.2.2.2.2.2.2.2.2.2.2.2.2.1, m1_1.2.2.2.2.2.2.2.2.2.2.2.2.2.2.2.2.2.2.2.1, m1_1.2.2.2.2.2.2.2.2.2.2.2.2.2.2.2.2.2.2.2.2.1, m1_1.2.2.2.2.2.2.2.2.2.2.2.2.2.2.2.2.2.2.2.2.2.1, m1_1.2.2.2.2.2.2.2.2.2.2.2.2.2.2.2.2.2.2.2.2.2.2.1, m1_1.2.2.2.2.2.2.2.2.2.2.2.2.2.2.2.2.2.2.2.2.2.2.2.1, m1_1.2.2.2.2.2.2.2.2.2.2.2.2.2.2.2.2.2.2.2.2.2.2.2.2.1, m1_1.2.2.2.2.2.2.2.2.2.2.2.2.2.2.2.2.2.2.2.2.2.2.2.2.2.1, m1_1.2.2.2.2.2.2.2.2.2.2.2.2.2.2.2.2.2.2.2.2.2.2.2.2.2.2.1, m1_1.2.2.2.2.2.2.2.2.2.2.2.2.2.2.2.2.2.2.2.2.2.2.2.2.2.2.2.1, ())
 let s_17 := (m1_1.1, m1_1.2.1, m1_1.2.2.1, m1_1.2.2.2.1, m1_1.2.2.2.2.1, m1_1.2.2.2.2.2.1, m1_1.2.2.2.2.2.2.1, m1_1.2.2.2.2.2.2.2.1, m1_1.2.2.2.2.2.2.2.2.1, m1_1.2.2.2.2.2.2.2.2.2.1, m1_1.2.2.2.2.2.2.2.2.2.2.1, m1_1.2.2.2.2.2.2.2.2.2.2.2.1, m1_1.2.2.2.2.2.2.2.2.2.2.2.2.1, ((0 : Int), (0 : Int), (0 : Int), (0 : Int), ()), m1_1.2.2.2.2.2.2.2.2.2.2.2.2.2.2.1, m1_1.2.2.2.2.2.2.2.2.2.2.2.2.2.2.2.1, m1_1.2.2.2.2.2.2.2.2.2.2.2.2.2.2.2.2.1, m1_1.2.2.2.2.2.2.2.2.2.2.2.2.2.2.2.2.2.1, ([] : List D94), (0 : Int), (0 : Int), (0 : Int), (0 : Int), m1_1.2.2.2.2.2.2.2.2.2.2.2.2.2.2.2.2.2.2.2.2.2.2.2.1, m1_1.2.2.2.2.2.2.2.2.2.2.2.2.2.2.2.2.2.2.2.2.2.2.2.2.1, m1_1.2.2.2.2.2.2.2.2.2.2.2.2.2.2.2.2.2.2.2.2.2.2.2.2.2.1, m1_1.2.2.2.2.2.2.2.2.2.2.2.2.2.2.2.2.2.2.2.2.2.2.2.2.2.2.1, m1_1.2.2.2.2.2.2.2.2.2.2.2.2.2.2.2.2.2.2.2.2.2.2.2.2.2.2.2.1, ())
 let s_22 := (m1_1.1, m1_1.2.1, m1_1.2.2.1, m1_1.2.2.2.1, m1_1.2.2.2.2.1, m1_1.2.2.2.2.2.1, m1_1.2.2.2.2.2.2.1, m1_1.2.2.2.2.2.2.2.1, m1_1.2.2.2.2.2.2.2.2.1, m1_1.2.2.2.2.2.2.2.2.2.1, m1_1.2.2.2.2.2.2.2.2.2.2.1, m1_1.2.2.2.2.2.2.2.2.2.2.2.1, m1_1.2.2.2.2.2.2.2.2.2.2.2.2.1, ((0 : Int), (0 : Int), (0 : Int), (0 : Int), ()), m1_1.2.2.2.2.2.2.2.2.2.2.2.2.2.2.1, m1_1.2.2.2.2.2.2.2.2.2.2.2.2.2.2.2.1, m1_1.2.2.2.2.2.2.2.2.2.2.2.2.2.2.2.2.1, m1_1.2.2.2.2.2.2.2.2.2.2.2.2.2.2.2.2.2.1, m1_1.2.2.2.2.2.2.2.2.2.2.2.2.2.2.2.2.2.2.1, m1_1.2.2.2.2.2.2.2.2.2.2.2.2.2.2.2.2.2.2.2.1, m1_1.2.2.2.2.2.2.2.2.2.2.2.2.2.2.2.2.2.2.2.2.1, m1_1.2.2.2.2.2.2.2.2.2.2.2.2.2.2.2.2.2.2.2.2.2.1, m1_1.2.2.2.2.2.2.2.2.2.2.2.2.2.2.2.2.2.2.2.2.2.2.1, ([] : List UInt8), (0 : Int), (0 : Int), m1_1.2.2.2.2.2.2.2.2.2.2.2.2.2.2.2.2.2.2.2.2.2.2.2.2.2.2.1, m1_1.2.2.2.2.2.2.2.2.2.2.2.2.2.2.2.2.2.2.2.2.2.2.2.2.2.2.2.1, ())
 let s_25 := (m1_1.1, m1_1.2.1, m1_1.2.2.1, m1_1.2.2.2.1, m1_1.2.2.2.2.1, m1_1.2.2.2.2.2.1, m1_1.2.2.2.2.2.2.1, m1_1.2.2.2.2.2.2.2.1, m1_1.2.2.2.2.2.2.2.2.1, m1_1.2.2.2.2.2.2.2.2.2.1, m1_1.2.2.2.2.2.2.2.2.2.2.1, m1_1.2.2.2.2.2.2.2.2.2.2.2.1, m1_1.2.2.2.2.2.2.2.2.2.2.2.2.1, m1_1.2.2.2.2.2.2.2.2.2.2.2.2.2.1, (0 : Int), ([] : List Int), m1_1.2.2.2.2.2.2.2.2.2.2.2.2.2.2.2.2.1, ([] : List D88), m1_1.2.2.2.2.2.2.2.2.2.2.2.2.2.2.2.2.2.2.1, m1_1.2.2.2.2.2.2.2.2.2.2.2.2.2.2.2.2.2.2.2.1, m1_1.2.2.2.2.2.2.2.2.2.2.2.2.2.2.2.2.2.2.2.2.1, m1_1.2.2.2.2.2.2.2.2.2.2.2.2.2.2.2.2.2.2.2.2.2.1, m1_1.2.2.2.2.2.2.2.2.2.2.2.2.2.2.2.2.2.2.2.2.2.2.1, m1_1.2.2.2.2.2.2.2.2.2.2.2.2.2.2.2.2.2.2.2.2.2.2.2.1, m1_1.2.2.2.2.2.2.2.2.2.2.2.2.2.2.2.2.2.2.2.2.2.2.2.2.1, m1_1.2.2.2.2.2.2.2.2.2.2.2.2.2.2.2.2.2.2.2.2.2.2.2.2.2.1, m1_1.2.2.2.2.2.2.2.2.2.2.2.2.2.2.2.2.2.2.2.2.2.2.2.2.2.2.1, m1_1.2.2.2.2.2.2.2.2.2.2.2.2.2.2.2.2.2.2.2.2.2.2.2.2.2.2.2.1, ())
 let s_27 := (m1_1.1, m1_1.2.1, m1_1.2.2.1, m1_1.2.2.2.1, m1_1.2.2.2.2.1, m1_1.2.2.2.2.2.1, m1_1.2.2.2.2.2.2.1, m1_1.2.2.2.2.2.2.2.1, m1_1.2.2.2.2.2.2.2.2.1, m1_1.2.2.2.2.2.2.2.2.2.1, m1_1.2.2.2.2.2.2.2.2.2.2.1, m1_1.2.2.2.2.2.2.2.2.2.2.2.1, m1_1.2.2.2.2.2.2.2.2.2.2.2.2.1, m1_1.2.2.2.2.2.2.2.2.2.2.2.2.2.1, (0 : Int), ([] : List Int), m1_1.2.2.2.2.2.2.2.2.2.2.2.2.2.2.2.2.1, m1_1.2.2.2.2.2.2.2.2.2.2.2.2.2.2.2.2.2.1, m1_1.2.2.2.2.2.2.2.2.2.2.2.2.2.2.2.2.2.2.1, m1_1.2.2.2.2.2.2.2.2.2.2.2.2.2.2.2.2.2.2.2.1, m1_1.2.2.2.2.2.2.2.2.2.2.2.2.2.2.2.2.2.2.2.2.1, m1_1.2.2.2.2.2.2.2.2.2.2.2.2.2.2.2.2.2.2.2.2.2.1, m1_1.2.2.2.2.2.2.2.2.2.2.2.2.2.2.2.2.2.2.2.2.2.2.1, m1_1.2.2.2.2.2.2.2.2.2.2.2.2.2.2.2.2.2.2.2.2.2.2.2.1, m1_1.2.2.2.2.2.2.2.2.2.2.2.2.2.2.2.2.2.2.2.2.2.2.2.2.1, m1_1.2.2.2.2.2.2.2.2.2.2.2.2.2.2.2.2.2.2.2.2.2.2.2.2.2.1, m1_1.2.2.2.2.2.2.2.2.2.2.2.2.2.2.2.2.2.2.2.2.2.2.2.2.2.2.1, m1_1.2.2.2.2.2.2.2.2.2.2.2.2.2.2.2.2.2.2.2.2.2.2.2.2.2.2.2.1, ())
 let v54 := (m1_1.2.1 == 9)
 let s_28 := (m1_1.1, m1_1.2.1, m1_1.2.2.1, m1_1.2.2.2.1, m1_1.2.2.2.2.1, m1_1.2.2.2.2.2.1, m1_1.2.2.2.2.2.2.1, m1_1.2.2.2.2.2.2.2.1, m1_1.2.2.2.2.2.2.2.2.1, m1_1.2.2.2.2.2.2.2.2.2.1, m1_1.2.2.2.2.2.2.2.2.2.2.1, m1_1.2.2.2.2.2.2.2.2.2.2.2.1, m1_1.2.2.2.2.2.2.2.2.2.2.2.2.1, m1_1.2.2.2.2.2.2.2.2.2.2.2.2.2.1, m1_1.2.2.2.2.2.2.2.2.2.2.2.2.2.2.1, m1_1.2.2.2.2.2.2.2.2.2.2.2.2.2.2.2.1, m1_1.2.2.2.2.2.2.2.2.2.2.2.2.2.2.2.2.1, m1_1.2.2.2.2.2.2.2.2.2.2.2.2.2.2.2.2.2.1, m1_1.2.2.2.2.2.2.2.2.2.2.2.2.2.2.2.2.2.2.1, m1_1.2.2.2.2.2.2.2.2.2.2.2.2.2.2.2.2.2.2.2.1, m1_1.2.2.2.2.2.2.2.2.2.2.2.2.2.2.2.2.2.2.2.2.1, m1_1.2.2.2.2.2.2.2.2.2.2.2.2.2.2.2.2.2.2.2.2.2.1, m1_1.2.2.2.2.2.2.2.2.2.2.2.2.2.2.2.2.2.2.2.2.2.2.1, m1_1.2.2.2.2.2.2.2.2.2.2.2.2.2.2.2.2.2.2.2.2.2.2.2.1, m1_1.2.2.2.2.2.2.2.2.2.2.2.2.2.2.2.2.2.2.2.2.2.2.2.2.1, m1_1.2.2.2.2.2.2.2.2.2.2.2.2.2.2.2.2.2.2.2.2.2.2.2.2.2.1, (0 : Int), m1_1.2.2.2.2.2.2.2.2.2.2.2.2.2.2.2.2.2.2.2.2.2.2.2.2.2.2.2.1, ())
 let s_30 := (m1_1.1, m1_1.2.1, m1_1.2.2.1, m1_1.2.2.2.1, m1_1.2.2.2.2.1, m1_1.2.2.2.2.2.1, m1_1.2.2.2.2.2.2.1, m1_1.2.2.2.2.2.2.2.1, m1_1.2.2.2.2.2.2.2.2.1, m1_1.2.2.2.2.2.2.2.2.2.1, m1_1.2.2.2.2.2.2.2.2.2.2.1, m1_1.2.2.2.2.2.2.2.2.2.2.2.1, m1_1.2.2.2.2.2.2.2.2.2.2.2.2.1, m1_1.2.2.2.2.2.2.2.2.2.2.2.2.2.1, m1_1.2.2.2.2.2.2.2.2.2.2.2.2.2.2.1, m1_1.2.2.2.2.2.2.2.2.2.2.2.2.2.2.2.1, m1_1.2.2.2.2.2.2.2.2.2.2.2.2.2.2.2.2.1, m1_1.2.2.2.2.2.2.2.2.2.2.2.2.2.2.2.2.2.1, m1_1.2.2.2.2.2.2.2.2.2.2.2.2.2.2.2.2.2.2.1, m1_1.2.2.2.2.2.2.2.2.2.2.2.2.2.2.2.2.2.2.2.1, m1_1.2.2.2.2.2.2.2.2.2.2.2.2.2.2.2.2.2.2.2.2.1, m1_1.2.2.2.2.2.2.2.2.2.2.2.2.2.2.2.2.2.2.2.2.2.1, m1_1.2.2.2.2.2.2.2.2.2.2.2.2.2.2.2.2.2.2.2.2.2.2.1, m1_1.2.2.2.2.2.2.2.2.2.2.2.2.2.2.2.2.2.2.2.2.2.2.2.1, m1_1.2.2.2.2.2.2.2.2.2.2.2.2.2.2.2.2.2.2.2.2.2.2.2.2.1, m1_1.2.2.2.2.2.2.2.2.2.2.2.2.2.2.2.2.2.2.2.2.2.2.2.2.2.1, m1_1.2.2.2.2.2.2.2.2.2.2.2.2.2.2.2.2.2.2.2.2.2.2.2.2.2.2.1, ((0 : Int), (0 : Int), (0 : Int), ([] : List D91), ()), ())
 let m1_6 := (bif (m1_1.2.1 == 6) then s_22 else (bif (m1_1.2.1 == 7) then s_25 else (bif (m1_1.2.1 == 8) then s_27 else (bif (bif v54 then v54 else (m1_1.2.1 == 10)) then s_28 else (bif (m1_1.2.1 == 11) then s_30 else m1_1)))))
 (((f83_ok p0.2.1) ∧ (f86_ok m1.2.1)), (bif (m1_1.2.1 == 2) then s_4 else (bif (m1_1.2.1 == 3) then s_6 else (bif (m1_1.2.1 == 4) then s_10 else (bif (m1_1.2.1 == 5) then s_17 else m1_6)))))
def f90_ok (p0 : D60) : Prop := (f90t p0).1
def f90 (p0 : D60) : D60 := (f90t p0).2
instance (p0 : D60) : Decidable (f90_ok p0) := by
 unfold f90_ok f90t
 try dsimp only
 infer_instance
def f90_spec : Am.Spec := fnSpec [(0, (.val T60))] (.val T60) [] (fun x => f90_ok x.1) (fun x => f90 x.1) (fun _ => ())
def f90_ctx : Ctx := Cx tys [(83, f83_spec), (86, f86_spec)] [] [] false 62 [] []
theorem f90_cok : CtxOk Tryz.prog f90_ctx := ctxOk_mk tys_ok rfl ⟨f83_is, f86_is, trivial⟩ rfl (by kernel_rfl)
theorem f90_is : SpecOk Tryz.prog 90 f90_spec := fgen f90_cok mixed Tryz.func90 (by kernel_rfl) (bs := []) (by kernel_rfl) trivial fun x => by kernel_rfl

-- imageeditor/node.Check
def f70t (p0 : D60) (p1 : Int) (p2 : Int) : Prop × Int :=
 let v15 := (f82 p0 p1 p2)
 let v17 := (v15 != 0)
 let v21 := (f83 p0.2.1)
 let v24 := (f84 p0.2.2.2.2.2.2.2.2.2.2.1)
 let v26 := (v24 != 0)
 let v31 := (f85 p0.2.2.2.2.2.2.2.2.2.2.1)
 let v35 := (v31.2.1 != 0)
 let v39 := (f86 p0.2.1)
 let v45 := (bif v39 then (!(f87 p0.2.2.2.2.2.2.2.2.2.2.2.1)) else false)
 let v47 := (f88 p0)
 let v49 := (v47 != 0)
 let v52 := (f90 p0)
 let m6_5 := (bif v17 then v15 else (bif ((v26 || ((!v26) && v35)) && v21) then (bif v26 then v24 else v31.2.1) else (bif v45 then (8 : Int) else (bif v49 then v47 else (bif (!(f89 v52)) then (1 : Int) else (0 : Int))))))
 (((f82_ok p0 p1 p2) ∧ ((!v17) = true → ((f83_ok p0.2.1) ∧ ((v21 = true → ((f84_ok p0.2.2.2.2.2.2.2.2.2.2.1) ∧ ((!v26) = true → (f85_ok p0.2.2.2.2.2.2.2.2.2.2.1)))) ∧ ((bif v21 then ((!v26) && (!v35)) else true) = true → ((f86_ok p0.2.1) ∧ ((v39 = true → (f87_ok p0.2.2.2.2.2.2.2.2.2.2.2.1)) ∧ ((!v45) = true → ((f88_ok p0) ∧ ((!v49) = true → ((f90_ok p0) ∧ (f89_ok v52)))))))))))), m6_5)
def f70_ok (p0 : D60) (p1 : Int) (p2 : Int) : Prop := (f70t p0 p1 p2).1
def f70 (p0 : D60) (p1 : Int) (p2 : Int) : Int := (f70t p0 p1 p2).2
instance (p0 : D60) (p1 : Int) (p2 : Int) : Decidable (f70_ok p0 p1 p2) := by
 unfold f70_ok f70t
 try dsimp only
 infer_instance
def f70_spec : Am.Spec := fnSpec [(0, (.val T60)), (1, vI), (2, vI)] vI [] (fun x => f70_ok x.1 x.2.1 x.2.2.1) (fun x => f70 x.1 x.2.1 x.2.2.1) (fun _ => ())
def f70_ctx : Ctx := Cx tys [(82, f82_spec), (83, f83_spec), (84, f84_spec), (85, f85_spec), (86, f86_spec), (87, f87_spec), (88, f88_spec), (89, f89_spec), (90, f90_spec)] [] [] false 55 [] []
theorem f70_cok : CtxOk Tryz.prog f70_ctx := ctxOk_mk tys_ok rfl ⟨f82_is, f83_is, f84_is, f85_is, f86_is, f87_is, f88_is, f89_is, f90_is, trivial⟩ rfl (by kernel_rfl)
theorem f70_is : SpecOk Tryz.prog 70 f70_spec := fgen f70_cok mixed Tryz.func70 (by kernel_rfl) (bs := []) (by kernel_rfl) trivial fun x => by kernel_rfl

-- imageeditor/document.follows
abbrev f71_v1_L2_Y : Type := ((List (Int × Int × Unit)) × Int × D63 × Unit)
abbrev f71_v1_L2_X : Type := (Int × Unit)
def f71_v1_L2t (y : f71_v1_L2_Y) (x : f71_v1_L2_X) : Prop × Bool × f71_v1_L2_X × Bool × Bool :=
 let a2 := y.2.1 
 let a3 := y.2.2.1 
 let a7 := x.1 
 let v16 := (a7 != 0)
 let v24 := (a7 == (nth a3.2.2.2.1 a2 Z60).2.2.1)
 let v29 := (Option.getD (mfind (.int .i64) (.int .i64) a7 y.1) (0 : Int))
 ((v16 = true → (InB a2 (len a3.2.2.2.1) ∧ ((!v24) = true → InB v29 (len a3.2.2.2.1)))), (v16 && (!v24)), ((nth a3.2.2.2.1 v29 Z60).2.2.1, ()), (v16 && v24), (!v16))
def f71_v1_L2_ok (y : f71_v1_L2_Y) (x : f71_v1_L2_X) : Prop := (f71_v1_L2t y x).1
def f71_v1_L2_g (y : f71_v1_L2_Y) (x : f71_v1_L2_X) : Bool := (f71_v1_L2t y x).2.1
def f71_v1_L2_next (y : f71_v1_L2_Y) (x : f71_v1_L2_X) : f71_v1_L2_X := (f71_v1_L2t y x).2.2.1
def f71_v1_L2_e1 (y : f71_v1_L2_Y) (x : f71_v1_L2_X) : Bool := (f71_v1_L2t y x).2.2.2.1
def f71_v1_L2_e2 (y : f71_v1_L2_Y) (x : f71_v1_L2_X) : Bool := (f71_v1_L2t y x).2.2.2.2
instance (y : f71_v1_L2_Y) (x : f71_v1_L2_X) : Decidable (f71_v1_L2_ok y x) := by
 unfold f71_v1_L2_ok f71_v1_L2t
 try dsimp only
 infer_instance
def f71_v1_L2_x1_0 (y : f71_v1_L2_Y) (x : f71_v1_L2_X) : Bool :=
 true
def f71_v1_L2_l1 : List (Nat × Sh) := [(1, (.own (mapT (.int .i64) (.int .i64)) 400100 true)), (6, vB)]
def f71_v1_L2_l2 : List (Nat × Sh) := [(1, (.own (mapT (.int .i64) (.int .i64)) 400100 true))]
def f71_v1_L2_spec : St → Option Out := loopS [(1, (.own (mapT (.int .i64) (.int .i64)) 400100 true)), (2, vI), (3, (.box T63 (.val T63)))] [(7, vI)] f71_v1_L2_g f71_v1_L2_next f71_v1_L2_ok fun y x => [ex 1 (some (f71_v1_L2_e1 y x)) f71_v1_L2_l1 (y.1, (f71_v1_L2_x1_0 y x), ()), ex 2 (some (f71_v1_L2_e2 y x)) f71_v1_L2_l2 (y.1, ())]
def f71_v1t (p0 : D63) (p1 : (List (Int × Int × Unit))) (p2 : Int) : Prop × Bool × ((List (Int × Int × Unit)) × Unit) :=
 let v11 := (p2 - 1)
 let y2 := (p1, p2, p0, ())
 let x2 := ((nth p0.2.2.2.1 v11 Z60).1, ())
 let e2 := (loopEnd (f71_v1_L2_g y2) (f71_v1_L2_next y2) x2)
 let q2_1 := (f71_v1_L2_e1 y2 e2)
 ((InR (p2 - 1) ∧ (InB v11 (len p0.2.2.2.1) ∧ (Am.Ends (f71_v1_L2_g y2) (f71_v1_L2_next y2) (f71_v1_L2_ok y2) x2))), (bif q2_1 then (f71_v1_L2_x1_0 y2 e2) else false), ((bif q2_1 then p1 else p1), ()))
def f71_v1_ok (p0 : D63) (p1 : (List (Int × Int × Unit))) (p2 : Int) : Prop := (f71_v1t p0 p1 p2).1
def f71_v1 (p0 : D63) (p1 : (List (Int × Int × Unit))) (p2 : Int) : Bool := (f71_v1t p0 p1 p2).2.1
def f71_v1_o (p0 : D63) (p1 : (List (Int × Int × Unit))) (p2 : Int) : ((List (Int × Int × Unit)) × Unit) := (f71_v1t p0 p1 p2).2.2
instance (p0 : D63) (p1 : (List (Int × Int × Unit))) (p2 : Int) : Decidable (f71_v1_ok p0 p1 p2) := by
 unfold f71_v1_ok f71_v1t
 try dsimp only
 infer_instance
def f71_v1_spec : Am.Spec := fnSpec [(0, (.val T63)), (1, (.own (mapT (.int .i64) (.int .i64)) 400100 true)), (2, vI)] vB [(1, (.own (mapT (.int .i64) (.int .i64)) 400100 true))] (fun x => f71_v1_ok x.1 x.2.1 x.2.2.1) (fun x => f71_v1 x.1 x.2.1 x.2.2.1) (fun x => f71_v1_o x.1 x.2.1 x.2.2.1)
def f71_v1_ctx : Ctx := { Cx tys [] [(2, f71_v1_L2_spec)] [] false 33 [1] [] with maps := maps }
theorem f71_v1_cok : CtxOk Tryz.prog f71_v1_ctx := ctxOk_mk tys_ok (by kernel_rfl) trivial rfl (by kernel_rfl)
noncomputable def f71_v1_code : Code := Tryz.f71.body.getD .skip
noncomputable def f71_v1_L2 : Code := nthLoop f71_v1_code 0
theorem f71_v1_L2_is : LoopSnd Tryz.prog f71_v1_ctx f71_v1_L2 := lgen f71_v1_cok mixed (sp := f71_v1_L2_spec) rfl [f71_v1_L2_l1, f71_v1_L2_l2] (bs := []) (by kernel_rfl) trivial (by kernel_rfl) (by kernel_rfl) fun y x => by kernel_rfl
theorem f71_v1_is : SpecOk Tryz.prog 71 f71_v1_spec := fgen f71_v1_cok mixed Tryz.func71 (by kernel_rfl) (bs := [f71_v1_L2]) (by kernel_rfl) ⟨f71_v1_L2_is, trivial⟩ fun x => by kernel_rfl

-- imageeditor/document.checkNodes
abbrev f56_L4_Y : Type := (D63 × (List D60) × Int × Unit)
abbrev f56_L4_X : Type := ((List (Int × Int × Unit)) × (List Int) × Int × Unit)
def f56_L4t (y : f56_L4_Y) (x : f56_L4_X) : Prop × Bool × f56_L4_X × Bool × Bool :=
 let a1 := y.1 
 let a18 := y.2.1 
 let a3 := x.1 
 let a4 := x.2.1 
 let a20 := x.2.2.1 
 let v21 := (decide (a20 < y.2.2.1))
 let v23 := (nth a18 a20 Z60)
 let v32 := ((f70 v23 a1.1 a1.2.1) != 0)
 let v43 := (bif (decide (v23.1 < 1)) then true else (decide (v23.1 ≥ a1.2.2.2.2.1)))
 let v50 := (Option.isSome (mfind (.int .i64) (.int .i64) v23.1 a3))
 let l1004 := (List.set a4 (Int.toNat a20) (1 : Int))
 let v57 := (v23.2.2.1 != 0)
 let v63 := (Option.getD (mfind (.int .i64) (.int .i64) v23.2.2.1 a3) (0 : Int))
 let v66 := (!(Option.isSome (mfind (.int .i64) (.int .i64) v23.2.2.1 a3)))
 let v75 := (bif v66 then true else ((nth a1.2.2.2.1 v63 Z60).2.1 != 1))
 let v80 := (!(f71_v1 a1 a3 a20))
 let v86 := (nth l1004 v63 (0 : Int))
 let c_3 := (bif v57 then ((!v75) && (!v80)) else true)
 let m4 := (bif v57 then (List.set l1004 (Int.toNat a20) (v86 + 1)) else l1004)
 let v93 := (decide ((nth m4 a20 (0 : Int)) > 8))
 let c_14 := ((!v32) && ((!v43) && ((!v50) && (c_3 && (!v93)))))
 ((v21 = true → (InB a20 (len a18) ∧ ((f70_ok v23 a1.1 a1.2.1) ∧ (((!v32) = true → ((!v43) = true → ((!v50) = true → (InB a20 (len a4) ∧ (a20 < len a4 ∧ ((v57 = true → (((!v66) = true → InB v63 (len a1.2.2.2.1)) ∧ ((!v75) = true → ((f71_v1_ok a1 a3 a20) ∧ (0 < List.length a3 ∧ (List.length a3 = List.length a3 ∧ (List.length a3 = List.length a3 ∧ (List.length a3 = List.length a3 ∧ (List.length a3 = List.length a3 ∧ ((!v80) = true → (InB v63 (len l1004) ∧ (v63 < len l1004 ∧ (InR (v86 + 1) ∧ (InB a20 (len l1004) ∧ a20 < len l1004)))))))))))))) ∧ (c_3 = true → (InB a20 (len m4) ∧ a20 < len m4)))))))) ∧ (c_14 = true → InR (a20 + 1)))))), (v21 && c_14), ((mset (.int .i64) (.int .i64) v23.1 a20 (bif v57 then (f71_v1_o a1 a3 a20).1 else a3)), m4, (a20 + 1), ()), (v21 && (v32 || ((!v32) && (v43 || ((!v43) && (v50 || ((!v50) && (((v75 || ((!v75) && v80)) && v57) || (c_3 && v93))))))))), (!v21))
def f56_L4_ok (y : f56_L4_Y) (x : f56_L4_X) : Prop := (f56_L4t y x).1
def f56_L4_g (y : f56_L4_Y) (x : f56_L4_X) : Bool := (f56_L4t y x).2.1
def f56_L4_next (y : f56_L4_Y) (x : f56_L4_X) : f56_L4_X := (f56_L4t y x).2.2.1
def f56_L4_e1 (y : f56_L4_Y) (x : f56_L4_X) : Bool := (f56_L4t y x).2.2.2.1
def f56_L4_e2 (y : f56_L4_Y) (x : f56_L4_X) : Bool := (f56_L4t y x).2.2.2.2
instance (y : f56_L4_Y) (x : f56_L4_X) : Decidable (f56_L4_ok y x) := by
 unfold f56_L4_ok f56_L4t
 try dsimp only
 infer_instance
def f56_L4_x1_0 (y : f56_L4_Y) (x : f56_L4_X) : Int :=
 let a1 := y.1 
 let a3 := x.1 
 let a20 := x.2.2.1 
 let v23 := (nth y.2.1 a20 Z60)
 let v30 := (f70 v23 a1.1 a1.2.1)
 let v75 := (bif (!(Option.isSome (mfind (.int .i64) (.int .i64) v23.2.2.1 a3))) then true else ((nth a1.2.2.2.1 (Option.getD (mfind (.int .i64) (.int .i64) v23.2.2.1 a3) (0 : Int)) Z60).2.1 != 1))
 let m2_2 := (bif (Option.isSome (mfind (.int .i64) (.int .i64) v23.1 a3)) then (10 : Int) else (bif ((v75 || ((!v75) && (!(f71_v1 a1 a3 a20)))) && (v23.2.2.1 != 0)) then (bif v75 then (9 : Int) else (24 : Int)) else (12 : Int)))
 (bif (v30 != 0) then v30 else (bif (bif (decide (v23.1 < 1)) then true else (decide (v23.1 ≥ a1.2.2.2.2.1))) then (2 : Int) else m2_2))
def f56_L4_spec : St → Option Out := loopS [(1, (.box T63 (.val T63))), (18, (.val (.sl T60))), (19, vI)] [(3, (.own (mapT (.int .i64) (.int .i64)) 1003 true)), (4, (.own (.int .i64) 1004 true)), (20, vI)] f56_L4_g f56_L4_next f56_L4_ok fun y x => [ex 1 (some (f56_L4_e1 y x)) [(2, vI)] ((f56_L4_x1_0 y x), ()), ex 2 (some (f56_L4_e2 y x)) [] ()]
def f56t (p0 : D63) : Prop × Int :=
 let v15 := (len p0.2.2.2.1)
 let y4 := (p0, p0.2.2.2.1, (len p0.2.2.2.1), ())
 let x4 := (([] : List (Int × Int × Unit)), (List.replicate (Int.toNat v15) (0 : Int)), (0 : Int), ())
 let e4 := (loopEnd (f56_L4_g y4) (f56_L4_next y4) x4)
 (((0 ≤ v15 ∧ v15 ≤ v15 ∧ v15 ≤ 4294967296) ∧ (Am.Ends (f56_L4_g y4) (f56_L4_next y4) (f56_L4_ok y4) x4)), (bif (f56_L4_e1 y4 e4) then (f56_L4_x1_0 y4 e4) else (0 : Int)))
def f56_ok (p0 : D63) : Prop := (f56t p0).1
def f56 (p0 : D63) : Int := (f56t p0).2
instance (p0 : D63) : Decidable (f56_ok p0) := by
 unfold f56_ok f56t
 try dsimp only
 infer_instance
def f56_spec : Am.Spec := fnSpec [(0, (.val T63))] vI [] (fun x => f56_ok x.1) (fun x => f56 x.1) (fun _ => ())
def f56_ctx : Ctx := { Cx tys [(70, f70_spec), (71, f71_v1_spec)] [(4, f56_L4_spec)] [(3, [(4, 0, 12, 1003)]), (5, [(4, 0, 16, 1004)])] false 99 [] [16] with wants := [(71, [1])], maps := maps }
theorem f56_cok : CtxOk Tryz.prog f56_ctx := ctxOk_mk tys_ok (by kernel_rfl) ⟨f70_is, f71_v1_is, trivial⟩ rfl (by kernel_rfl)
noncomputable def f56_code : Code := Tryz.f56.body.getD .skip
noncomputable def f56_L4 : Code := nthLoop f56_code 0
theorem f56_L4_is : LoopSnd Tryz.prog f56_ctx f56_L4 := lgen f56_cok mixed (sp := f56_L4_spec) rfl [[(2, vI)], []] (bs := []) (by kernel_rfl) trivial (by kernel_rfl) (by kernel_rfl) fun y x => by kernel_rfl
theorem f56_is : SpecOk Tryz.prog 56 f56_spec := fgen f56_cok mixed Tryz.func56 (by kernel_rfl) (bs := [f56_L4]) (by kernel_rfl) ⟨f56_L4_is, trivial⟩ fun x => by kernel_rfl

-- imageeditor/document.checkClips
abbrev f57_L6_Y : Type := (D63 × D60 × (List D60) × Int × Int × Unit)
abbrev f57_L6_X : Type := (Int × Unit)
def f57_L6t (y : f57_L6_Y) (x : f57_L6_X) : Prop × Bool × f57_L6_X :=
 let a1 := y.1 
 let a5 := x.1 
 let v20 := (decide (a5 ≥ 0))
 let v30 := ((nth a1.2.2.2.1 a5 Z60).2.2.1 != y.2.1.2.2.1)
 let v39 := (bif v20 then (bif v30 then true else (nth a1.2.2.2.1 a5 Z60).2.2.2.2.2.2.1) else false)
 (((v20 = true → InB a5 (len a1.2.2.2.1)) ∧ (((v20 && (!v30)) = true → InB a5 (len a1.2.2.2.1)) ∧ (v39 = true → InR (a5 - 1)))), v39, ((a5 - 1), ()))
def f57_L6_ok (y : f57_L6_Y) (x : f57_L6_X) : Prop := (f57_L6t y x).1
def f57_L6_g (y : f57_L6_Y) (x : f57_L6_X) : Bool := (f57_L6t y x).2.1
def f57_L6_next (y : f57_L6_Y) (x : f57_L6_X) : f57_L6_X := (f57_L6t y x).2.2
instance (y : f57_L6_Y) (x : f57_L6_X) : Decidable (f57_L6_ok y x) := by
 unfold f57_L6_ok f57_L6t
 try dsimp only
 infer_instance
def f57_L6_x4_0 (y : f57_L6_Y) (x : f57_L6_X) : Int :=
 x.1
def f57_L6_l4 : List (Nat × Sh) := [(1, (.box T63 (.val T63))), (5, vI), (7, (.val (.sl T60))), (8, vI), (9, vI)]
def f57_L6_spec : St → Option Out := loopS [(1, (.box T63 (.val T63))), (4, (.box T60 (.val T60))), (7, (.val (.sl T60))), (8, vI), (9, vI)] [(5, vI)] f57_L6_g f57_L6_next f57_L6_ok fun y x => [ex 4 none f57_L6_l4 (y.1, (f57_L6_x4_0 y x), y.2.2.1, y.2.2.2.1, y.2.2.2.2.1, ())]
abbrev f57_L2_Y : Type := (Unit)
abbrev f57_L2_X : Type := (D63 × (List D60) × Int × Int × Unit)
def f57_L2t (y : f57_L2_Y) (x : f57_L2_X) : Prop × Bool × f57_L2_X × Bool × Bool :=
 let a1 := x.1 
 let a7 := x.2.1 
 let a8 := x.2.2.1 
 let a9 := x.2.2.2.1 
 let v10 := (decide (a9 < a8))
 let v12 := (nth a7 a9 Z60)
 let v16 := (!v12.2.2.2.2.2.2.1)
 let y6 := (a1, v12, a7, a8, a9, ())
 let x6 := ((a9 - 1), ())
 let r6_4_0 := (f57_L6_x4_0 y6 (loopEnd (f57_L6_g y6) (f57_L6_next y6) x6))
 let v43 := (decide (r6_4_0 < 0))
 let v47 := (nth a1.2.2.2.1 r6_4_0 Z60)
 let v49 := (f72 v47)
 let c_5 := (v16 || ((!v16) && ((!v43) && (!v49))))
 let m9 := (bif v16 then a9 else a9)
 ((v10 = true → (InB a9 (len a7) ∧ (((!v16) = true → (InR (a9 - 1) ∧ ((Am.Ends (f57_L6_g y6) (f57_L6_next y6) (f57_L6_ok y6) x6) ∧ ((!v43) = true → (InB r6_4_0 (len a1.2.2.2.1) ∧ (f72_ok v47)))))) ∧ (c_5 = true → InR (m9 + 1))))), (v10 && c_5), ((bif v16 then a1 else a1), (bif v16 then a7 else a7), (bif v16 then a8 else a8), (m9 + 1), ()), (v10 && ((!v16) && (v43 || ((!v43) && v49)))), (!v10))
def f57_L2_ok (y : f57_L2_Y) (x : f57_L2_X) : Prop := (f57_L2t y x).1
def f57_L2_g (y : f57_L2_Y) (x : f57_L2_X) : Bool := (f57_L2t y x).2.1
def f57_L2_next (y : f57_L2_Y) (x : f57_L2_X) : f57_L2_X := (f57_L2t y x).2.2.1
def f57_L2_e1 (y : f57_L2_Y) (x : f57_L2_X) : Bool := (f57_L2t y x).2.2.2.1
def f57_L2_e2 (y : f57_L2_Y) (x : f57_L2_X) : Bool := (f57_L2t y x).2.2.2.2
instance (y : f57_L2_Y) (x : f57_L2_X) : Decidable (f57_L2_ok y x) := by
 unfold f57_L2_ok f57_L2t
 try dsimp only
 infer_instance
def f57_L2_x1_0 (y : f57_L2_Y) (x : f57_L2_X) : Int :=
 let a7 := x.2.1 
 let a9 := x.2.2.2.1 
 let y6 := (x.1, (nth a7 a9 Z60), a7, x.2.2.1, a9, ())
 (bif (decide ((f57_L6_x4_0 y6 (loopEnd (f57_L6_g y6) (f57_L6_next y6) ((a9 - 1), ()))) < 0)) then (14 : Int) else (8 : Int))
def f57_L2_spec : St → Option Out := loopS [] [(1, (.box T63 (.val T63))), (7, (.val (.sl T60))), (8, vI), (9, vI)] f57_L2_g f57_L2_next f57_L2_ok fun y x => [ex 1 (some (f57_L2_e1 y x)) [(2, vI)] ((f57_L2_x1_0 y x), ()), ex 2 (some (f57_L2_e2 y x)) [] ()]
def f57t (p0 : D63) : Prop × Int :=
 let x2 := (p0, p0.2.2.2.1, (len p0.2.2.2.1), (0 : Int), ())
 let e2 := (loopEnd (f57_L2_g ()) (f57_L2_next ()) x2)
 ((Am.Ends (f57_L2_g ()) (f57_L2_next ()) (f57_L2_ok ()) x2), (bif (f57_L2_e1 () e2) then (f57_L2_x1_0 () e2) else (0 : Int)))
def f57_ok (p0 : D63) : Prop := (f57t p0).1
def f57 (p0 : D63) : Int := (f57t p0).2
instance (p0 : D63) : Decidable (f57_ok p0) := by
 unfold f57_ok f57t
 try dsimp only
 infer_instance
def f57_spec : Am.Spec := fnSpec [(0, (.val T63))] vI [] (fun x => f57_ok x.1) (fun x => f57 x.1) (fun _ => ())
def f57_ctx : Ctx := Cx tys [(72, f72_spec)] [(6, f57_L6_spec), (2, f57_L2_spec)] [] false 51 [] []
theorem f57_cok : CtxOk Tryz.prog f57_ctx := ctxOk_mk tys_ok rfl ⟨f72_is, trivial⟩ rfl (by kernel_rfl)
noncomputable def f57_code : Code := Tryz.f57.body.getD .skip
noncomputable def f57_L2 : Code := nthLoop f57_code 0
noncomputable def f57_L6 : Code := nthLoop f57_L2 0
theorem f57_L6_is : LoopSnd Tryz.prog f57_ctx f57_L6 := lgen f57_cok mixed (sp := f57_L6_spec) rfl [f57_L6_l4] (bs := []) (by kernel_rfl) trivial (by kernel_rfl) (by kernel_rfl) fun y x => by kernel_rfl
theorem f57_L2_is : LoopSnd Tryz.prog f57_ctx f57_L2 := lgen f57_cok mixed (sp := f57_L2_spec) rfl [[(2, vI)], []] (bs := [f57_L6]) (by kernel_rfl) ⟨f57_L6_is, trivial⟩ (by kernel_rfl) (by kernel_rfl) fun y x => by kernel_rfl
theorem f57_is : SpecOk Tryz.prog 57 f57_spec := fgen f57_cok mixed Tryz.func57 (by kernel_rfl) (bs := [f57_L2]) (by kernel_rfl) ⟨f57_L2_is, trivial⟩ fun x => by kernel_rfl

-- imageeditor/document.isName
abbrev f73_L4_Y : Type := ((List UInt8) × Int × Unit)
abbrev f73_L4_X : Type := (Int × Unit)
def f73_L4t (y : f73_L4_Y) (x : f73_L4_X) : Prop × Bool × f73_L4_X × Bool × Bool :=
 let a0 := y.1 
 let a14 := x.1 
 let v15 := (decide (a14 < y.2.1))
 let v20 := (decide ((byteAt a0 a14) < 33))
 let v26 := (bif v20 then true else (decide ((byteAt a0 a14) > 126)))
 ((v15 = true → (InB a14 (len a0) ∧ (((!v20) = true → InB a14 (len a0)) ∧ ((!v26) = true → InR (a14 + 1))))), (v15 && (!v26)), ((a14 + 1), ()), (v15 && v26), (!v15))
def f73_L4_ok (y : f73_L4_Y) (x : f73_L4_X) : Prop := (f73_L4t y x).1
def f73_L4_g (y : f73_L4_Y) (x : f73_L4_X) : Bool := (f73_L4t y x).2.1
def f73_L4_next (y : f73_L4_Y) (x : f73_L4_X) : f73_L4_X := (f73_L4t y x).2.2.1
def f73_L4_e1 (y : f73_L4_Y) (x : f73_L4_X) : Bool := (f73_L4t y x).2.2.2.1
def f73_L4_e2 (y : f73_L4_Y) (x : f73_L4_X) : Bool := (f73_L4t y x).2.2.2.2
instance (y : f73_L4_Y) (x : f73_L4_X) : Decidable (f73_L4_ok y x) := by
 unfold f73_L4_ok f73_L4t
 try dsimp only
 infer_instance
def f73_L4_x1_0 (y : f73_L4_Y) (x : f73_L4_X) : Bool :=
 false
def f73_L4_spec : St → Option Out := loopS [(0, vS), (13, vI)] [(14, vI)] f73_L4_g f73_L4_next f73_L4_ok fun y x => [ex 1 (some (f73_L4_e1 y x)) [(2, vB)] ((f73_L4_x1_0 y x), ()), ex 2 (some (f73_L4_e2 y x)) [] ()]
def f73t (p0 : (List UInt8)) : Prop × Bool :=
 let v11 := (bif (decide ((len p0) < 1)) then true else (decide ((len p0) > 32)))
 let y4 := (p0, (len p0), ())
 let x4 := ((0 : Int), ())
 let e4 := (loopEnd (f73_L4_g y4) (f73_L4_next y4) x4)
 (((!v11) = true → (Am.Ends (f73_L4_g y4) (f73_L4_next y4) (f73_L4_ok y4) x4)), (bif v11 then false else (bif (f73_L4_e1 y4 e4) then (f73_L4_x1_0 y4 e4) else true)))
def f73_ok (p0 : (List UInt8)) : Prop := (f73t p0).1
def f73 (p0 : (List UInt8)) : Bool := (f73t p0).2
instance (p0 : (List UInt8)) : Decidable (f73_ok p0) := by
 unfold f73_ok f73t
 try dsimp only
 infer_instance
def f73_spec : Am.Spec := fnSpec [(0, vS)] vB [] (fun x => f73_ok x.1) (fun x => f73 x.1) (fun _ => ())
def f73_ctx : Ctx := Cx tys [] [(4, f73_L4_spec)] [] false 28 [] []
theorem f73_cok : CtxOk Tryz.prog f73_ctx := ctxOk_mk tys_ok rfl trivial rfl (by kernel_rfl)
noncomputable def f73_code : Code := Tryz.f73.body.getD .skip
noncomputable def f73_L4 : Code := nthLoop f73_code 0
theorem f73_L4_is : LoopSnd Tryz.prog f73_ctx f73_L4 := lgen f73_cok mixed (sp := f73_L4_spec) rfl [[(2, vB)], []] (bs := []) (by kernel_rfl) trivial (by kernel_rfl) (by kernel_rfl) fun y x => by kernel_rfl
theorem f73_is : SpecOk Tryz.prog 73 f73_spec := fgen f73_cok mixed Tryz.func73 (by kernel_rfl) (bs := [f73_L4]) (by kernel_rfl) ⟨f73_L4_is, trivial⟩ fun x => by kernel_rfl

-- imageeditor/document.checkLinks
abbrev f58_L9_Y : Type := (D63 × D76 × (List D76) × Int × Int × (List D76) × Int × Unit)
abbrev f58_L9_X : Type := (Int × Unit)
def f58_L9t (y : f58_L9_Y) (x : f58_L9_X) : Prop × Bool × f58_L9_X × Bool × Bool :=
 let a4 := y.2.1 
 let a53 := y.2.2.2.2.2.1 
 let a55 := x.1 
 let v56 := (decide (a55 < y.2.2.2.2.2.2.1))
 let v57 := (nth a53 a55 Z76)
 let v70 := (bif (v57.1 == a4.1) then true else (v57.2.1 == a4.2.1))
 ((v56 = true → (InB a55 (len a53) ∧ ((!v70) = true → InR (a55 + 1)))), (v56 && (!v70)), ((a55 + 1), ()), (v56 && v70), (!v56))
def f58_L9_ok (y : f58_L9_Y) (x : f58_L9_X) : Prop := (f58_L9t y x).1
def f58_L9_g (y : f58_L9_Y) (x : f58_L9_X) : Bool := (f58_L9t y x).2.1
def f58_L9_next (y : f58_L9_Y) (x : f58_L9_X) : f58_L9_X := (f58_L9t y x).2.2.1
def f58_L9_e1 (y : f58_L9_Y) (x : f58_L9_X) : Bool := (f58_L9t y x).2.2.2.1
def f58_L9_e4 (y : f58_L9_Y) (x : f58_L9_X) : Bool := (f58_L9t y x).2.2.2.2
instance (y : f58_L9_Y) (x : f58_L9_X) : Decidable (f58_L9_ok y x) := by
 unfold f58_L9_ok f58_L9t
 try dsimp only
 infer_instance
def f58_L9_x1_0 (y : f58_L9_Y) (x : f58_L9_X) : Int :=
 (10 : Int)
def f58_L9_l4 : List (Nat × Sh) := [(1, (.box T63 (.val T63))), (4, (.box T76 (.val T76))), (9, (.val (.sl T76))), (10, vI), (11, vI)]
def f58_L9_spec : St → Option Out := loopS [(1, (.box T63 (.val T63))), (4, (.box T76 (.val T76))), (9, (.val (.sl T76))), (10, vI), (11, vI), (53, (.val (.sl T76))), (54, vI)] [(55, vI)] f58_L9_g f58_L9_next f58_L9_ok fun y x => [ex 1 (some (f58_L9_e1 y x)) [(2, vI)] ((f58_L9_x1_0 y x), ()), ex 4 (some (f58_L9_e4 y x)) f58_L9_l4 (y.1, y.2.1, y.2.2.1, y.2.2.2.1, y.2.2.2.2.1, ())]
abbrev f58_L2_Y : Type := (D63 × (List D76) × Int × Unit)
abbrev f58_L2_X : Type := (Int × Unit)
def f58_L2t (y : f58_L2_Y) (x : f58_L2_X) : Prop × Bool × f58_L2_X × Bool × Bool :=
 let a1 := y.1 
 let a9 := y.2.1 
 let a10 := y.2.2.1 
 let a11 := x.1 
 let v12 := (decide (a11 < a10))
 let v14 := (nth a9 a11 Z76)
 let v19 := (!(f73 v14.2.1))
 let v44 := (bif (bif (bif (bif (decide (v14.1 < 1)) then true else (decide (v14.1 ≥ a1.2.2.2.2.1))) then true else (decide (v14.2.2.1 < 0))) then true else (decide (v14.2.2.1 > 2))) then true else (decide (v14.2.2.2.1 < 1)))
 let v49 := (bif v44 then true else (decide (v14.2.2.2.1 > 1073741824)))
 let v53 := (List.take (Int.toNat a11) a1.2.2.2.2.2.2.2.1)
 let y9 := (a1, v14, a9, a10, a11, v53, (len v53), ())
 let x9 := ((0 : Int), ())
 let e9 := (loopEnd (f58_L9_g y9) (f58_L9_next y9) x9)
 let q9_4 := (f58_L9_e4 y9 e9)
 let v76 := ((f74 v14.2.2.2.2.1) != 0)
 let c_8 := ((!v19) && ((!v49) && (q9_4 && (!v76))))
 ((v12 = true → (InB a11 (len a9) ∧ ((f73_ok v14.2.1) ∧ (((!v19) = true → ((!v49) = true → ((0 ≤ a11 ∧ a11 ≤ len a1.2.2.2.2.2.2.2.1) ∧ ((Am.Ends (f58_L9_g y9) (f58_L9_next y9) (f58_L9_ok y9) x9) ∧ (q9_4 = true → (f74_ok v14.2.2.2.2.1)))))) ∧ (c_8 = true → InR (a11 + 1)))))), (v12 && c_8), ((a11 + 1), ()), (v12 && (v19 || ((!v19) && (v49 || ((!v49) && ((f58_L9_e1 y9 e9) || (q9_4 && v76))))))), (!v12))
def f58_L2_ok (y : f58_L2_Y) (x : f58_L2_X) : Prop := (f58_L2t y x).1
def f58_L2_g (y : f58_L2_Y) (x : f58_L2_X) : Bool := (f58_L2t y x).2.1
def f58_L2_next (y : f58_L2_Y) (x : f58_L2_X) : f58_L2_X := (f58_L2t y x).2.2.1
def f58_L2_e1 (y : f58_L2_Y) (x : f58_L2_X) : Bool := (f58_L2t y x).2.2.2.1
def f58_L2_e2 (y : f58_L2_Y) (x : f58_L2_X) : Bool := (f58_L2t y x).2.2.2.2
instance (y : f58_L2_Y) (x : f58_L2_X) : Decidable (f58_L2_ok y x) := by
 unfold f58_L2_ok f58_L2t
 try dsimp only
 infer_instance
def f58_L2_x1_0 (y : f58_L2_Y) (x : f58_L2_X) : Int :=
 let a1 := y.1 
 let a9 := y.2.1 
 let a11 := x.1 
 let v14 := (nth a9 a11 Z76)
 let v44 := (bif (bif (bif (bif (decide (v14.1 < 1)) then true else (decide (v14.1 ≥ a1.2.2.2.2.1))) then true else (decide (v14.2.2.1 < 0))) then true else (decide (v14.2.2.1 > 2))) then true else (decide (v14.2.2.2.1 < 1)))
 let v53 := (List.take (Int.toNat a11) a1.2.2.2.2.2.2.2.1)
 let y9 := (a1, v14, a9, y.2.2.1, a11, v53, (len v53), ())
 let e9 := (loopEnd (f58_L9_g y9) (f58_L9_next y9) ((0 : Int), ()))
 let m2_2 := (bif (!(f73 v14.2.1)) then (13 : Int) else (bif (bif v44 then true else (decide (v14.2.2.2.1 > 1073741824))) then (2 : Int) else (bif (f58_L9_e1 y9 e9) then (f58_L9_x1_0 y9 e9) else (f74 v14.2.2.2.2.1))))
 m2_2
def f58_L2_spec : St → Option Out := loopS [(1, (.box T63 (.val T63))), (9, (.val (.sl T76))), (10, vI)] [(11, vI)] f58_L2_g f58_L2_next f58_L2_ok fun y x => [ex 1 (some (f58_L2_e1 y x)) [(2, vI)] ((f58_L2_x1_0 y x), ()), ex 2 (some (f58_L2_e2 y x)) [] ()]
def f58t (p0 : D63) : Prop × Int :=
 let y2 := (p0, p0.2.2.2.2.2.2.2.1, (len p0.2.2.2.2.2.2.2.1), ())
 let x2 := ((0 : Int), ())
 let e2 := (loopEnd (f58_L2_g y2) (f58_L2_next y2) x2)
 ((Am.Ends (f58_L2_g y2) (f58_L2_next y2) (f58_L2_ok y2) x2), (bif (f58_L2_e1 y2 e2) then (f58_L2_x1_0 y2 e2) else (0 : Int)))
def f58_ok (p0 : D63) : Prop := (f58t p0).1
def f58 (p0 : D63) : Int := (f58t p0).2
instance (p0 : D63) : Decidable (f58_ok p0) := by
 unfold f58_ok f58t
 try dsimp only
 infer_instance
def f58_spec : Am.Spec := fnSpec [(0, (.val T63))] vI [] (fun x => f58_ok x.1) (fun x => f58 x.1) (fun _ => ())
def f58_ctx : Ctx := Cx tys [(73, f73_spec), (74, f74_spec)] [(9, f58_L9_spec), (2, f58_L2_spec)] [] false 79 [] []
theorem f58_cok : CtxOk Tryz.prog f58_ctx := ctxOk_mk tys_ok rfl ⟨f73_is, f74_is, trivial⟩ rfl (by kernel_rfl)
noncomputable def f58_code : Code := Tryz.f58.body.getD .skip
noncomputable def f58_L2 : Code := nthLoop f58_code 0
noncomputable def f58_L9 : Code := nthLoop f58_L2 0
theorem f58_L9_is : LoopSnd Tryz.prog f58_ctx f58_L9 := lgen f58_cok mixed (sp := f58_L9_spec) rfl [[(2, vI)], f58_L9_l4] (bs := []) (by kernel_rfl) trivial (by kernel_rfl) (by kernel_rfl) fun y x => by kernel_rfl
theorem f58_L2_is : LoopSnd Tryz.prog f58_ctx f58_L2 := lgen f58_cok mixed (sp := f58_L2_spec) rfl [[(2, vI)], []] (bs := [f58_L9]) (by kernel_rfl) ⟨f58_L9_is, trivial⟩ (by kernel_rfl) (by kernel_rfl) fun y x => by kernel_rfl
theorem f58_is : SpecOk Tryz.prog 58 f58_spec := fgen f58_cok mixed Tryz.func58 (by kernel_rfl) (bs := [f58_L2]) (by kernel_rfl) ⟨f58_L2_is, trivial⟩ fun x => by kernel_rfl


end Go.Proofs.YtcjaalnbodmdgaaGreatDoor.Am
