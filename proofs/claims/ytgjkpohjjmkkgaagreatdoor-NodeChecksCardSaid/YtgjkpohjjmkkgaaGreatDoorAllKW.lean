/- The standard font is one that both packages know; the reference's is the program's. No condition. -/
import Derived.Test.YtgjkpohjjmkkgaaGreatDoorAllC1
import Derived.Test.YtgjkpohjjmkkgaaGreatDoorAllFU
namespace Go.Proofs.YtgjkpohjjmkkgaaGreatDoor.Am
open Go Go.Am
theorem mH8:len std.2.2.2.1=95:=by kernel_rfl
theorem nE4:std.2.2.2.1.all (λg=>decide (g.2.2.1.length<=4096))=true:=by kernel_rfl
theorem oQ8:std.2.2.2.1.all (λg=>decide (0<=g.1)&&decide (g.1<256))=true:=by kernel_rfl
theorem oQ9 {α:Type}{P:α->Prop}{l:List α}{d:α}(h:∀x∈l,P x)(j:P d)(i:Int):P (nth l i d):=by unfold nth;rw[jM];cases o:l[i.toNat]? with|none=>exact j|some x=>exact h x (List.mem_of_getElem? o)
theorem tD6:Known std where
 gs:=by rw[mH8];decide
 ks:=by show (4:Int)<_;decide
 segs i:=oQ9 (P:=λg:D137=>len g.2.2.1<9223372036854775808) (λg j=>by
  have:=jF (List.all_eq_true.1 nE4 g j);unfold len;omega) (by decide) i
 chars i _ _:=oQ9 (P:=λg:D137=>0<=g.1/\g.1<256) (λg j=>by
  have:=List.all_eq_true.1 oQ8 g j;simp only[jB,decide_eq_true_eq] at this;exact this) (by decide) i
end Go.Proofs.YtgjkpohjjmkkgaaGreatDoor.Am
