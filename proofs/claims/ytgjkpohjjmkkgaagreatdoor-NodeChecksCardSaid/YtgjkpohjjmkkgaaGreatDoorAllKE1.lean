/- The program's own closed example, by the kernel. No condition. -/
import Derived.Test.YtgjkpohjjmkkgaaGreatDoorAllP5
import Derived.Test.YtgjkpohjjmkkgaaGreatDoorAllKV
namespace Go.Proofs.YtgjkpohjjmkkgaaGreatDoor.Am
open Go Go.Am
theorem mF7:f6=true:=by kernel_rfl
end Go.Proofs.YtgjkpohjjmkkgaaGreatDoor.Am
namespace Go.Proofs.YtgjkpohjjmkkgaaGreatDoor.Am
open Go Go.Am
theorem mF8:(tC9 3/\tC9 8/\tC9 11)/\sR1 (f25 8).1/\sR1 (f25 11).1:=jF (by kernel_rfl)
theorem mX0:mF3:=by (have fit:∀p:D37,(decide (len p.2.2.2.1<1000)&&(decide (len p.2.2.2.2.2.2.2.2.2.1.2.2.1<1000)&&(decide (len p.2.2.2.2.2.2.2.2.2.2.2.2.1.2.2.1<1000)&&(decide (len p.2.2.2.2.2.2.2.2.2.2.2.2.2.2.2.1<1000)&&(decide (len p.2.2.2.2.2.2.2.2.2.2.2.2.2.2.2.2.2.1<1000)&&(decide (len p.2.2.2.2.2.2.2.2.2.2.2.2.2.2.2.2.2.2.1<1000)&&(decide (len p.2.2.2.2.2.2.2.2.2.2.2.2.2.2.2.2.2.2.2.2.2.2.2.1<1000)&&decide (len p.2.2.2.2.2.2.2.2.2.2.2.2.2.2.2.2.2.2.2.2.2.2.2.2.2.2.2.1.2.2.2.1<1000))))))))=true->tJ4 p:=λp h=>by simp only[jB,decide_eq_true_eq] at h;unfold tJ4;omega);obtain⟨⟨a,b,c⟩,d,e⟩:=mF8;exact⟨a,b,λ_=>qC2 _ _ _ (fit _ (by kernel_rfl)),λ_=>d,λ_=>trivial,λ_=>trivial,λ_=>⟨c,λ_=>qC2 _ _ _ (fit _ (by kernel_rfl)),λ_=>qC2 _ _ _ (fit _ (by kernel_rfl)),λ_=>qC2 _ _ _ (fit _ (by kernel_rfl)),λ_=>e,λ_=>trivial⟩⟩
end Go.Proofs.YtgjkpohjjmkkgaaGreatDoor.Am
