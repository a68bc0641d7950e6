/- NativeNone: readers that are nil or were not made. No condition. -/
import Derived.Test.YtbiemgjkkhkdeaaGreatDoorNatQ
import Derived.Test.YtbiemgjkkhkdeaaGreatDoorNatP4
import Derived.Test.YtbiemgjkkhkdeaaGreatDoorMach5
set_option linter.unusedVariables false
namespace Go.Proofs.YtbiemgjkkhkdeaaGreatDoor.Am
open Go Go.Am Go.Proofs
theorem uY8 {α:Type}{q:α→Prop}:∀ v∈([]:List α),q v:=fun v h=>absurd h List.not_mem_nil
theorem vX0 {α:Type}:([]:List α).length≤1048576:=Nat.zero_le _
theorem uY9 {α:Type}:len ([]:List α)<9223372036854775808:=by simp[len]
theorem kn {k:Int}(h:I64 k):NW (kN k):=by
 have z:I64 0:=⟨by decide,by decide⟩;exact { h0:=z,h1:=h,h2:=z,h3:=vX0 (α:=UInt8),h7:=z,h8:=z,h9:=uY9 (α:=Int),h10_0:=z,h10_1:=z,h10_2:=z,h10_3:=z,h10_4:=z,h10_5:=z,h11:=z,h12:=uY9 (α:=D45),h13:=⟨z,z,z,z⟩,h14:=z,h15:=uY8 (α:=Int),l15:=vX0 (α:=Int),h16:=z,h17:=uY8 (α:=D111),l17:=vX0 (α:=D111),h18:=uY8 (α:=D114),l18:=vX0 (α:=D114),h19:=z,h20:=z,h21:=z,h22:=z,h23:=vX0 (α:=UInt8),h24:=z,h25:=z,h26:=z,h27_0:=z,h27_1:=z,h27_2:=z,h27:=uY8 (α:=D106),l27:=vX0 (α:=D106) }
theorem all8 {a b c d e f g h:Prop}(h1:a)(h2:b)(h3:c)(h4:d)(h5:e)(h6:f)(h7:g)(h8:h):yW [a,b,c,d,e,f,g,h]:=⟨h1,h2,h3,h4,h5,h6,h7,h8⟩
theorem tX8 (k:Int)(p1:vX7 (kN k))(p2:vX9 (kN k)):f5_ok k:=all8 ⟨by decide,by decide⟩ (fun _=>⟨by decide,by decide⟩) (fun _=>⟨by decide,by decide⟩) ⟨by decide,by decide⟩ (fun _=>⟨by decide,by decide⟩) (fun _=>⟨by decide,by decide⟩) p1 p2
theorem tX9 (k:Int)(p3:f20 (kN k)=f21 (kN k)):f5 k=true:=by
 simp only[f5,f5t,p3,beq_self_eq_true,cond_true];rfl
theorem nativeNone_law:∀ x,wfL 0 [.int .i64] x→f5_ok x.1∧f5 x.1=true:=by
 rintro⟨k,⟨⟩⟩ ⟨h,_⟩;obtain⟨p1,p2,p3⟩:=tX7 (kn (k:=k) h);exact⟨tX8 k p1 p2,tX9 k p3⟩
end Go.Proofs.YtbiemgjkkhkdeaaGreatDoor.Am
