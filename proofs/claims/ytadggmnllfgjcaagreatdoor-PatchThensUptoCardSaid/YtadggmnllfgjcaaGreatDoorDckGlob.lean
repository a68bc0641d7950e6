/- The listed tables strings.asciiSpace and num.sines, as the machine wants them. No condition. -/
import Derived.Test.YtadggmnllfgjcaaGreatDoorCards
import Derived.Test.YtadggmnllfgjcaaGreatDoorDckP1
import Derived.Lib.LaidTab
import Derived.Stop.LaidErr
import Derived.MakeChecks
namespace Go.Proofs.YtadggmnllfgjcaaGreatDoor.Am
open Go Go.Am Go.RowKit
variable {k:IntKind}
theorem pI5{χ:Nat->Nat->Nat}{w:World}:∀{l:List Int},CH (AP χ w (.int k)) l (l.map (Value.int k)):=by
 intro l
 induction l with
 |nil=>simp[CH]
 |cons x l j=>exact⟨[.int k x],_,rfl,by simp only[AP],j⟩
theorem oG{W:World}{g n:Nat}{l:List Int}(o:l.length=n)(R:0<n)(C:∀i,i<n->W.cell? ⟨g,i,none⟩=some (.int k (l.getD i 0))) :
  ∃vs,AP (λb _=>if b<W.heap.size then 0 else 2) W (.arr n (.int k)) l vs/\L5 (λb _=>if b<W.heap.size then 0 else 2) W g 0 vs:=by
 have gz:g<W.heap.size:=World.block_lt_of_cell? _ _ (C 0 R);refine⟨l.map (Value.int k),⟨o,pI5⟩,λj v I=>?_⟩;rw[List.getElem?_map] at I;obtain⟨z,J,rfl⟩:=Option.map_eq_some_iff.1 I;have hj:j<n:=by rw[<-o];exact (List.getElem?_eq_some_iff.1 J).1
 refine⟨?_,by simp[gz]⟩;rw[Nat.zero_add,C j hj,jM,J];rfl
theorem mH1:Rows.laid_strings_asciiSpace (H:=Unit)=Lib.tabData .u8 G0:=by kernel_rfl
theorem mH2:Rows.laid_imageeditor_num_sines (H:=Unit)=Lib.tabData .i64 G5:=by kernel_rfl
theorem glob_of (W:World)(h:laidMetH Tryz.prog Rows.patchDiffsRow.laid W):GlobOk (λb _=>if b<W.heap.size then 0 else 2) W:=by
 intro g τ x hm;have h:=(MakeChecks.laidMetH_plain Tryz.prog Rows.patchDiffsRow.laid W (by kernel_rfl)).mp h;have h5:laidMet Tryz.prog (("imageeditor/num.sines",Rows.laid_imageeditor_num_sines)::[("unicode.White_Space",Rows.laid_unicode_White_Space),("strings.asciiSpace",Rows.laid_strings_asciiSpace),("unicode/utf8.first",Rows.laid_unicode_utf8_first)]) W:=laidMet.tail h;have h0:laidMet Tryz.prog (("strings.asciiSpace",Rows.laid_strings_asciiSpace)::[("unicode/utf8.first",Rows.laid_unicode_utf8_first)]) W:=laidMet.tail (laidMet.tail h5);rcases List.mem_cons.1 hm with hm|hm
 ·cases hm;rw[mH1] at h0;have ht:=Lib.tabIs_of_head (g:=0) (n:=256) (by kernel_rfl) (t:=Tryz.prog.globals[0]!.type) (by kernel_rfl) (e:=5) (by kernel_rfl) (by kernel_rfl) (by kernel_rfl) (by kernel_rfl) h0;have hlen:G0.length=256:=by kernel_rfl
  exact oG hlen (by decide) λi hi=>ht.cell (g:=0) (by kernel_rfl) i (by rw[hlen];exact hi)
 ·cases jH.1 hm;rw[mH2] at h5;have ht:=Lib.tabIs_of_head (g:=5) (n:=65) (by kernel_rfl) (t:=Tryz.prog.globals[5]!.type) (by kernel_rfl) (e:=3) (by kernel_rfl) (by kernel_rfl) (by kernel_rfl) (by kernel_rfl) h5;have hlen:G5.length=65:=by kernel_rfl
  exact oG hlen (by decide) λi hi=>ht.cell (g:=5) (by kernel_rfl) i (by rw[hlen];exact hi)
end Go.Proofs.YtadggmnllfgjcaaGreatDoor.Am
