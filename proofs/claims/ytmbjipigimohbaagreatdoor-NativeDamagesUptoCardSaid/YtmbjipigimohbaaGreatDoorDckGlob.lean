/- The listed tables strings.asciiSpace and num.sines, as the machine wants them. No condition. -/
import Derived.Test.YtmbjipigimohbaaGreatDoorCards
import Derived.Test.YtmbjipigimohbaaGreatDoorDckP1
import Derived.Lib.LaidTab
import Derived.Stop.LaidErr
import Derived.MakeChecks
namespace Go.Proofs.YtmbjipigimohbaaGreatDoor.Am
open Go Go.Am Go.RowKit
theorem rC0 {χ:Nat→Nat→Nat}{w:World}{k:IntKind}:∀ {l:List Int},zM5 (zB6 χ w (.int k)) l (l.map (Value.int k)):=by
 intro l
 induction l with
 |nil=>simp[zM5]
 |cons x l ih=>exact⟨[.int k x],_,rfl,by simp only[zB6],ih⟩
theorem rJ2 {W:World}{g n:Nat}{k:IntKind}{l:List Int}(hn:l.length=n)(hp:0<n)(hc:∀ i,i<n→W.cell? ⟨g,i,none⟩=some (.int k (l.getD i 0))) :
  ∃ vs,zB6 (fun b _=>if b<W.heap.size then 0 else 2) W (.arr n (.int k)) l vs∧yK (fun b _=>if b<W.heap.size then 0 else 2) W g 0 vs:=by
 have hpos:g<W.heap.size:=World.block_lt_of_cell? _ _ (hc 0 hp);refine⟨l.map (Value.int k),⟨hn,rC0⟩,fun j v hv=>?_⟩;rw[List.getElem?_map] at hv;obtain⟨z,hz,rfl⟩:=Option.map_eq_some_iff.1 hv;have hj:j<n:=by rw[← hn];exact (List.getElem?_eq_some_iff.1 hz).1
 refine⟨?_,by simp[hpos]⟩;rw[Nat.zero_add,hc j hj,List.getD_eq_getElem?_getD,hz];rfl
theorem qJ9:Rows.laid_strings_asciiSpace (H:=Unit)=Lib.tabData .u8 G0:=by kernel_rfl
theorem qK:Rows.laid_imageeditor_num_sines (H:=Unit)=Lib.tabData .i64 G5:=by kernel_rfl
theorem glob_of (W:World)(h:laidMetH Tryz.prog Rows.nativeDamagesRow.laid W):GlobOk (fun b _=>if b<W.heap.size then 0 else 2) W:=by
 intro g τ x hm;have h:=(MakeChecks.laidMetH_plain Tryz.prog Rows.nativeDamagesRow.laid W (by kernel_rfl)).mp h;have h5:laidMet Tryz.prog (("imageeditor/num.sines",Rows.laid_imageeditor_num_sines)::[("unicode.White_Space",Rows.laid_unicode_White_Space),("strings.asciiSpace",Rows.laid_strings_asciiSpace),("unicode/utf8.first",Rows.laid_unicode_utf8_first)]) W:=laidMet.tail h;have h0:laidMet Tryz.prog (("strings.asciiSpace",Rows.laid_strings_asciiSpace)::[("unicode/utf8.first",Rows.laid_unicode_utf8_first)]) W:=laidMet.tail (laidMet.tail h5);rcases List.mem_cons.1 hm with hm|hm
 ·cases hm;rw[qJ9] at h0;have ht:=Lib.tabIs_of_head (g:=0) (n:=256) (by kernel_rfl) (t:=Tryz.prog.globals[0]!.type) (by kernel_rfl) (e:=5) (by kernel_rfl) (by kernel_rfl) (by kernel_rfl) (by kernel_rfl) h0;have hlen:G0.length=256:=by kernel_rfl
  exact rJ2 hlen (by decide) fun i hi=>ht.cell (g:=0) (by kernel_rfl) i (by rw[hlen];exact hi)
 ·cases List.mem_singleton.1 hm;rw[qK] at h5;have ht:=Lib.tabIs_of_head (g:=5) (n:=65) (by kernel_rfl) (t:=Tryz.prog.globals[5]!.type) (by kernel_rfl) (e:=3) (by kernel_rfl) (by kernel_rfl) (by kernel_rfl) (by kernel_rfl) h5;have hlen:G5.length=65:=by kernel_rfl
  exact rJ2 hlen (by decide) fun i hi=>ht.cell (g:=5) (by kernel_rfl) i (by rw[hlen];exact hi)
end Go.Proofs.YtmbjipigimohbaaGreatDoor.Am
