/- strings.Builder at this program's own numbers: copyCheck, WriteString by walks; String by the shelf. No condition. -/
import Derived.Test.YtmbjipigimohbaaGreatDoorBldW
import Derived.Test.YtmbjipigimohbaaGreatDoorShelfB
set_option linter.unusedVariables false
namespace Go.Am
open Go Go.Shelf Go.RowKit Go.Proofs
theorem rI:(Tryz.prog.info? 89).map (·.size)=some 2:=Tryz.Builder_Extra_169.sizeBuilder
theorem rC6:Tryz.prog.underlying 87=some (.pointer 89):=Tryz.underlying87
theorem rI0:Tryz.prog.underlying 155=some .unsafePointer:=Tryz.underlying155
set_option maxHeartbeats 1000000 in
set_option maxRecDepth 100000 in
theorem sK0 (b:Nat)(w:World)(h0:w.cell? ⟨b,0,none⟩=some (.pointer (some ⟨b,0,none⟩))) :
  Calls Tryz.prog 69 #[.pointer (some ⟨b,0,none⟩)] w fun e w'=>e=.returned (.tuple #[])∧w'=w:=by
 obtain⟨j,hj,_⟩:=Option.map_eq_some_iff.1 rI
 go_enter Tryz.func69,Tryz.ntmps69
 go_wp2
 rw[Lib.run_neq_ptr_same w _ rC6 hj]
 go_wp2
 go_end0
 exact⟨rfl,rfl⟩
set_option maxHeartbeats 1000000 in
set_option maxRecDepth 100000 in
theorem tX4 (b:Nat)(w:World)(h0:w.cell? ⟨b,0,none⟩=some (.pointer none))(hsh:w.shape? b=some (89,2))(hfz:w.frozen? ⟨b,0,none⟩=false) :
  Calls Tryz.prog 69 #[.pointer (some ⟨b,0,none⟩)] w fun e w'=>e=.returned (.tuple #[])∧w'=w.setCell ⟨b,0,none⟩ (.pointer (some ⟨b,0,none⟩)):=by
 obtain⟨j,hj,hjs⟩:=Option.map_eq_some_iff.1 rI
 go_enter Tryz.func69,Tryz.ntmps69
 go_wp2
 rw[Lib.run_to_unsafe w ⟨b,0,none⟩ rC6 rI0 hj (by rw[hjs];decide) hsh (Nat.zero_lt_succ 1)];simp only[Result.andThen];rw[Oper.upon_value]
 go_wp2
 rw[run_callFunc_extern Tryz.func98 (by kernel_rfl) (by kernel_rfl) (by kernel_rfl) (e:=Extern.AbiNoEscape.same) (by kernel_rfl)];rw[Lib.run_noEscape];simp only[Result.andThen];rw[Oper.upon_value]
 go_wp2
 rw[Lib.run_from_unsafe w ⟨b,0,none⟩ rI0 rC6 hj hsh Tryz.Builder_Extra_169.liesBuilder];simp only[Result.andThen];rw[Oper.upon_value]
 go_wp2
 go_end0
 exact⟨rfl,rfl⟩
theorem rC7 (b:Nat)(p v:Value)(w:World)(hb:w.heap[b]?=some (.cells #[p,v] 89 (0,0)))(hp:p=.pointer none∨p=.pointer (some ⟨b,0,none⟩)) :
  Calls Tryz.prog 69 #[.pointer (some ⟨b,0,none⟩)] w fun e w'=>e=.returned (.tuple #[])∧w'.heap[b]?=some (.cells #[.pointer (some ⟨b,0,none⟩),v] 89 (0,0))∧w.grownBy w' (some b)∧w'.heap.size=w.heap.size:=by
 have h0:w.cell? ⟨b,0,none⟩=some p:=by rw[Lib.cell_of_heap hb];rfl
 rcases hp with rfl|rfl
 ·refine (tX4 b w h0 (by simp[World.shape?,hb]) (Lib.frozen_of_heap hb 0)).mono ?_;rintro e w' ⟨rfl,rfl⟩;refine⟨rfl,by simp[World.setCell,Array.getElem?_modify,hb],⟨rfl,rfl,rfl,by simp[World.setCell],fun k _ hk=>Below.heap_setCell _ _ _ _ (fun e=>hk (by simp[e]))⟩,by simp[World.setCell]⟩
 ·refine (sK0 b w h0).mono ?_;rintro e w' ⟨rfl,rfl⟩;exact⟨rfl,hb,⟨rfl,rfl,rfl,Nat.le_refl _,fun _ _ _=>rfl⟩,rfl⟩
set_option maxHeartbeats 2000000 in
set_option maxRecDepth 100000 in
theorem qT1 (b:Nat)(p v:Value)(xs:List Value)(s:ByteArray)(w:World)(hb:w.heap[b]?=some (.cells #[p,v] 89 (0,0)))(hp:p=.pointer none∨p=.pointer (some ⟨b,0,none⟩))
  (hown0:w.ownsRow 0 5 1 v xs.length xs) (hne:v.ownBlock≠some b) (hlen:xs.length+s.size≤140737488355328) :
  Calls Tryz.prog 32 #[.pointer (some ⟨b,0,none⟩),.string s] w fun e w'=>e=.returned (.tuple #[.int .i64 s.size,.nilIface])∧∃ v',w'.heap[b]?=some (.cells #[.pointer (some ⟨b,0,none⟩),v'] 89 (0,0)) ∧
   w'.ownsRow 0 5 1 v' (xs.length+s.size) (xs++Lib.strCells s)∧(w'.os=w.os∧w'.tape=w.tape∧w'.output=w.output∧w.heap.size≤w'.heap.size) ∧
   (∀ k,k<w.heap.size→k≠b→v.ownBlock≠some k→w'.heap[k]?=w.heap[k]?)∧∀ g,v'.ownBlock=some g→v.ownBlock=some g∨w.heap.size≤g:=by
 obtain⟨i0,hi,hz0,hz1,hz2⟩:=info_parts Tryz.Builder_Extra_169.infoByte;have e240:∀ args w,(callFunc 69 args).run Tryz.prog w=.ok (.enter 69 args) w:=enters_of Tryz.func69 (by kernel_rfl) rfl
 go_enter Tryz.func32,Tryz.ntmps32
 go_wp2_with (go_at_fn 69;refine (rC7 b p v _ hb hp).mono ?_)
 rintro e w1 ⟨rfl,hbk,hg1,hs1⟩;have hown:w1.ownsRow 0 5 1 v xs.length xs:=hown0.kept hg1 (Or.inr hne);have c0:w1.cell? ⟨b,0,none⟩=some (.pointer (some ⟨b,0,none⟩)):=by rw[Lib.cell_of_heap hbk];rfl
 have c1:w1.cell? ⟨b,1,none⟩=some v:=by rw[Lib.cell_of_heap hbk];rfl
 go_wp2_with (at_builtin;refine tM0 rfl _ _ 70 9 rfl 5 i0 Tryz.underlying70 Tryz.underlying9 hi hz0 hz1 hz2 _ _ _ rfl hown s rfl ?c3 ?c4 ?_)
 case c3=>unfold maxLen;omega
 case c4=>omega
 intro v' w2 hown' hgrow hnew;have hlt:b<w1.heap.size:=by
  rcases Nat.lt_or_ge b w1.heap.size with h' | h'
  ·exact h'
  ·simp[Array.getElem?_eq_none h'] at hbk
 have hb2:w2.heap[b]?=some (.cells #[.pointer (some ⟨b,0,none⟩),v] 89 (0,0)):=by
  rw[hgrow.block b hlt (fun e=>hne e.symm)];exact hbk
 have d0:w2.cell? ⟨b,0,none⟩=some (.pointer (some ⟨b,0,none⟩)):=by rw[Lib.cell_of_heap hb2];rfl
 have d1:w2.cell? ⟨b,1,none⟩=some v:=by rw[Lib.cell_of_heap hb2];rfl
 have f1:w2.frozen? ⟨b,1,none⟩=false:=Lib.frozen_of_heap hb2 1;obtain⟨ao,n',cap,rfl⟩:∃ ao n' cap,v'=.slice ao n' cap:=by
  rcases hown'.2 with ⟨hv,_⟩ | ⟨g,cap,cur,hv,_⟩
  ·exact⟨_,_,_,hv⟩
  ·exact⟨_,_,_,hv⟩
 go_wp2
 go_ret2
 have hvb:=Lib.ownBlock_ne hown' hb2 (by decide);refine⟨rfl,.slice ao n' cap,by simp[World.setCell,Array.getElem?_modify,hb2],hown'.kept (row:=some b) ⟨rfl,rfl,rfl,by simp[World.setCell],fun k _ hk=>Below.heap_setCell _ _ _ _ (fun e=>hk (by simp[e]))⟩ (Or.inr hvb),⟨?_,?_,?_,?_⟩,fun k hk h1 h2=>?_,fun g hg=>?_⟩
 ·exact hgrow.os.trans hg1.os
 ·exact hgrow.tape.trans hg1.tape
 ·exact hgrow.output.trans hg1.output
 ·have:=hg1.size;have:=hgrow.size;simp[World.setCell];omega
 ·have e1:(w2.setCell ⟨b,1,none⟩ (.slice ao n' cap)).heap[k]?=w2.heap[k]?:=Below.heap_setCell _ _ _ _ (fun e=>h1 (by simp[e]));rw[e1,hgrow.block k (by omega) (fun e=>h2 e.symm),hg1.block k hk (fun e=>h1 (by injection e))]
 ·rcases hnew g hg with h|h
  ·exact .inl h
  ·exact .inr (by omega)
theorem qH:(Tryz.prog.info? 89).bind (fun i=>i.zero.map (·.cells))=some #[.pointer none,.slice none 0 0]:=by kernel_rfl
theorem qR {n:Nat}(h:(Tryz.prog.funcs[n]?).map (fun f=>f.body.isSome&&decide (f.name≠"runtime.NumGoroutine"))=some true):∃ fn,Tryz.prog.funcs[n]?=some fn∧fn.body.isSome=true∧fn.name≠"runtime.NumGoroutine":=by
 obtain⟨f,h1,h2⟩:=Option.map_eq_some_iff.1 h;rw[Bool.and_eq_true] at h2;exact⟨f,h1,h2.1,of_decide_eq_true h2.2⟩
theorem pM5:BldOk Tryz.prog 89 5 32 39:=
 qG9 (ρ:=Tryz.lays169_ren) (fW:=32) Tryz.lays169 Tryz.Builder_Extra_169 (by
  obtain⟨i,h1,h2⟩:=Option.bind_eq_some_iff.1 qH;obtain⟨z,h3,h4⟩:=Option.map_eq_some_iff.1 h2;exact⟨i,z,h1,h3,h4⟩) (qR (by kernel_rfl)) (qR (n:=39) (by kernel_rfl)) qT1
end Go.Am
