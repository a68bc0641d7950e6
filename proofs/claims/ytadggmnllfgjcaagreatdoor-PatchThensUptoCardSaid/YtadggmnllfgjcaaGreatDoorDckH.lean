/- slices.Grow at nodes (of nothing, with room) and slices.Reverse at points. No condition. -/
import Derived.Test.YtadggmnllfgjcaaGreatDoorMach4
import Derived.Test.YtadggmnllfgjcaaGreatDoorGrowP
import Derived.Test.YtadggmnllfgjcaaGreatDoorRev
import Derived.Test.YtadggmnllfgjcaaGreatDoorRevP
namespace Go.Proofs.YtadggmnllfgjcaaGreatDoor.Am
open Go Go.Am
def zM9 (P:Program)(T n:Nat):Bool:=
 match P.info? T with
 |some i=>Nat.beq i.size n&&Nat.ble i.bytes 32768&&(match i.zero with|some z=>Nat.beq z.cells.size n|none=>false)
 |none=>false
theorem zK8{P:Program}{T n:Nat}(h:zM9 P T n):∃i z,P.info? T=some i/\i.zero=some z/\i.size=n/\i.bytes<=32768/\z.cells.size=n:=by
 unfold zM9 at h;split at h
 ·rename_i i o;simp only[jB] at h;obtain⟨⟨C,I⟩,j⟩:=h;split at j
  ·rename_i z J;exact⟨i,z,o,J,jC C,jR I,jC j⟩
  ·cases j
 ·cases h
theorem nB5 (w:World):Calls Tryz.prog 69 #[.slice none 0 0,.int .i64 ((0:Nat):Int)] w λe j=>e=.returned (.slice none 0 0)/\j=w:=
 Any8.slices_Grow_room Tryz.growN none 0 0 0 w (jI 0) (Nat.zero_le _) (Nat.zero_le _) (jI 0)
theorem nB6 (n:Nat)(w:World)(I:0<n)(J:n<=4294967296):Calls Tryz.prog 69 #[.slice none 0 0,.int .i64 (n:Int)] w λe j=>∃cap cells ty,e=.returned (.slice (some ⟨w.heap.size,0,none⟩) 0 cap)/\j=w.drew.alloc (.cells cells ty)/\cap<=maxLen/\cells.size=cap*43:=by
 obtain⟨i,z,o,C,R,hb,iH⟩:=zK8 (P:=Tryz.prog) (T:=61) (n:=43) (by kernel_rfl);have hbytes:(0+n)*i.bytes<=140737488355328:=by
  calc (0+n)*i.bytes<=4294967296*32768:=Nat.mul_le_mul (by omega) hb
   _=140737488355328:=by decide
 refine (Any8.slices_Grow_grow Tryz.growN i z o C (by omega) none 0 0 n [] w (jI 0) (by omega) hbytes (by omega) (by simp) (λ_=>rfl) (λa h=>by cases h)).mono ?_;rintro e j ⟨rfl,rfl⟩;have qa:=grownCap_ge w (0+n) 0 (Tryz.growN_ren.t 25);refine⟨_,_,_,rfl,rfl,grownCap_le_maxLen w (0+n) 0 _ (by simp only[maxLen];omega),?_⟩;generalize grownCap w (0+n) 0 (Tryz.growN_ren.t 25)=k at qa;simp only[Array.size_append,size_zeroCells,iH,List.size_toArray,List.length_nil,Nat.zero_add,Nat.sub_zero];rw[<-Nat.add_mul,Nat.add_sub_cancel' (by simpa using qa)]
theorem kC0:kC Tryz.prog 278 2:=
 ⟨λblk cap d w j o=>AnyQ.slices_Reverse Tryz.revN 2 Tryz.isAgg114 Tryz.sizeOf114 Chunk.l (λx=>x.len) (λx=>x.one) blk 0 cap d w j o,
  λw=>AnyQ.slices_Reverse_empty Tryz.revN none 0 w⟩
end Go.Proofs.YtadggmnllfgjcaaGreatDoor.Am
