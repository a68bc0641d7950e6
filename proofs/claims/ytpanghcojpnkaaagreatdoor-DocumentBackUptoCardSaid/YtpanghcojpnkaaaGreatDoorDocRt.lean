/- Move and back again. Condition: the second form's bound. -/
import Derived.Test.YtpanghcojpnkaaaGreatDoorDocSl
namespace Go.Proofs.YtpanghcojpnkaaaGreatDoor.Am
open Go Go.Am
theorem hJ5 {s b:List D49}{k:Nat}(hk:k≤s.length):yL8 (List.take k s++(b++List.drop k s)) k b.length=s∧blkL (List.take k s++(b++List.drop k s)) k b.length=b:=by
 have ht:(List.take k s).length=k:=by rw[jT];omega
 constructor
 ·unfold yL8
  rw[List.take_append_of_le_length (by omega),List.take_of_length_le (by omega),List.drop_append,ht,List.drop_of_length_le (by omega),List.nil_append,show k+b.length-k=b.length by omega,List.drop_append_of_le_length (jI _),List.drop_of_length_le (jI _),List.nil_append,List.take_append_drop]
 ·unfold blkL
  rw[List.take_append,ht,List.take_of_length_le (by omega),show k+b.length-k=b.length by omega,List.take_append_of_le_length (jI _),List.take_of_length_le (jI _),List.drop_append_of_le_length (by omega),List.drop_of_length_le (by omega),List.nil_append]
theorem qM4 {p:D28}(v:Valid p):f38 p=(p,0,()):=by
 rw[sD1,(wA1 p).2 v];rfl
end Go.Proofs.YtpanghcojpnkaaaGreatDoor.Am
namespace Go.Proofs.YtpanghcojpnkaaaGreatDoor.Am
open Go Go.Am
theorem zD4 (b:List D49)(q:Int)(r:Nat):((uK b q).getD r Z49).1=(b.getD r Z49).1∧((uK b q).getD r Z49).2.1=(b.getD r Z49).2.1∧(0<r→(uK b q).getD r Z49=b.getD r Z49):=by
 unfold uK
 by_cases h:r=0
 ·subst h
  refine⟨?_,?_,fun h=>absurd h (Nat.lt_irrefl _)⟩
  all_goals
   cases b with
   |nil=>rfl
   |cons x y=>rfl
 ·have e:(List.set b 0 (sP8 (nth b (0:Int) Z49) q)).getD r Z49=b.getD r Z49:=by
   rw[jM,jM,List.getElem?_set_ne (by omega)]
  rw[e]
  exact⟨rfl,rfl,fun _=>rfl⟩
end Go.Proofs.YtpanghcojpnkaaaGreatDoor.Am
