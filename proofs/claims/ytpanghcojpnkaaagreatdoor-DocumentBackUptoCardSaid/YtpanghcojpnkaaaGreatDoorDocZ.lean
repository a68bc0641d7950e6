/- Plain laws of documents and patches: equality of documents; what Apply zU0. Condition: the value a Go value can be. -/
import Derived.Test.YtpanghcojpnkaaaGreatDoorDocY
namespace Go.Proofs.YtpanghcojpnkaaaGreatDoor.Am
open Go Go.Am
theorem rM1 {d:D28}(h:Ty.wf T28 d):WfN d.2.2.2.1:=h.2.2.2.1
theorem pB8 {d:D28}(h:Ty.wf T28 d):Ty.wf (.sl T90) d.2.2.2.2.2.2.2.1:=h.2.2.2.2.2.2.2.1
theorem oF4 {d:D28}(h:Ty.wf T28 d):Ty.wf (.sl T87) d.2.2.2.2.2.2.1:=h.2.2.2.2.2.2.1
theorem oF5 {d:D28}(h:Ty.wf T28 d):len d.2.2.2.2.2.1.2.2.1<9223372036854775808:=vI5 h.2.2.2.2.2.1.2.2.1.1
theorem oF6 {d:D28}(h:Ty.wf T28 d):qL2 d:=by
 refine⟨⟨vI5 (rM1 h).1,fun n hn=>pI5 ((rM1 h).2 n hn)⟩,oF5 h,fun m hm=>?_,fun m hm=>?_⟩
 ·have:=(oF4 h).2 m hm
  exact⟨vI5 this.1,vI5 this.2.1⟩
 ·have:=(pB8 h).2 m hm
  exact vI5 this.2.2.2.2.1.2.2.1.1
theorem hP0 {a b:D28}(wa:Ty.wf T28 a)(wb:Ty.wf T28 b):f18 a b=true↔a=b:=by
 have n1:=rM1 wa
 have n2:=rM1 wb
 have m1:=oF4 wa
 have m2:=oF4 wb
 have k1:=pB8 wa
 have k2:=pB8 wb
 have hs:=oF5 wa
 obtain⟨a0,a1,a2,a3,a4,⟨a50,a51,a52,⟨⟩⟩,a6,a7,⟨⟩⟩:=a
 obtain⟨b0,b1,b2,b3,b4,⟨b50,b51,b52,⟨⟩⟩,b6,b7,⟨⟩⟩:=b
 simp only at n1 n2 m1 m2 k1 k2 hs
 simp only[f18,f18t,Bool.cond_false_right,Bool.cond_false_left,Bool.cond_true_left,jB,jK,jJ,bne_eq_false_iff_eq,Bool.not_eq_false',jG,and_true]
 rw[hO6 n1 n2,hR8 hs,hO7 m1 m2,hO9 k1 k2]
 constructor
 ·rintro⟨⟨⟨⟨h0,h1⟩,h2⟩,h4⟩,h3,⟨⟨h50,h51⟩,h52⟩,h6,h7⟩
  exact⟨h0,h1,h2,h3,h4,⟨h50,h51,h52⟩,h6,h7⟩
 ·rintro⟨h0,h1,h2,h3,h4,⟨h50,h51,h52⟩,h6,h7⟩
  exact⟨⟨⟨⟨h0,h1⟩,h2⟩,h4⟩,h3,⟨⟨h50,h51⟩,h52⟩,h6,h7⟩
theorem hS2 {a:D28}(b:D28)(wa:Ty.wf T28 a):hF2 a b:=by
 have n1:=rM1 wa
 have m1:=oF4 wa
 have k1:=pB8 wa
 have hs:=oF5 wa
 exact fun _=>⟨hR7 _ _ (vI5 n1.1) fun n hn=>hH7 (n1.2 n hn),fun _=>⟨fun _=>hH4 _ _ hs,fun _=>⟨hR9 _ _ (vI5 m1.1),fun _=>hS1 _ _ k1⟩⟩⟩
end Go.Proofs.YtpanghcojpnkaaaGreatDoor.Am
