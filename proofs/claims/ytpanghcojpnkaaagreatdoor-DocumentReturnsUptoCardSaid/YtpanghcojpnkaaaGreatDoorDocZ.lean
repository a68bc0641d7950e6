/- Plain laws of documents and patches: equality of documents; what Apply zU0. Condition: the value a Go value can be. -/
import Derived.Test.YtpanghcojpnkaaaGreatDoorDocY
namespace Go.Proofs.YtpanghcojpnkaaaGreatDoor.Am
open Go Go.Am
theorem uM4 {d:D28}(h:Ty.wf T28 d):WfN d.2.2.2.1:=h.2.2.2.1
theorem tC3 {d:D28}(h:Ty.wf T28 d):Ty.wf (.sl T90) d.2.2.2.2.2.2.2.1:=h.2.2.2.2.2.2.2.1
theorem sI7 {d:D28}(h:Ty.wf T28 d):Ty.wf (.sl T87) d.2.2.2.2.2.2.1:=h.2.2.2.2.2.2.1
theorem rH7 {d:D28}(h:Ty.wf T28 d):len d.2.2.2.2.2.1.2.2.1<9223372036854775808:=wE2 h.2.2.2.2.2.1.2.2.1.1
theorem nA {d:D28}(h:Ty.wf T28 d):qV6 d:=by
 refine⟨⟨wE2 (uM4 h).1,fun n hn=>nJ4 ((uM4 h).2 n hn)⟩,rH7 h,fun m hm=>?_,fun m hm=>?_⟩
 ·have:=(sI7 h).2 m hm
  exact⟨wE2 this.1,wE2 this.2.1⟩
 ·have:=(tC3 h).2 m hm
  exact wE2 this.2.2.2.2.1.2.2.1.1
theorem pT {a b:D28}(wa:Ty.wf T28 a)(wb:Ty.wf T28 b):f18 a b=true↔a=b:=by
 have n1:=uM4 wa
 have n2:=uM4 wb
 have m1:=sI7 wa
 have m2:=sI7 wb
 have k1:=tC3 wa
 have k2:=tC3 wb
 have hs:=rH7 wa
 obtain⟨a0,a1,a2,a3,a4,⟨a50,a51,a52,⟨⟩⟩,a6,a7,⟨⟩⟩:=a
 obtain⟨b0,b1,b2,b3,b4,⟨b50,b51,b52,⟨⟩⟩,b6,b7,⟨⟩⟩:=b
 simp only at n1 n2 m1 m2 k1 k2 hs
 simp only[f18,f18t,Bool.cond_false_right,Bool.cond_false_left,Bool.cond_true_left,Bool.and_eq_true,Bool.not_eq_true',Bool.or_eq_false_iff,bne_eq_false_iff_eq,Bool.not_eq_false',Prod.mk.injEq,and_true]
 rw[pS4 n1 n2,oZ6 hs,pS5 m1 m2,pS7 k1 k2]
 constructor
 ·rintro⟨⟨⟨⟨h0,h1⟩,h2⟩,h4⟩,h3,⟨⟨h50,h51⟩,h52⟩,h6,h7⟩
  exact⟨h0,h1,h2,h3,h4,⟨h50,h51,h52⟩,h6,h7⟩
 ·rintro⟨h0,h1,h2,h3,h4,⟨h50,h51,h52⟩,h6,h7⟩
  exact⟨⟨⟨⟨h0,h1⟩,h2⟩,h4⟩,h3,⟨⟨h50,h51⟩,h52⟩,h6,h7⟩
theorem nA0 {a:D28}(b:D28)(wa:Ty.wf T28 a):sA6 a b:=by
 have n1:=uM4 wa
 have m1:=sI7 wa
 have k1:=tC3 wa
 have hs:=rH7 wa
 exact fun _=>⟨oZ5 _ _ (wE2 n1.1) fun n hn=>rH5 (n1.2 n hn),fun _=>⟨fun _=>rH2 _ _ hs,fun _=>⟨oZ7 _ _ (wE2 m1.1),fun _=>oZ9 _ _ k1⟩⟩⟩
end Go.Proofs.YtpanghcojpnkaaaGreatDoor.Am
