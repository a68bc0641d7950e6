/- Readers: the program's and the reference's go alike, number by number. Condition: readers that were made. -/
import Derived.Test.YtbiemgjkkhkdeaaGreatDoorNatE
set_option linter.unusedVariables false
namespace Go.Proofs.YtbiemgjkkhkdeaaGreatDoor.Am
open Go Go.Am Go.Proofs
def RR (p:D60)(r:D71):Prop:=p.1=true∧r.2.2.2.1=true∧r.1=p.2.1∧r.2.2.1=p.2.2.2.1∧len p.2.1<9223372036854775808∧(p.2.2.2.1=0→r.2.1=p.2.2.1∧0≤p.2.2.1∧p.2.2.1≤len p.2.1)
theorem RR.mk {s:List UInt8}{at1 at2 err:Int}(hs:len s<9223372036854775808)(h:err=0→at2=at1∧0≤at1∧at1≤len s):RR (true,s,at1,err,()) (s,at2,err,true,()):=⟨rfl,rfl,rfl,rfl,hs,h⟩
theorem RR.out {p:D60}{r:D71}(h:RR p r):∃ s at1 at2 err,p=(true,s,at1,err,())∧r=(s,at2,err,true,())∧len s<9223372036854775808∧(err=0→at2=at1∧0≤at1∧at1≤len s):=by
 obtain⟨m,s,a1,e,u⟩:=p;obtain⟨s',a2,e',m',u'⟩:=r;obtain⟨h1,h2,h3,h4,h5,h6⟩:=h;simp only at h1 h2 h3 h4 h5 h6;subst h1 h2 h3 h4;exact⟨_,_,_,_,rfl,rfl,h5,h6⟩
theorem vL5 {x:Int}(h1:-9223372036854775808≤x)(h2:x<9223372036854775808):IntKind.wrap .i64 x=x:=by rw[IntKind.wrap_i64];omega
theorem vL3 {p:D60}{r:D71}(h:RR p r):uK1 p=(p.2.2.2.1==0)∧vU7 r=(p.2.2.2.1==0):=by
 obtain⟨s,a1,a2,e,rfl,rfl,_,_⟩:=h.out;exact⟨rfl,rfl⟩
theorem sK6 (s:List UInt8)(at1:Int)(acc k:Int)(h1:0≤at1+k)(h2:at1+k<9223372036854775808):vN ((s,at1,0,true,()),()) (acc,k,())=vE () ((true,s,at1+k,0,()),acc,k,()):=by
 simp only[vN,vS0,vE,vR6,vL5 (show -9223372036854775808≤at1+k by omega) h2]
theorem sD7 (s:List UInt8)(q acc:Int):vE () ((true,s,q,0,()),acc,9,())=false:=by
 show (!(decide (q≥len s))&&(!(bif (bif ((9:Int)==9) then (decide (wR5 s q>1)) else false) then true else (bif (decide ((9:Int)>0)) then (wR5 s q==0) else false))&&!(decide (wR5 s q<128))))=false;by_cases h:wR5 s q>1
 ·simp[h]
 ·have:wR5 s q<128:=by omega
  simp[this]
theorem sD8 (s:List UInt8)(at1:Int)(h0:0≤at1)(hs:len s<9223372036854775808):∀ (j k:Nat) (acc:Int),k+j=9→at1+k≤len s→(0≤acc∧acc<18446744073709551616) →
  ∃ (m:Nat) (acc':Int) (k':Nat),m≤j∧k'≤9∧at1+(k':Int)≤len s∧(0≤acc'∧acc'<18446744073709551616)∧LT (vE ()) (vD3 ()) (vJ4 ()) m ((true,s,at1+(k:Int),0,()),acc,(k:Int),()) ((true,s,at1+(k':Int),0,()),acc',(k':Int),()) ∧
   LT (vN ((s,at1,0,true,()),())) (vD5 ((s,at1,0,true,()),())) (vK0 ((s,at1,0,true,()),())) m (acc,(k:Int),()) (acc',(k':Int),()):=by
 intro j
 induction j with
 |zero =>
  intro k acc hk hl ha;have hk:k=9:=by omega
  subst hk;have hg:=sD7 s (at1+9) acc;have hr:=sK6 s at1 acc 9 (by omega) (by omega);have h7:IntKind.wrap .i64 (7*9)=63:=by decide
  refine⟨0,acc,9,Nat.le_refl _,Nat.le_refl _,hl,ha,.stop (fun h=>?_) hg,.stop (fun h=>?_) (hr.trans hg)⟩
  ·have h:(!decide (at1+9≥len s))=true:=h;simp only[Bool.not_eq_true',decide_eq_false_iff_not] at h;exact⟨⟨by show 0≤at1+9;omega,by show at1+9<len s;omega⟩,fun _=>by show 0≤IntKind.wrap .i64 (7*9);rw[h7];decide⟩
  ·have h:(!decide (IntKind.wrap .i64 (at1+9)≥len s))=true:=h;have hw:=vL5 (x:=at1+9) (by omega) (by omega);rw[hw] at h;simp only[Bool.not_eq_true',decide_eq_false_iff_not] at h;exact⟨⟨by show 0≤IntKind.wrap .i64 (at1+9);omega,by show IntKind.wrap .i64 (at1+9)<len s;omega⟩,fun _=>by show 0≤IntKind.wrap .i64 (7*9);rw[h7];decide⟩
 |succ j ih =>
  intro k acc hk hl ha;have hr:=sK6 s at1 acc k (by omega) (by omega);have hw:=vL5 (x:=at1+(k:Int)) (by omega) (by omega);have h7:IntKind.wrap .i64 (7*(k:Int))=7*(k:Int):=vL5 (by omega) (by omega);have okP:vJ4 () ((true,s,at1+(k:Int),0,()),acc,(k:Int),()):=fun h=>by
   have h:(!decide (at1+(k:Int)≥len s))=true:=h;simp only[Bool.not_eq_true',decide_eq_false_iff_not] at h;exact⟨⟨by show 0≤at1+(k:Int);omega,by show at1+(k:Int)<len s;omega⟩,fun _=>by show 0≤IntKind.wrap .i64 (7*(k:Int));rw[h7];omega⟩
  have okR:vK0 ((s,at1,0,true,()),()) (acc,(k:Int),()):=fun h=>by
   have h:(!decide (IntKind.wrap .i64 (at1+(k:Int))≥len s))=true:=h;rw[hw] at h;simp only[Bool.not_eq_true',decide_eq_false_iff_not] at h;exact⟨⟨by show 0≤IntKind.wrap .i64 (at1+(k:Int));omega,by show IntKind.wrap .i64 (at1+(k:Int))<len s;omega⟩,fun _=>by show 0≤IntKind.wrap .i64 (7*(k:Int));rw[h7];omega⟩
  cases hg:vE () ((true,s,at1+(k:Int),0,()),acc,(k:Int),()) with
  |false=>exact⟨0,acc,k,Nat.zero_le _,by omega,hl,ha,.stop okP hg,.stop okR (hr.trans hg)⟩
  |true =>
   have hlt:at1+(k:Int)<len s:=by
    have h:=(Bool.and_eq_true _ _ ▸ hg:_∧_).1;have h:(!decide (at1+(k:Int)≥len s))=true:=h;simp only[Bool.not_eq_true',decide_eq_false_iff_not] at h;omega
   have hacc:0≤ior .u64 acc (IntKind.wrap .u64 (wT0 (IntKind.wrap .u64 (wS9 .u8 (wR5 s (at1+(k:Int))) 127)) (7*(k:Int)) 64))∧ior .u64 acc (IntKind.wrap .u64 (wT0 (IntKind.wrap .u64 (wS9 .u8 (wR5 s (at1+(k:Int))) 127)) (7*(k:Int)) 64))<18446744073709551616:=by
    show 0≤IntKind.wrap .u64 _∧IntKind.wrap .u64 _<18446744073709551616;rw[IntKind.wrap_u64];omega
   obtain⟨m,acc',k',q1,q2,q3,q4,q5,q6⟩:=ih (k+1) _ (by omega) (by omega) hacc;have nP:vD3 () ((true,s,at1+(k:Int),0,()),acc,(k:Int),())=((true,s,at1+((k+1:Nat):Int),0,()),ior .u64 acc (IntKind.wrap .u64 (wT0 (IntKind.wrap .u64 (wS9 .u8 (wR5 s (at1+(k:Int))) 127)) (7*(k:Int)) 64)),((k+1:Nat):Int),()):=by
    simp only[vD3,vR6,h7,vL5 (x:=at1+(k:Int)+1) (by omega) (by omega),vL5 (x:=(k:Int)+1) (by omega) (by omega)];rw[show at1+(k:Int)+1=at1+((k+1:Nat):Int) by omega,show (k:Int)+1=((k+1:Nat):Int) by omega]
   have nR:vD5 ((s,at1,0,true,()),()) (acc,(k:Int),())=(ior .u64 acc (IntKind.wrap .u64 (wT0 (IntKind.wrap .u64 (wS9 .u8 (wR5 s (at1+(k:Int))) 127)) (7*(k:Int)) 64)),((k+1:Nat):Int),()):=by
    simp only[vD5,vS0,h7,hw,vL5 (x:=(k:Int)+1) (by omega) (by omega)];rw[show (k:Int)+1=((k+1:Nat):Int) by omega]
   rw[← nP] at q5;rw[← nR] at q6;exact⟨m+1,acc',k',by omega,q2,q3,q4,.step okP hg q5,.step okR (hr.trans hg) q6⟩
theorem tP5 {p:D60}{r:D71}(h:RR p r):wW3 p∧vP4 r∧uA9 r=wV2 p∧RR (vC p).1 (vQ8 r).1∧(0≤wV2 p∧wV2 p<18446744073709551616)∧((vC p).1.2.2.2.1≠0→wV2 p=0):=by
 have hR:=h;obtain⟨s,a1,a2,e,rfl,rfl,hs,he⟩:=h.out;by_cases he0:e=0
 ·subst he0;obtain⟨rfl,h1,h2⟩:=he rfl;obtain⟨m,acc,k,q1,q2,q3,q4,q5,q6⟩:=sD8 s a2 h1 hs 9 0 0 (by omega) (by simpa using h2) ⟨by decide,by decide⟩;simp only[Int.natCast_zero,Int.add_zero] at q5 q6;have eP:=q5.ends (by omega);have eR:=q6.ends (by omega);have fP:=q5.fix (by omega);have fR:=q6.fix (by omega);have hw:=vL5 (x:=a2+(k:Int)) (by omega) (by omega);have vP:uO0 (true,s,a2,0,())=(wW3 (true,s,a2,0,()),vN7 () ((true,s,a2+(k:Int),0,()),acc,(k:Int),()),(vN6 () ((true,s,a2+(k:Int),0,()),acc,(k:Int),()),())):=by
   rw[← fP];rfl
  have vR:uP (s,a2,0,true,())=(vP4 (s,a2,0,true,()),vO ((s,a2,0,true,()),()) (acc,(k:Int),()),(vN9 ((s,a2,0,true,()),()) (acc,(k:Int),()),())):=by
   rw[← fR];rfl
  refine⟨⟨trivial,fun _=>eP⟩,⟨trivial,fun _=>eR⟩,?_⟩;simp only[wV2,vC,uA9,vQ8,vP,vR];simp only[vN7,vN6,vO,vN9,hw];cases hge:decide (a2+(k:Int)≥len s) with
  |true =>
   simp only[cond_true];exact⟨trivial,RR.mk hs (fun h=>by cases h),⟨by decide,by decide⟩,fun _=>trivial⟩
  |false =>
   have hlt:=of_decide_eq_false hge;generalize (bif (bif ((k:Int)==9) then (decide (wR5 s (a2+(k:Int))>1)) else false) then true else (bif (decide ((k:Int)>0)) then (wR5 s (a2+(k:Int))==0) else false))=bad;cases bad with
   |true =>
    simp only[cond_true,cond_false];exact⟨trivial,RR.mk hs (fun h=>by cases h),⟨by decide,by decide⟩,fun _=>trivial⟩
   |false =>
    simp only[cond_false];refine⟨trivial,RR.mk hs (fun _=>⟨rfl,?_,?_⟩),?_,fun h=>absurd rfl h⟩
    ·rw[vL5 (by omega) (by omega)];omega
    ·rw[vL5 (by omega) (by omega)];omega
    ·show 0≤IntKind.wrap .u64 _∧IntKind.wrap .u64 _<18446744073709551616;rw[IntKind.wrap_u64];omega
 ·have hb:(e==0)=false:=by simpa using he0
  have v8:(!(uK1 (true,s,a1,e,())))=true:=by rw[(vL3 hR).1];simp[hb]
  have v8':(!(vU7 (s,a2,e,true,())))=true:=by rw[(vL3 hR).2];simp[hb]
  refine⟨⟨trivial,fun hh=>?_⟩,⟨trivial,fun hh=>?_⟩,?_⟩
  ·rw[v8] at hh;cases hh
  ·rw[v8'] at hh;cases hh
  ·simp only[wV2,vC,uA9,vQ8,uO0,uP,v8,v8',cond_true];exact⟨trivial,RR.mk hs he,⟨by decide,by decide⟩,fun _=>trivial⟩
end Go.Proofs.YtbiemgjkkhkdeaaGreatDoor.Am
