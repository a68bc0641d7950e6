/- The abstract machine, part 4: a typed interpreter for the program's code, and that it is sound. No condition. -/
import Derived.Test.YtmmpcldfjocfmaaGreatDoorMach3
import Derived.Lib.Bytealg
import Derived.ProofKit
import Derived.Carry
namespace Go.Am
open Go Go.RowKit
variable {rd:Option Nat}{gtab:GlobTab}{P:Program}{c:Ctx}{G:Gh}{w:World}{tm:Array Value}{n:Nat}{χ0:Nat→Nat→Nat}{w0:World}{S:St}{a:Act}
section draw
variable {ops:Array Oper}{ts:List Tr}{p:List Prop}
def wr (ts:List Tr)(j r:Nat):Prop:=St.has r (uAt ts j)=true
structure Inv (ops:Array Oper) (ts:List Tr) (S:St) (l:List Nat):Prop where
 nd:l.Nodup
 lt:∀ i∈l,i<ops.size
 down:∀ j∈l,∀ i,ahd ops.toList i j→i∈l
 val:∀ r k,(∀ j,j<k→wr ts j r→j∈l)→(∀ j∈l,wr ts j r→j<k)→(exe ts l++S).get r=(tex ts k++S).get r
def yW6 (ts:List Tr):Prop:=∀ j,∀ e∈uAt ts j,e.1≠zA7
theorem wA0 (hn:yW6 ts){r:Nat}:∀ {k:Nat},(∀ j,j<k→¬ wr ts j r)→(tex ts k++S).get r=S.get r:=by
 intro k
 induction k with
 |zero=>intro _;rfl
 |succ k ih =>
  intro h;rw[tex,List.append_assoc,zJ9 (hn k) (by simp_all [wr])]
  grind
theorem xS6 (hn:yW6 ts){r i:Nat}:∀ {k:Nat},i<k→wr ts i r→(∀ j,i<j→j<k→¬ wr ts j r)→(tex ts k++S).get r=(uAt ts i).get r:=by
 intro k
 induction k with
 |zero=>grind
 |succ k ih =>
  intro h hw hj;rw[tex,List.append_assoc];by_cases e:i=k
  ·subst e;exact yA4 (hn i) hw
  ·rw[zJ9 (hn k) (by grind [wr])]
   grind
theorem zO7 {j r:Nat}(h:wr ts j r):∃ t,ts[j]?=some t∧t.u=uAt ts j:=by
 grind [wr,uAt,St.has]
theorem zH4 {t t':Tr}(h:zW2 t t'=false):(t.heavy=false→(t'.heavy=false∨t.dk=true)∧(∀ r,r∈t.rd→St.has r t'.u=true→False)∧xX2 t.dst t.u t'.u=true) ∧
  (t.heavy=true→t'.pl=true∧∀ d,t.dst=some d→St.has d t'.u=false∧d∉t'.rd)∧(∀ r,St.has r t.u=true→r∈t'.rd→False)∧(∀ r,St.has r t.u=true→St.has r t'.u=true→False):=by
 have hany:∀ (l:List Nat) (d:Nat),l.any (Nat.beq d)=false→d∉l:=fun l d h hm=>by
  have:=List.any_eq_false.1 h d hm;simp at this
 cases ht:t.heavy with
 |true =>
  simp only[zW2,ht,cond_true,Bool.not_eq_false',Bool.and_eq_true] at h;obtain⟨h1,h2,h3,h4⟩:=h;refine⟨fun q=>Bool.noConfusion q,fun _=>⟨h1,fun d hd=>?_⟩,fun r hr hm=>?_,fun r hr hm=>?_⟩
  ·rw[hd] at h4;simp only[Bool.and_eq_true,Bool.not_eq_true'] at h4;exact⟨h4.1,hany _ _ h4.2⟩
  ·grind [zT5,yK7]
  ·grind [zT5,yK7]
 |false =>
  simp only[zW2,ht,cond_false,Bool.or_eq_false_iff,Bool.not_eq_false',Bool.and_eq_true] at h;obtain⟨h0,h2,h3,h4,h5⟩:=h;refine⟨fun _=>⟨?_,fun r hr hm=>?_,h5⟩,fun q=>Bool.noConfusion q,fun r hr hm=>?_,fun r hr hm=>?_⟩
  ·cases h6:t'.heavy with
   |false=>exact .inl rfl
   |true=>right;simpa[h6] using h0
  ·grind [zT5,yK7]
  ·grind [zT5,yK7]
  ·grind [zT5,yK7]
theorem yN9 {r:Nat}:∀ {S:St},St.has r S=false→S.get r=.junk:=by
 intro S
 induction S with
 |nil=>intro _;rfl
 |cons e S ih =>
  intro h;simp only[St.has,List.any_cons,Bool.or_eq_false_iff] at h;have h2:=ih (show St.has r S=false from h.2);simp_all [St.get]
theorem xS7 {dst:Option Nat}{rd bs:List Nat}{S u:St}(h:xE0 dst rd bs S u=true):∃ d A,u=[(d,A)]∧yH6 rd bs A=true∧St.has d S=false∧dst=some d:=by
 unfold xE0 at h;split at h
 ·rename_i d A;simp only[Bool.and_eq_true] at h;refine⟨d,A,rfl,h.1,?_⟩;have h2:=h.2;split at h2
  ·simp only[Bool.and_eq_true,Bool.not_eq_true'] at h2;exact⟨h2.2,by rw[Nat.eq_of_beq_eq_true h2.1]⟩
  ·cases h2
 ·cases h
theorem wA1 {dst:Option Nat}{S u:St}(h:xX1 dst S u=true):∃ d,u=[(d,.junk)]∧St.has d S=false∧dst=some d:=by
 unfold xX1 at h;split at h
 ·rename_i d;refine⟨d,rfl,?_⟩;split at h
  ·simp only[Bool.and_eq_true,Bool.not_eq_true'] at h;exact⟨h.2,by rw[Nat.eq_of_beq_eq_true h.1]⟩
  ·cases h
 ·cases h
theorem xS8 {dsts:List (Option Nat)}{S:St}{k:Nat}:∀ {rd:List Nat},k∈zW9 dsts S rd→∃ q τ p,q∈rd∧S.get q=.ref k τ p∧some q∉dsts:=by
 intro rd
 induction rd with
 |nil=>intro h;cases h
 |cons q r ih =>
  intro h;simp only[zW9] at h;split at h
  ·rename_i k' τ p hq;cases hd:dsts.any (wE1 q) with
   |true =>
    rw[hd] at h;obtain⟨q',τ',p',h1,h2⟩:=ih h;exact⟨q',τ',p',List.mem_cons_of_mem _ h1,h2⟩
   |false =>
    rw[hd] at h;rcases List.mem_cons.1 h with rfl|h
    ·refine⟨q,τ,p,List.mem_cons_self ..,hq,fun hm=>?_⟩;have:=List.any_eq_false.1 hd _ hm;simp[wE1] at this
    ·obtain⟨q',τ',p',h1,h2⟩:=ih h;exact⟨q',τ',p',List.mem_cons_of_mem _ h1,h2⟩
  ·obtain⟨q',τ',p',h1,h2⟩:=ih h;exact⟨q',τ',p',List.mem_cons_of_mem _ h1,h2⟩
theorem xB6 {rd bs:List Nat}{A:AVal}{s:Nat}{v:Value}{tm tm':Array Value}{G G':Gh}{w w':World}(hA:yH6 rd bs A=true)(ht:∀ q∈rd,tm'.getD q undef=tm.getD q undef)(hb:∀ k∈bs,G'.β k=G.β k)
  (hw:∀ b o,b<w.heap.size→G.χ b o=0→G'.χ b o=0∧w'.cell? ⟨b,o,none⟩=w.cell? ⟨b,o,none⟩) (h:zA G w tm (some s) A v):zA G' w' tm' (some s) A v:=by
 unfold yH6 at hA;split at hA
 ·simp only[zA] at h ⊢;exact zC3 hw h
 ·rename_i s0 want g τ x;have hm:s0∈rd:=by
   obtain⟨q,hq,e⟩:=List.any_eq_true.1 hA;have:=Nat.eq_of_beq_eq_true e;subst this;exact hq
  simp only[zA] at h ⊢;rw[ht s0 hm];exact⟨h.1,fun hg=>zC3 hw (h.2.1 hg),h.2.2⟩
 ·simp only[zA] at h ⊢;rw[hb _ (any_beq.1 hA)];exact h
 ·simp only[Bool.and_eq_true] at hA;simp only[zA] at h ⊢;rw[ht _ (any_beq.1 hA.1),hb _ (any_beq.1 hA.2)];exact h
 ·cases hA
theorem xS9 (hn:yW6 ts):Inv ops ts S []:=
 ⟨List.nodup_nil,fun i h=>(by grind),fun j h=>(by grind),fun r k h _=>(wA0 hn fun j hj hw=>by grind).symm⟩
def Ord (k:Nat)(ops:Array Oper)(ts:List Tr):Prop:=∀ i j ti tj,ts[i]?=some ti→ts[j]?=some tj→i<j→k≤i→zW2 ti tj=true→ahd ops.toList i j
theorem Inv.up {l:List Nat}(hI:Inv ops ts S l){i:Nat}{o:Oper}(ho:ops[i]?=some o)(he:∀ e∈o.after.toList,Region.binds .any e=true→e.on∈l){j:Nat}(h:ahd ops.toList j i):j∈l:=by
 obtain⟨e,hm,hb,h'⟩:=wA (ops:=ops.toList) (by simpa using ho) h;rcases h' with rfl|h'
 ·grind
 ·exact hI.down _ (he e hm hb) _ h'
theorem Inv.cons {l:List Nat}(hn:yW6 ts){i:Nat}(hO:∀ j ti tj,j∈l→ts[i]?=some ti→ts[j]?=some tj→i<j→zW2 ti tj=true→ahd ops.toList i j)(hI:Inv ops ts S l){o:Oper}(ho:ops[i]?=some o)(hi:i∉l)(he:∀ e∈o.after.toList,Region.binds .any e=true→e.on∈l):Inv ops ts S (i::l):=by
 refine⟨List.nodup_cons.2 ⟨hi,hI.nd⟩,fun j hj=>?_,fun j hj k hk=>?_,fun r k h1 h2=>?_⟩
 ·rcases List.mem_cons.1 hj with rfl|hj
  ·grind
  ·exact hI.lt j hj
 ·rcases List.mem_cons.1 hj with rfl|hj
  ·exact List.mem_cons_of_mem _ (hI.up ho he hk)
  ·exact List.mem_cons_of_mem _ (hI.down j hj k hk)
 ·rw[exe,List.append_assoc];by_cases hw:wr ts i r
  ·rw[yA4 (hn i) hw];refine (xS6 hn (h2 i (List.mem_cons_self ..) hw) hw fun j hij hjk hwj=>?_).symm;have hj:j∈l:=by
    grind
   obtain⟨ti,hti,ei⟩:=zO7 hw;obtain⟨tj,htj,ej⟩:=zO7 hwj;cases hc:zW2 ti tj with
   |true=>exact hi (hI.down j hj i (hO j ti tj hj hti htj hij hc))
   |false=>exact (zH4 hc).2.2.2 r (by rw[ei];exact hw) (by rw[ej];exact hwj)
  ·rw[zJ9 (hn i) (by grind [wr])];refine hI.val r k (fun j hj hwj=>?_) fun j hj hwj=>h2 j (List.mem_cons_of_mem _ hj) hwj
   grind
theorem xT {e:Nat×AVal}:∀ {l:List Nat},e∈exe ts l→∃ j∈l,e∈uAt ts j:=by
 intro l
 induction l with
 |nil=>intro h;cases h
 |cons i l ih =>
  intro h;rcases List.mem_append.1 h with h|h
  all_goals grind
theorem xB7 {e:Nat×AVal}{j:Nat}:∀ {k:Nat},j<k→e∈uAt ts j→e∈tex ts k:=by
 intro k
 induction k<;>grind [tex]
theorem yR3 {j:Nat}{e:Nat×AVal}(h:e∈uAt ts j):∃ t,ts[j]?=some t∧t.u=uAt ts j:=by
 grind [uAt]
theorem yR4 {j k r:Nat}{S:St}(h:j<k)(hw:wr ts j r):St.has r (tex ts k++S)=true:=by
 obtain⟨e,he,h1⟩:=List.any_eq_true.1 (show (uAt ts j).any (fun e=>Nat.beq e.1 r)=true from hw);exact List.any_eq_true.2 ⟨e,List.mem_append_left _ (xB7 h he),h1⟩
theorem wA2 {r:Nat}{S:St}{i j:Nat}(h:i≤j)(hh:St.has r (tex ts i++S)=true):St.has r (tex ts j++S)=true:=by
 induction j<;>grind [tex,List.append_assoc,St.has]
theorem xT0 (hn:yW6 ts)(hc:CtxOk P c)(hF:Fam c (ops.toList.map (·.dst)) ops.toList S [] ts p)(hS:∀ e∈S,e.2.hasOpt=false)(hp:∀ q∈p,q){k:Nat}(hO:Ord k ops ts)
  {l:List Nat}(hI:Inv ops ts S l) (hk:∀ j,j<k→j∈l){i:Nat}{o:Oper}(ho:ops[i]?=some o) (hi:i∉l) (he:∀ e∈o.after.toList,Region.binds .any e=true→e.on∈l)
  (hR:Rel c.n χ0 w0 (exe ts l++S) a w G){next:Act→World→Prop}{Q:Exit→Act→World→Prop}
  (hnext:∀ v w' G',Rel c.n χ0 w0 (exe ts (i::l)++S) (a.put o.dst v) w' G'→next (a.put o.dst v) w'):wpOpIn (fz rd) 0 P ops Q i next a w:=by
 have hF':=hF;obtain⟨pi,hv,q1,q2,q3,q4,q5⟩:=hF i o (by grind);simp only[List.append_nil] at q1 q2 q4;have hlater:∀ j tj,j∈l→ts[j]?=some tj→i<j→zW2 (yL4 (ops.toList.map (·.dst)) o (tex ts i++S) (uAt ts i) hv) tj=false:=by
  intro j tj hj htj hij;cases hcl:zW2 _ tj with
  |true=>exact absurd (hI.down j hj i (hO i j _ tj q2 htj hij (Nat.le_of_not_lt fun h=>hi (hk i h)) hcl)) hi
  |false=>rfl
 have hearlier:∀ j tj,j∉l→ts[j]?=some tj→j<i→zW2 tj (yL4 (ops.toList.map (·.dst)) o (tex ts i++S) (uAt ts i) hv)=false:=by
  intro j tj hj htj hij;cases hcl:zW2 tj _ with
  |true=>exact absurd (hI.up ho he (hO j i tj _ htj q2 hij (Nat.le_of_not_lt fun h=>hj (hk j h)) hcl)) hj
  |false=>rfl
 cases hv with
 |true =>
  have hdk:∀ j,j<i→j∉l→∀ r,wr ts j r→uAt ts j=[(r,.junk)]∧St.has r (tex ts j++S)=false∧St.has r (uAt ts i)=false∧some r∈ops.toList.map (·.dst):=by
   intro j hji hjl r hw;obtain⟨t,ht,eu⟩:=zO7 hw;have h1:=zH4 (hearlier j t hjl ht hji);obtain⟨oj,hoj⟩:∃ oj,ops.toList[j]?=some oj:=by
    have:j<ops.toList.length:=by grind
    exact⟨ops.toList[j],by grind⟩
   obtain⟨pj,hvj,_,r2,_⟩:=hF' j oj hoj;rw[ht] at r2;injection r2 with r2
   rw[List.append_nil] at r2;have hvf:hvj=false:=by
    cases hvj with
    |false=>rfl
    |true =>
     have:=(h1.2.1 (by rw[r2];rfl)).1;simp[yL4] at this
   have hdk:t.dk=true:=by
    rcases (h1.1 (by rw[r2];exact hvf)).1 with h|h
    ·simp[yL4] at h
    ·exact h
   have h2:xX1 oj.dst (tex ts j++S) (uAt ts j)=true:=by
    rw[r2] at hdk;simp only[yL4,Bool.and_eq_true] at hdk;exact hdk.2
   obtain⟨d,e1,e3,e5⟩:=wA1 h2;have hr:r=d:=by
    unfold wr at hw;rw[e1] at hw;simp only[St.has,List.any_cons,List.any_nil,Bool.or_false] at hw
    grind [Nat.eq_of_beq_eq_true]
   subst hr;refine⟨e1,e3,?_,List.mem_map.2 ⟨oj,List.mem_of_getElem? hoj,e5⟩⟩;cases hh:St.has r (uAt ts i) with
   |false=>rfl
   |true=>exact (h1.2.2.2 r (by rw[eu];exact hw) hh).elim
  have hpl0:∀ j∈l,i<j→∀ r,wr ts j r→∃ A rd bs,uAt ts j=[(r,A)]∧yH6 rd bs A=true∧St.has r (tex ts j++S)=false∧St.has r (uAt ts i)=false∧o.dst≠some r∧(∀ d,o.dst=some d→d∉rd)∧some r∈ops.toList.map (·.dst)∧(∀ q∈rd,St.has q (uAt ts i)=false)∧(∃ t,ts[j]?=some t∧t.rd=rd)∧∀ k∈bs,∃ q τ p,q∈rd∧(tex ts j++S).get q=.ref k τ p∧some q∉ops.toList.map (·.dst):=by
   intro j hj hij r hw;obtain⟨t,ht,eu⟩:=zO7 hw;have h1:=zH4 (hlater j t hj ht hij);obtain⟨h2,h3⟩:=h1.2.1 rfl;obtain⟨oj,hoj⟩:∃ oj,ops.toList[j]?=some oj:=⟨ops[j]'(hI.lt j hj),by grind⟩;obtain⟨pj,hvj,_,r2,_⟩:=hF' j oj hoj;rw[ht] at r2;injection r2 with r2
   rw[List.append_nil] at r2;have h2':xE0 oj.dst t.rd (zW9 (ops.toList.map (·.dst)) (tex ts j++S) t.rd) (tex ts j++S) (uAt ts j)=true:=by
    rw[r2] at h2 ⊢;simp only[yL4,Bool.and_eq_true] at h2 ⊢;exact h2.2
   obtain⟨d,A,e1,e2,e3,e7⟩:=xS7 h2';have hr:r=d:=by
    unfold wr at hw;rw[e1] at hw;simp only[St.has,List.any_cons,List.any_nil,Bool.or_false] at hw
    grind [Nat.eq_of_beq_eq_true]
   subst hr;refine⟨A,t.rd,_,e1,e2,e3,?_,fun hd=>?_,fun d hd=>(h3 d hd).2,List.mem_map.2 ⟨oj,List.mem_of_getElem? hoj,e7⟩,fun q hq=>?_,⟨t,ht,rfl⟩,fun k hk=>xS8 hk⟩
   ·cases hh:St.has r (uAt ts i) with
    |false=>rfl
    |true=>exact (h1.2.2.2 r hh (by rw[eu];exact hw)).elim
   ·have:=(h3 r hd).1;rw[eu] at this;exact absurd (show St.has r (uAt ts j)=true from hw) (by grind)
   ·cases hh:St.has q (uAt ts i) with
    |false=>rfl
    |true=>exact (h1.2.2.1 q hh hq).elim
  have hget:∀ r,(∀ j∈l,i<j→¬ wr ts j r)→(∀ j,j<i→j∉l→¬ wr ts j r)→(exe ts l++S).get r=(tex ts i++S).get r:=fun r hno hno2=>by
   refine hI.val r i (fun j hj hw=>?_) fun j hj hw=>?_
   ·by_cases hjl:j∈l
    ·exact hjl
    ·exact (hno2 j hj hjl hw).elim
   ·by_cases hlt:j<i
    ·exact hlt
    ·have:i≠j:=fun e=>hi (e ▸ hj);exact (hno j hj (by omega) hw).elim
  have hbase:∀ q,some q∉ops.toList.map (·.dst)→St.has q (uAt ts i)=false→∀ j∈l,i<j→∀ t,ts[j]?=some t→q∈t.rd→(exe ts l++S).get q=(tex ts i++S).get q∧(exe ts l++S).get q=(tex ts j++S).get q:=by
   intro q hq hqi j hj hij t ht hqr;have n1:∀ m∈l,i<m→¬ wr ts m q:=fun m hm him hw=>by
    obtain⟨_,_,_,_,_,_,_,_,_,e,_⟩:=hpl0 m hm him q hw;exact hq e
   have n2:∀ m,m<i→m∉l→¬ wr ts m q:=fun m hm hml hw=>hq (hdk m hm hml q hw).2.2.2;refine⟨hget q n1 n2,hI.val q j (fun m hm hw=>?_) fun m hm hw=>?_⟩
   ·by_cases hml:m∈l
    ·exact hml
    ·obtain⟨tm,htm,eum⟩:=zO7 hw;cases hcl:zW2 tm t with
     |true=>exact hI.down j hj m (hO m j tm t htm ht hm (Nat.le_of_not_lt fun h=>hml (hk m h)) hcl)
     |false=>exact ((zH4 hcl).2.2.1 q (by rw[eum];exact hw) hqr).elim
   ·by_cases h:i<m
    ·exact (n1 m hm h hw).elim
    ·omega
  have hpl:∀ j∈l,i<j→∀ r,wr ts j r→∃ A rd bs,uAt ts j=[(r,A)]∧yH6 rd bs A=true∧St.has r (tex ts j++S)=false∧St.has r (uAt ts i)=false∧o.dst≠some r∧(∀ d,o.dst=some d→d∉rd)∧∀ k∈bs,∃ q τ p,q∈rd∧St.has q (uAt ts i)=false∧(exe ts l++S).get q=.ref k τ p∧(tex ts i++S).get q=.ref k τ p:=by
   intro j hj hij r hw;obtain⟨A,rd,bs,e1,e2,e3,e4,e5,e6,_,e8,⟨t,ht,et⟩,e9⟩:=hpl0 j hj hij r hw;refine⟨A,rd,bs,e1,e2,e3,e4,e5,e6,fun k hk=>?_⟩;obtain⟨q,τ,p,h1,h2,h3⟩:=e9 k hk;obtain⟨h4,h5⟩:=hbase q h3 (e8 q h1) j hj hij t ht (by rw[et];exact h1);exact⟨q,τ,p,h1,e8 q h1,by rw[h5,h2],by rw[← h4,h5,h2]⟩
  have hlate:∀ r,(∃ j∈l,i<j∧wr ts j r)→∃ A rd bs,(exe ts l++S).get r=A∧yH6 rd bs A=true∧(tex ts i++S).get r=.junk∧St.has r (uAt ts i)=false∧o.dst≠some r∧(∀ d,o.dst=some d→d∉rd)∧∀ k∈bs,∃ q τ p,q∈rd∧St.has q (uAt ts i)=false∧(exe ts l++S).get q=.ref k τ p∧(tex ts i++S).get q=.ref k τ p:=by
   rintro r ⟨j,hj,hij,hw⟩;obtain⟨A,rd,bs,e1,e2,e3,e4,e5,e6,e7⟩:=hpl j hj hij r hw;refine⟨A,rd,bs,?_,e2,yN9 ?_,e4,e5,e6,e7⟩
   ·have:=hI.val r (j+1) (fun j' hj' hw'=>?_) (fun j' hj' hw'=>?_)
    ·rw[this,tex,List.append_assoc,yA4 (hn j) hw,e1];simp[St.get]
    ·by_cases h:j'=j
     ·rw[h];exact hj
     ·have:=yR4 (S:=S) (show j'<j by omega) hw';rw[e3] at this;cases this
    ·by_cases h:j'<j+1
     ·exact h
     ·obtain⟨_,_,_,_,_,e3',_⟩:=hpl j' hj' (by omega) r hw';have:=yR4 (S:=S) (show j<j' by omega) hw;rw[e3'] at this;cases this
   ·cases hh:St.has r (tex ts i++S) with
    |false=>rfl
    |true=>have:=wA2 (S:=S) (Nat.le_of_lt hij) hh;rw[e3] at this;cases this
  have hdead:∀ r,(∃ j,j<i∧j∉l∧wr ts j r)→(tex ts i++S).get r=.junk∧(exe ts l++S).get r=.junk∧St.has r (uAt ts i)=false:=by
   rintro r ⟨j,hji,hjl,hw⟩;obtain⟨e1,e3,e4,_⟩:=hdk j hji hjl r hw;obtain⟨t,ht,eu⟩:=zO7 hw;refine⟨?_,?_,e4⟩
   ·rw[xS6 hn hji hw fun j' h1 h2 hw'=>?_,e1]
    ·simp[St.get]
    ·by_cases hjl':j'∈l
     ·obtain⟨t',ht',eu'⟩:=zO7 hw';cases hcl:zW2 t t' with
      |true=>exact hjl (hI.down j' hjl' j (hO j j' t t' ht ht' h1 (Nat.le_of_not_lt fun h=>hjl (hk j h)) hcl))
      |false=>exact (zH4 hcl).2.2.2 r (by rw[eu];exact hw) (by rw[eu'];exact hw')
     ·have:=(hdk j' h2 hjl' r hw').2.1;rw[yR4 (S:=S) h1 hw] at this;cases this
   ·have:=hI.val r j (fun j' hj' hw'=>?_) (fun j' hj' hw'=>?_)
    ·rw[this];exact yN9 e3
    ·have:=yR4 (S:=S) hj' hw';rw[e3] at this;cases this
    ·by_cases h:j'<j
     ·exact h
     ·have hne:j≠j':=fun e=>hjl (e ▸ hj');obtain⟨t',ht',eu'⟩:=zO7 hw';cases hcl:zW2 t t' with
      |true=>exact (hjl (hI.down j' hj' j (hO j j' t t' ht ht' (by omega) (Nat.le_of_not_lt fun h=>hjl (hk j h)) hcl))).elim
      |false=>exact ((zH4 hcl).2.2.2 r (by rw[eu];exact hw) (by rw[eu'];exact hw')).elim
  have R0:Rel c.n G.χ w (tex ts i++S) a w G:=by
   refine { hR with frame:=⟨rfl,rfl,rfl,Nat.le_refl _,fun _ _ _=>rfl,fun _ _ _ _=>⟨rfl,rfl⟩⟩,reps:=fun s=>?_ }
   by_cases h:∃ j∈l,i<j∧wr ts j s
   ·obtain⟨_,_,_,_,_,e,_⟩:=hlate s h;rw[e];simp only[zA]
   ·by_cases h':∃ j,j<i∧j∉l∧wr ts j s
    ·rw[(hdead s h').1];simp only[zA]
    ·rw[← hget s (fun j hj hij hw=>h ⟨j,hj,hij,hw⟩) fun j h1 h2 hw=>h' ⟨j,h1,h2,hw⟩];exact hR.reps s
  refine yR2 hc hF' hS hp ho R0 fun v w' G' hR'=>hnext v w' G' ?_;rw[exe,List.append_assoc];have hfr:Frame0 χ0 w0 G'.χ w':=by
   have h:=hR.frame;have k:=hR'.frame;refine⟨k.os.trans h.os,k.tape.trans h.tape,k.output.trans h.output,Nat.le_trans h.size k.size,fun b hb hc=>?_,fun b o hb hc=>?_⟩
   ·rw[k.block b (Nat.lt_of_lt_of_le hb h.size) (fun o=>by rw[(h.cell b o hb (hc o)).1];exact hc o)];exact h.block b hb hc
   ·have h1:=h.cell b o hb hc;have h2:=k.cell b o (Nat.lt_of_lt_of_le hb h.size) (by rw[h1.1];exact hc);exact⟨h2.1.trans h1.1,h2.2.trans h1.2⟩
  have htm:∀ q,o.dst≠some q→(a.put o.dst v).tmps.getD q undef=a.tmps.getD q undef:=fun q hq=>by
   unfold Act.put;cases hd:o.dst with
   |none=>rfl
   |some d =>
    have hne:d≠q:=fun e=>hq (by rw[hd,e]);show (a.tmps.setIfInBounds d v).getD q undef=_;rw[Array.getD_eq_getD_getElem?,Array.getD_eq_getD_getElem?,Array.getElem?_setIfInBounds_ne hne]
  refine { hR' with frame:=hfr,reps:=fun s=>?_ }
  by_cases h:∃ j∈l,i<j∧wr ts j s
  ·obtain⟨A,rd,bs,e1,e2,_,e4,e5,e6,e7⟩:=hlate s h;have k:=hR.reps s;rw[e1] at k;rw[zJ9 (hn i) e4,e1,htm s e5];refine xB6 e2 (fun q hq=>htm q fun hd=>e6 q hd hq) (fun k hk=>?_) (fun b o hb h0=>?_) k
   ·obtain⟨q,τ,p,h1,h2,h3,h4⟩:=e7 k hk;have k1:=hR.reps q;have k2:=hR'.reps q;rw[h3] at k1;rw[zJ9 (hn i) h2,h4,htm q fun hd=>e6 q hd h1] at k2;simp only[zA] at k1 k2;have:=k1.2.symm.trans k2.2;simp only[Value.pointer.injEq,Option.some.injEq,Addr.mk.injEq] at this;exact this.1.symm
   have:=hR'.frame.cell b o hb (by rw[h0];decide);exact⟨this.1.trans h0,this.2⟩
  ·by_cases h':∃ j,j<i∧j∉l∧wr ts j s
   ·obtain⟨_,e2,e3⟩:=hdead s h';rw[zJ9 (hn i) e3,e2];simp only[zA]
   ·have e:(uAt ts i++(exe ts l++S)).get s=(uAt ts i++(tex ts i++S)).get s:=by
     cases hh:St.has s (uAt ts i) with
     |true=>rw[yA4 (hn i) hh,yA4 (hn i) hh]
     |false=>rw[zJ9 (hn i) hh,zJ9 (hn i) hh];exact hget s (fun j hj hij hw=>h ⟨j,hj,hij,hw⟩) fun j h1 h2 hw=>h' ⟨j,h1,h2,hw⟩
    rw[e];exact hR'.reps s
 |false =>
  have hloc:=xB4 (S':=exe ts l++S) q1 (fun r hr=>hI.val r i (fun j hj hw=>?_) (fun j hj hw=>?_)) (fun e hem=>?_)
  ·refine yK5 hc hR ho hloc q5.1 q5.2 (fun s e hem=>?_) (fun e hem e' hem'=>zP5 (q4 e (List.mem_append_left _ hem)) e' hem') (fun q hq=>hp q (q3 q hq)) fun v w' G' hR'=>hnext v w' G' (by rw[exe,List.append_assoc];exact hR');refine zY1 (q:=fun A=>A.hung e.1=false) rfl fun e' he'=>?_;rcases List.mem_append.1 he' with h|h
   ·obtain⟨j,hj,hej⟩:=xT h;by_cases hlt:j<i
    ·exact zP5 (q4 e' (List.mem_append_right _ (xB7 hlt hej))) e hem
    ·have:i≠j:=fun e=>hi (e ▸ hj);obtain⟨t,ht,eu⟩:=yR3 hej;have hq:=((zH4 (hlater j t hj ht (by omega))).1 rfl).2.2;simp only[xX2,List.all_eq_true,yL4,Bool.and_eq_true,Bool.not_eq_true'] at hq;exact zP5 (hq e' (by rw[eu];exact hej)).1 e hem
   ·exact zM (hS e' h)
  ·by_cases hjl:j∈l
   ·grind
   ·obtain⟨t,ht,eu⟩:=zO7 hw;exact ((zH4 (hearlier j t hjl ht hj)).2.2.1 r (by rw[eu];exact hw) hr).elim
  ·obtain⟨t,ht,eu⟩:=zO7 hw;by_cases hlt:j<i
   ·exact hlt
   ·have:i≠j:=fun e=>hi (e ▸ hj);exact (((zH4 (hlater j t hj ht (by omega))).1 rfl).2.1 r hr (by rw[eu];exact hw)).elim
  ·rcases List.mem_append.1 hem with h|h
   ·obtain⟨j,hj,hej⟩:=xT h;by_cases hlt:j<i
    ·exact .inl (List.mem_append_left _ (xB7 hlt hej))
    ·have:i≠j:=fun e=>hi (e ▸ hj);obtain⟨t,ht,eu⟩:=yR3 hej;have hq:=((zH4 (hlater j t hj ht (by omega))).1 rfl).2.2;simp only[xX2,List.all_eq_true,yL4,Bool.and_eq_true] at hq;refine .inr fun d hd=>?_;have:=(hq e (by rw[eu];exact hej)).2;rw[hd] at this;exact this
   ·exact .inl (List.mem_append_right _ h)
theorem wE9 {l:List Nat}(h:((List.range ops.size).filter fun i=>!(l.contains i)).length=0):∀ i,i<ops.size→i∈l:=by
 simp_all
theorem xL0 {l:List Nat}{listed:Array Bool}(hE:zI7 0 ops.toList=true)(hs:listed.size=ops.size)(hl:∀ j,listed.getD j false=true↔j∈l)(hr:Region.ready .any ops listed=[]):∀ i,i<ops.size→i∈l:=by
 intro i
 induction i using Nat.strongRecOn with
 |_ i ih =>
  intro hi;by_cases hm:i∈l
  ·grind
  ·have:i∈Region.ready .any ops listed:=by
    refine mem_ready.2 ⟨?_,ops[i],Array.getElem?_eq_getElem hi,fun e he hbd=>?_⟩
    ·grind
    ·have:=zT4 (ops:=ops.toList) (j:=i) (o:=ops[i]) hE (by grind) e (by grind) hbd
     grind
   grind
theorem xF8 {K:Act→Prop}(hK:∀ o∈ops.toList,∀ a v,K a→K (a.put o.dst v))(hc:CtxOk P c)(hF:Fam c (ops.toList.map (·.dst)) ops.toList S [] ts p)(hS:∀ e∈S,e.2.hasOpt=false)(hp:∀ q∈p,q){m:Nat}(hO:Ord m ops ts)(hn:yW6 ts)
  (hE:zI7 0 ops.toList=true){Q:Exit→Act→World→Prop}(hQ:∀ a' w' G',Rel c.n χ0 w0 (tex ts ops.size++S) a' w' G'→K a'→Q .normal a' w') :
  ∀ zK0 listed l a w G,listed.size=ops.size→(∀ j,listed.getD j false=true↔j∈l)→(∀ j,j<m→j∈l)→Inv ops ts S l→((List.range ops.size).filter fun i=>!(l.contains i)).length≤zK0 →
   Rel c.n χ0 w0 (exe ts l++S) a w G→K a→wpAnyIn (fz rd) 0 P .any ops Q zK0 listed a w:=by
 have fin:∀ l a w G,Inv ops ts S l→(∀ i,i<ops.size→i∈l)→Rel c.n χ0 w0 (exe ts l++S) a w G→K a→Q .normal a w:=by
  intro l a w G hI hf hR hk;refine hQ a w G (yA8 (fun s=>?_) hR) hk;refine (hI.val s ops.size (fun j hj _=>hf j hj) fun j hj _=>hI.lt j hj).symm
 intro zK0
 induction zK0 with
 |zero =>
  intro listed l a w G hs hl hml hI hm hR hk;have hf:=wE9 (ops:=ops) (l:=l) (by omega);refine⟨?_,fin l a w G hI hf hR hk⟩;refine List.eq_nil_iff_forall_not_mem.2 fun i hi=>?_
  grind [mem_ready,Array.getElem?_eq_some_iff]
 |succ zK0 ih =>
  intro listed l a w G hs hl hml hI hm hR hk;refine⟨fun hr=>fin l a w G hI (xL0 hE hs hl hr) hR hk,fun i hi=>?_⟩;obtain⟨h1,o,ho,he⟩:=mem_ready.1 hi;have hlt:=(Array.getElem?_eq_some_iff.1 ho).1;have h2:i<listed.size:=by omega
  have hil:i∉l:=by
   grind
  have he':∀ e∈o.after.toList,Region.binds .any e=true→e.on∈l:=fun e hem hb=>(hl _).1 (he e (by grind) hb);refine xT0 hn hc hF hS hp hO hI hml ho hil he' hR fun v w' G' hR'=>?_;refine ih _ (i::l) _ _ G' (by grind) (fun j=>?_) (fun j hj=>List.mem_cons_of_mem _ (hml j hj)) (hI.cons hn (fun j ti tj _ h1 h2 h3 h4=>hO i j ti tj h1 h2 h3 (Nat.le_of_not_lt fun h=>hil (hml i h)) h4) ho hil he') ?_ hR' (hK _ (List.mem_of_getElem? (by simpa using ho)) _ _ hk)
  ·by_cases e:i=j
   ·subst e;simp[h2]
   ·rw[getD_set_ne false e,hl j];simp[Ne.symm e]
  ·have hsub:(List.range ops.size).filter (fun k=>!((i::l).contains k))=((List.range ops.size).filter (fun k=>!(l.contains k))).filter (fun k=>!(k==i)):=by
    rw[List.filter_filter]
    grind
   rw[hsub];have:(((List.range ops.size).filter (fun k=>!(l.contains k))).filter (fun k=>!(k==i))).length<((List.range ops.size).filter (fun k=>!(l.contains k))).length:=by
    refine List.length_filter_lt_length_iff_exists.2 ⟨i,List.mem_filter.2 ⟨List.mem_range.2 hlt,by grind⟩,by simp⟩
   omega
theorem wD0 {k:Nat}(h:zQ0 k [] (ahead ops.toList []) ts=true):Ord k ops ts:=by
 intro i j ti tj hi hj hij hk hcl;exact xL (trs:=[]) h (by grind) hj (by grind) hk hcl
theorem xB8 {dsts:List (Option Nat)}{o:Oper}{q:List Prop}{u:St}{hv:Bool}(h:yE9 c dsts o S=some (q,u,hv)):(∀ d,o.op≠.defer d)∧∀ cs b,o.op≠.select cs b:=by
 have key:∀ op,o.op=op→zS op=5→(∀ d xs ks,zY7 c d op xs ks=none)→zZ5 op=false→yH5 op=false→False:=by
  intro op h1 h2 h3 h4 h5;have hof:∀ gd,zQ c gd o=none:=fun gd=>yM4 (by rw[h1];exact h5);unfold yE9 zS3 at h;simp only[hof,zD0] at h;unfold yP3 at h;subst h1;split at h
  ·grind
  ·rename_i p' u' h' hst;split at hst
   ·grind
   ·simp only[zL5] at hst
    grind
 refine⟨fun d e=>key _ e rfl (fun _ _ _=>by simp[zY7]) rfl rfl,fun cs b e=>key _ e rfl (fun _ _ _=>by simp[zY7]) rfl rfl⟩
section zS0
variable {F:Fence}{m:Nat}{Q:Exit→Act→World→Prop}
theorem wA3 {j:Nat}{oi oj:Oper}{v:Value}(hj:ops[j]?=some oj)(hap:oi.apart ops oj=true)(hpl:(∀ d,oj.op≠.defer d)∧∀ cs b,oj.op≠.select cs b)(hQ:∀ e a w,e≠.normal→¬ Q e a w)
  {K:Act→World→Prop}(h:wpOpIn F m P ops Q j K (a.put oi.dst v) w):wpOpIn F m P ops Q j (fun a' w'=>(∃ u D,a'=({ a with defers:=D }:Act).put oj.dst u)∧K (a'.put oi.dst v) w') a w:=by
 obtain⟨f1,f2,_⟩:=Oper.apart_spec hap;have hsw:∀ u,(a.put oi.dst v).put oj.dst u=(a.put oj.dst u).put oi.dst v:=fun u=>Act.put_comm a v u f2;unfold wpOpIn at h ⊢;simp only[hj] at h ⊢;rw[wanted_put oj a oi.dst v f1,about_put oj w a oi.dst v f1] at h;cases hw:Region.wanted oj (yielded ops a.tmps) with
 |false =>
  grind
 |true =>
  simp[hw] at h ⊢;unfold Oper.wpIn at h ⊢;rw[about_put oj w a oi.dst v f1,Oper.semAt_eq _ _ _ hpl.1,execOp_put oj hpl.2 a oi.dst v f1] at h;rw[Oper.semAt_eq _ _ _ hpl.1];refine⟨h.1,?_⟩;have h:=h.2;cases hr:(execOp a.eval oj).run P w with
  |halt x w' =>
   rw[hr] at h;cases x<;>simp only[Oper.uponIn] at h
   grind
  |ok x w' =>
   rw[hr] at h;cases x with
   |value u=>grind [Oper.uponIn]
   |skip=>grind [Oper.uponIn]
   |defer d =>
    grind [Oper.uponIn,Act.put_comm,Act.put_defers]
   |enter f args =>
    grind [Oper.uponIn]
   |row row args =>
    grind [Oper.uponIn]
   |round l f tmps assign body =>
    refine⟨h.1,RoundIn.mono h.2 fun e w2 he=>?_⟩
    grind
   |_=>grind [Oper.uponIn]
theorem yW7 {i:Nat}{o:Oper}{v:Value}(hi:ops[i]?=some o)(hpl:∀ d,o.op≠.defer d)(hy:YieldsFenced P ops o v a){K:Act→World→Prop}(h:K (a.put o.dst v) w):wpOpIn F m P ops Q i K a w:=by
 unfold wpOpIn;simp only[hi];have hab:∀ f,o.about P w a.eval=some f→F.fn f:=fun f hf=>by rw[hy.2 w] at hf;grind
 rcases hy.1 with ⟨hw,hv⟩ | ⟨hw,rfl⟩
 ·rw[if_pos hw];unfold Oper.wpIn;rw[Oper.semAt_eq _ _ _ hpl,hv w];exact⟨hab,h⟩
 grind
theorem xT1 {i:Nat}{oi:Oper}{v:Value}(hi:ops[i]?=some oi)(hpl:∀ (j:Nat)(o:Oper),ops[j]?=some o→(∀ d,o.op≠.defer d)∧∀ cs b,o.op≠.select cs b)(hQ:∀ e a w,e≠.normal→¬ Q e a w) :
  ∀ (zK0:Nat) (listed:Array Bool) (a:Act) (w:World),
   (∀ j oj,ops[j]?=some oj→j≠i→listed.getD j true=false→(∀ e∈oj.after,Region.binds .any e=true→e.on≠i)→oi.apart ops oj=true) →
   i∈Region.ready .any ops listed→YieldsFenced P ops oi v a →
   wpAnyIn F m P .any ops Q zK0 (listed.setIfInBounds i true) (a.put oi.dst v) w→wpAnyIn F m P .any ops Q (zK0+1) listed a w:=by
 intro zK0
 induction zK0 with
 |zero =>
  intro listed a w hfree hr hy hw;refine⟨fun h0=>(by grind),fun j hj=>?_⟩;by_cases e:j=i
  ·grind [yW7]
  ·have:=ready_mono hj e;rw[hw.1] at this
   grind
 |succ zK0 ih =>
  intro listed a w hfree hr hy hw;refine⟨fun h0=>(by grind),fun j hj=>?_⟩;by_cases e:j=i
  ·grind [yW7]
  ·obtain⟨hun,oj,hoj,hall⟩:=mem_ready.1 hj;have hnot:∀ e∈oj.after,Region.binds .any e=true→e.on≠i:=fun ed hed hb heq=>by
    grind [mem_ready,Array.getElem?_eq_none,Nat.le_of_not_lt]
   have hap:=hfree j oj hoj e hun hnot;obtain⟨_,_,f3⟩:=Oper.apart_spec hap;refine wpOpIn_mono (fun a' w' h3=>?_) (wA3 hoj hap (hpl _ _ hoj) hQ (hw.2 j (ready_mono hj e)));obtain⟨⟨u,D,rfl⟩,h3⟩:=h3;refine ih (listed.setIfInBounds j true) _ w' (fun k ok hk hki hku hno=>?_) (ready_mono hr (Ne.symm e)) ?_ (by grind [Array.setIfInBounds_comm])
   ·refine hfree k ok hk hki ?_ hno;by_cases hjk:j=k
    ·grind
    ·rw[getD_set_ne true hjk] at hku;exact hku
   ·have hy':YieldsFenced P ops oi v ({ a with defers:=D }:Act):=hy.of_same rfl rfl (fun _=>rfl)
    exact hy'.of_same (execOp_put oi (hpl _ _ hi).2 _ oj.dst u f3) (wanted_put oi _ oj.dst u f3) (fun w=>about_put oi w _ oj.dst u f3)
end zS0
theorem xB9 {dsts:List (Option Nat)}{S' u:St}{hv:Bool}{q:List Prop}{o:Oper}{T:Nat}{x y:Operand}{t:Ty}{l:List t.den}{k:IntKind}{i:Int}(ho:o.op=.indexAddr T x y)(hg:o.guard=none)(hx:arg S' x=.val (.sl t) l)(hy:arg S' y=.val (.int k) i)
  (h:yE9 c dsts o S'=some (q,u,hv)) (hq:∀ p∈q,p):0≤i∧i<(l.length:Int):=by
 have h0:∃ q',zS3 c dsts o S'=some (q,q'):=by
  grind [yE9,wE0]
 unfold zS3 at h0;simp[zO2,zQ,zD0,yP3,ho,zS,zE0,zF5,zL5,zY7,zT9,zZ5] at h0;split at h0
 ·grind
 ·split at h0
  ·grind
  ·cases hi:c.is T (.sl t) with
   |false=>grind
   |true =>
    simp[zW6] at h0;have e:q=zO8 y i (l.length:Int):=by grind
    rw[e] at hq;exact zG5 hq
theorem yW8 (hc:CtxOk P c){dsts:List (Option Nat)}{S' u:St}{hv:Bool}{q:List Prop}(hR:Rel c.n χ0 w0 S' a w G){o:Oper}(hst:yE9 c dsts o S'=some (q,u,hv))(hq:∀ p∈q,p)(h:yB8 c S' o=true):∃ v,YieldsFenced P ops o v a:=by
 unfold yB8 at h;split at h
 ·rename_i d hg hd;have hw:Region.wanted o (yielded ops a.tmps)=true:=by grind [Region.wanted]
  split at h
  ·rename_i x ho;exact⟨a.eval x,.inl ⟨hw,fun w=>by simp[execOp,ho]⟩,fun w=>by grind [Oper.about]⟩
  ·rename_i args ats t l T i U m ho hl;rw[ho] at hl;simp only[zE0] at hl;obtain⟨x,hx⟩:∃ x,args.toList=[x]:=by
    cases hq:args.toList<;>simp_all
   rw[hx] at hl;simp  at hl;split at h
   ·rename_i T' hT';simp  at h;obtain⟨e',h1,h2⟩:=zG (zB4 hc.tys h.1);have hA:=zH0 hR x;rw[hl] at hA;have hv:∃ b n k,a.eval x=.slice b n k:=by
     obtain⟨_,⟨he,_⟩ | ⟨_,⟨hv,_⟩ | ⟨cap,_,_,hv,_⟩⟩⟩:=hA
     all_goals simp_all
    obtain⟨b,n,k,hv⟩:=hv;have hargs:args=#[x]:=by grind
    have hats:ats=#[T']:=by grind
    subst hargs;subst hats;refine⟨.int .i64 (n:Int),.inl ⟨hw,fun w=>?_⟩,fun w=>?_⟩
    ·simp[execOp,ho,resolve,invoke,builtin,hv,Builtin.len_,run_underlying h1,goInt]
    simp_all [Oper.about,resolve,Target.leads]
   grind
  ·rename_i op T x y kd k p k' q ho hl;rw[ho] at hl;simp[zE0] at hl;have hk:=zH9 (Nat.eq_of_beq_eq_true h);have hA:=zH0 hR x;have hB:=zH0 hR y;rw[hl.1] at hA;rw[hl.2] at hB;have hA:=VRep_int.1 hA;have hB:=VRep_int.1 hB;refine⟨.int k (k.wrap (p-q)),.inl ⟨hw,fun w=>?_⟩,fun w=>by grind [Oper.about]⟩;simp_all [execOp,zM5,binOp,Op.intArith]
  ·rename_i T x y t' l k i' ho hl;rw[ho] at hl;simp[zE0] at hl;have hb:=xB9 ho hg hl.1 hl.2 hst hq;have hA:=zH0 hR x;have hB:=zH0 hR y;rw[hl.1] at hA;rw[hl.2] at hB;simp only[zA] at hA hB;have hB:=VRep_int.1 hB;rw[zC rfl] at hA;obtain⟨ad,cap,hv',hx⟩:=hA;injection hv' with hv' _
   rcases hx with rfl|⟨b,o',us,ha,h1,h2,h3⟩
   ·grind
   ·exact⟨.pointer (some ⟨b,o'+i'.toNat*t'.size,none⟩),.inl ⟨hw,fun w=>by simp[execOp,ho,hv',hB,zE7 (zB4 hc.tys h) ha hb w]⟩,fun w=>by grind [Oper.about]⟩
  grind
 grind
theorem xC {i:Nat}{oi:Oper}:∀ {l:List Oper}{j0 n:Nat}{oj:Oper},yH7 ops i oi j0 l=true→l[n]?=some oj→i<j0+n→(∀ e∈oj.after,Region.binds .any e=true→e.on≠i)→oi.apart ops oj=true:=by
 intro l
 induction l with
 |nil=>grind
 |cons x r ih =>
  intro j0 n oj h hn hlt hno;simp only[yH7,Bool.and_eq_true,Bool.or_eq_true] at h;cases n with
  |zero =>
   rcases h.1 with h1|h1|h1
   ·have:=Nat.le_of_ble_eq_true h1;omega
   ·grind [absurd,Nat.eq_of_beq_eq_true]
   grind
  |succ n=>grind
theorem xC0 {all:List Oper}:∀ {r:List Oper}{ts:List Tr}{i:Nat}{U:St},i≤zS0 c all S i r ts U∧zS0 c all S i r ts U≤i+r.length ∧
  ∀ j,i≤j→j<zS0 c all S i r ts U→∃ o,r[j-i]?=some o∧yB8 c ((tex ts (j-i)++U)++S) o=true∧yH7 all.toArray j o 0 all=true:=by
 intro r
 induction r with
 |nil=>grind [zS0]
 |cons o r ih =>
  intro ts i U;cases ts with
  |nil=>simp only[zS0];exact⟨Nat.le_refl _,by omega,fun j h1 h2=>by omega⟩
  |cons t ts =>
   simp only[zS0];cases hb:(yB8 c (U++S) o&&yH7 all.toArray i o 0 all) with
   |false=>simp only[cond_false];exact⟨Nat.le_refl _,by omega,fun j h1 h2=>by omega⟩
   |true =>
    simp;obtain⟨h1,h2,h3⟩:=ih (ts:=ts) (i:=i+1) (U:=t.u++U);refine⟨by omega,by grind,fun j hj hjk=>?_⟩;by_cases e:j=i
    ·grind [tex]
    ·have e1:j-i=(j-(i+1))+1:=by omega
     grind [yA9]
def yB0 (n:Nat):Nat→Array Bool
 |0=>Array.replicate n false
 |i+1=>(yB0 n i).setIfInBounds i true
theorem zV6 {n:Nat}:∀ {i:Nat},(yB0 n i).size=n:=by
 intro i
 induction i<;>grind [yB0]
theorem yG4 {n:Nat}:∀ {i j:Nat},i≤n→((yB0 n i).getD j false=true↔j<i):=by
 intro i
 induction i with
 |zero=>simp[yB0];grind
 |succ i ih =>
  intro j hi;by_cases e:i=j
  ·have:i<(yB0 n i).size:=by grind [zV6]
   simp_all [yB0]
  ·rw[yB0,getD_set_ne false e,ih (by omega)];omega
def yK8:Nat→List Nat
 |0=>[]
 |k+1=>k::yK8 k
theorem downs_mem {j:Nat}:∀ {k:Nat},j∈yK8 k↔j<k:=by
 intro k
 induction k<;>grind [yK8]
theorem xT2:∀ {k:Nat},exe ts (yK8 k)=tex ts k:=by
 intro k
 induction k<;>grind [yK8,exe,tex]
theorem xT3 (hn:yW6 ts)(hE:zI7 0 ops.toList=true):∀ {k:Nat},k≤ops.size→Inv ops ts S (yK8 k):=by
 intro k
 induction k with
 |zero=>intro _;exact xS9 hn
 |succ k ih =>
  intro hk;have hlt:k<ops.size:=by omega
  refine Inv.cons hn (fun j ti tj hj _ _ hij=>?_) (ih (by omega)) (Array.getElem?_eq_getElem hlt) (fun h=>?_) (fun e he hb=>?_)
  ·grind [downs_mem]
  ·grind [downs_mem]
  ·have:=zT4 (ops:=ops.toList) (j:=k) (o:=ops[k]) hE (by grind) e he hb
   grind [downs_mem]
theorem wA4 {k:Nat}:∀ {n:Nat},((List.range n).filter fun i=>!((yK8 k).contains i)).length≤n-k:=by
 intro n
 induction n with
 |zero=>simp
 |succ n ih =>
  rw[List.range_succ,List.filter_append,List.length_append];by_cases h:n<k
  ·have h1:n∈yK8 k:=downs_mem.2 h;have h2:([n].filter fun i=>!((yK8 k).contains i))=[]:=by simp[h1]
   rw[h2,List.length_nil];omega
  ·have:([n].filter fun i=>!((yK8 k).contains i)).length≤1:=List.length_filter_le _ _;omega
theorem xT4 {K:Act→Prop}(hK:∀ o∈ops.toList,∀ a v,K a→K (a.put o.dst v))(hc:CtxOk P c)(hF:Fam c (ops.toList.map (·.dst)) ops.toList S [] ts p)(hS:∀ e∈S,e.2.hasOpt=false)(hp:∀ q∈p,q)(hE:zI7 0 ops.toList=true)
  {Q:Exit→Act→World→Prop}(hQ:∀ e a w,e≠.normal→¬ Q e a w){k fk:Nat}(_:k≤ops.size) (hk:∀ j,j<k→∃ o,ops[j]?=some o∧yB8 c (tex ts j++S) o=true∧yH7 ops j o 0 ops.toList=true)
  (hfin:∀ a w G,Rel c.n χ0 w0 (tex ts k++S) a w G→K a→wpAnyIn (fz rd) 0 P .any ops Q fk (yB0 ops.size k) a w) :
  ∀ n i,i+n=k→∀ a w G,Rel c.n χ0 w0 (tex ts i++S) a w G→K a→wpAnyIn (fz rd) 0 P .any ops Q (fk+n) (yB0 ops.size i) a w:=by
 have hpl:∀ (j:Nat) (o:Oper),ops[j]?=some o→(∀ d,o.op≠.defer d)∧∀ cs b,o.op≠.select cs b:=fun j o ho=>by
  obtain⟨_,_,h1,_⟩:=hF j o (by grind);exact xB8 h1
 intro n
 induction n with
 |zero=>grind
 |succ n ih =>
  intro i hi a w G hR hk';obtain⟨o,ho,h1,h2⟩:=hk i (by omega);obtain⟨pi,hv,q1,_,q3,_⟩:=hF i o (by grind);rw[List.append_nil] at q1;obtain⟨v,hy⟩:=yW8 (ops:=ops) hc hR q1 (fun q hq=>hp q (q3 q hq)) h1;have hw:=yR2 (rd:=rd) (Q:=fun _ _ _=>False) (next:=fun a' w'=>∃ G',Rel c.n χ0 w0 (tex ts (i+1)++S) a' w' G') hc hF hS hp ho hR (fun v w' G' hR'=>⟨G',by grind [tex,List.append_assoc]⟩)
  have hb:∃ G',Rel c.n χ0 w0 (tex ts (i+1)++S) (a.put o.dst v) w G':=by
   unfold wpOpIn at hw;simp only[ho] at hw;rcases hy.1 with ⟨q1,q2⟩ | ⟨q1,rfl⟩
   ·simp[q1] at hw;unfold Oper.wpIn at hw;rw[Oper.semAt_eq _ _ _ (hpl _ _ ho).1,q2 w] at hw;exact hw.2
   grind
  obtain⟨G',hR'⟩:=hb;refine xT1 ho hpl hQ (fk+n) (yB0 ops.size i) a w (fun j oj hj hji hun hno=>?_) (mem_ready.2 ⟨?_,o,ho,fun e he hbd=>?_⟩) hy (ih (i+1) (by omega) _ _ G' hR' (hK o (List.mem_of_getElem? (by simpa using ho)) _ _ hk'))
  ·refine xC (n:=j) h2 (by grind) ?_ hno
   grind [yG4,yB0,zV6]
  ·grind [yB0,zV6,Array.getElem?_eq_some_iff,yG4]
  ·have:=zT4 (ops:=ops.toList) (j:=i) (o:=o) hE (by grind) e (by grind) hbd
   grind [yG4]
end draw
end Go.Am
namespace Go.Am
open Go Go.RowKit
variable {gtab:GlobTab}{P:Program}{c:Ctx}{G:Gh}{w:World}{tm:Array Value}{n:Nat}{χ0:Nat→Nat→Nat}{w0:World}{S:St}{a:Act}
def Gh.rename (G:Gh)(T U:Nat):Gh:=
 {χ:=fun b o=>if G.χ b o=zB0 T then zB0 U else G.χ b o,β:=G.β,γ:=fun k=>if k=U then G.γ T else G.γ k }
theorem zF4 {T U:Nat}:∀ b o,b<w.heap.size→G.χ b o=0→(G.rename T U).χ b o=0∧w.cell? ⟨b,o,none⟩=w.cell? ⟨b,o,none⟩:=by
 grind [Gh.rename,zA9]
theorem rename_ext {T U:Nat}:Ext (fun x=>x=zB0 T∨x=zB0 U) (fun x=>x=zB0 U) G w (G.rename T U) w:=by
 refine⟨zF4,fun b _ h=>⟨rfl,fun o=>?_⟩,Nat.le_refl _,fun _ _=>rfl,fun k hk=>?_,fun _ h=>.inr h⟩
 ·simp_all [Gh.rename]
 ·simp only[Gh.rename];rw[if_neg fun e=>hk (by rw[e])]
theorem yO {T U:Nat}{t:Ty}{l:List t.den}{m:Bool}{v:Value}(h:zF9 G w t l T m v):zF9 (G.rename T U) w t l U m v:=by
 refine zZ7 (fun h=>⟨h.1,?_⟩) (by simp[Gh.rename]) rfl zF4 (fun _ hc o=>?_) h
 rotate_left
 ·grind [Gh.rename]
 rcases h.2 with h|⟨cap,cur,e,us,h1,h2,h3,h4,h5,h6,h7,h8⟩
 ·grind
 ·have hg:(G.rename T U).γ U=G.γ T:=by simp[Gh.rename]
  refine .inr ⟨cap,cur,e,us,by grind,by grind,h3,h4,h5,zB6 (fun _ _ h=>zA2 zF4 h) h6,h7,fun o=>?_⟩;rw[hg];simp only[Gh.rename,h8 o];split
  ·rw[if_neg (zA9 T)]
  ·rw[if_pos rfl]
theorem yO0 {T:Nat}(h:yM1 T S=true)(s:Nat):(S.get s).hasTag T=false:=by
 by_cases hj:S.get s=.junk
 ·rw[hj];rfl
 ·have hs:=zO6 hj;simp only[St.has,List.any_eq_true] at hs;obtain⟨e,he,hb⟩:=hs;have:=List.all_eq_true.1 h e he
  grind [Nat.eq_of_beq_eq_true]
theorem zE4 {T U T':Nat}(h:T'≠U):(G.rename T U).γ (bif Nat.beq T T' then U else T')=G.γ T':=by
 cases hb:Nat.beq T T'<;>simp_all [Gh.rename]
theorem zV7 {T U T' b o:Nat}(h:G.χ b o=zB0 T'):(G.rename T U).χ b o=zB0 (bif Nat.beq T T' then U else T'):=by
 cases hb:Nat.beq T T' with
 |true=>simp_all [Gh.rename]
 |false=>simp[Gh.rename];rw[if_neg (fun e=>by rw[h] at e;have:=zA5 e;simp_all),h]
theorem xC1 {T U T':Nat}(hU:T'≠U){t:Ty}{l:List t.den}{m:Bool}{v:Value}(h:yX9 G w t l T' m v):yX9 (G.rename T U) w t l (bif Nat.beq T T' then U else T') m v:=by
 refine⟨h.1,?_⟩;rcases h.2 with h|⟨cap,cur,e,us,h1,h2,h3,h4,h5,h6,h7,h8⟩
 ·grind
 ·refine .inr ⟨cap,cur,e,us,by grind [zE4],by grind [zE4],h3,h4,h5,zB6 (fun _ _ h=>zA2 zF4 h) h6,h7,fun o=>?_⟩;rw[zE4 hU];have h9:=h8 o;by_cases hc:m=false∧o<l.length*t.size
  ·grind [zF4,zE6]
  ·rw[if_neg hc] at h9 ⊢;exact zV7 h9
theorem yW9 {T U T' V:Nat}(h1:T'≠U)(h2:V≠U)(h:T'≠V):(bif Nat.beq T T' then U else T')≠(bif Nat.beq T V then U else V):=by
 grind [Nat.beq,absurd,Nat.eq_of_beq_eq_true]
theorem xC2 {T U T' V:Nat}(h1:T'≠U)(h2:V≠U){t:Ty}{l:List (List t.den)}{i:Nat}{m:Bool}{v:Value}(h:xM7 G w t l T' i V m v) :
  xM7 (G.rename T U) w t l (bif Nat.beq T T' then U else T') i (bif Nat.beq T V then U else V) m v:=by
 obtain⟨hv,⟨he,⟨hm,x,ad,cap,q1,q2,q3⟩ | ⟨hm,hK⟩⟩ | ⟨hne,h|⟨cap,cur,e,g1,g2,g3,g4,g5,g6,g7⟩⟩⟩:=h
 ·subst he;refine⟨hv,.inl ⟨rfl,.inl ⟨hm,x,ad,cap,q1,q2,?_⟩⟩⟩;rcases q3 with q3|⟨o,us,cur,e,k1,k2,k3,k4,k5,k6⟩
  ·grind
  ·exact .inr ⟨o,us,cur,e,by grind [zE4],k2,by grind [zE4],zB6 (fun _ _ h=>zA2 zF4 h) k4,k5,fun o=>by grind [zE4,zV7]⟩
 ·subst he;refine⟨hv,.inl ⟨rfl,.inr ⟨hm,?_⟩⟩⟩;rcases hK with h|⟨cap,cur,e,g1,g2,g3,g4,g5,g6,g7⟩
  ·exact .inl h
  ·refine .inr ⟨cap,cur,e,by grind [zE4],by grind [zE4],g3,g4,g5,fun o=>by grind [zE4,zV7],fun j x hj hji=>?_⟩
   grind [zA2,zF4]
 ·refine⟨hv,.inr ⟨yW9 h1 h2 hne,.inl h⟩⟩
 ·refine⟨hv,.inr ⟨yW9 h1 h2 hne,.inr ⟨cap,cur,e,by grind [zE4],by grind [zE4],g3,g4,g5,fun o=>by rw[zE4 h1];exact zV7 (g6 o),fun j x hj=>?_⟩⟩⟩;obtain⟨u,hu,hr⟩:=g7 j x hj;refine⟨u,hu,?_⟩;by_cases e:j=i
  ·rw[if_pos e] at hr ⊢;exact xC1 h2 hr
  ·rw[if_neg e] at hr ⊢;exact zA2 zF4 hr
theorem yX (hR:Rel n χ0 w0 S a w G)(hn:n≤vNo){T U:Nat}(hU:yM1 U S=true)(hlt:∀ e∈zB8 T (AVal.retagH T U) S S,e.1<zA7) :
  Rel n χ0 w0 (zB8 T (AVal.retagH T U) S S++S) a w (G.rename T U):=by
 have h0:¬ ((0:Nat)=zB0 T∨(0:Nat)=zB0 U):=by rintro (e|e);exact zA9 _ e;exact zA9 _ e
 have hor:∀ {t:Ty}{l:List t.den}{T':Nat}{m:Bool}{v:Value},¬ T'=U→Nat.beq T T'=false→zF9 G w t l T' m v→zF9 (G.rename T U) w t l T' m v:=by
  intro t l T' m v hB hb ho;refine zF2 rename_ext h0 ?_ ho;rintro (e|e)
  ·have:=zA5 e;simp_all
  grind [zA5]
 have hmap:MapOk (fun k=>k=U) G w (G.rename T U) w (fun t l T' m=>.own t l (bif Nat.beq T T' then U else T') m) (fun s T' t i p=>.eref s (bif Nat.beq T T' then U else T') t i p):=by
  refine⟨zF4,fun s=>rfl,fun s hcol hl=>⟨rfl,fun o=>?_⟩,fun t l T' m v hB ho hf=>?_,fun t l T' m v hB ho tm=>?_,fun s T' t i p v hB tm ha=>?_⟩
  ·simp_all [Gh.rename,zA4]
  ·simp only[zA8];cases hb:Nat.beq T T' with
   |true=>have:=Nat.eq_of_beq_eq_true hb;subst this;exact⟨trivial,v,rfl,yO ho⟩
   |false=>exact⟨trivial,v,rfl,hor hB hb ho⟩
  ·grind [zA,Nat.beq,Nat.eq_of_beq_eq_true,yO]
  ·simp only[zA] at ha ⊢;cases hb:Nat.beq T T' with
   |true=>grind [Nat.eq_of_beq_eq_true,Gh.rename]
   |false=>rw[cond_false,rename_ext.tag (w:=w) T' fun e=>hB (zA5 e)];grind
 refine yJ9 (U:=T) hR hn rename_ext h0 ?_ (fun s hs=>?_) (fun s hs=>yV0 hs (yO0 hU s)) hlt
 ·refine⟨hR.frame.os,hR.frame.tape,hR.frame.output,hR.frame.size,hR.frame.block,fun b o hb hc=>?_⟩;have:=hR.frame.cell b o hb hc;simp only[Gh.rename]
  grind [zM7]
 ·have hrs:=hR.reps s;have hno:=yO0 hU s;generalize S.get s=A at hrs hno ⊢;cases A with
  |ownh t l T' i V m =>
   simp[AVal.hasTag] at hno;exact xC2 (fun e=>by simp_all) (fun e=>by simp_all) hrs
  |_=>exact hmap.arep (fun k hk=>by subst hk;exact hno) hrs
end Go.Am
namespace Go.Am
open Go Go.RowKit
variable {rd:Option Nat}{gtab:GlobTab}{P:Program}{c:Ctx}{G:Gh}{w:World}{tm:Array Value}{n:Nat}{χ0:Nat→Nat→Nat}{w0:World}{S:St}{a:Act}
theorem xF9 {T:Nat}{X:Nat→Prop}{G':Gh}(hX:∀ x,X x→x=zB0 T)(hx:Ext X (fun _=>False) G w G' w) :
  MapOk (fun _=>False) G w G' w (fun t l T' m=>bif Nat.beq T T' then .junk else .own t l T' m) (fun s T' t i p=>bif Nat.beq T T' then .junk else .eref s T' t i p):=by
 have h0:¬ X 0:=fun h=>zA9 _ (hX 0 h);refine⟨hx.prot,fun s=>hx.box s id,fun s hcol hlt=>?_,fun t l T' m v _ ho hf=>?_,fun t l T' m v _ ho tm=>?_,fun s T' t i p v _ tm ha=>?_⟩
 ·have:=hx.block _ hlt (fun o=>by grind [zA4])
  grind
 ·cases hb:Nat.beq T T' with
  |true=>grind [AVal.fitsT]
  |false =>
   simp only[cond_false,zA8];exact⟨trivial,v,rfl,zF2 hx h0 (fun e=>by have:=zA5 (hX _ e);simp_all) ho⟩
 ·cases hb:Nat.beq T T' with
  |true=>simp[zA]
  |false=>exact zF2 hx h0 (fun e=>by have:=zA5 (hX _ e);simp_all) ho
 ·cases hb:Nat.beq T T' with
  |true=>simp[zA]
  |false=>simp[zA] at ha ⊢;rw[hx.tag T' id];grind
theorem xT5 {T:Nat}{g:(t:Ty)→List t.den→Nat→Bool→AVal}{h:Nat→Nat→Ty→Int→zY4→AVal}{G':Gh}(H:MapOk (fun _=>False) G w G' w g h) :
  ∀ {b:AVal}{f:Ty}{k:Nat}{vs:List Value}{t:Ty}{l:List t.den}{m:Bool},zA8 G w f b vs→b.nth k=.own t l T m→(∀ v,zF9 G w t l T m v→zF9 G' w t l T false v) →
   ((b.mapOwn g h).setNth k (.own t l T false)).fitsT f=true→zA8 G' w f ((b.mapOwn g h).setNth k (.own t l T false)) vs:=by
 intro b
 induction b with
 |cons x y _ ihy =>
  intro f k vs t l m ht hk ho hf;obtain⟨h1,t1,us,ws,rfl,rfl,h2,h3⟩:=ht;cases k with
  |zero =>
   subst hk;obtain⟨rfl,v,rfl,h2⟩:=h2;simp[AVal.mapOwn,AVal.setNth,AVal.fitsT,zF1] at hf ⊢;exact⟨_,_,_,_,rfl,rfl,⟨rfl,v,rfl,ho v h2⟩,H.trep (fun _ h=>h.elim) h3 (zQ3 hf.2)⟩
  |succ k =>
   simp[AVal.mapOwn,AVal.setNth,AVal.fitsT,zF1] at hf ⊢;exact⟨_,_,_,_,rfl,rfl,H.trep (fun _ h=>h.elim) h2 (zQ3 hf.1),ihy h3 hk ho hf.2⟩
 |_=>grind [AVal.nth]
theorem wF {T:Nat}{t:Ty}{l:List t.den}{m:Bool}:∀ {b:AVal}{f:Ty}{k:Nat}{us:List Value},zA8 G w f b us→b.nth k=.own t l T m→∃ v,zF9 G w t l T m v:=by
 intro b
 induction b with
 |cons x y _ ihy =>
  intro f k us ht hfld;cases k<;>grind [AVal.nth,zA8]
 |_=>grind [AVal.nth]
theorem xT6 (hR:Rel n χ0 w0 S a w G)(hn:n≤vNo){s k T:Nat}(hT:xG8 k (S.get s)=some T)(hlt:∀ e∈(s,zG3 k (S.get s))::zB8 T (AVal.gone T) S S,e.1<zA7) :
  ∃ G',Rel n χ0 w0 (((s,zG3 k (S.get s))::zB8 T (AVal.gone T) S S)++S) a w G':=by
 have hs:=hR.reps s;have main:∀ G',Ext (fun x=>x=zB0 T) (fun _=>False) G w G' w→Frame0 χ0 w0 G'.χ w→(zA G' w a.tmps (some s) (zG3 k (S.get s)) (a.tmps.getD s undef)) →
   ∃ G',Rel n χ0 w0 (((s,zG3 k (S.get s))::zB8 T (AVal.gone T) S S)++S) a w G':=by
  intro G' hx hfr hst;refine⟨G',?_⟩;have:=zD8 (u:=(s,zG3 k (S.get s))::zB8 T (AVal.gone T) S S) (dst:=none) (v:=undef) hR hn hlt (fun d e=>by cases e) (fun d e=>by cases e) hx (fun e=>zA9 _ e) hfr (fun s' hs'=>?_) (fun s d e=>by cases e) (fun s' hs'=>?_)
  ·exact this
  ·refine xA0 (fun x h=>h) ?_;simp only[St.has,List.any_cons,Bool.or_eq_false_iff] at hs';cases ht:(S.get s').hasTag T with
   |false=>rfl
   |true=>have:=zU9 (k:=AVal.gone T) (zO6 (zT2 ht)) ht;unfold St.has at this;rw[hs'.2] at this;cases this
  ·rw[zJ1];by_cases e:s=s'
   ·subst e;have:St.get ((s,zG3 k (S.get s))::zB8 T (AVal.gone T) S S) s=zG3 k (S.get s):=by simp[St.get]
    rw[this];exact hst
   ·have h1:Nat.beq s s'=false:=by cases hb:Nat.beq s s' with
     |false=>rfl
     |true=>exact absurd (Nat.eq_of_beq_eq_true hb) e
    have h2:Nat.beq s zA7=false:=by cases hb:Nat.beq s zA7 with
     |false=>rfl
     |true=>have:=hlt (s,zG3 k (S.get s)) (by simp);have:=Nat.eq_of_beq_eq_true hb;omega
    have hs'':St.has s' (zB8 T (AVal.gone T) S S)=true:=by simpa[St.has,h1] using hs'
    have hget:St.get ((s,zG3 k (S.get s))::zB8 T (AVal.gone T) S S) s'=AVal.gone T (S.get s'):=by
     simp only[St.get,h1,h2,cond_false];rcases zU8 hs'' with h3|⟨e,he,h3⟩
     ·exact h3.1
     ·have:=hlt e (by simp[he]);omega
    rw[hget];exact (xF9 (fun x h=>h) hx).arep (fun _ h=>h.elim) (hR.reps s')
 generalize hA:S.get s=A at hs hT main ⊢;cases A with
 |own t l T' m =>
  simp only[xG8,Option.some.injEq] at hT;subst hT;simp only[zA] at hs;cases htl:t.isL with
  |true=>exact main G ⟨fun _ _ _ h=>⟨h,rfl⟩,fun _ _ _=>⟨rfl,fun _=>rfl⟩,Nat.le_refl _,fun _ _=>rfl,fun _ _=>rfl,fun _ h=>h.elim⟩ hR.frame (by simp only[zG3,htl,cond_true,zA])
  |false =>
   obtain⟨G',h1,h2,h3⟩:=yA5 htl hR.frame hs;exact main G' h1 h2 (by simp only[zG3,htl,cond_false,zA];exact h3.2 _ hs)
 |box τ b =>
  simp only[xG8] at hT;split at hT
  ·rename_i t l T' m hfld;injection hT with hT
   subst hT;cases b with
   |agg f b =>
    simp only[AVal.fld] at hfld;simp only[zA] at hs;obtain⟨hv,hvt,cur,e,g1,g2,g3⟩:=hs;simp only[zA8] at g2;obtain⟨rfl,g2⟩:=g2;have hown:∃ v,zF9 G w t l T' m v:=wF g2 hfld;obtain⟨v0,ho⟩:=hown;cases htl:t.isL with
    |true=>exact main G ⟨fun _ _ _ h=>⟨h,rfl⟩,fun _ _ _=>⟨rfl,fun _=>rfl⟩,Nat.le_refl _,fun _ _=>rfl,fun _ _=>rfl,fun _ h=>h.elim⟩ hR.frame (by simp only[zG3,hfld,htl,cond_true,zA])
    |false =>
    obtain⟨G',h1,h2,h3,h4⟩:=yA5 htl hR.frame ho;refine main G' h1 h2 ?_;simp only[zG3,hfld,htl,cond_false];generalize hfit:((b.gone T').setNth k (.own t l T' false)).fitsT f=fit;cases fit with
    |false=>simp only[cond_false,zA]
    |true =>
     simp only[cond_true,zA];have hb:=h1.block (G.β s) (zE6 g1) (fun o=>by rw[g3];exact zA4 _ _);refine⟨by rw[h3];exact hv,hvt,cur,e,by rw[h3,hb.1];exact g1,?_,fun o=>by rw[h3,hb.2 o];exact g3 o⟩;simp only[zA8];exact⟨trivial,xT5 (xF9 (fun x h=>h) h1) g2 hfld h4 hfit⟩
   |_=>exact main G ⟨fun _ _ _ h=>⟨h,rfl⟩,fun _ _ _=>⟨rfl,fun _=>rfl⟩,Nat.le_refl _,fun _ _=>rfl,fun _ _=>rfl,fun _ h=>h.elim⟩ hR.frame (by simp only[zG3,zA])
  ·cases hT
 |ownh t l T' i U m =>
  simp only[xG8] at hT;cases hTU:Nat.beq T' U with
  |true=>simp[hTU] at hT
  |false =>
  simp only[hTU,cond_false,Option.some.injEq] at hT;subst hT;simp only[zA] at hs;obtain⟨hvt,⟨he,_⟩ | ⟨hne,hcase⟩⟩:=hs
  ·subst he;simp at hTU
  have hfin:∀ (G':Gh),Ext (fun x=>x=zB0 U) (fun _=>False) G w G' w→(∀ u,yX9 G w t (List.getD (α:=List t.den) l i []) U m u→i<List.length (α:=List t.den) l→zB5 G'.χ w (.sl t) (List.getD (α:=List t.den) l i []) [u]) →
    yX9 G' w (.sl t) l T' true (a.tmps.getD s undef):=by
   intro G' hx hcr;refine⟨⟨by simp[Ty.plain,hvt.1,hvt.2],rfl⟩,?_⟩;rcases hcase with h|⟨cap,cur,e,h1,h2,h3,h4,h5,h6,h7⟩
   ·exact .inl h
   ·have hb:=hx.block (G.γ T') (zE6 h2) (fun o=>by rw[h6 o];exact fun e=>hne (zA5 e));have hg:=hx.tag T' (fun h=>h);refine .inr ⟨cap,cur,e,cur.toList.take (List.length (α:=List t.den) l),by rw[hg];exact h1,by rw[hg];exact h2,h3,h4,by rw[h5];simp[Ty.size],?_,by simp[Ty.size],fun o=>by rw[hg,hb.2 o,h6 o];simp⟩;refine xY9 (α:=List t.den) (R:=zB5 G'.χ w (.sl t)) (l:=l) (us:=List.take (List.length (α:=List t.den) l) cur.toList) (by simp[h5];omega) fun j x hj=>?_;obtain⟨u,hu,hr⟩:=h7 j x hj;have hjl:j<List.length (α:=List t.den) l:=by
     rw[List.getElem?_eq_some_iff] at hj;exact hj.1
    refine⟨u,by rw[List.getElem?_take,if_pos hjl];exact hu,?_⟩;by_cases e:j=i
    ·rw[if_pos e] at hr;subst e;have hx2:List.getD (α:=List t.den) l j []=x:=by rw[List.getD_eq_getElem?_getD,hj];rfl
     rw[← hx2] at hr ⊢;exact hcr u hr hjl
    ·rw[if_neg e] at hr;exact zA2 hx.prot hr
  by_cases hin:i<List.length (α:=List t.den) l∧∃ u,yX9 G w t (List.getD (α:=List t.den) l i []) U m u
  ·obtain⟨hi,u,hu⟩:=hin;obtain⟨G',h1,h2,h3,h4⟩:=yA5 hvt.2 hR.frame (.inl hu);exact main G' h1 h2 (by simp only[zG3,zA];exact .inl (hfin G' h1 fun u' hu' _=>zD3 (h4 u' (.inl hu'))))
  ·exact main G ⟨fun _ _ _ h=>⟨h,rfl⟩,fun _ _ _=>⟨rfl,fun _=>rfl⟩,Nat.le_refl _,fun _ _=>rfl,fun _ _=>rfl,fun _ h=>h.elim⟩ hR.frame (by
    simp only[zG3,zA];exact .inl (hfin G ⟨fun _ _ _ h=>⟨h,rfl⟩,fun _ _ _=>⟨rfl,fun _=>rfl⟩,Nat.le_refl _,fun _ _=>rfl,fun _ _=>rfl,fun _ h=>h.elim⟩ fun u hu hi=>absurd ⟨hi,u,hu⟩ hin))
 |_=>simp[xG8] at hT
theorem yR5 {T:Nat}{k:AVal→AVal}:∀ {R:St}{s:Nat},St.has s (yH8 T k S R)=true→(yH8 T k S R).get s=k (S.get s)∧(S.get s).hasRef T=true∨(∃ e∈yH8 T k S R,e.1=zA7):=by
 intro R
 induction R<;>grind [yH8,St.has,St.get,Nat.beq,List.mem_cons_self,Nat.eq_of_beq_eq_true]
theorem xL1 (hR:Rel n χ0 w0 S a w G)(hn:n≤vNo){s:Nat}{u:St}(h:yY1 S s=some u)(hlt:∀ e∈u,e.1<zA7):∃ G',Rel n χ0 w0 (u++S) a w G':=by
 unfold yY1 at h;split at h
 ·rename_i τ b hA;split at h
  ·rename_i x hx;injection h with h
   subst h;have hs:=hR.reps s;rw[hA] at hs;simp only[zA] at hs;obtain⟨hv,hvt,cur,e,g1,g2,g3⟩:=hs;have hc:=zM3 hx g2;have hE:Ext (fun x=>x=zE1 s) (fun _=>False) G w (G.still (G.β s) cur.size) w:=yV4 fun o _=>.inr (g3 o);have hF:Frame0 χ0 w0 (G.still (G.β s) cur.size).χ w:=yK hR.frame fun o _=>.inr (by rw[g3];have:=zO5 s;omega);have hptr:∀ tm os,zA (G.still (G.β s) cur.size) w tm os (.val (.ptr τ) x) (.pointer (some ⟨G.β s,0,none⟩)):=by
    intro tm os;simp only[zA];refine (zC rfl).2 ?_;simp only[zB5];refine⟨G.β s,0,cur.toList,rfl,zA2 yC2 hc,fun j v hj=>?_⟩;have hlt:j<cur.size:=by
     have:=(List.getElem?_eq_some_iff.1 hj).1;simpa using this
    refine⟨?_,?_⟩
    ·simp only[World.cell?,g1];simpa using hj
    ·simp only[Gh.still,Nat.zero_add,true_and];rw[if_pos hlt]
   refine⟨G.still (G.β s) cur.size,?_⟩;have:=zD8 (u:=(s,bif Nat.blt s vNo then .val (.ptr τ) x else .junk)::yH8 s (yP4 s τ x) S S) (dst:=none) (v:=undef) hR hn hlt (fun d e=>by cases e) (fun d e=>by cases e) hE (fun e=>zD6 _ e) hF (fun s' hs'=>?_) (fun s d e=>by cases e) (fun s' hs'=>?_)
   ·exact this
   ·refine yC4 fun e=>?_;injection e with e
    subst e;simp[St.has] at hs'
   ·rw[zJ1];by_cases e:s=s'
    ·subst e;have:St.get ((s,bif Nat.blt s vNo then .val (.ptr τ) x else .junk)::yH8 s (yP4 s τ x) S S) s=bif Nat.blt s vNo then .val (.ptr τ) x else .junk:=by simp[St.get]
     rw[this];cases hb:Nat.blt s vNo with
     |true=>rw[cond_true,hv (Nat.le_of_ble_eq_true hb)];exact hptr _ _
     |false=>simp only[cond_false,zA]
    ·have h1:Nat.beq s s'=false:=by cases hb:Nat.beq s s' with
      |false=>rfl
      |true=>exact absurd (Nat.eq_of_beq_eq_true hb) e
     have h2:Nat.beq s zA7=false:=by cases hb:Nat.beq s zA7 with
      |false=>rfl
      |true=>have:=hlt _ (List.mem_cons_self ..);have:=Nat.eq_of_beq_eq_true hb;omega
     have hs'':St.has s' (yH8 s (yP4 s τ x) S S)=true:=by simpa[St.has,h1] using hs'
     have hget:St.get ((s,bif Nat.blt s vNo then .val (.ptr τ) x else .junk)::yH8 s (yP4 s τ x) S S) s'=yP4 s τ x (S.get s'):=by
      simp only[St.get,h1,h2,cond_false];rcases yR5 hs'' with h3|⟨e,he,h3⟩
      ·exact h3.1
      ·have:=hlt e (by simp[he]);omega
     rw[hget];have hr:=hR.reps s';generalize S.get s'=B at hr;cases B with
     |ref s2 τ2 p =>
      cases p with
      |nil =>
       simp only[yP4];generalize hb:(Nat.beq s s2&&Ty.beq τ2 τ)=bb;cases bb with
       |false=>simp only[cond_false,zA]
       |true =>
        simp only[Bool.and_eq_true] at hb;have e1:=Nat.eq_of_beq_eq_true hb.1;subst e1;simp only[zA] at hr;rw[hr.2];simpa[Ty.poff] using hptr a.tmps (some s')
      |cons _ _=>simp only[yP4,zA]
     |_=>simp only[yP4,zA]
  ·cases h
 ·cases h
theorem xL2 (hR:Rel n χ0 w0 S a w G)(hn:n≤vNo){g:Nat×Nat×Nat×Nat}{u:St}(h:xO0 S g=some u)(hlt:∀ e∈u,e.1<zA7):∃ G',Rel n χ0 w0 (u++S) a w G':=by
 obtain⟨kind,s,k,U⟩:=g;simp only[xO0] at h;cases h3:Nat.beq kind 3 with
 |true=>simp[h3] at h;exact xL1 hR hn h hlt
 |false =>
  simp[h3,cond_false] at h;cases h4:Nat.beq kind 4 with
  |true =>
   simp[h4] at h;cases hb:Nat.beq k U with
   |true=>grind
   |false =>
    simp[hb] at h;cases hu:yM1 U S with
    |false=>grind
    |true=>simp[hu] at h;subst h;exact⟨_,yX hR hn hu hlt⟩
  |false =>
  simp[h4] at h;cases h5:Nat.beq kind 5 with
  |true=>simp[h5] at h;subst h;exact⟨G,xF4 hR hn hlt⟩
  |false =>
  simp[h5] at h;split at h
  ·grind
  ·rename_i T hT;split at h
   ·cases hb:Nat.beq T U with
    |true=>grind
    |false =>
     simp[hb] at h;cases hu:yM1 U S with
     |false=>grind
     |true=>simp[hu] at h;subst h;exact⟨_,yX hR hn hu hlt⟩
   ·injection h with h;subst h;exact xT6 hR hn hT hlt
   ·injection h with h;subst h;exact⟨G,xF4 hR hn hlt⟩
abbrev RX (s U:Nat):Nat→Prop:=fun x=>(∃ y,(x,y)∈zS2 [(s,0)] [])∨(∃ U',U'∈([]:List (Nat×Nat)).map (·.2)∧x=zB0 U')∨∃ V,V∈[(0,U)].map (·.2)∧x=zE1 V
abbrev RY (U:Nat):Nat→Prop:=fun x=>(∃ U',U'∈([]:List (Nat×Nat)).map (·.2)∧x=zB0 U')∨∃ V,V∈[(0,U)].map (·.2)∧x=zE1 V
theorem yK9 {s U:Nat}{A:AVal}{os:Option Nat}(h:A.hasRef U=false)(hs:∀ k,os=some k→k≠s∧k≠U):¬ A.names (RX s U) (RY U) os:=
 zX6 (HB:=[(s,0)]) (HT:=[]) (KT:=[]) (KB:=[(0,U)]) (fun T hT=>by simp at hT) (fun V hV=>by simp at hV;subst hV;exact h) (fun k e=>by simpa using hs k e)
theorem RX_box {s U k:Nat}:RX s U (zE1 k)↔k=s∨k=U:=by
 constructor
 ·rintro (⟨y,hy⟩ | ⟨_,h,_⟩ | ⟨V,hV,e⟩)
  ·obtain⟨i,_,hm⟩:=cols_box.1 hy;simp at hm;exact .inl hm.1
  ·simp at h
  ·simp at hV;subst hV;exact .inr (zD5 e)
 ·rintro (rfl|rfl)
  ·exact .inl ⟨zE1 0,cols_box.2 ⟨0,rfl,by simp⟩⟩
  ·exact .inr (.inr ⟨k,by simp,rfl⟩)
theorem xC3 {s U:Nat}:¬ RX s U 0:=by
 rintro (⟨y,hy⟩ | ⟨_,h,_⟩ | ⟨V,_,e⟩)
 ·have:=yC3 hy;omega
 ·simp at h
 ·exact zD6 _ e
def Gh.ren (G:Gh)(s U:Nat):Gh:={ χ:=fun b o=>if b=G.β s then zE1 U else G.χ b o,β:=fun k=>if k=U then G.β s else G.β k,γ:=G.γ }
theorem xC4 {s U:Nat}(hc:∀ o,G.χ (G.β s) o=zE1 s):Ext (RX s U) (RY U) G w (G.ren s U) w:=by
 refine⟨fun b o _ h0=>⟨?_,rfl⟩,fun b _ hX=>⟨rfl,fun o=>?_⟩,Nat.le_refl _,fun k hk=>?_,fun _ _=>rfl,fun _ h=>.inr h⟩
 ·simp only[Gh.ren];rw[if_neg]
  ·exact h0
  ·rintro rfl;rw[hc o] at h0;exact zD6 _ h0.symm
 ·simp only[Gh.ren];rw[if_neg];rintro rfl;exact hX 0 (by rw[hc 0];exact RX_box.2 (.inl rfl))
 ·simp only[Gh.ren];rw[if_neg];rintro rfl;exact hk (.inr ⟨k,by simp,rfl⟩)
theorem yX0 {s U:Nat}(hc:∀ o,G.χ (G.β s) o=zE1 s)(hf:Frame0 χ0 w0 G.χ w):Frame0 χ0 w0 (G.ren s U).χ w:=by
 refine⟨hf.os,hf.tape,hf.output,hf.size,hf.block,fun b o hb h0=>⟨?_,(hf.cell b o hb h0).2⟩⟩;have h1:=(hf.cell b o hb h0).1;simp only[Gh.ren];rw[if_neg]
 ·exact h1
 ·rintro rfl;rw[hc o] at h1;have:=zO5 s;omega
theorem xL3 {s U:Nat}{G':Gh}(hx:Ext (RX s U) (RY U) G w G' w)(hb1:G'.β U=G.β s)(hb2:∀ k,k≠U→G'.β k=G.β k):∀ {A:AVal}{os:Option Nat}{v:Value},A.hasRef U=false→(∀ k,os=some k→k≠s∧k≠U)→zA G w tm os A v→zA (G') w tm os (A.renRef s U) v:=by
 have key:∀ (A:AVal) (os:Option Nat) (v:Value),A.hasRef U=false→(∀ k,os=some k→k≠s∧k≠U)→zA G w tm os A v→zA (G') w tm os (bif A.hasRef s then .junk else A) v:=fun A os v h hs ha=>by
  cases A.hasRef s with
  |true=>simp only[cond_true,zA]
  |false=>exact zU1 hx xC3 tm (yK9 h hs) ha
 have hβ:∀ s',Nat.beq U s'=false→(G').β (bif Nat.beq s s' then U else s')=G.β s':=fun s' h=>by
  cases hb:Nat.beq s s' with
  |true=>have:=Nat.eq_of_beq_eq_true hb;subst this;exact hb1
  |false =>
   simp only[cond_false];refine hb2 s' ?_;rintro rfl;simp at h
 intro A
 induction A with
 |ref s' τ p=>intro os v h _ ha;simp only[AVal.renRef,zA] at ha ⊢;rw[hβ s' h];exact ha
 |pn b s' τ=>intro os v h _ ha;simp only[AVal.renRef,zA] at ha ⊢;rw[hβ s' h];exact ha
 |cons x y ihx ihy =>
  intro os v h _ ha;simp only[AVal.hasRef,Bool.or_eq_false_iff] at h;simp only[AVal.renRef,zA] at ha ⊢;obtain⟨u,us,h1,h2,h3⟩:=ha;exact⟨u,us,h1,ihx h.1 (fun k e=>by cases e) h2,ihy h.2 (fun k e=>by cases e) h3⟩
 |tup b ih=>intro os v h _ ha;simp only[AVal.renRef,zA] at ha ⊢;exact ih h (fun k e=>by cases e) ha
 |_=>intro os v h hs ha;exact key _ os v h hs ha
theorem yD {U:Nat}(h:xE2 U S=true)(k:Nat):(S.get k).hasRef U=false:=by
 cases hr:(S.get k).hasRef U with
 |false=>rfl
 |true =>
  exfalso;have hne:S.get k≠.junk:=fun e=>by rw[e] at hr;simp[AVal.hasRef] at hr
  obtain⟨e,he,hes⟩:=List.any_eq_true.1 (zO6 hne);have hes:=Nat.eq_of_beq_eq_true hes;have h2:=List.all_eq_true.1 h e he;rw[hes,hr] at h2;cases h2
theorem xC5 (hR:Rel n χ0 w0 S a w G)(hn:n≤vNo){s U:Nat}{B C:AVal}{G':Gh}(hnr:xE2 U S=true)(hx:Ext (RX s U) (RY U) G w G' w)(hfr:Frame0 χ0 w0 G'.χ w)(hb1:G'.β U=G.β s)(hb2:∀ k,k≠U→G'.β k=G.β k)
  (hB:zA G' w a.tmps (some U) B (a.tmps.getD U undef)) (hC:zA G' w a.tmps (some s) C (a.tmps.getD s undef))
  (hlt:∀ e∈(U,B)::(s,C)::yH8 s (AVal.renRef s U) S S,e.1<zA7):∃ G',Rel n χ0 w0 (((U,B)::(s,C)::yH8 s (AVal.renRef s U) S S)++S) a w G':=by
 refine⟨G',?_⟩;have hkey:∀ k,St.has k ((U,B)::(s,C)::yH8 s (AVal.renRef s U) S S)=false→k≠s∧k≠U:=fun k hk=>by
  simp only[St.has,List.any_cons,Bool.or_eq_false_iff] at hk;refine⟨?_,?_⟩
  ·rintro rfl;simp at hk
  ·rintro rfl;simp at hk
 have:=zD8 (u:=(U,B)::(s,C)::yH8 s (AVal.renRef s U) S S) (dst:=none) (v:=undef) hR hn hlt (fun d e=>by cases e) (fun d e=>by cases e) hx xC3 hfr (fun k hk=>?_) (fun s d e=>by cases e) (fun k hk=>?_)
 ·exact this
 ·obtain⟨k1,k2⟩:=hkey k hk;exact yK9 (yD hnr k) (fun k' e=>by injection e with e;subst e;exact⟨k1,k2⟩)
 ·rw[zJ1];have hcut:∀ k',k'=U∨k'=s→Nat.beq k' zA7=false:=fun k' h=>by
   cases hb:Nat.beq k' zA7 with
   |false=>rfl
   |true =>
    have h1:=Nat.eq_of_beq_eq_true hb;rcases h with rfl|rfl
    ·have:=hlt _ (List.mem_cons_self ..);omega
    ·have:=hlt (k',C) (by simp);simp only at this;omega
  by_cases e1:k=U
  ·subst e1;have:St.get ((k,B)::(s,C)::yH8 s (AVal.renRef s k) S S) k=B:=by simp[St.get]
   rw[this];exact hB
  ·have hb1':Nat.beq U k=false:=by
    cases hb:Nat.beq U k with
    |false=>rfl
    |true=>exact absurd (Nat.eq_of_beq_eq_true hb).symm e1
   by_cases e2:k=s
   ·subst e2;have:St.get ((U,B)::(k,C)::yH8 k (AVal.renRef k U) S S) k=C:=by simp[St.get,hb1',hcut U (.inl rfl)]
    rw[this];exact hC
   ·have hb2':Nat.beq s k=false:=by
     cases hb:Nat.beq s k with
     |false=>rfl
     |true=>exact absurd (Nat.eq_of_beq_eq_true hb).symm e2
    have hk':St.has k (yH8 s (AVal.renRef s U) S S)=true:=by simpa[St.has,hb1',hb2'] using hk
    have hget:St.get ((U,B)::(s,C)::yH8 s (AVal.renRef s U) S S) k=AVal.renRef s U (S.get k):=by
     simp only[St.get,hb1',hb2',hcut U (.inl rfl),hcut s (.inr rfl),cond_false];rcases yR5 hk' with h3|⟨e,he,h3⟩
     ·exact h3.1
     ·have:=hlt e (by simp[he]);omega
    rw[hget];exact xL3 hx hb1 hb2 (yD hnr k) (fun k' e=>by injection e with e;subst e;exact⟨e2,e1⟩) (hR.reps k)
theorem ren_b {s U:Nat}:(G.ren s U).β U=G.β s∧∀ k,k≠U→(G.ren s U).β k=G.β k:=⟨by simp[Gh.ren],fun k h=>by simp[Gh.ren,h]⟩
theorem xT7 {s U:Nat}{τ:Ty}{c:AVal}(h:zQ1 G w s τ c)(hr:c.hasRef U=false):zQ1 (G.ren s U) w U τ c:=by
 obtain⟨hvt,cur,e,g1,g2,g3⟩:=h;exact⟨hvt,cur,e,by rw[ren_b.1];exact g1,zZ8 (xC4 g3) xC3 (yK9 hr (fun k' e=>by cases e)) g2,fun o=>by rw[ren_b.1];simp[Gh.ren]⟩
theorem wA5 (hR:Rel n χ0 w0 S a w G)(hn:n≤vNo){s U:Nat}{u:St}(h:wJ7 S s U=some u)(hlt:∀ e∈u,e.1<zA7):∃ G',Rel n χ0 w0 (u++S) a w G':=by
 unfold wJ7 at h;generalize hb:(Nat.ble vNo U&&Nat.blt U zA7&&!(Nat.beq s U)&&xE2 U S)=b at h;cases b with
 |false=>cases h
 |true =>
  simp only[Bool.and_eq_true,Bool.not_eq_true'] at hb;obtain⟨⟨⟨h1,_⟩,h3⟩,h4⟩:=hb;have hU:=Nat.le_of_ble_eq_true h1;have hne:s≠U:=by rintro rfl;simp at h3
  have hs:=hR.reps s;have hrf:=yD h4 s;simp only[cond_true] at h;split at h
  ·rename_i τ c hA;injection h with h
   subst h;rw[hA] at hs hrf;simp only[zA] at hs;obtain⟨hp,hbx⟩:=hs;have hcol:=hbx.2.choose_spec.choose_spec.2.2;refine xC5 (G':=G.ren s U) hR hn h4 (xC4 hcol) (yX0 hcol hR.frame) ren_b.1 ren_b.2 (by simp only[zA];exact⟨fun h=>absurd h (Nat.not_lt.2 hU),xT7 hbx hrf⟩) ?_ hlt;cases hb:Nat.blt s vNo with
   |false=>simp only[cond_false,zA]
   |true =>
    simp only[cond_true,zA];exact⟨trivial,by rw[ren_b.1,hp (Nat.le_of_ble_eq_true hb)];rfl⟩
  ·rename_i m τ c hA;cases hv:Nat.ble vNo s with
   |false=>simp[hv] at h
   |true =>
   simp only[hv,cond_true,Option.some.injEq] at h;subst h;rw[hA] at hs hrf;simp only[zA] at hs;cases m with
   |true =>
    have hbx:=hs rfl;have hcol:=hbx.2.choose_spec.choose_spec.2.2;exact xC5 (G':=G.ren s U) hR hn h4 (xC4 hcol) (yX0 hcol hR.frame) ren_b.1 ren_b.2 (by simp only[zA];exact fun _=>xT7 hbx hrf) (by simp only[zA]) hlt
   |false =>
    refine xC5 (G':={ χ:=G.χ,β:=fun k=>if k=U then G.β s else G.β k,γ:=G.γ }) hR hn h4 ⟨fun b o _ h0=>⟨h0,rfl⟩,fun b _ _=>⟨rfl,fun _=>rfl⟩,Nat.le_refl _,fun k hk=>?_,fun _ _=>rfl,fun _ h=>.inr h⟩ ⟨hR.frame.os,hR.frame.tape,hR.frame.output,hR.frame.size,hR.frame.block,hR.frame.cell⟩ (by simp) (fun k h=>by simp[h]) (by simp only[zA];exact fun h=>by cases h) (by simp only[zA]) hlt;simp only;rw[if_neg];rintro rfl;exact hk (.inr ⟨k,by simp,rfl⟩)
  ·cases h
theorem xL4 (hR:Rel n χ0 w0 S a w G)(hn:n≤vNo){g:Nat×Nat×Nat×Nat}{p:List Prop}{u:St}(h:xO1 S g=some (p,u))(hp:∀ q∈p,q)(hlt:∀ e∈u,e.1<zA7):∃ G',Rel n χ0 w0 (u++S) a w G':=by
 have one:∀ {s:Nat}{B:AVal},(∀ e∈[(s,B)],e.1<zA7)→zA G w a.tmps (some s) B (a.tmps.getD s undef)→∃ G',Rel n χ0 w0 ([(s,B)]++S) a w G':=fun {s B} hlt hB=>by
  refine⟨G,?_⟩;have:=zD8 (u:=[(s,B)]) (dst:=none) (v:=undef) hR hn hlt (fun d e=>by cases e) (fun d e=>by cases e) (Ext.refl (fun _=>False) G w) id hR.frame (fun k _=>zR5 _ _) (fun s d e=>by cases e) (fun k hk=>?_)
  ·exact this
  ·have e:k=s:=by simp[St.has] at hk;exact hk.symm
   subst e;have:St.get [(k,B)] k=B:=by simp[St.get]
   rw[this,zJ1];exact hB
 unfold xO1 at h;split at h
 ·split at h
  ·rename_i u' hu;simp only[Option.some.injEq,Prod.mk.injEq] at h;obtain⟨_,rfl⟩:=h;exact wA5 hR hn hu hlt
  ·cases h
 ·rename_i s _ _;simp only[Option.some.injEq,Prod.mk.injEq] at h;obtain⟨_,rfl⟩:=h;refine⟨G,?_⟩;have:=zD8 (u:=yH8 s (fun _=>.junk) S S) (dst:=none) (v:=undef) hR hn hlt (fun d e=>by cases e) (fun d e=>by cases e) (Ext.refl (fun _=>False) G w) id hR.frame (fun k _=>zR5 _ _) (fun s d e=>by cases e) (fun k hk=>?_)
  ·exact this
  ·rcases yR5 hk with h3|⟨e,he,h3⟩
   ·rw[h3.1,zJ1];simp only[zA]
   ·have:=hlt e he;omega
 ·rename_i s _ _;split at h
  ·rename_i b τ c hA;cases hv:Nat.ble vNo s with
   |false=>simp[hv] at h
   |true =>
   simp only[hv,cond_true,Option.some.injEq,Prod.mk.injEq] at h;obtain⟨rfl,rfl⟩:=h;have hb:=hp _ (List.mem_singleton.2 rfl);have hs:=hR.reps s;rw[hA] at hs;simp only[zA] at hs;exact one hlt (by simp only[zA];exact⟨fun h=>absurd h (Nat.not_lt.2 (Nat.le_of_ble_eq_true hv)),hs hb⟩)
  ·cases h
 ·rename_i s _ _;split at h
  ·rename_i b k τ hA;simp only[Option.some.injEq,Prod.mk.injEq] at h;obtain⟨rfl,rfl⟩:=h;have hb:=hp _ (List.mem_singleton.2 rfl);have hs:=hR.reps s;rw[hA] at hs;simp only[zA] at hs;subst hb;exact one hlt (by simp only[zA];exact⟨trivial,by rw[hs];rfl⟩)
  ·cases h
 ·split at h
  ·rename_i u' hu;simp only[Option.some.injEq,Prod.mk.injEq] at h;obtain⟨_,rfl⟩:=h;exact xL2 hR hn hu hlt
  ·cases h
theorem yO1 (hn:n≤vNo):∀ {gs:List (Nat×Nat×Nat×Nat)}{S:St}{G:Gh}{p:List Prop}{u:St},Rel n χ0 w0 S a w G→yM6 gs S=some (p,u)→(∀ q∈p,q)→(∀ e∈u,e.1<zA7)→∃ G',Rel n χ0 w0 (u++S) a w G':=by
 intro gs
 induction gs with
 |nil=>intro S G p u hR h _ _;simp only[yM6,Option.some.injEq,Prod.mk.injEq] at h;obtain⟨rfl,rfl⟩:=h;exact⟨G,hR⟩
 |cons g r ih =>
  intro S G p u hR h hp hlt;simp only[yM6] at h;split at h
  ·cases h
  ·rename_i p1 u1 h1;split at h
   ·cases h
   ·rename_i p2 u2 h2;simp only[Option.some.injEq,Prod.mk.injEq] at h;obtain⟨rfl,rfl⟩:=h;obtain⟨G1,hR1⟩:=xL4 hR hn h1 (fun q hq=>hp q (List.mem_append_left _ hq)) fun e he=>hlt e (List.mem_append_right _ he);rw[List.append_assoc];exact ih hR1 h2 (fun q hq=>hp q (List.mem_append_right _ hq)) fun e he=>hlt e (List.mem_append_left _ he)
theorem wA6 {f:AVal→AVal}:∀ {u:St}{s:Nat},(∀ e∈u,e.1≠zA7)→St.get (u.map (fun e=>(e.1,f e.2))++S) s=if St.has s u=true then f (u.get s) else S.get s:=by
 intro u
 induction u with
 |nil=>grind [St.has]
 |cons e r ih =>
  intro s hc;obtain⟨k,A⟩:=e;have h2:Nat.beq k zA7=false:=by grind [Nat.beq,absurd,Nat.eq_of_beq_eq_true,List.mem_cons_self]
  simp only[List.map_cons,List.cons_append,St.get];cases hk:Nat.beq k s with
  |true=>grind [St.has]
  |false =>
   have:St.has s ((k,A)::r)=St.has s r:=by simp_all [St.has]
   grind
theorem wA7 {u:St}(hR:Rel n χ0 w0 (u++S) a w G)(hu:∀ e∈u,e.1≠zA7):Rel n χ0 w0 (u.map (fun e=>(e.1,bif e.2.hasOpt then .junk else e.2))++S) a w G:=by
 refine⟨hR.len,hR.defers,fun s=>?_,hR.frame,hR.glob⟩;have:=hR.reps s;rw[wA6 (f:=fun A=>bif A.hasOpt then .junk else A) hu]
 grind [yA4,zA,zJ9]
theorem yX1 {ops:Array Oper}{K:Act→Prop}(hK:∀ o∈ops.toList,∀ a v,K a→K (a.put o.dst v))(hc:CtxOk P c)(hm:P.follows .mixedOrders=true){gh:List (Nat×Nat×Nat×Nat)}{id:Nat}{draw:Bool}{p:List Prop}{u:St}(h:yY2 c gh ops.toList draw S=some (p,u))(hp:∀ q∈p,q)
  (hR:Rel c.n χ0 w0 S a w G) (hk:K a){Q:Exit→Act→World→Prop}(hQ:∀ a' w' G',Rel c.n χ0 w0 (u++S) a' w' G'→K a'→Q .normal a' w'):(Code.region id ops draw).wpIn (fz rd) 0 P Q a w:=by
 unfold yY2 at h;rw[St.force_eq] at h;cases hS:S.any (fun e=>e.2.hasOpt) with
 |true=>simp[hS] at h
 |false =>
  simp only[hS,cond_false] at h;have hS':∀ e∈S,e.2.hasOpt=false:=by simpa using hS
  split at h
  ·cases h
  ·rename_i p0 u0 ts hrun;obtain⟨hl,rfl,hF⟩:=xK8 hrun;simp only[List.append_nil,Array.length_toList] at hl h;have hn:yW6 ts:=by
    intro j e he;obtain⟨t,ht,_⟩:=yR3 he;have hj:j<ops.toList.length:=by rw[Array.length_toList,← hl];exact (List.getElem?_eq_some_iff.1 ht).1
    obtain⟨pi,hv,_,_,_,_,q5⟩:=hF j ops.toList[j] (List.getElem?_eq_getElem hj);have:=q5.1 e he;omega
   have htex:∀ k,∀ e∈tex ts k,e.1≠zA7:=by
    intro k
    induction k with
    |zero=>intro e he;cases he
    |succ k ih =>
     intro e he;rcases List.mem_append.1 he with he|he
     ·exact hn k e he
     ·exact ih e he
   generalize hgo:(!draw||(zI7 0 ops.toList&&(zQ0 0 [] (ahead ops.toList []) ts||zQ0 (zS0 c ops.toList S 0 ops.toList ts []) [] (ahead ops.toList []) ts)))=go at h;cases go with
   |false=>cases h
   |true =>
    simp only[cond_true] at h;split at h
    ·rename_i p1 u' hu';generalize hlt:u'.all (fun e=>Nat.blt e.1 zA7)=lt at h;cases lt with
     |false=>cases h
     |true =>
      simp only[cond_true,St.force_eq,Option.some.injEq,Prod.mk.injEq] at h;obtain⟨rfl,rfl⟩:=h;have hp0:∀ q∈p0,q:=fun q hq=>hp q (List.mem_append_left _ hq);have fin:∀ a' w' G',Rel c.n χ0 w0 (tex ts ops.size++S) a' w' G'→K a'→Q .normal a' w':=by
       intro a' w' G' hR' hk';obtain⟨G'',hR''⟩:=yO1 hc.n (wA7 hR' (htex _)) hu' (fun q hq=>hp q (List.mem_append_right _ hq)) fun e he=>Nat.blt_eq.mp (List.all_eq_true.1 hlt e he);exact hQ a' w' G'' (by rw[List.append_assoc];exact hR'') hk'
      cases draw with
      |false =>
       refine wpIn_region ?_;have:=xZ6 (rd:=rd) hK hc hF hS' hp0 fin ops.size 0 (by omega) a w G (by simpa[tex] using hR) hk
       rwa [List.range_eq_range']
      |true =>
       simp only[Bool.not_true,Bool.false_or,Bool.and_eq_true,Bool.or_eq_true] at hgo;have hx:Ext (fun _=>False) (fun _=>False) G w G { w with drawn:=w.drawn+1 }:=⟨fun _ _ _ h=>⟨h,rfl⟩,fun _ _ _=>⟨rfl,fun _=>rfl⟩,Nat.le_refl _,fun _ _=>rfl,fun _ _=>rfl,fun _ h=>h⟩
       have hR1:Rel c.n χ0 w0 S a { w with drawn:=w.drawn+1 } G:=⟨hR.len,hR.defers,fun s=>zU1 hx (fun h=>h) _ (zR5 _ _) (hR.reps s),⟨hR.frame.os,hR.frame.tape,hR.frame.output,hR.frame.size,hR.frame.block,hR.frame.cell⟩,zH7 hx.prot hR.glob⟩
       obtain⟨hE,ho|ho⟩:=hgo
       ·refine wpIn_region_any hm ?_;refine xF8 hK hc hF hS' hp0 (wD0 ho) hn hE fin ops.size _ [] a _ G (by simp) (fun j=>?_) (fun j hj=>absurd hj (Nat.not_lt_zero _)) (xS9 hn) ?_ (by simpa[exe] using hR1) hk
        ·simp[Array.getElem?_replicate];split<;>simp
        ·exact Nat.le_trans (List.length_filter_le _ _) (by simp)
       ·obtain⟨_,hks,hkk⟩:=xC0 (c:=c) (S:=S) (all:=ops.toList) (r:=ops.toList) (ts:=ts) (i:=0) (U:=[]);generalize zS0 c ops.toList S 0 ops.toList ts []=k at ho hks hkk;have hks:k≤ops.size:=by simpa using hks
        refine wpIn_mono (Q:=fun e a w=>e=.normal∧Q .normal a w) (wpIn_region_any hm ?_) (fun e a w h=>by obtain⟨rfl,h⟩:=h;exact h);have:=xT4 (rd:=rd) (Q:=fun e a w=>e=.normal∧Q .normal a w) (k:=k) (fk:=ops.size-k) hK hc hF hS' hp0 hE (fun e a w hne h=>hne h.1) hks (fun j hj=>?_) (fun a w G hR hk=>?_) k 0 (by omega) a _ G (by simpa[tex] using hR1) hk
        ·rw[show ops.size-k+k=ops.size by omega] at this;exact this
        ·obtain⟨o,q1,q2,q3⟩:=hkk j (Nat.zero_le _) hj;exact⟨o,by simpa using q1,by simpa using q2,by simpa using q3⟩
        ·exact xF8 hK hc hF hS' hp0 (wD0 ho) hn hE (fun a' w' G' hR' hk'=>⟨rfl,fin a' w' G' hR' hk'⟩) (ops.size-k) (yB0 ops.size k) (yK8 k) a w G zV6 (fun j=>(yG4 hks).trans downs_mem.symm) (fun j hj=>downs_mem.2 hj) (xT3 hn hE hks) wA4 (by rw[xT2];exact hR) hk
    ·cases h
end Go.Am
namespace Go.Am
open Go Go.RowKit
variable {gtab:GlobTab}{P:Program}{c:Ctx}{G:Gh}{w:World}{tm:Array Value}{n:Nat}{χ0:Nat→Nat→Nat}{w0:World}{S:St}{a:Act}
theorem AllP_iff:∀ {l:List Prop},xG9 l↔∀ q∈l,q:=by
 intro l
 induction l with
 |nil=>exact⟨fun _ q hq=>(by grind),fun _=>trivial⟩
 |cons p r ih =>
  cases r with
  |nil =>
   refine⟨fun h q hq=>?_,fun h=>h p (List.mem_cons_self ..)⟩;rcases List.mem_cons.1 hq with rfl|hq
   ·exact h
   grind
  |cons q r =>
   constructor
   ·intro h q' hq;rcases List.mem_cons.1 hq with rfl|hq
    ·exact h.1
    ·exact ih.1 h.2 q' hq
   ·intro h;exact⟨h p (List.mem_cons_self ..),ih.2 fun q' hq=>h q' (List.mem_cons_of_mem _ hq)⟩
theorem xC6 {b:Prop}{l:List Prop}(h:∀ q∈wH1 b l,q)(hb:b):∀ q∈l,q:=by
 cases l with
 |nil=>grind
 |cons p r =>
  have:=h (b→xG9 (p::r)) (by simp[wH1])
  grind [AllP_iff]
def zB:Exit→Option Nat
 |.normal=>some 0
 |.ret=>some 1
 |.exit id=>some (id+2)
 |_=>none
def tk (g:Option Bool):Bool:=g.getD true
def yR6 [GlobTab] (n:Nat)(χ0:Nat→Nat→Nat)(w0:World)(S:St)(l:List Comp)(e:Exit)(a:Act)(w:World):Prop:=
 ∃ k cp G,zB e=some k∧zA6 k l=some cp∧tk cp.g=true∧(∀ k' c',zA6 k' l=some c'→tk c'.g=true→k'=k)∧Rel n χ0 w0 (cp.d++S) a w G
theorem yE3 {k:Nat}:∀ {l l':List Comp},zA6 k (l++l')=match zA6 k l with|some x=>some x|none=>zA6 k l':=by
 intro l
 induction l with
 |nil=>intro l';rfl
 |cons x r ih =>
  intro l';simp[zA6];cases Nat.beq x.kind k with
  |true=>rfl
  |false=>exact ih
theorem zP6 {k:Nat}{x:Comp}:∀ {l:List Comp},zA6 k l=some x→x.kind=k:=by
 intro l
 induction l with
 |nil=>intro h;cases h
 |cons y r ih =>
  intro h;simp only[zA6] at h;cases hb:Nat.beq y.kind k<;>simp_all
theorem zT6 {k:Nat}{q:Nat→Bool}:∀ {l:List Comp},zA6 k (l.filter fun x=>q x.kind)=bif q k then zA6 k l else none:=by
 intro l
 induction l with
 |nil=>cases q k<;>rfl
 |cons x r ih =>
  simp only[List.filter_cons];cases hx:q x.kind with
  |true =>
   simp[zA6];cases hb:Nat.beq x.kind k<;>simp_all
  |false =>
   simp[zA6];cases hb:Nat.beq x.kind k<;>simp_all
theorem zK {k k0:Nat}{l:List Comp}:zA6 k (zJ5 k0 l)=bif Nat.beq k k0 then none else zA6 k l:=by
 unfold zJ5;rw[zT6 (q:=fun x=>!(Nat.beq x k0))]
 grind
theorem yB1 {k:Nat}{f:Comp→Comp}(hf:∀ x,(f x).kind=x.kind):∀ {l:List Comp},zA6 k (l.map f)=(zA6 k l).map f:=by
 intro l
 induction l with
 |nil=>rfl
 |cons x r ih =>
  simp[zA6,hf];cases Nat.beq x.kind k with
  |true=>rfl
  |false=>exact ih
def wA8 (t:Bool)(S:St):Option Comp→Option Comp→St
 |some a,some b=>zF t a.d b.d S
 |some a,none=>a.d
 |none,some b=>b.d
 |none,none=>[]
def xT8 (t:Bool)(S:St)(la lb:List Comp)(x:Comp):Comp:=⟨x.kind,zX t (zA6 x.kind la) (zA6 x.kind lb),wA8 t S (zA6 x.kind la) (zA6 x.kind lb)⟩
theorem xT9 {t:Bool}{la lb:List Comp}:∀ {l:List Comp},xO2 t S la lb l=l.map (xT8 t S la lb):=by
 intro l
 induction l with
 |nil=>rfl
 |cons x r ih =>
  simp[xO2,ih,xT8];cases zA6 x.kind la<;>cases zA6 x.kind lb<;>rfl
theorem yB2 {t:Bool}{la lb:List Comp}{k:Nat} :
  zA6 k (xO2 t S la lb (la++lb.filter fun x=>(zA6 x.kind la).isNone))=match zA6 k la,zA6 k lb with
   |none,none=>none
   |xa,xb=>some ⟨k,zX t xa xb,wA8 t S xa xb⟩:=by
 rw[xT9,yB1 (f:=xT8 t S la lb) (fun _=>rfl),yE3,zT6 (q:=fun x=>(zA6 x la).isNone)];cases ha:zA6 k la with
 |some x=>grind [xT8,zP6]
 |none =>
  cases hb:zA6 k lb<;>grind [xT8,zP6]
theorem zT7 {x y:Option Bool}:tk (yO8 x y)=(tk x&&tk y):=by cases x<;>cases y<;>simp[yO8,tk]
theorem yE4 {x y:Option Bool}:tk (gor x y)=(tk x||tk y):=by cases x<;>cases y<;>simp[gor,tk]
theorem wA9 {g:Option Bool}(h:tk g=false):g=some false:=by
 cases g<;>grind [tk]
theorem xL5 {e:Exit}{oa ob:Out}(h:yR6 n χ0 w0 S oa.comps e a w):yR6 n χ0 w0 S (yB9 true S oa ob).comps e a w:=by
 obtain⟨k,cp,G,h1,h2,h3,h4,h5⟩:=h;simp only[yB9];refine⟨k,⟨k,zX true (some cp) (zA6 k ob.comps),wA8 true S (some cp) (zA6 k ob.comps)⟩,G,h1,?_,?_,?_,?_⟩
 ·rw[yB2,h2]
 ·cases hb:zA6 k ob.comps with
  |none=>cases hg:cp.g<;>simp_all [zX,yO8,tk]
  |some b=>grind [zX,tk]
 ·intro k' c' hf ht;rw[yB2] at hf;cases ha:zA6 k' oa.comps with
  |none =>
   cases hb:zA6 k' ob.comps with
   |none=>grind
   |some b =>
    simp[ha,hb] at hf;subst hf;cases hg:b.g<;>simp[zX,yO8,tk,hg] at ht
  |some x =>
   cases hb:zA6 k' ob.comps with
   |none =>
    simp[ha] at hf;subst hf;cases hg:x.g<;>simp_all [zX,yO8,tk]
   |some b =>
    grind [Option.some.injEq,zX,tk]
 ·cases zA6 k ob.comps with
  |none=>exact h5
  |some b=>exact zR6 h5
theorem xL6 {e:Exit}{oa ob:Out}(h:yR6 n χ0 w0 S ob.comps e a w):yR6 n χ0 w0 S (yB9 false S oa ob).comps e a w:=by
 obtain⟨k,cp,G,h1,h2,h3,h4,h5⟩:=h;simp only[yB9];refine⟨k,⟨k,zX false (zA6 k oa.comps) (some cp),wA8 false S (zA6 k oa.comps) (some cp)⟩,G,h1,?_,?_,?_,?_⟩
 ·grind [yB2]
 ·cases hb:zA6 k oa.comps with
  |none=>cases hg:cp.g<;>simp_all [zX,yO8,tk]
  |some b=>grind [zX,tk]
 ·intro k' c' hf ht;rw[yB2] at hf;cases hb:zA6 k' ob.comps with
  |none =>
   cases ha:zA6 k' oa.comps with
   |none=>grind
   |some b =>
    simp[ha,hb] at hf;subst hf;cases hg:b.g<;>simp[zX,yO8,tk,hg] at ht
  |some x =>
   cases ha:zA6 k' oa.comps with
   |none =>
    simp[hb] at hf;subst hf;cases hg:x.g<;>simp_all [zX,yO8,tk]
   |some b =>
    grind [Option.some.injEq,zX,tk]
 ·cases zA6 k oa.comps with
  |none=>exact h5
  |some b=>exact zN1 h5
def wI7 (m:Comp)(S:St)(la:List Comp)(x:Comp):Comp:=
 ⟨x.kind,(match zA6 x.kind la with|some a=>gor a.g (yO8 m.g x.g)|none=>yO8 m.g x.g),(match zA6 x.kind la with|some a=>zF (tk a.g) a.d (x.d++m.d) S | none=>x.d++m.d)⟩
theorem wB {m:Comp}{la:List Comp}:∀ {l:List Comp},wF7 m S la l=l.map (wI7 m S la):=by
 intro l
 induction l with
 |nil=>rfl
 |cons x r ih =>
  simp[wF7,ih,wI7];cases zA6 x.kind la<;>rfl
theorem zR8 {m:Comp}{la lb:List Comp}{k:Nat} :
  zA6 k (wF7 m S la lb++la.filter fun x=>(zA6 x.kind lb).isNone)=match zA6 k la,zA6 k lb with
   |none,none=>none
   |some a,none=>some a
   |none,some x=>some ⟨k,yO8 m.g x.g,x.d++m.d⟩
   |some a,some x=>some ⟨k,gor a.g (yO8 m.g x.g),zF (tk a.g) a.d (x.d++m.d) S⟩:=by
 rw[yE3,wB,yB1 (f:=wI7 m S la) (fun _=>rfl),zT6 (q:=fun x=>(zA6 x lb).isNone)]
 grind [wI7,zP6]
theorem xU {e:Exit}{m:Comp}{oa ob:Out}(hm:zA6 0 oa.comps=some m)(h:yR6 n χ0 w0 S oa.comps e a w)(he:zB e≠some 0):yR6 n χ0 w0 S (yM7 m S oa ob).comps e a w:=by
 obtain⟨k,cp,G,h1,h2,h3,h4,h5⟩:=h;have hk0:Nat.beq k 0=false:=by cases k with|zero=>grind|succ k=>rfl
 have hmf:tk m.g=false:=by
  grind
 have h2':zA6 k (zJ5 0 oa.comps)=some cp:=by grind [zK]
 simp only[yM7];cases hb:zA6 k ob.comps with
 |none =>
  refine⟨k,cp,G,h1,by grind [zR8],h3,?_,h5⟩;intro k' c' hf ht;rw[zR8,zK] at hf;cases hk':Nat.beq k' 0 with
  |true =>
   grind [Option.some.injEq,zT7]
  |false =>
   grind [Option.some.injEq,zT7,yE4]
 |some x0 =>
  refine⟨k,{ kind:=k,g:=gor cp.g (yO8 m.g x0.g),d:=zF (tk cp.g) cp.d (x0.d++m.d) S },G,h1,by grind [zR8],?_,?_,?_⟩
  ·simp[yE4,h3]
  ·intro k' c' hf ht;rw[zR8,zK] at hf;cases hk':Nat.beq k' 0 with
   |true =>
    simp[hk'] at hf;cases hb':zA6 k' ob.comps with
    |none=>simp[hb'] at hf
    |some x=>simp[hb'] at hf;subst hf;simp[zT7,hmf] at ht
   |false =>
    simp[hk'] at hf;cases ha:zA6 k' oa.comps with
    |none =>
     cases hb':zA6 k' ob.comps with
     |none=>simp[ha,hb'] at hf
     |some x=>simp[ha,hb'] at hf;subst hf;simp[zT7,hmf] at ht
    |some y =>
     refine h4 k' y ha ?_;cases hb':zA6 k' ob.comps with
     |none=>simp[ha,hb'] at hf;subst hf;exact ht
     |some x=>simp[ha,hb'] at hf;subst hf;simpa[zT7,yE4,hmf] using ht
  grind [zR6]
theorem xU0 {e:Exit}{m:Comp}{oa ob:Out}(hmt:tk m.g=true)(hu:∀ k' c',zA6 k' oa.comps=some c'→tk c'.g=true→k'=0)
  (h:yR6 n χ0 w0 (m.d++S) ob.comps e a w):yR6 n χ0 w0 S (yM7 m S oa ob).comps e a w:=by
 obtain⟨k,cp,G,h1,h2,h3,h4,h5⟩:=h;rw[← List.append_assoc] at h5;have hoth:∀ k' y,zA6 k' (zJ5 0 oa.comps)=some y→y.g=some false:=by
  grind [zK,Nat.beq,wA9,tk]
 have huni:∀ k' c',zA6 k' (wF7 m S (zJ5 0 oa.comps) ob.comps++(zJ5 0 oa.comps).filter fun x=>(zA6 x.kind ob.comps).isNone)=some c'→tk c'.g=true→k'=k:=by
  grind [zR8,zA6,zJ5,zT7,tk,yE4]
 simp only[yM7];cases ha:zA6 k (zJ5 0 oa.comps) with
 |none =>
  refine⟨k,{ kind:=k,g:=yO8 m.g cp.g,d:=cp.d++m.d },G,h1,by grind [zR8],?_,huni,h5⟩
  grind [zT7]
 |some y =>
  have hyg:=hoth k y ha;refine⟨k,{ kind:=k,g:=gor y.g (yO8 m.g cp.g),d:=zF (tk y.g) y.d (cp.d++m.d) S },G,h1,by grind [zR8],?_,huni,?_⟩
  ·grind [yE4,zT7]
  ·simp[hyg];exact zN1 h5
theorem xL7 {e:Exit}{id:Nat}{oa:Out}(h:yR6 n χ0 w0 S oa.comps e a w):Exit.inBlock id (yR6 n χ0 w0 S (yF7 id S oa).comps) e a w:=by
 obtain⟨k,cp,G,h1,h2,h3,h4,h5⟩:=h;unfold yF7;cases hE:zA6 (id+2) oa.comps with
 |none =>
  have hP:yR6 n χ0 w0 S oa.comps e a w:=⟨k,cp,G,h1,h2,h3,h4,h5⟩;have hne:e≠.exit id:=by
   grind [zB,Option.some.injEq]
  cases e<;>simp_all [Exit.inBlock]
 |some ex =>
  have b20:Nat.beq (id+2) 0=false:=rfl;cases h0:zA6 0 oa.comps with
  |none =>
   have hfind:∀ k',zA6 k' ({ ex with kind:=0 }::zJ5 (id+2) oa.comps)=bif Nat.beq 0 k' then some { ex with kind:=0 } else bif Nat.beq k' (id+2) then none else zA6 k' oa.comps:=by
    grind [zA6,zK]
   by_cases hk:k=id+2
   ·subst hk;rw[hE] at h2;injection h2 with h2
    subst h2;have hP:yR6 n χ0 w0 S ({ ex with kind:=0 }::zJ5 (id+2) oa.comps) .normal a w:=by
     refine⟨0,{ ex with kind:=0 },G,rfl,by simp_all,h3,fun k' c' hf ht=>?_,h5⟩
     cases hb:Nat.beq 0 k' with
     |true=>grind [Nat.eq_of_beq_eq_true]
     |false =>
      cases hb2:Nat.beq k' (id+2)<;>simp_all
    cases e<;>simp_all [zB,Exit.inBlock]
   ·have hP:yR6 n χ0 w0 S ({ ex with kind:=0 }::zJ5 (id+2) oa.comps) e a w:=by
     refine⟨k,cp,G,h1,?_,h3,fun k' c' hf ht=>?_,h5⟩
     all_goals grind [Nat.beq,absurd,Nat.eq_of_beq_eq_true,id]
    cases e with
    |exit id'=>simp[zB] at h1;simp only[Exit.inBlock];grind
    |_=>exact hP
  |some m =>
   simp only;generalize hN:({ kind:=0,g:=gor ex.g m.g,d:=zF (ex.g.getD true) ex.d m.d S }:Comp)=N;have hfind:∀ k',zA6 k' (N::zJ5 0 (zJ5 (id+2) oa.comps))=bif Nat.beq 0 k' then some N else bif Nat.beq k' 0 then none else bif Nat.beq k' (id+2) then none else zA6 k' oa.comps:=by
    grind [zA6,zK]
   by_cases hk:k=id+2∨k=0
   ·have hP:yR6 n χ0 w0 S (N::zJ5 0 (zJ5 (id+2) oa.comps)) .normal a w:=by
     have huni:∀ k' c',zA6 k' (N::zJ5 0 (zJ5 (id+2) oa.comps))=some c'→tk c'.g=true→k'=0:=by
      intro k' c' hf ht;rw[hfind] at hf;cases hb:Nat.beq 0 k' with
      |true=>simp_all
      |false =>
       simp[hb] at hf;cases hb1:Nat.beq k' 0 with
       |true=>grind
       |false =>
        cases hb2:Nat.beq k' (id+2) with
        |true=>grind
        |false =>
         simp[hb1,hb2] at hf;have:=h4 k' c' hf ht;rcases hk with hk|hk
         ·rw[hk] at this;subst this;simp at hb2
         ·rw[hk] at this;exact this
     rcases hk with hk|hk
     ·subst hk;rw[hE] at h2;injection h2 with h2
      subst h2;refine⟨0,N,G,rfl,by simp[hfind],?_,huni,?_⟩
      ·grind [yE4]
      ·have:ex.g.getD true=true:=h3
       grind [zR6]
     ·have hxf:tk ex.g=false:=by
       grind
      refine⟨0,N,G,rfl,by simp[hfind],?_,huni,?_⟩
      ·grind [yE4]
      ·have:ex.g.getD true=false:=hxf
       grind [zN1]
    cases e with
    |exit id' =>
     simp[zB] at h1;simp only[Exit.inBlock]
     grind
    |normal=>exact hP
    |ret=>simp[zB] at h1;omega
    |_=>simp[zB] at h1
   ·have hk2:k≠id+2:=fun e=>hk (.inl e);have hk0:k≠0:=fun e=>hk (.inr e);have hxf:tk ex.g=false:=by
     grind
    have hmf:tk m.g=false:=by
     grind
    have hP:yR6 n χ0 w0 S (N::zJ5 0 (zJ5 (id+2) oa.comps)) e a w:=by
     refine⟨k,cp,G,h1,?_,h3,fun k' c' hf ht=>?_,h5⟩
     ·rw[hfind];have b1:Nat.beq 0 k=false:=by cases hb:Nat.beq 0 k with|false=>rfl|true=>exact absurd (Nat.eq_of_beq_eq_true hb).symm hk0
      have b3:Nat.beq k 0=false:=by cases hb:Nat.beq k 0 with|false=>rfl|true=>exact absurd (Nat.eq_of_beq_eq_true hb) hk0
      have b2:Nat.beq k (id+2)=false:=by cases hb:Nat.beq k (id+2) with|false=>rfl|true=>exact absurd (Nat.eq_of_beq_eq_true hb) hk2
      rw[b1,b2,b3];exact h2
     ·rw[hfind] at hf;cases hb:Nat.beq 0 k' with
      |true =>
       simp[hb] at hf;subst hf;rw[← hN] at ht;simp[yE4,hxf,hmf] at ht
      |false =>
       simp[hb] at hf;cases hb1:Nat.beq k' 0 with
       |true=>simp[hb1] at hf
       |false =>
        cases hb2:Nat.beq k' (id+2) with
        |true=>simp[hb2] at hf
        |false=>simp[hb1,hb2] at hf;exact h4 k' c' hf ht
    cases e with
    |exit id'=>simp[zB] at h1;simp only[Exit.inBlock];grind
    |_=>exact hP
end Go.Am
namespace Go.Am
open Go Go.RowKit
inductive Sh where
 |val (τ:Ty)|own (t:Ty) (T:Nat) (m:Bool)|nl|cons (a b:Sh)|agg (f:Ty) (s:Sh)|box (τ:Ty) (s:Sh)|ref (s:Nat) (τ:Ty)|tup (s:Sh)|fn (f:Nat) (s:Sh)|any|nil|nn (b:Bool)|fptr (f:Nat) (caps:List (Option (Nat×Ty)))|ownh (t:Ty) (T U:Nat) (m:Bool)|nilp|pn (s:Nat) (τ:Ty)|may (τ:Ty) (s:Sh)
@[reducible] def Sh.den:Sh→Type
 |.val τ=>τ.den|.own t _ _=>List t.den|.nl=>Unit|.cons a b=>a.den×b.den|.agg _ s=>s.den|.box _ s=>s.den|.ref _ _=>Unit|.tup s=>s.den|.fn _ s=>s.den|.any=>Unit|.nil=>Unit|.nn _=>Unit|.fptr _ _=>Unit|.ownh t _ _ _=>List (List t.den)×Nat|.nilp=>Unit|.pn _ _=>Bool|.may _ s=>Bool×s.den
def Sh.mk:(s:Sh)→s.den→AVal
 |.val τ,x=>.val τ x
 |.own t T m,l=>.own t l T m
 |.nl,_=>.nl
 |.cons a b,x=>.cons (a.mk x.1) (b.mk x.2)
 |.agg f s,x=>.agg f (s.mk x)
 |.box τ s,x=>.box τ (s.mk x)
 |.ref s τ,_=>.ref s τ []
 |.tup s,x=>.tup (s.mk x)
 |.fn f s,x=>.fn f (s.mk x)
 |.any,_=>.junk
 |.nil,_=>.nil
 |.nn b,_=>.nn b
 |.fptr f caps,_=>.fptr f caps
 |.ownh t T U m,x=>.ownh t x.1 T x.2 U m
 |.nilp,_=>.nilp
 |.pn s τ,b=>.pn b s τ
 |.may τ s,x=>.may x.1 τ (s.mk x.2)
def xC7 (t:Ty)(T:Nat)(m:Bool):AVal→Option (List t.den)
 |.nil=>bif t.plain&&!t.isL then some [] else none
 |.own t' l T' m'=>bif Nat.beq T T'&&(m==m') then Ty.cast (a:=.sl t') (.sl t) l else none
 |_=>none
def yO2 (t:Ty)(T U:Nat)(m:Bool):AVal→Option (List (List t.den)×Nat)
 |.ownh t' l T' i U' m'=>bif Nat.beq T T'&&Nat.beq U U'&&(m==m') then (match Ty.cast (a:=.sl (.sl t')) (.sl (.sl t)) l with|some l2=>some (l2,i)|none=>none) else none
 |.own t' l T' true=>bif Nat.beq T T'&&!(Nat.beq T U)&&t.plain&&!t.isL then (match Ty.cast (a:=.sl t') (.sl (.sl t)) l with|some l2=>some (l2,List.length (α:=List t.den) l2)|none=>none) else none
 |_=>none
def xG:AVal→Bool
 |.nil=>true|_=>false
def wB0 (b:Bool):AVal→Bool
 |.nn b'=>b==b' | _=>false
def yL8:List (Option (Nat×Ty))→List (Option (Nat×Ty))→Bool
 |[],[]=>true
 |none::r,none::r'=>yL8 r r'
 |some (k,τ)::r,some (k',τ')::r'=>Nat.beq k k'&&Ty.beq τ τ'&&yL8 r r'
 |_,_=>false
def xG0 (f:Nat)(caps:List (Option (Nat×Ty))):AVal→Bool
 |.fptr f' caps'=>Nat.beq f f'&&yL8 caps caps'
 |_=>false
def xU1:AVal→Bool
 |.nilp=>true|_=>false
def wF0 (s:Nat)(τ:Ty):AVal→Option Bool
 |.nilp=>some true
 |.ref s' τ' []=>bif Nat.beq s s'&&Ty.beq τ τ' then some false else none
 |.pn b s' τ'=>bif Nat.beq s s'&&Ty.beq τ τ' then some b else none
 |_=>none
def wB1 (τ:Ty):AVal→Option (Bool×AVal)
 |.box τ' c=>bif Ty.beq τ τ' then some (true,c) else none
 |.may b τ' c=>bif Ty.beq τ τ' then some (b,c) else none
 |_=>none
def wB2:AVal→Bool
 |.nl=>true|_=>false
def yO3 (s:Nat)(τ:Ty):AVal→Bool
 |.ref s' τ' []=>Nat.beq s s'&&Ty.beq τ τ'
 |_=>false
def wI8 (f:Nat):AVal→Option AVal
 |.fn f' c=>bif Nat.beq f f' then some c else none
 |_=>none
def xL8 (f:Ty):AVal→Option AVal
 |.agg f' c=>bif Ty.beq f f' then some c else none
 |_=>none
def xU2 (τ:Ty):AVal→Option AVal
 |.box τ' c=>bif Ty.beq τ τ' then some c else none
 |_=>none
def wB3:AVal→Option AVal
 |.tup c=>some c
 |_=>none
def yO4:AVal→Option (AVal×AVal)
 |.cons a b=>some (a,b)
 |_=>none
def Sh.parse:(s:Sh)→AVal→Option s.den
 |.val τ,A=>bif τ.isL then none else AVal.as τ A
 |.own t T m,A=>xC7 t T m A
 |.nl,A=>bif wB2 A then some () else none
 |.cons a b,A=>match yO4 A with
  |some (x,y)=>(match a.parse x,b.parse y with|some p,some q=>some (p,q)|_,_=>none)
  |none=>none
 |.agg f s,A=>match xL8 f A with
  |some c=>(match s.parse c with|some x=>bif (s.mk x).fitsT f then some x else none|none=>none)
  |none=>none
 |.box τ s,A=>match xU2 τ A with
  |some c=>(match s.parse c with|some x=>bif (s.mk x).fitsT τ then some x else none|none=>none)
  |none=>none
 |.ref s τ,A=>bif yO3 s τ A then some () else none
 |.tup s,A=>match wB3 A with
  |some c=>s.parse c
  |none=>none
 |.fn f s,A=>match wI8 f A with
  |some c=>s.parse c
  |none=>none
 |.any,_=>some ()
 |.nil,A=>bif xG A then some () else none
 |.nn b,A=>bif wB0 b A then some () else none
 |.fptr f caps,A=>bif xG0 f caps A then some () else none
 |.ownh t T U m,A=>yO2 t T U m A
 |.nilp,A=>bif xU1 A then some () else none
 |.pn s τ,A=>wF0 s τ A
 |.may τ s,A=>match wB1 τ A with
  |some (b,c)=>(match s.parse c with|some x=>bif (s.mk x).fitsT τ then some (b,x) else none|none=>none)
  |none=>none
variable {gtab:GlobTab}{P:Program}{c:Ctx}{G:Gh}{w:World}{tm:Array Value}{n:Nat}{χ0:Nat→Nat→Nat}{w0:World}{S:St}{a:Act}
theorem wB4:∀ {l l':List (Option (Nat×Ty))},yL8 l l'=true→l=l':=by
 intro l
 induction l with
 |nil=>grind [yL8]
 |cons q r ih =>
  intro l' h;cases q with
  |none=>cases l' with
   |nil=>grind [yL8]
   |cons q' r'=>cases q'<;>grind [yL8]
  |some q=>cases l' with
   |nil=>grind [yL8]
   |cons q' r'=>cases q'<;>grind [yL8,Nat.eq_of_beq_eq_true,Ty.eq_of_beq]
theorem yL {t:Ty}{T:Nat}{m:Bool}{A:AVal}{l:List t.den}{v:Value}{os:Option Nat}(h:xC7 t T m A=some l)(hA:zA G w tm os A v):zF9 G w t l T m v:=by
 cases A with
 |nil =>
  grind [xC7,zA,yA7]
 |own t' l' T' m' =>
  simp only[xC7] at h;generalize hb:(Nat.beq T T'&&(m==m'))=b at h;cases b with
  |false=>grind
  |true =>
   simp  at hb
   grind [yR0,zA]
 |_=>grind [xC7]
theorem yD0:∀ {s:Sh}{A:AVal}{x:s.den}{τ:Ty}{vs:List Value},s.parse A=some x→(s.mk x).fitsT τ=true→zA8 G w τ A vs→zA8 G w τ (s.mk x) vs:=by
 intro s
 induction s with
 |val τ' =>
  intro A x τ vs h hf hA;simp only[Sh.parse] at h;cases hl:τ'.isL with
  |true=>grind
  |false =>
   simp[hl] at h;simp[Sh.mk,AVal.fitsT] at hf;have e:=Ty.eq_of_beq hf.1;subst e;simp only[Sh.mk,zA8];exact⟨trivial,hl,zM3 h hA⟩
 |own t T m =>
  intro A x τ vs h hf hA;simp only[Sh.parse] at h;have e:=Ty.eq_of_beq hf;subst e;simp only[Sh.mk,zA8];refine⟨trivial,?_⟩;cases A with
  |nil=>exact⟨_,hA.2,yL (tm:=#[]) (os:=none) h (by grind [zA])⟩
  |own t' l' T' m'=>obtain⟨_,v,h1,h2⟩:=hA;exact⟨v,h1,yL (tm:=#[]) (os:=none) h (by grind [zA])⟩
  |_=>grind [xC7]
 |nl =>
  intro A x τ vs h hf hA;cases A with
  |nl=>exact hA
  |_=>grind [Sh.parse,wB2]
 |cons p q ihp ihq =>
  intro A x τ vs h hf hA;cases A with
  |cons a b =>
   simp[Sh.parse,yO4] at h;split at h
   ·rename_i y z hy hz;injection h with h
    subst h;obtain⟨h1,t1,us,ws,rfl,rfl,h2,h3⟩:=hA;simp[Sh.mk,AVal.fitsT,zF1] at hf;exact⟨_,_,_,_,rfl,rfl,ihp hy hf.1 h2,ihq hz hf.2 h3⟩
   grind
  |_=>grind [Sh.parse,yO4]
 |agg f s ih =>
  intro A x τ vs h hf hA;cases A with
  |agg f' b =>
   simp[Sh.parse,xL8] at h;cases hb:Ty.beq f f' with
   |false=>grind
   |true =>
    simp[hb] at h;have e:=Ty.eq_of_beq hb;split at h
    ·rename_i y hy;generalize hfit:(s.mk y).fitsT f=bb at h;cases bb with
     |false=>grind
     |true =>
      grind [zA8,Sh.mk]
    grind
  |_=>grind [Sh.parse,xL8]
 |nil =>
  intro A x τ vs h hf hA;cases A with
  |nil=>exact hA
  |_=>grind [Sh.parse,xG]
 |_=>grind [Sh.mk,AVal.fitsT]
theorem zE5:∀ {s:Sh}{A:AVal}{x:s.den}{os:Option Nat}{v:Value},s.parse A=some x→zA G w tm os A v→zA G w tm os (s.mk x) v:=by
 intro s
 induction s with
 |val τ' =>
  intro A x os v h hA;simp only[Sh.parse] at h;cases hl:τ'.isL with
  |true=>simp[hl] at h
  |false =>
   simp only[hl,cond_false] at h;simp only[Sh.mk,zA];refine zJ6 h hl (zP1 hA ?_ ?_ ?_)
   ·intro τ c e;subst e;simp[AVal.as,AVal.asT] at h
   ·intro e;subst e;simp[AVal.as,AVal.asT] at h
   ·intro b τ c e;subst e;simp[AVal.as,AVal.asT] at h
 |own t T m=>intro A x os v h hA;simp only[Sh.parse] at h;simp only[Sh.mk,zA];exact yL h hA
 |nl =>
  intro A x os v h hA;cases A with
  |nl=>exact hA
  |_=>simp[Sh.parse,wB2] at h
 |cons p q ihp ihq =>
  intro A x os v h hA;cases A with
  |cons a b =>
   simp only[Sh.parse,yO4] at h;split at h
   ·rename_i y z hy hz;injection h with h
    subst h;simp only[zA] at hA;obtain⟨u,us,rfl,h2,h3⟩:=hA;simp only[Sh.mk,zA];exact⟨u,us,rfl,ihp hy h2,ihq hz h3⟩
   ·cases h
  |_=>simp[Sh.parse,yO4] at h
 |agg f s ih =>
  intro A x os v h hA;cases A with
  |agg f' b =>
   simp only[Sh.parse,xL8] at h;cases hb:Ty.beq f f' with
   |false=>simp[hb] at h
   |true =>
    simp only[hb,cond_true] at h;have e:=Ty.eq_of_beq hb;subst e;split at h
    ·rename_i y hy;generalize hfit:(s.mk y).fitsT f=bb at h;cases bb with
     |false=>cases h
     |true =>
      simp only[cond_true,Option.some.injEq] at h;subst h;simp only[zA] at hA;obtain⟨vs,h1,h2⟩:=hA;simp only[Sh.mk,zA];exact⟨vs,h1,yD0 hy hfit h2⟩
    ·cases h
  |_=>simp[Sh.parse,xL8] at h
 |box f s ih =>
  intro A x os v h hA;cases A with
  |box f' b =>
   simp only[Sh.parse,xU2] at h;cases hb:Ty.beq f f' with
   |false=>simp[hb] at h
   |true =>
    simp only[hb,cond_true] at h;have e:=Ty.eq_of_beq hb;subst e;split at h
    ·rename_i y hy;generalize hfit:(s.mk y).fitsT f=bb at h;cases bb with
     |false=>cases h
     |true =>
      simp only[cond_true,Option.some.injEq] at h;subst h;cases os with
      |none=>simp only[zA] at hA
      |some s =>
       simp only[zA] at hA;obtain⟨h1,h2,cur,e,h3,h4,h5⟩:=hA;simp only[Sh.mk,zA];exact⟨h1,h2,cur,e,h3,yD0 hy hfit h4,h5⟩
    ·cases h
  |_=>simp[Sh.parse,xU2] at h
 |ref s τ =>
  intro A x os v h hA;simp only[Sh.parse] at h;generalize hr:yO3 s τ A=b at h;cases b with
  |false=>cases h
  |true =>
   cases A with
   |ref s' τ' p =>
    cases p with
    |nil =>
     simp only[yO3,Bool.and_eq_true] at hr;have e1:=Nat.eq_of_beq_eq_true hr.1;have e2:=Ty.eq_of_beq hr.2;subst e1;subst e2;exact hA
    |cons _ _=>simp[yO3] at hr
   |_=>simp[yO3] at hr
 |tup s ih =>
  intro A x os v h hA;cases A with
  |tup b=>simp only[Sh.parse,wB3] at h;simp only[Sh.mk,zA] at hA ⊢;exact ih h hA
  |_=>simp[Sh.parse,wB3] at h
 |fn f s ih =>
  intro A x os v h hA;cases A with
  |fn f' cs =>
   simp only[Sh.parse,wI8] at h;cases hb:Nat.beq f f' with
   |false=>simp[hb] at h
   |true =>
    simp only[hb,cond_true] at h;have e:=Nat.eq_of_beq_eq_true hb;subst e;simp only[Sh.mk,zA] at hA ⊢;obtain⟨vs,h1,h2⟩:=hA;exact⟨vs,h1,ih h h2⟩
  |_=>simp[Sh.parse,wI8] at h
 |any=>intro A x os v _ _;simp only[Sh.mk,zA]
 |nil =>
  intro A x os v h hA;cases A with
  |nil=>exact hA
  |_=>simp[Sh.parse,xG] at h
 |nn b =>
  intro A x os v h hA;cases A with
  |nn b' =>
   simp only[Sh.parse,wB0] at h;cases hb:(b==b') with
   |false=>simp[hb] at h
   |true=>have:=beq_iff_eq.1 hb;subst this;exact hA
  |_=>simp[Sh.parse,wB0] at h
 |ownh t T U m =>
  intro A x os v h hA;cases A with
  |ownh t' l' T' i' U' m' =>
   simp only[Sh.parse,yO2] at h;generalize hb:(Nat.beq T T'&&Nat.beq U U'&&(m==m'))=b at h;cases b with
   |false=>cases h
   |true =>
    simp only[cond_true] at h;simp only[Bool.and_eq_true,beq_iff_eq] at hb;have e1:=Nat.eq_of_beq_eq_true hb.1.1;have e2:=Nat.eq_of_beq_eq_true hb.1.2;have e3:=hb.2;subst e1 e2 e3;split at h
    ·rename_i l2 hl;injection h with h
     subst h;obtain⟨e,hl⟩:=zC6 hl;injection e with e
     injection e with e
     subst e;have hl:l'=l2:=hl;subst hl;exact hA
    ·cases h
  |own t' l' T' m' =>
   cases m' with
   |false=>simp[Sh.parse,yO2] at h
   |true =>
   simp only[Sh.parse,yO2] at h;generalize hb:(Nat.beq T T'&&!(Nat.beq T U)&&t.plain&&!t.isL)=b at h;cases b with
   |false=>cases h
   |true =>
    simp only[cond_true] at h;simp only[Bool.and_eq_true,Bool.not_eq_true'] at hb;have e1:=Nat.eq_of_beq_eq_true hb.1.1.1;subst e1;split at h
    ·rename_i l2 hl;injection h with h
     subst h;obtain⟨e,hl⟩:=zC6 hl;injection e with e
     subst e;have hl:l'=l2:=hl;subst hl;simp only[zA] at hA;simp only[Sh.mk,zA];refine⟨⟨hb.1.2,hb.2⟩,.inr ⟨fun e=>by subst e;simp at hb,?_⟩⟩;rcases (zB1 hA rfl).2 with h|⟨cap,cur,e,us,h1,h2,h3,h4,h5,h6,h7,h8⟩
     ·exact .inl h
     ·obtain⟨k1,k2⟩:=yQ8 (fun y vs h=>by have:=zA1 h;simpa[Ty.size] using this) h6;refine .inr ⟨cap,cur,e,h1,h2,h3,h4,by rw[h5];simp[Ty.size],fun o=>by rw[h8,if_neg (by simp)],fun j x hj=>?_⟩;have hjl:j<List.length (α:=List t.den) l':=(List.getElem?_eq_some_iff.1 hj).1;obtain⟨u,hu,hc⟩:=k2 j x hj;refine⟨u,?_,by rw[if_neg (by omega)];exact hc⟩;rw[← h7,List.getElem?_take] at hu;split at hu
      ·exact hu
      ·cases hu
    ·cases h
  |_=>simp[Sh.parse,yO2] at h
 |fptr f caps =>
  intro A x os v h hA;cases A with
  |fptr f' caps' =>
   simp only[Sh.parse,xG0] at h;cases hb:(Nat.beq f f'&&yL8 caps caps') with
   |false=>simp[hb] at h
   |true =>
    simp only[Bool.and_eq_true] at hb;have e1:=Nat.eq_of_beq_eq_true hb.1;have e2:=wB4 hb.2;subst e1;subst e2;exact hA
  |_=>simp[Sh.parse,xG0] at h
 |nilp =>
  intro A x os v h hA;cases A with
  |nilp=>exact hA
  |_=>simp[Sh.parse,xU1] at h
 |pn s τ =>
  intro A x os v h hA;cases A with
  |nilp =>
   simp only[Sh.parse,wF0,Option.some.injEq] at h;subst h;simp only[Sh.mk,zA,if_true] at hA ⊢;exact hA
  |ref s' τ' p =>
   cases p with
   |nil =>
    simp only[Sh.parse,wF0] at h;generalize hb:(Nat.beq s s'&&Ty.beq τ τ')=b at h;cases b with
    |false=>cases h
    |true =>
     simp only[Bool.and_eq_true] at hb;have e1:=Nat.eq_of_beq_eq_true hb.1;subst e1;simp only[cond_true,Option.some.injEq] at h;subst h;simp only[Sh.mk,zA] at hA ⊢;exact hA.2
   |cons _ _=>simp[Sh.parse,wF0] at h
  |pn b' s' τ' =>
   simp only[Sh.parse,wF0] at h;generalize hb:(Nat.beq s s'&&Ty.beq τ τ')=b at h;cases b with
   |false=>cases h
   |true =>
    simp only[Bool.and_eq_true] at hb;have e1:=Nat.eq_of_beq_eq_true hb.1;subst e1;simp only[cond_true,Option.some.injEq] at h;subst h;simp only[Sh.mk,zA] at hA ⊢;exact hA
  |_=>simp[Sh.parse,wF0] at h
 |may τ s ih =>
  intro A x os v h hA;have bx:∀ (q:Nat) (c:AVal) (y:s.den),s.parse c=some y→(s.mk y).fitsT τ=true→zQ1 G w q τ c→zQ1 G w q τ (s.mk y):=fun q c y hy hf hb=>by
   obtain⟨h2,cur,e,h3,h4,h5⟩:=hb;exact⟨h2,cur,e,h3,yD0 hy hf h4,h5⟩
  simp only[Sh.parse] at h;split at h
  ·rename_i m c hm;split at h
   ·rename_i y hy;generalize hfit:(s.mk y).fitsT τ=bb at h;cases bb with
    |false=>cases h
    |true =>
     simp only[cond_true,Option.some.injEq] at h;subst h;cases A with
     |box τ' c' =>
      simp only[wB1] at hm;cases hb:Ty.beq τ τ' with
      |false=>simp[hb] at hm
      |true =>
       simp only[hb,cond_true,Option.some.injEq,Prod.mk.injEq] at hm;obtain⟨rfl,rfl⟩:=hm;have e:=Ty.eq_of_beq hb;subst e;cases os with
       |none=>simp only[zA] at hA
       |some q =>
        simp only[zA] at hA;simp only[Sh.mk,zA];exact fun _=>bx q _ y hy hfit hA.2
     |may b' τ' c' =>
      simp only[wB1] at hm;cases hb:Ty.beq τ τ' with
      |false=>simp[hb] at hm
      |true =>
       simp only[hb,cond_true,Option.some.injEq,Prod.mk.injEq] at hm;obtain⟨rfl,rfl⟩:=hm;have e:=Ty.eq_of_beq hb;subst e;cases os with
       |none=>simp only[zA] at hA
       |some q =>
        simp only[zA] at hA;simp only[Sh.mk,zA];exact fun hq=>bx q _ y hy hfit (hA hq)
     |_=>simp[wB1] at hm
   ·cases h
  ·cases h
theorem yG5:∀ {s:Sh}{x:s.den},(s.mk x).hasOpt=false:=by
 intro s
 induction s<;>grind [Sh.mk,AVal.hasOpt]
@[reducible] def zB3:List (Nat×Sh)→Type
 |[]=>Unit
 |(_,s)::r=>s.den×zB3 r
def wB5:(l:List (Nat×Sh))→zB3 l→St
 |[],_=>[]
 |(k,s)::r,x=>(k,s.mk x.1)::wB5 r x.2
def zC7:(l:List (Nat×Sh))→St→Option (zB3 l)
 |[],_=>some ()
 |(k,s)::r,S=>match s.parse (S.get k),zC7 r S with|some x,some y=>some (x,y)|_,_=>none
def yX2:St:=[(zA7,.junk)]
def Weaker (S' S:St):Prop:=∀ (s:Nat),∀ G w tm v,zA G w tm (some s) (S.get s) v→zA G w tm (some s) (S'.get s) v
theorem Weaker.rel {S':St}(h:Weaker S' S)(hR:Rel n χ0 w0 S a w G):Rel n χ0 w0 S' a w G:=⟨hR.len,hR.defers,fun s=>h s _ _ _ _ (hR.reps s),hR.frame,hR.glob⟩
theorem zP7:Weaker yX2 S:=by
 intro s G w tm v _;simp[yX2,St.get]
 grind [zA]
theorem zI2:∀ {l:List (Nat×Sh)}{x:zB3 l}{R:St},zC7 l S=some x→Weaker R S→Weaker (wB5 l x++R) S:=by
 intro l
 induction l with
 |nil=>intro x R _ h;exact h
 |cons e r ih =>
  intro x R hp h;obtain⟨k,s⟩:=e;simp only[zC7] at hp;split at hp
  ·rename_i y z hy hz;injection hp with hp
   subst hp;intro q G w tm v hA;simp[wB5,St.get];cases hk:Nat.beq k q with
   |true =>
    grind [Nat.eq_of_beq_eq_true,zE5]
   |false =>
    cases Nat.beq k zA7 with
    |true=>simp[zA]
    |false=>exact ih hz h q G w tm v hA
  grind
theorem xC8 {A:St}(h:St.hasCut A=true){s:Nat}:(A++S).get s=A.get s:=by
 induction A<;>grind [St.get,St.hasCut]
theorem zJ3 {A B:St}(h:St.hasCut B=true):St.hasCut (A++B)=true:=by
 grind [St.hasCut]
end Go.Am
namespace Go.Am
open Go Go.RowKit
variable {gtab:GlobTab}{P:Program}{c:Ctx}{G:Gh}{w:World}{tm:Array Value}{n:Nat}{χ0:Nat→Nat→Nat}{w0:World}{S:St}{a:Act}
def yL9 (ks:List Nat)(vs:Nat→Value)(a:Act):Prop:=∀ i∈ks,a.tmps.getD i undef=vs i
def zV8 (ks:List Nat):List Oper→Bool
 |[]=>true
 |o::r=>(match o.dst with|some d=>!(ks.any (Nat.beq d))|none=>true)&&zV8 ks r
def zC8 (ks:List Nat):Code→Bool
 |.region _ ops _=>zV8 ks ops.toList
 |.seq a b=>zC8 ks a&&zC8 ks b
 |.cond _ a b=>zC8 ks a&&zC8 ks b
 |.block _ a=>zC8 ks a
 |.loop a=>zC8 ks a
 |_=>true
theorem xC9 {ks:List Nat}{vs:Nat→Value}:∀ {ops:List Oper},zV8 ks ops=true→∀ o∈ops,∀ a v,yL9 ks vs a→yL9 ks vs (a.put o.dst v):=by
 intro ops
 induction ops with
 |nil=>grind
 |cons x r ih =>
  intro h o ho a v hk;simp[zV8] at h;rcases List.mem_cons.1 ho with rfl|ho
  ·cases hd:o.dst with
   |none=>exact hk
   |some d =>
    intro i hi;have hne:d≠i:=by simp_all
    rw[← hk i hi];simp[Act.put,Array.getElem?_setIfInBounds_ne hne]
  grind
def xU3 [GlobTab] (P:Program)(c:Ctx)(code:Code)(S:St)(out:Out):Prop:=
 (∀ q∈out.ok,q)→∀ (rd:Option Nat) (χ0:Nat→Nat→Nat) (w0:World) (vs:Nat→Value) (a:Act) (w:World) (G:Gh),Rel c.n χ0 w0 S a w G→yL9 c.keep vs a →
  code.wpIn (fz rd) 0 P (fun e a' w'=>yR6 c.n χ0 w0 S out.comps e a' w'∧yL9 c.keep vs a') a w
def zJ4 [GlobTab] (P:Program)(c:Ctx):Code→Prop
 |.seq a b=>zJ4 P c a∧zJ4 P c b
 |.cond _ a b=>zJ4 P c a∧zJ4 P c b
 |.block _ a=>zJ4 P c a
 |.loop a=>∀ S out,look (fun _=>none) c.loops (zE a) S=some out→xU3 P c (.loop a) S out
 |_=>True
theorem yG6 {k:Nat}{u:St}{e:Exit}(he:zB e=some k)(hR:Rel n χ0 w0 (u++S) a w G):yR6 n χ0 w0 S [⟨k,none,u⟩] e a w:=by
 refine⟨k,⟨k,none,u⟩,G,he,by simp[zA6],rfl,fun k' c' hf _=>?_,hR⟩
 grind [zA6,Nat.beq,Nat.eq_of_beq_eq_true]
theorem zV9 (hc:CtxOk P c)(hm:P.follows .mixedOrders=true):∀ {code:Code}{S:St}{out:Out},zJ4 P c code→zC8 c.keep code=true→eval c code S=some out→xU3 P c code S out:=by
 intro code
 induction code with
 |skip =>
  intro S out _ _ h _ rd χ0 w0 vs a w G hR hk;simp only[eval,Option.some.injEq] at h;subst h;exact wpIn_skip ⟨yG6 rfl hR,hk⟩
 |region id ops draw =>
  intro S out _ hw h hok rd χ0 w0 vs a w G hR hk;simp only[eval] at h;split at h
  ·cases h
  ·rename_i p0 v hg;generalize hv:v.all (fun e=>Nat.blt e.1 zA7)=bv at h;cases bv with
   |false=>cases h
   |true =>
    simp only[Bool.not_true,cond_false] at h;split at h
    ·rename_i p u hr;injection h with h
     subst h;simp only[zC8] at hw;obtain⟨G1,hR1⟩:=yO1 hc.n hR hg (fun q hq=>hok q (List.mem_append_left _ hq)) fun e he=>Nat.blt_eq.mp (List.all_eq_true.1 hv e he);exact yX1 (xC9 (vs:=vs) hw) hc hm hr (fun q hq=>hok q (List.mem_append_right _ hq)) hR1 hk fun a' w' G' hR' hk'=>⟨yG6 rfl (by rw[List.append_assoc];exact hR'),hk'⟩
    ·cases h
 |seq x y ihx ihy =>
  intro S out hL hw h hok rd χ0 w0 vs a w G hR hk;simp only[zJ4] at hL;simp only[zC8,Bool.and_eq_true] at hw;simp only[eval] at h;split at h
  ·cases h
  ·rename_i oa ha;split at h
   ·rename_i h0;injection h with h
    subst h;refine wpIn_seq (wpIn_mono (ihx hL.1 hw.1 ha hok rd χ0 w0 vs a w G hR hk) fun e a' w' hP=>?_);cases e with
    |normal=>obtain⟨⟨k,cp,G',h1,h2,_⟩,_⟩:=hP;simp only[zB,Option.some.injEq] at h1;subst h1;rw[h0] at h2;cases h2
    |_=>exact hP
   ·rename_i m h0;split at h
    ·cases h
    ·rename_i ob hb;injection h with h
     subst h;simp only[yM7,List.mem_append] at hok;refine wpIn_seq (wpIn_mono (ihx hL.1 hw.1 ha (fun q hq=>hok q (.inl hq)) rd χ0 w0 vs a w G hR hk) fun e a' w' hP=>?_);obtain⟨hP,hk'⟩:=hP;by_cases he:e=.normal
     ·subst he;obtain⟨k,cp,G',h1,h2,h3,h4,h5⟩:=hP;simp only[zB,Option.some.injEq] at h1;subst h1;rw[h0] at h2;injection h2 with h2
      subst h2;simp only[Exit.then];refine wpIn_mono (ihy hL.2 hw.2 hb (fun q hq=>?_) rd χ0 w0 vs a' w' G' h5 hk') fun e'' a'' w'' hP'=>⟨xU0 h3 h4 hP'.1,hP'.2⟩;cases hg:m.g with
      |none=>exact hok q (.inr (by simp only[imp,hg];exact hq))
      |some b =>
       have hb1:b=true:=by rw[hg] at h3;exact h3
       exact xC6 (fun q hq=>hok q (.inr (by simp only[imp,hg];exact hq))) hb1 q hq
     ·have hne:zB e≠some 0:=by
       cases e with
       |normal=>exact absurd rfl he
       |exit id=>simp[zB]
       |_=>simp[zB]
      have:=xU (ob:=ob) h0 hP hne;cases e with
      |normal=>exact absurd rfl he
      |_=>exact⟨this,hk'⟩
 |cond x p q ihp ihq =>
  intro S out hL hw h hok rd χ0 w0 vs a w G hR hk;simp only[zJ4] at hL;simp only[zC8,Bool.and_eq_true] at hw;simp only[eval] at h;split at h
  ·rename_i t hx;split at h
   ·rename_i oa ob ha hb;injection h with h
    subst h;have hv:a.eval x=.bool t:=by
     have:=zH0 hR x;rw[hx] at this;simp only[zA] at this;have:=(zC rfl).1 this;simpa only[zB5,List.cons.injEq,and_true] using this
    simp only[yB9,List.mem_append] at hok;refine wpIn_cond_split hv (fun ht=>?_) (fun ht=>?_)
    ·subst ht;exact wpIn_mono (ihp hL.1 hw.1 ha (xC6 (fun q hq=>hok q (.inl hq)) rfl) rd χ0 w0 vs a w G hR hk) fun e a' w' hP=>⟨xL5 hP.1,hP.2⟩
    ·subst ht;exact wpIn_mono (ihq hL.2 hw.2 hb (xC6 (fun q hq=>hok q (.inr hq)) rfl) rd χ0 w0 vs a w G hR hk) fun e a' w' hP=>⟨xL6 hP.1,hP.2⟩
   ·cases h
  ·cases h
 |block id x ih =>
  intro S out hL hw h hok rd χ0 w0 vs a w G hR hk;simp only[zJ4] at hL;simp only[zC8] at hw;simp only[eval] at h;split at h
  ·rename_i oa ha;injection h with h
   subst h;have hok':∀ q∈oa.ok,q:=by
    intro q hq;refine hok q ?_;unfold yF7;split<;>exact hq
   refine wpIn_block (wpIn_mono (ih hL hw ha hok' rd χ0 w0 vs a w G hR hk) fun e a' w' hP=>?_);have:=xL7 (id:=id) hP.1;cases e with
   |exit id' =>
    simp only[Exit.inBlock] at this ⊢;split
    ·rename_i e;rw[if_pos e] at this;exact⟨this,hP.2⟩
    ·rename_i e;rw[if_neg e] at this;exact⟨this,hP.2⟩
   |_=>exact⟨this,hP.2⟩
  ·cases h
 |loop x _ =>
  intro S out hL hw h;simp only[eval] at h;exact hL S out h
 |exit id =>
  intro S out _ _ h _ rd χ0 w0 vs a w G hR hk;simp only[eval,Option.some.injEq] at h;subst h;exact wpIn_exit ⟨yG6 rfl hR,hk⟩
 |ret =>
  intro S out _ _ h _ rd χ0 w0 vs a w G hR hk;simp only[eval,Option.some.injEq] at h;subst h;exact wpIn_ret ⟨yG6 rfl hR,hk⟩
 |_=>intro S out _ _ h;simp[eval] at h
def loopN {X:Type}(g:X→Bool)(next:X→X):Nat→X→X
 |0,x=>x
 |k+1,x=>bif g x then loopN g next k (next x) else x
def zK0:Nat:=18446744073709551616
def zD9 {X:Type}(g:X→Bool)(next:X→X)(x:X):X:=loopN g next zK0 x
def Runs {X:Type}(g:X→Bool)(next:X→X)(ok:X→Prop):Nat→X→Prop
 |0,x=>ok x∧g x=false
 |k+1,x=>ok x∧g x=true∧Runs g next ok k (next x)
def wB6 {X:Type}(g:X→Bool)(next:X→X)(ok:X→Prop)(x:X):Prop:=∃ k,k<zK0∧Runs g next ok k x
theorem Runs.loopN {X:Type}{g:X→Bool}{next:X→X}{ok:X→Prop}:∀ {k:Nat}{x:X}{F:Nat},Runs g next ok k x→k<F→g (loopN g next F x)=false∧ok (Am.loopN g next F x):=by
 intro k
 induction k with
 |zero =>
  intro x F h hF;cases F with
  |zero=>omega
  |succ F=>simp only[Am.loopN,h.2,cond_false];exact⟨trivial,h.1⟩
 |succ k ih =>
  intro x F h hF;cases F with
  |zero=>omega
  |succ F=>simp[Am.loopN,h.2.1];exact ih h.2.2 (by omega)
theorem yX3 {rd:Option Nat}{cd:Code}{Q:Exit→Act→World→Prop}(I:Nat→Act→World→Prop){k:Nat}(h₀:I k a w)
  (round:∀ k a w,I k a w→cd.wpIn (fz rd) 0 P (Exit.then (fun a' w'=>∃ m,m<k∧I m a' w') Q) a w):(Code.loop cd).wpIn (fz rd) 0 P Q a w:=by
 intro b kk cs hro hb hr;have key:∀ n a w,I n a w→∃ e a' w',Q e a' w'∧ArrivesIn (Machine.fenced P (fz rd)) P (lone (b.atR a (.code cd::.inLoop cd::kk)) cs w) b kk cs e a' w':=by
  intro n
  induction n using Nat.strongRecOn with
  |_ n ih =>
   intro a w hI;obtain⟨e,a₁,w₁,hq,harr⟩:=round n a w hI b (.inLoop cd::kk) cs hro hb hr;cases e with
   |normal =>
    obtain⟨m,hlt,hI₁⟩:=hq;obtain⟨e₂,a₂,w₂,hq₂,harr₂⟩:=ih m hlt a₁ w₁ hI₁;exact⟨e₂,a₂,w₂,hq₂,.of_steps (StepsIn.trans harr (.one (fenced_calm hb hr rfl) stepR_inLoop)) harr₂⟩
   |exit id=>exact⟨_,a₁,w₁,hq,.pass (x:=.inLoop cd) rfl (fun _ _=>.inl (by simp)) harr⟩
   |goto l=>exact⟨_,a₁,w₁,hq,.pass (x:=.inLoop cd) rfl (fun _ _=>.inl (by simp)) harr⟩
   |ret=>exact⟨_,a₁,w₁,hq,.pass (x:=.inLoop cd) rfl (fun _ _=>.inl (by simp)) harr⟩
   |panic ch=>exact⟨_,a₁,w₁,hq,.pass (x:=.inLoop cd) rfl (fun _ _=>.inl (by simp)) harr⟩
   |outgrown=>exact⟨_,a₁,w₁,hq,.pass (x:=.inLoop cd) rfl (fun _ _=>.inl (by simp)) harr⟩
 obtain⟨e,a',w',hq,harr⟩:=key _ a w h₀;exact⟨e,a',w',hq,.of_steps (.one (fenced_calm hb hr rfl) stepR_loop) harr⟩
def zF0 (ly lx:List (Nat×Sh))(y:zB3 ly)(x:zB3 lx):St:=wB5 ly y++(wB5 lx x++yX2)
def zY2 (L:St)(l:List Comp):List Comp:=(zJ5 0 l).map fun cp=>⟨cp.kind,cp.g,cp.d++L⟩
def yG7 (ly lx:List (Nat×Sh))(g:zB3 ly→zB3 lx→Bool)(next:zB3 ly→zB3 lx→zB3 lx)(ok:zB3 ly→zB3 lx→Prop)(comps:zB3 ly→zB3 lx→List Comp)(S:St):Option Out:=
 match zC7 ly S,zC7 lx S with
 |some y,some x=>some ⟨[wB6 (g y) (next y) (ok y) x],zY2 (zF0 ly lx y (zD9 (g y) (next y) x)) (comps y (zD9 (g y) (next y) x))⟩
 |_,_=>none
theorem xG1 {ly lx:List (Nat×Sh)}{y:zB3 ly}{x:zB3 lx}:St.hasCut (zF0 ly lx y x)=true:=zJ3 (zJ3 rfl)
theorem xL9 (hc:CtxOk P c)(hm:P.follows .mixedOrders=true){body:Code}(hL:zJ4 P c body)(hw:zC8 c.keep body=true){ly lx:List (Nat×Sh)}{g:zB3 ly→zB3 lx→Bool}{next:zB3 ly→zB3 lx→zB3 lx}
  {ok:zB3 ly→zB3 lx→Prop}{comps:zB3 ly→zB3 lx→List Comp}{oks:zB3 ly→zB3 lx→List Prop}
  (hbody:∀ y x,eval c body (zF0 ly lx y x)=some ⟨oks y x,comps y x⟩) (hoks:∀ y x,ok y x→xG9 (oks y x))
  (hnext:∀ y x,∃ m,zA6 0 (comps y x)=some m∧tk m.g=g y x∧zC7 ly (m.d++zF0 ly lx y x)=some y∧zC7 lx (m.d++zF0 ly lx y x)=some (next y x)) :
  ∀ S out,yG7 ly lx g next ok comps S=some out→xU3 P c (.loop body) S out:=by
 intro S out h hok rd χ0 w0 vs a w G hR hk;unfold yG7 at h;split at h
 ·rename_i y x hy hx;injection h with h
  subst h;obtain⟨k,hkf,hruns⟩:=hok _ (List.mem_cons_self ..);have hR0:Rel c.n χ0 w0 (zF0 ly lx y x) a w G:=(zI2 hy (zI2 hx zP7)).rel hR;refine yX3 (I:=fun k a w=>∃ x' G F,Rel c.n χ0 w0 (zF0 ly lx y x') a w G∧yL9 c.keep vs a∧Runs (g y) (next y) (ok y) k x'∧k<F∧loopN (g y) (next y) F x'=zD9 (g y) (next y) x) (k:=k) ⟨x,G,zK0,hR0,hk,hruns,hkf,rfl⟩ ?_
  rintro k a w ⟨x',G,F,hR,hk,hruns,hF,hend⟩;have hokx:ok y x':=by cases k with|zero=>exact hruns.1|succ k=>exact hruns.1
  refine wpIn_mono (zV9 hc hm hL hw (hbody y x') (AllP_iff.1 (hoks y x' hokx)) rd χ0 w0 vs a w G hR hk) fun e a' w' hP=>?_;obtain⟨hP,hk'⟩:=hP;obtain⟨m,m1,m2,m3,m4⟩:=hnext y x';obtain⟨q,cp,G',h1,h2,h3,h4,h5⟩:=hP;by_cases he:e=.normal
  ·subst he;simp[zB] at h1;subst h1;rw[m1] at h2;injection h2 with h2
   subst h2;rw[m2] at h3;cases k with
   |zero=>rw[hruns.2] at h3;grind
   |succ k =>
    cases F with
    |zero=>omega
    |succ F =>
     refine⟨k,by omega,next y x',G',F,(zI2 m3 (zI2 m4 zP7)).rel h5,hk',hruns.2.2,by omega,?_⟩
     simp_all [Am.loopN]
  ·have hq:q≠0:=by
    intro e0;subst e0;cases e<;>simp[zB] at h1 he
   have hg:g y x'=false:=by
    grind
   have hfin:x'=zD9 (g y) (next y) x:=by
    rw[← hend];cases F with
    |zero=>omega
    |succ F=>rw[Am.loopN,hg,cond_false]
   subst hfin;have hq0:Nat.beq q 0=false:=by cases q with|zero=>exact absurd rfl hq|succ q=>rfl
   have hfind:∀ k',zA6 k' (zY2 (zF0 ly lx y (zD9 (g y) (next y) x)) (comps y (zD9 (g y) (next y) x)))=(bif Nat.beq k' 0 then none else zA6 k' (comps y (zD9 (g y) (next y) x))).map fun cp=>⟨cp.kind,cp.g,cp.d++zF0 ly lx y (zD9 (g y) (next y) x)⟩:=by
    intro k';unfold zY2;rw[yB1 (f:=fun cp=>⟨cp.kind,cp.g,cp.d++zF0 ly lx y (zD9 (g y) (next y) x)⟩) (fun _=>rfl),zK]
   have hpost:yR6 c.n χ0 w0 S (zY2 (zF0 ly lx y (zD9 (g y) (next y) x)) (comps y (zD9 (g y) (next y) x))) e a' w':=by
    refine⟨q,⟨cp.kind,cp.g,cp.d++zF0 ly lx y (zD9 (g y) (next y) x)⟩,G',h1,?_,h3,fun k' c' hf ht=>?_,?_⟩
    ·rw[hfind,hq0,cond_false,h2];rfl
    ·rw[hfind] at hf;cases hk':Nat.beq k' 0 with
     |true=>simp[hk'] at hf
     |false =>
      cases hx:zA6 k' (comps y (zD9 (g y) (next y) x))<;>grind
    grind [yA8,xC8,zJ3,xG1]
   cases e with
   |normal=>exact absurd rfl he
   |_=>exact⟨hpost,hk'⟩
 grind
end Go.Am
namespace Go.Am
open Go Go.RowKit
variable {gtab:GlobTab}{P:Program}{c:Ctx}{G:Gh}{w:World}{tm:Array Value}{n:Nat}{χ0:Nat→Nat→Nat}{w0:World}{S:St}{a:Act}
def yD1 [GlobTab] (c:Ctx)(S:St):ResultVar→Option AVal
 |.tmp t=>some (arg S (.tmp t))
 |.cell r T=>match yE7 c T (arg S (.tmp r)) (zA3 S (arg S (.tmp r))) with|some ([],A)=>some A | _=>none
def zK9 [GlobTab] (c:Ctx)(S:St):List ResultVar→Option AVal
 |[]=>some (.tup .nl)
 |[r]=>yD1 c S r
 |[r,s]=>match yD1 c S r,yD1 c S s with|some A,some B=>some (.tup (.cons A (.cons B .nl)))|_,_=>none
 |[r,s,t]=>match yD1 c S r,yD1 c S s,yD1 c S t with|some A,some B,some C=>some (.tup (.cons A (.cons B (.cons C .nl))))|_,_,_=>none
 |[r,s,t,u]=>match yD1 c S r,yD1 c S s,yD1 c S t,yD1 c S u with|some A,some B,some C,some D=>some (.tup (.cons A (.cons B (.cons C (.cons D .nl)))))|_,_,_,_=>none
 |_=>none
def xU4 (tmps:Array Value):ResultVar→Sem Value
 |.tmp t=>pure (tmps.getD t undef)
 |.cell a t=>do loadVar t (← asAddr (tmps.getD a undef))
theorem zE9 (hc:CtxOk P c)(hR:Rel n χ0 w0 S a w G){r:ResultVar}{A:AVal}(h:yD1 c S r=some A):∃ v,(xU4 a.tmps r).run P w=.ok v w∧zA G w a.tmps none A v:=by
 cases r with
 |tmp t =>
  simp[yD1] at h;subst h;exact⟨_,rfl,zH0 hR (.tmp t)⟩
 |cell r T =>
  simp only[yD1] at h;split at h
  ·rename_i A' hl;have hx:=zH0 hR (.tmp r);obtain⟨u,h1,h2⟩:=yJ hc.tys hc.fts hx (fun s hs=>⟨_,by
    have:=hR.reps s;cases hA:arg S (.tmp r)<;>simp[hA,zD2] at hs<;>(subst hs;simpa[zA3] using this)⟩) hl (fun q hq=>by grind)
   simp only[xU4];have hv:a.eval (.tmp r)=a.tmps.getD r undef:=rfl;cases hvv:a.tmps.getD r undef with
   |pointer p =>
    cases p<;>simp_all [Instr.loadAt,Instr.sureAddr,asAddr]
   |_=>simp_all [Instr.loadAt,Instr.sureAddr]
  grind
theorem yX4 (hc:CtxOk P c)(hR:Rel n χ0 w0 S a w G){fn:Func}{A:AVal}(h:zK9 c S fn.results.toList=some A):∃ v,(results fn a.tmps).run P w=.ok v w∧zA G w a.tmps none A v:=by
 have hfn:fn.results=fn.results.toList.toArray:=by simp
 generalize fn.results.toList=l at h hfn;have hsem:results fn a.tmps=(do let vs ← fn.results.mapM (xU4 a.tmps);pure (if h:vs.size=1 then vs[0] else .tuple vs)):=by
  congr 1
 match l,h with
 |[],h=>simp[zK9] at h;subst h;simp_all [zA]
 |[r],h =>
  obtain⟨v,h1,h2⟩:=zE9 hc hR h;simp_all
 |[r,s],h =>
  simp only[zK9] at h;split at h
  ·rename_i A' B hA hB;injection h with h;subst h
   obtain⟨v,h1,h2⟩:=zE9 hc hR hA;obtain⟨v',h1',h2'⟩:=zE9 hc hR hB;exact⟨.tuple #[v,v'],by simp_all,by exact⟨v,[v'],rfl,h2,v',[],rfl,h2',rfl⟩⟩
  grind
 |[r,s,t],h =>
  simp only[zK9] at h;split at h
  ·rename_i A' B C hA hB hC;injection h with h;subst h
   obtain⟨v,h1,h2⟩:=zE9 hc hR hA;obtain⟨v',h1',h2'⟩:=zE9 hc hR hB;obtain⟨v'',h1'',h2''⟩:=zE9 hc hR hC;exact⟨.tuple #[v,v',v''],by simp_all,by exact⟨v,[v',v''],rfl,h2,v',[v''],rfl,h2',v'',[],rfl,h2'',rfl⟩⟩
  grind
 |[r,s,t,u],h =>
  simp only[zK9] at h;split at h
  ·rename_i A' B C D hA hB hC hD;injection h with h;subst h
   obtain⟨v,h1,h2⟩:=zE9 hc hR hA;obtain⟨v',h1',h2'⟩:=zE9 hc hR hB;obtain⟨v'',h1'',h2''⟩:=zE9 hc hR hC;obtain⟨v3,h13,h23⟩:=zE9 hc hR hD;exact⟨.tuple #[v,v',v'',v3],by simp_all,by exact⟨v,[v',v'',v3],rfl,h2,v',[v'',v3],rfl,h2',v'',[v3],rfl,h2'',v3,[],rfl,h23,rfl⟩⟩
  grind
 |_::_::_::_::_::_,h=>grind [zK9]
def xD (S:St)(l:List Comp):Option St:=
 bif l.all (fun x=>Nat.ble x.kind 1) then
  match zA6 0 l,zA6 1 l with
  |none,some r=>some r.d
  |some m,none=>some m.d
  |some m,some r=>some (zF (tk r.g) r.d m.d S)
  |none,none=>none
 else none
theorem yX5 {k:Nat}{x:Comp}:∀ {l:List Comp},zA6 k l=some x→x∈l:=by
 intro l
 induction l<;>grind [zA6]
theorem yR7 {l:List Comp}{d:St}{e:Exit}(h:xD S l=some d)(hP:yR6 n χ0 w0 S l e a w):(e=.normal∨e=.ret)∧∃ G,Rel n χ0 w0 (d++S) a w G:=by
 obtain⟨k,cp,G,h1,h2,h3,h4,h5⟩:=hP;unfold xD at h;generalize hall:l.all (fun x=>Nat.ble x.kind 1)=b at h;cases b with
 |false=>grind
 |true =>
  have hk:k≤1:=by
   have:=List.all_eq_true.1 hall cp (yX5 h2);rw[zP6 h2] at this;simp_all
  have he:e=.normal∨e=.ret:=by
   cases e<;>grind [id,zB,Option.some.injEq]
  refine⟨he,G,?_⟩;obtain rfl|rfl:k=0∨k=1:=by omega
  all_goals grind [tk,zN1,zR6]
def zW3:Nat→List AVal→St
 |_,[]=>[]
 |i,A::r=>(i,A)::zW3 (i+1) r
@[reducible] def zT8:List (Nat×Sh)→Type
 |[]=>Unit
 |(_,s)::r=>s.den×zT8 r
def wF1:(s:Sh)→s.den→AVal
 |.box _ s,x=>s.mk x
 |s,x=>s.mk x
def mkO:(l:List (Nat×Sh))→zT8 l→List (Nat×AVal)
 |[],_=>[]
 |(i,s)::r,x=>bif Nat.blt i vNo then (i,wF1 s x.1)::mkO r x.2 else mkO r x.2
def xU5:(l:List (Nat×Sh))→zT8 l→List (Nat×AVal)
 |[],_=>[]
 |(i,s)::r,x=>bif Nat.blt i vNo then xU5 r x.2 else (i,s.mk x.1)::xU5 r x.2
def zO:(l:List (Nat×Sh))→St→Option (zT8 l)
 |[],_=>some ()
 |(i,s)::r,S=>match s.parse (S.get i),zO r S with|some x,some y=>some (x,y)|_,_=>none
def xD0:Sh→Bool
 |.box _ _=>true|.may _ _=>true|_=>false
def fnSpec (ps:List (Nat×Sh))(rs:Sh)(os:List (Nat×Sh))(ok:zB3 ps→Prop)(f:zB3 ps→rs.den)(o:zB3 ps→zT8 os):Spec:=fun args =>
 bif Nat.beq args.length ps.length then
  match zC7 ps (zW3 0 args) with
  |some x=>some ⟨[ok x],rs.mk (f x),mkO os (o x),xU5 os (o x)⟩
  |none=>none
 else none
def wD1:Nat→List (Nat×Sh)→Bool
 |_,[]=>true
 |i,(k,_)::r=>Nat.beq k i&&wD1 (i+1) r
def wG (ps:List (Nat×Sh))(keep:List Nat)(os:List (Nat×Sh)):Bool:=
 os.all fun e=>Nat.ble vNo e.1||keep.any (Nat.beq e.1)&&(match ps[e.1]? with
  |some (_,.box τ _)=>(match e.2 with|.box τ' _=>Ty.beq τ' τ | _=>false)
  |some (_,.any)=>false
  |some (_,.may _ _)=>false
  |some _=>!xD0 e.2
  |none=>false)
theorem yL0 {s:Nat}:∀ {args:List AVal}{i:Nat},i≤s→s<i+args.length→i+args.length≤zA7→some ((zW3 i args).get s)=args[s-i]?:=by
 intro args
 induction args with
 |nil=>grind
 |cons A r ih =>
  intro i h1 h2 h3;simp[zW3,St.get];by_cases e:i=s
  ·simp_all
  grind [Nat.beq,absurd,Nat.eq_of_beq_eq_true]
theorem xU6 {s:Nat}:∀ {args:List AVal}{i:Nat},i+args.length≤s∨s<i→(zW3 i args).get s=.junk:=by
 intro args
 induction args<;>grind [zW3,St.get,Nat.beq,Nat.eq_of_beq_eq_true]
theorem yO5 {S:St}:∀ {ps:List (Nat×Sh)}{x:zB3 ps}{k:Nat}{i:Nat}{s:Sh},zC7 ps S=some x→ps[k]?=some (i,s)→∃ y,s.parse (S.get i)=some y:=by
 intro ps
 induction ps<;>grind [zC7]
theorem wF2:∀ {ps:List (Nat×Sh)}{i k j:Nat}{s:Sh},wD1 i ps=true→ps[k]?=some (j,s)→j=i+k:=by
 intro ps
 induction ps with
 |nil=>grind
 |cons e r ih =>
  intro i k j s h hk;simp[wD1] at h
  grind
theorem xU7 {S:St}{i:Nat}{k:AVal}:∀ {os:List (Nat×Sh)}{x:zT8 os},zO os S=some x→(i,k)∈mkO os x→i<vNo∧∃ s y,(i,s)∈os∧k=wF1 s y∧s.parse (S.get i)=some y:=by
 intro os
 induction os with
 |nil=>intro x _ h;cases h
 |cons e r ih =>
  intro x hp hk;obtain⟨j,s⟩:=e;simp only[zO] at hp;split at hp
  ·rename_i y z hy hz;injection hp with hp
   subst hp;have hr:(i,k)∈mkO r z→i<vNo∧∃ s' y,(i,s')∈(j,s)::r∧k=wF1 s' y∧s'.parse (S.get i)=some y:=fun h=>by
    obtain⟨q,s',y',h1,h2,h3⟩:=ih hz h;exact⟨q,s',y',List.mem_cons_of_mem _ h1,h2,h3⟩
   simp only[mkO] at hk;cases hb:Nat.blt j vNo with
   |false=>rw[hb] at hk;exact hr hk
   |true =>
    rw[hb] at hk;rcases List.mem_cons.1 hk with h|h
    ·injection h with h1 h2
     subst h1;subst h2;exact⟨Nat.le_of_ble_eq_true hb,s,y,List.mem_cons_self ..,rfl,hy⟩
    ·exact hr h
  ·cases hp
theorem xM {S:St}{i:Nat}{k:AVal}:∀ {os:List (Nat×Sh)}{x:zT8 os},zO os S=some x→(i,k)∈xU5 os x→¬ i<vNo∧∃ (s:Sh) (y:s.den),k=s.mk y∧s.parse (S.get i)=some y:=by
 intro os
 induction os with
 |nil=>intro x _ h;cases h
 |cons e r ih =>
  intro x hp hk;obtain⟨j,s⟩:=e;simp only[zO] at hp;split at hp
  ·rename_i y z hy hz;injection hp with hp
   subst hp;simp only[xU5] at hk;cases hb:Nat.blt j vNo with
   |true=>rw[hb] at hk;exact ih hz hk
   |false =>
    rw[hb] at hk;rcases List.mem_cons.1 hk with h|h
    ·injection h with h1 h2
     subst h1;subst h2;refine⟨fun h=>?_,s,y,rfl,hy⟩;have:Nat.blt i vNo=true:=Nat.ble_eq ▸ h;rw[hb] at this;cases this
    ·exact ih hz h
  ·cases hp
theorem xU8 {s:Sh}{A:AVal}{x:s.den}{τ:Ty}{k0:AVal}(h:s.parse A=some x)(hA:A=.box τ k0):(s=.any∨∃ τ' s',s=.may τ' s')∨∃ s',s=.box τ s':=by
 cases s with
 |box τ' s' =>
  simp[Sh.parse,xU2] at h;cases hb:Ty.beq τ' τ with
  |true=>have:=Ty.eq_of_beq hb;simp_all
  |false=>grind
 |any=>simp_all
 |may τ' s=>exact .inl (.inr ⟨_,_,rfl⟩)
 |nilp=>subst hA;simp[Sh.parse,xU1] at h
 |pn q τ'=>subst hA;simp[Sh.parse,wF0] at h
 |val τ'=>grind [Sh.parse,AVal.as,AVal.asT]
 |own t T m=>grind [Sh.parse,xC7]
 |nl=>grind [Sh.parse,wB2]
 |cons a b=>grind [Sh.parse,yO4]
 |agg f s=>grind [Sh.parse,xL8]
 |ref s τ'=>grind [Sh.parse,yO3]
 |tup s=>grind [Sh.parse,wB3]
 |fn f s=>grind [Sh.parse,wI8]
 |nil=>grind [Sh.parse,xG]
 |nn b=>grind [Sh.parse,wB0]
 |fptr f caps=>grind [Sh.parse,xG0]
 |ownh t T U m=>grind [Sh.parse,yO2]
def zB7 (ps:List (Nat×Sh))(x:zB3 ps):St:=wB5 ps x++yX2
theorem xM0:∀ {ps:List (Nat×Sh)}{x:zB3 ps},∀ e∈zB7 ps x,e.2.hasOpt=false:=by
 intro ps
 induction ps with
 |nil=>intro x e he;simp[zB7,wB5,yX2] at he;subst he;rfl
 |cons q r ih =>
  intro x e he;rcases List.mem_cons.1 he with h|h
  ·grind [yG5]
  ·exact ih e h
def wH4 [GlobTab] (P:Program)(c:Ctx)(code:Code)(S S':St):Prop:=
 ∀ (rd:Option Nat) (χ0:Nat→Nat→Nat) (w0:World) (vs:Nat→Value) (a:Act) (w:World) (G:Gh),Rel c.n χ0 w0 S a w G→yL9 c.keep vs a →
  code.wpIn (fz rd) 0 P (fun e a' w'=>(e=.normal∨e=.ret)∧(∃ G',Rel c.n χ0 w0 S' a' w' G')∧yL9 c.keep vs a') a w
theorem yR8 (hc:CtxOk P c){f:Nat}{fn:Func}{code:Code}(hf:P.funcs[f]?=some fn)(hb:fn.body=some code)(hname:fn.name≠"runtime.NumGoroutine") (hn:fn.ntmps=c.n)
  {ps:List (Nat×Sh)}{rs:Sh}{os:List (Nat×Sh)}{ok:zB3 ps→Prop}{F:zB3 ps→rs.den}{o:zB3 ps→zT8 os}
  {D:zB3 ps→St}{res:zB3 ps→AVal}(hps:(wD1 0 ps&&wG ps c.keep os&&Nat.ble ps.length c.n)=true)
  (hrun:∀ x,ok x→wH4 P c code (zB7 ps x) (D x)) (hres:∀ x,zK9 c (D x) fn.results.toList=some (res x)) (hpar:∀ x,rs.parse (res x)=some (F x))
  (hout:∀ x,zO os (D x)=some (o x)):SpecOk P f (fnSpec ps rs os ok F o):=by
 simp only[Bool.and_eq_true] at hps;obtain⟨⟨hps1,hps2⟩,hps3⟩:=hps;have hps3:ps.length≤c.n:=Nat.le_of_ble_eq_true hps3;refine⟨⟨fn,hf,by rw[hb];rfl,hname⟩,fun args co hsp hok G w vals hlen hglob hreps=>?_⟩;unfold fnSpec at hsp;generalize hal:Nat.beq args.length ps.length=b at hsp;cases b with
 |false=>cases hsp
 |true =>
  have hal:=Nat.eq_of_beq_eq_true hal;simp only[cond_true] at hsp;split at hsp
  ·rename_i x hx;injection hsp with hsp
   subst hsp;have hokx:ok x:=hok _ (List.mem_cons_self ..);refine callsIn_wide.1 (callsIn_of_wp (n:=0) hf hb trivial ?_);generalize hact:({ tmps:=vals.toArray++Array.replicate (fn.ntmps-vals.toArray.size) undef,defers:=[] }:Act)=act;have hget:∀ s,s<vals.length→act.tmps.getD s undef=vals.getD s undef:=by
    intro s hs;rw[← hact];simp[Array.getElem?_append,hs]
   have hcn:=hc.n;have hvc:vNo<zA7:=by decide
   have hrel:Rel c.n G.χ w (zB7 ps x) act w G:=by
    refine⟨?_,by rw[← hact],fun s=>?_,⟨rfl,rfl,rfl,Nat.le_refl _,fun _ _ _=>rfl,fun _ _ _ _=>⟨rfl,rfl⟩⟩,hglob⟩
    ·rw[← hact];simp;omega
    ·have key:zA G w #[] (some s) ((zB7 ps x).get s) (act.tmps.getD s undef):=by
      refine zI2 hx zP7 s G w #[] _ ?_;by_cases hs:s<args.length
      ·have h1:=yL0 (s:=s) (args:=args) (i:=0) (by omega) (by omega) (by omega);simp only[Nat.sub_zero] at h1;have h2:vals[s]?=some (vals.getD s undef):=by simp[List.getElem?_eq_getElem (show s<vals.length by omega)]
       rw[hget s (by omega)];exact hreps s _ _ h1.symm h2
      ·rw[xU6 (.inl (by omega))];simp only[zA]
     refine zO3 (fun k hk=>?_) key;have:=zY1 (q:=fun A=>A.hasOpt=false) rfl (S:=zB7 ps x) (s:=s) xM0;rw[zM this] at hk;cases hk
   refine wpIn_mono (hrun x hokx none G.χ w (fun i=>act.tmps.getD i undef) act w G hrel (fun i _=>rfl)) fun e a' w' hP=>?_;obtain⟨he,⟨G',hR⟩,hk⟩:=hP;obtain⟨v,hv1,hv2⟩:=yX4 hc hR (hres x);have hfinal:a'.defers=[]∧∃ v,(results fn a'.tmps).run P w'=.ok v w'∧∃ v' G',Ending.returned v=.returned v'∧Frame0 G.χ w G'.χ w'∧zA G' w' #[] none (rs.mk (F x)) v' ∧
     (∀ (i:Nat) k A u,(i,k)∈mkO os (o x)→args[i]?=some A→vals[i]?=some u →
      (∀ τ k0,A=.box τ k0→zA G' w' #[] (some i) (.box τ k) u∧G'.β i=G.β i)∧(zG0 A=false→zA G' w' #[] none k u))∧∀ k B,(k,B)∈xU5 os (o x)→zA G' w' #[] (some k) B undef:=by
    refine⟨hR.defers,v,hv1,v,G',rfl,hR.frame,?_,?_,?_⟩
    ·refine zO3 (fun k hk=>?_) (zE5 (hpar x) hv2);rw[zM yG5] at hk;cases hk
    ·intro i k A u hi ha hu;obtain⟨hiv,s',y,h1,rfl,h3⟩:=xU7 (hout x) hi;simp only[wG,List.all_eq_true,Bool.or_eq_true,Bool.and_eq_true] at hps2;have h4:=(hps2 _ h1).resolve_left (fun h=>absurd (Nat.le_of_ble_eq_true h) (Nat.not_le.2 hiv));simp only at h4;have hrep:=zE5 h3 (hR.reps i);have hilt:i<args.length:=(List.getElem?_eq_some_iff.1 ha).1;have hkeep:a'.tmps.getD i undef=u:=by
      obtain⟨j,hj,hjb⟩:=List.any_eq_true.1 h4.1;have:=Nat.eq_of_beq_eq_true hjb;subst this;rw[hk i hj];show act.tmps.getD i undef=u;rw[hget i (by omega)];simp[hu]
     rw[hkeep] at hrep;have hrep:zA G' w' #[] (some i) (s'.mk y) u:=zO3 (fun k hk=>by rw[zM yG5] at hk;cases hk) hrep;obtain⟨p,hpi⟩:∃ p,ps[i]?=some (i,p)∧∃ z,p.parse A=some z:=by
      have hil:i<ps.length:=by omega
      obtain⟨⟨j,p⟩,hpi⟩:∃ q,ps[i]?=some q:=⟨_,List.getElem?_eq_getElem hil⟩;have hj:=wF2 hps1 hpi;simp only[Nat.zero_add] at hj;subst hj;obtain⟨z,hz⟩:=yO5 hx hpi;have h1:=yL0 (s:=j) (args:=args) (i:=0) (by omega) (by omega) (by omega);simp only[Nat.sub_zero,ha,Option.some.injEq] at h1;rw[h1] at hz;exact⟨p,hpi,z,hz⟩
     obtain⟨hpi,z,hz⟩:=hpi;rw[hpi] at h4;constructor
     ·rintro τ k0 rfl;rcases xU8 hz rfl with (rfl|⟨_,_,rfl⟩)|⟨s2,rfl⟩
      ·simp at h4
      ·simp at h4
      ·simp only at h4;cases s' with
       |box τ' s3 =>
        have:=Ty.eq_of_beq h4.2;subst this;refine⟨hrep,?_⟩;have h0:=hreps i _ _ ha hu;simp only[Sh.mk,zA] at h0 hrep;have:=(h0.1 hiv).symm.trans (hrep.1 hiv);simp only[Value.pointer.injEq,Option.some.injEq,Addr.mk.injEq] at this;exact this.1.symm
       |_=>simp at h4
     ·intro hA;cases s' with
      |box τ' s3 =>
       exfalso;split at h4
       ·rename_i j τ2 s2 e;simp only[Option.some.injEq,Prod.mk.injEq] at e;obtain⟨rfl,rfl⟩:=e;simp only[Sh.parse] at hz;cases A<;>simp[xU2,zG0] at hz hA
       all_goals simp[xD0] at h4
      |may τ' s3 =>
       exfalso;split at h4
       all_goals simp[xD0] at h4
      |_=>exact zP1 (by simpa only[wF1] using hrep) (by intro τ c e;simp only[wF1,Sh.mk] at e;cases e) (by intro e;simp only[wF1,Sh.mk] at e;cases e) (by intro _ _ _ e;simp only[wF1,Sh.mk] at e;cases e)
    ·intro k B hk;obtain⟨hkv,s',y,rfl,hy⟩:=xM (hout x) hk;have hrep:=zE5 hy (hR.reps k);have hun:a'.tmps.getD k undef=undef:=by
      have hsz:=hR.len;have hkn:¬ k<a'.tmps.size:=by rw[hsz];exact fun h=>hkv (Nat.lt_of_lt_of_le h hc.n)
      simp[Array.getElem?_eq_none (Nat.le_of_not_lt hkn)]
     rw[hun] at hrep;exact zO3 (fun k hk=>by rw[zM yG5] at hk;cases hk) hrep
   rcases he with rfl|rfl
   ·exact hfinal
   ·exact hfinal
  ·cases hsp
theorem xM1 (hc:CtxOk P c)(hm:P.follows .mixedOrders=true){f:Nat}{fn:Func}{code:Code}(hf:P.funcs[f]?=some fn)(hb:fn.body=some code)(hname:fn.name≠"runtime.NumGoroutine") (hn:fn.ntmps=c.n)
  (hL:zJ4 P c code) (hw:zC8 c.keep code=true){ps:List (Nat×Sh)}{rs:Sh}{os:List (Nat×Sh)}{ok:zB3 ps→Prop}{F:zB3 ps→rs.den}{o:zB3 ps→zT8 os}
  {oks:zB3 ps→List Prop}{comps:zB3 ps→List Comp}{d:zB3 ps→St}{res:zB3 ps→AVal}(hps:(wD1 0 ps&&wG ps c.keep os&&Nat.ble ps.length c.n)=true)
  (heval:∀ x,eval c code (zB7 ps x)=some ⟨oks x,comps x⟩) (hoks:∀ x,ok x→xG9 (oks x))
  (hfin:∀ x,xD (zB7 ps x) (comps x)=some (d x)) (hres:∀ x,zK9 c (d x++zB7 ps x) fn.results.toList=some (res x)) (hpar:∀ x,rs.parse (res x)=some (F x))
  (hout:∀ x,zO os (d x++zB7 ps x)=some (o x)):SpecOk P f (fnSpec ps rs os ok F o):=
 yR8 hc hf hb hname hn (D:=fun x=>d x++zB7 ps x) hps (fun x hx rd χ0 w0 vs a w G hR hk=>wpIn_mono (zV9 hc hm hL hw (heval x) (AllP_iff.1 (hoks x hx)) rd χ0 w0 vs a w G hR hk) fun _ _ _ hP=>⟨(yR7 (hfin x) hP.1).1,(yR7 (hfin x) hP.1).2,hP.2⟩) hres hpar hout
end Go.Am
namespace Go.Am
open Go Go.RowKit
variable {gtab:GlobTab}{P:Program}{c:Ctx}
def wG0 (H:St):List Comp→List (List (Nat×Sh))→Option (List Comp)
 |[],[]=>some []
 |cp::r,l::s=>match zC7 l (cp.d++H),wG0 H r s with
  |some z,some q=>some (⟨cp.kind,cp.g,wB5 l z++yX2⟩::q)
  |_,_=>none
 |_,_=>none
def wI9 (H:St)(l:List Comp)(ls:List (List (Nat×Sh))):Option (List Comp):=
 match wG0 H l ls with
 |some [q]=>some [⟨q.kind,none,q.d⟩]
 |r=>r
def yD2 [GlobTab] (c:Ctx)(body:Code)(ly lx:List (Nat×Sh))(les:List (List (Nat×Sh)))(y:zB3 ly)(x:zB3 lx):Option (Prop×Bool×zB3 ly×zB3 lx×List Comp):=
 match eval c body (zF0 ly lx y x) with
 |none=>none
 |some o=>match zA6 0 o.comps with
  |none=>none
  |some m=>match zC7 ly (m.d++zF0 ly lx y x),zC7 lx (m.d++zF0 ly lx y x),wI9 (zF0 ly lx y x) (zJ5 0 o.comps) les with
   |some y',some x',some es=>some (xG9 o.ok,tk m.g,y',x',es)
   |_,_,_=>none
def xU9 (ly lx:List (Nat×Sh))(g:zB3 ly→zB3 lx→Bool)(next:zB3 ly→zB3 lx→zB3 lx)(ok:zB3 ly→zB3 lx→Prop)(es:zB3 ly→zB3 lx→List Comp)(S:St):Option Out:=
 match zC7 ly S,zC7 lx S with
 |some y,some x=>some ⟨[wB6 (g y) (next y) (ok y) x],es y (zD9 (g y) (next y) x)⟩
 |_,_=>none
theorem xD1 {H:St}{k:Nat}:∀ {l:List Comp}{ls:List (List (Nat×Sh))}{es:List Comp},wG0 H l ls=some es →
  (zA6 k es=none∧zA6 k l=none)∨∃ cp cp',zA6 k l=some cp∧zA6 k es=some cp'∧cp'.g=cp.g∧St.hasCut cp'.d=true∧Weaker cp'.d (cp.d++H):=by
 intro l
 induction l with
 |nil=>intro ls es h;cases ls<;>simp[wG0] at h;subst h;exact .inl ⟨rfl,rfl⟩
 |cons cp r ih =>
  intro ls es h;cases ls with
  |nil=>grind [wG0]
  |cons s ls =>
   simp only[wG0] at h;split at h
   ·rename_i z q hz hq;injection h with h
    subst h;simp only[zA6];cases Nat.beq cp.kind k with
    |true=>exact .inr ⟨cp,_,rfl,rfl,rfl,zJ3 rfl,zI2 hz zP7⟩
    |false=>grind
   grind
theorem xV {H:St}{k:Nat}{l:List Comp}{ls:List (List (Nat×Sh))}{es:List Comp}(h:wI9 H l ls=some es) :
  (zA6 k es=none∧zA6 k l=none)∨∃ cp cp',zA6 k l=some cp∧zA6 k es=some cp'∧(cp'.g=cp.g∨(cp'.g=none∧∀ k' c',zA6 k' l=some c'→k'=k))∧St.hasCut cp'.d=true∧Weaker cp'.d (cp.d++H):=by
 unfold wI9 at h;split at h
 ·rename_i q hq;have hone:∀ k',zA6 k' [q]=none→zA6 k' l=none:=fun k' h'=>by
   grind [xD1]
  rcases xD1 (k:=k) hq with ⟨h1,h2⟩ | ⟨cp,cp',h1,h2,h3,h4,h5⟩
  ·grind [zA6]
  ·right;have hqk:=h2;simp only[zA6] at hqk;cases hb:Nat.beq q.kind k with
   |false=>grind
   |true =>
    simp[hb] at hqk;subst hqk;refine⟨cp,⟨q.kind,none,q.d⟩,h1,by grind [zA6],.inr ⟨rfl,fun k' c' hf=>?_⟩,h4,h5⟩;cases hb':Nat.beq q.kind k'<;>simp_all [zA6]
 grind [xD1]
theorem wB7 (hc:CtxOk P c)(hm:P.follows .mixedOrders=true){body:Code}(hL:zJ4 P c body)(hw:zC8 c.keep body=true){ly lx:List (Nat×Sh)}{les:List (List (Nat×Sh))}{g:zB3 ly→zB3 lx→Bool}{next:zB3 ly→zB3 lx→zB3 lx}
  {ok:zB3 ly→zB3 lx→Prop}{es:zB3 ly→zB3 lx→List Comp}(hsum:∀ y x,yD2 c body ly lx les y x=some (ok y x,g y x,y,next y x,es y x)) :
  ∀ S out,xU9 ly lx g next ok es S=some out→xU3 P c (.loop body) S out:=by
 intro S out h hok rd χ0 w0 vs a w G hR hk;unfold xU9 at h;split at h
 ·rename_i y x hy hx;injection h with h
  subst h;have hopen:∀ y x,∃ o m,eval c body (zF0 ly lx y x)=some o∧zA6 0 o.comps=some m∧xG9 o.ok=ok y x∧tk m.g=g y x∧zC7 ly (m.d++zF0 ly lx y x)=some y∧zC7 lx (m.d++zF0 ly lx y x)=some (next y x)∧wI9 (zF0 ly lx y x) (zJ5 0 o.comps) les=some (es y x):=by
   intro y x;have:=hsum y x;unfold yD2 at this;split at this
   ·cases this
   ·rename_i o ho;split at this
    ·cases this
    ·rename_i m hm;split at this
     ·rename_i y' x' es' h1 h2 h3;simp only[Option.some.injEq,Prod.mk.injEq] at this;obtain⟨e1,e2,rfl,rfl,rfl⟩:=this;exact⟨o,m,ho,hm,e1,e2,h1,h2,h3⟩
     ·cases this
  let O:zB3 ly→zB3 lx→Out:=fun y x=>(eval c body (zF0 ly lx y x)).getD ⟨[],[]⟩
  have hO:∀ y x,eval c body (zF0 ly lx y x)=some (O y x):=by
   intro y x;obtain⟨o,m,h1,_⟩:=hopen y x;simp only[O,h1,Option.getD_some]
  have hspec:yG7 ly lx g next ok (fun y x=>(O y x).comps) S=some ⟨[wB6 (g y) (next y) (ok y) x],zY2 (zF0 ly lx y (zD9 (g y) (next y) x)) (O y (zD9 (g y) (next y) x)).comps⟩:=by
   unfold yG7;rw[hy,hx]
  have hsnd:=xL9 hc hm hL hw (g:=g) (next:=next) (ok:=ok) (comps:=fun y x=>(O y x).comps) (oks:=fun y x=>(O y x).ok) hO (fun y x hx=>by
   obtain⟨o,m,h1,h2,h3,_⟩:=hopen y x;have:=hO y x;rw[h1] at this;injection this with this
   rw[← this,h3];exact hx) (fun y x=>by
   obtain⟨o,m,h1,h2,h3,h4,h5,h6,h7⟩:=hopen y x;have:=hO y x;rw[h1] at this;injection this with this
   exact⟨m,by rw[← this];exact h2,h4,h5,h6⟩) S _ hspec hok rd χ0 w0 vs a w G hR hk
  refine wpIn_mono hsnd fun e a' w' hP=>⟨?_,hP.2⟩;obtain⟨k,cp,G',q1,q2,q3,q4,q5⟩:=hP.1;obtain⟨o,m,h1,h2,h3,h4,h5,h6,h7⟩:=hopen y (zD9 (g y) (next y) x)
  have hoo:=hO y (zD9 (g y) (next y) x)
  rw[h1] at hoo;injection hoo with hoo
  have hfind:∀ k',zA6 k' (zY2 (zF0 ly lx y (zD9 (g y) (next y) x)) (O y (zD9 (g y) (next y) x)).comps)=(zA6 k' (zJ5 0 o.comps)).map fun cp=>⟨cp.kind,cp.g,cp.d++zF0 ly lx y (zD9 (g y) (next y) x)⟩:=by
   intro k';unfold zY2;rw[yB1 (f:=fun cp=>⟨cp.kind,cp.g,cp.d++zF0 ly lx y (zD9 (g y) (next y) x)⟩) (fun _=>rfl),hoo]
  rw[hfind] at q2;rcases xV (k:=k) h7 with ⟨_,e2⟩ | ⟨c1,c2,e1,e2,e3,e4,e5⟩
  ·rw[e2] at q2;cases q2
  ·rw[e1] at q2;simp only[Option.map_some,Option.some.injEq] at q2;subst q2;have htk:tk c2.g=true:=by
    rcases e3 with e3|⟨e3,_⟩
    ·rw[e3];exact q3
    ·rw[e3];rfl
   refine⟨k,c2,G',q1,e2,htk,fun k' c' hf ht=>?_,?_⟩
   ·rcases xV (k:=k') h7 with ⟨f1,_⟩ | ⟨d1,d2,f1,f2,f3,_,_⟩
    ·rw[f1] at hf;cases hf
    ·rw[f2] at hf;injection hf with hf
     subst hf;rcases f3 with f3|⟨_,f3⟩
     ·refine q4 k' ⟨d1.kind,d1.g,d1.d++zF0 ly lx y (zD9 (g y) (next y) x)⟩ (by rw[hfind,f1];rfl) ?_
      rw[f3] at ht;exact ht
     ·exact (f3 k c1 e1).symm
   ·have r1:Rel c.n χ0 w0 (c1.d++zF0 ly lx y (zD9 (g y) (next y) x)) a' w' G':=yA8 (fun s=>(xC8 (zJ3 xG1)).symm) q5
    exact yA8 (fun s=>xC8 e4) (e5.rel r1)
 ·cases h
def xD2 [GlobTab] (c:Ctx)(code:Code)(rv:List ResultVar)(ps:List (Nat×Sh))(rs:Sh)(os:List (Nat×Sh))(x:zB3 ps):Option (Prop×rs.den×zT8 os):=
 match eval c code (zB7 ps x) with
 |none=>none
 |some o=>match xD (zB7 ps x) o.comps with
  |none=>none
  |some d=>match zK9 c (d++zB7 ps x) rv,zO os (d++zB7 ps x) with
   |some r,some z=>(match rs.parse r with|some v=>some (xG9 o.ok,v,z)|none=>none)
   |_,_=>none
theorem wB8 (hc:CtxOk P c)(hm:P.follows .mixedOrders=true){f:Nat}{fn:Func}{code:Code}(hf:P.funcs[f]?=some fn)(hb:fn.body=some code)(hname:fn.name≠"runtime.NumGoroutine") (hn:fn.ntmps=c.n)
  (hL:zJ4 P c code) (hw:zC8 c.keep code=true){ps:List (Nat×Sh)}{rs:Sh}{os:List (Nat×Sh)}{ok:zB3 ps→Prop}{F:zB3 ps→rs.den}{o:zB3 ps→zT8 os}
  (hps:(wD1 0 ps&&wG ps c.keep os&&Nat.ble ps.length c.n)=true){rv:List ResultVar}(hrv:fn.results.toList=rv)
  (hsum:∀ x,xD2 c code rv ps rs os x=some (ok x,F x,o x)):SpecOk P f (fnSpec ps rs os ok F o):=by
 have hopen:∀ x,∃ out d r,eval c code (zB7 ps x)=some out∧xD (zB7 ps x) out.comps=some d∧zK9 c (d++zB7 ps x) fn.results.toList=some r∧rs.parse r=some (F x)∧zO os (d++zB7 ps x)=some (o x)∧xG9 out.ok=ok x:=by
  intro x;have:=hsum x;unfold xD2 at this
  grind
 let O:zB3 ps→Out:=fun x=>(eval c code (zB7 ps x)).getD ⟨[],[]⟩
 let D:zB3 ps→St:=fun x=>(xD (zB7 ps x) (O x).comps).getD []
 let R:zB3 ps→AVal:=fun x=>(zK9 c (D x++zB7 ps x) fn.results.toList).getD .junk
 have hO:∀ x,eval c code (zB7 ps x)=some (O x)∧xD (zB7 ps x) (O x).comps=some (D x)∧zK9 c (D x++zB7 ps x) fn.results.toList=some (R x)∧rs.parse (R x)=some (F x)∧zO os (D x++zB7 ps x)=some (o x)∧xG9 (O x).ok=ok x:=by
  intro x;obtain⟨out,d,r,h1,h2,h3,h4,h5,h6⟩:=hopen x
  grind
 exact xM1 hc hm hf hb hname hn hL hw (oks:=fun x=>(O x).ok) (comps:=fun x=>(O x).comps) (d:=D) (res:=R) hps (fun x=>(hO x).1) (fun x hx=>by grind) (fun x=>(hO x).2.1) (fun x=>(hO x).2.2.1) (fun x=>(hO x).2.2.2.1) (fun x=>(hO x).2.2.2.2.1)
end Go.Am
namespace Go.Am
open Go Go.RowKit
variable {gtab:GlobTab}{P:Program}{c:Ctx}
def zG9:Code→List Code
 |.seq a b=>zG9 a++zG9 b
 |.cond _ a b=>zG9 a++zG9 b
 |.block _ a=>zG9 a
 |.loop a=>[a]
 |_=>[]
def wJ9 (cd:Code)(i:Nat):Code:=(zG9 cd).getD i .skip
def xD3 [GlobTab] (P:Program)(c:Ctx)(b:Code):Prop:=∀ S out,look (fun _=>none) c.loops (zE b) S=some out→xU3 P c (.loop b) S out
def zO0 [GlobTab] (P:Program)(c:Ctx):List Code→Prop
 |[]=>True
 |b::r=>xD3 P c b∧zO0 P c r
theorem yB3:∀ {l r:List Code},zO0 P c (l++r)→zO0 P c l∧zO0 P c r:=by
 intro l
 induction l with
 |nil=>intro r h;exact⟨trivial,h⟩
 |cons b l ih=>intro r h;have:=ih h.2;exact⟨⟨h.1,this.1⟩,this.2⟩
theorem yL1:∀ {code:Code}{bs:List Code},zG9 code=bs→zO0 P c bs→zJ4 P c code:=by
 intro code
 induction code with
 |seq a b iha ihb=>intro bs he h;subst he;simp only[zG9] at h;have:=yB3 h;exact⟨iha rfl this.1,ihb rfl this.2⟩
 |cond x a b iha ihb=>intro bs he h;subst he;simp only[zG9] at h;have:=yB3 h;exact⟨iha rfl this.1,ihb rfl this.2⟩
 |block id a ih=>intro bs he h;subst he;simp only[zG9] at h;exact ih rfl h
 |loop a _=>intro bs he h;subst he;simp only[zG9] at h;exact h.1
 |_=>intro bs _ _;trivial
def xV0 [GlobTab] (P:Program):List (Nat×Spec)→Prop
 |[]=>True
 |(f,sp)::r=>SpecOk P f sp∧xV0 P r
theorem xG2:∀ {l:List (Nat×Spec)},xV0 P l→∀ f sp,(f,sp)∈l→SpecOk P f sp:=by
 intro l
 induction l with
 |nil=>intro _ f sp h;cases h
 |cons e r ih =>
  intro h f sp hm;obtain⟨g,s⟩:=e;rcases List.mem_cons.1 hm with e|hm
  ·simp only[Prod.mk.injEq] at e;obtain⟨rfl,rfl⟩:=e;exact h.1
  ·exact ih h.2 f sp hm
def xV1 [GlobTab] (P:Program):List (Nat×(List AVal→Option (List Prop×AVal)))→Prop
 |[]=>True
 |(f,e)::r=>xQ0 P f e∧xV1 P r
theorem xV2:∀ {l:List (Nat×(List AVal→Option (List Prop×AVal)))},xV1 P l→∀ f e,(f,e)∈l→xQ0 P f e:=by
 intro l
 induction l with
 |nil=>intro _ f e h;cases h
 |cons q r ih =>
  intro h f e hm;obtain⟨g,e'⟩:=q;rcases List.mem_cons.1 hm with hm|hm
  ·injection hm with e1 e2;subst e1;subst e2;exact h.1
  ·exact ih h.2 f e hm
theorem wH5 (ht:zM1 P c.tys=true)(hmp:(yJ4 P c.maps&&yY4 P c.fts)=true)(hf:xV0 P c.fns)(he:xV1 P c.exts)(hn:Nat.ble c.n vNo=true)(hcl:c.clones=[]:=by rfl):CtxOk P c:=⟨ht,xG2 hf,xV2 he,((Bool.and_eq_true _ _).mp hmp).1,((Bool.and_eq_true _ _).mp hmp).2,Nat.le_of_ble_eq_true hn,fun f k h=>by rw[hcl] at h;cases h⟩
theorem wJ (ht:zM1 P c.tys=true)(hmp:(yJ4 P c.maps&&yY4 P c.fts)=true)(hf:xV0 P c.fns)(he:c.exts=[])(hn:Nat.ble c.n vNo=true)(hcl:c.clones=[]:=by rfl):CtxOk P c:=⟨ht,xG2 hf,(fun f e h=>by rw[he] at h;cases h),((Bool.and_eq_true _ _).mp hmp).1,((Bool.and_eq_true _ _).mp hmp).2,Nat.le_of_ble_eq_true hn,fun f k h=>by rw[hcl] at h;cases h⟩
theorem wB9 (hc:CtxOk P c)(hm:P.follows .mixedOrders=true){body:Code}{bs:List Code}(hb:zG9 body=bs)(hL:zO0 P c bs)(hw:zC8 c.keep body=true){ly lx:List (Nat×Sh)}{les:List (List (Nat×Sh))}{g:zB3 ly→zB3 lx→Bool}{next:zB3 ly→zB3 lx→zB3 lx}
  {ok:zB3 ly→zB3 lx→Prop}{es:zB3 ly→zB3 lx→List Comp}(hl:look (fun _=>none) c.loops (zE body)=xU9 ly lx g next ok es)
  (hsum:∀ y x,yD2 c body ly lx les y x=some (ok y x,g y x,y,next y x,es y x)):xD3 P c body:=by
 intro S out h;rw[hl] at h;exact wB7 hc hm (yL1 hb hL) hw hsum S out h
theorem wC (hc:CtxOk P c)(hm:P.follows .mixedOrders=true){f:Nat}{fn:Func}{code:Code}(hf:P.funcs[f]?=some fn)(hb:fn.body=some code)(hname:fn.name≠"runtime.NumGoroutine") (hn:fn.ntmps=c.n)
  {bs:List Code}(hbs:zG9 code=bs) (hL:zO0 P c bs) (hw:zC8 c.keep code=true){ps:List (Nat×Sh)}{rs:Sh}{os:List (Nat×Sh)}{ok:zB3 ps→Prop}{F:zB3 ps→rs.den}{o:zB3 ps→zT8 os}
  (hps:(wD1 0 ps&&wG ps c.keep os&&Nat.ble ps.length c.n)=true){rv:List ResultVar}(hrv:fn.results.toList=rv)
  (hsum:∀ x,xD2 c code rv ps rs os x=some (ok x,F x,o x)):SpecOk P f (fnSpec ps rs os ok F o):=
 wB8 hc hm hf hb hname hn (yL1 hbs hL) hw hps hrv hsum
theorem wG1 {f:Nat}{fn:Func}(hf:P.funcs[f]?=some fn)(hb:fn.body.isSome=true)(hname:fn.name≠"runtime.NumGoroutine"){ps:List (Nat×Sh)}{rs:Sh}{os:List (Nat×Sh)}{F:zB3 ps→rs.den}{o:zB3 ps→zT8 os} :
  SpecOk P f (fnSpec ps rs os (fun _=>False) F o):=by
 refine⟨⟨fn,hf,hb,hname⟩,fun args co hsp hok=>?_⟩;unfold fnSpec at hsp;generalize Nat.beq args.length ps.length=b at hsp;cases b with
 |false=>cases hsp
 |true =>
  simp only[cond_true] at hsp;split at hsp
  ·injection hsp with hsp;subst hsp;exact (hok _ (List.mem_cons_self ..)).elim
  ·cases hsp
theorem wH6 {f:Nat}{ps:List (Nat×Sh)}{rs:Sh}{os:List (Nat×Sh)}{R:Nat→zB3 ps→Prop×rs.den×zT8 os}(h:∀ k,SpecOk P f (fnSpec ps rs os (fun x=>(R k x).1) (fun x=>(R k x).2.1) (fun x=>(R k x).2.2)))(m:zB3 ps→Nat) :
  SpecOk P f (fnSpec ps rs os (fun x=>(R (m x) x).1) (fun x=>(R (m x) x).2.1) (fun x=>(R (m x) x).2.2)):=by
 refine⟨(h 0).1,fun args co hsp hok=>?_⟩;unfold fnSpec at hsp;generalize hb:Nat.beq args.length ps.length=b at hsp;cases b with
 |false=>cases hsp
 |true =>
  simp only[cond_true] at hsp;split at hsp
  ·rename_i x hx;refine (h (m x)).2 args co ?_ hok;unfold fnSpec;rw[hb,cond_true,hx];exact hsp
  ·cases hsp
@[reducible] def vI:Sh:=.val (.int .i64)
@[reducible] def vB:Sh:=.val .bool
@[reducible] def vS:Sh:=.val .str
def ex (k:Nat)(g:Option Bool)(l:List (Nat×Sh))(v:zB3 l):Comp:=⟨k,g,wB5 l v++yX2⟩
@[reducible] def Cx (tys:List (Nat×Ty)) (fns:List (Nat×Spec)) (loops:List (Nat×(St→Option Out))) (gh:List (Nat×List (Nat×Nat×Nat×Nat))) (wrap:Bool) (n:Nat) (keep wr:List Nat):Ctx:=
 {tys,fns,loops,gh,wrap,n,keep,wr }
theorem wL4 (hc:CtxOk P c)(hm:P.follows .mixedOrders=true){body:Code}{sp:St→Option Out}{ly lx:List (Nat×Sh)}{g:zB3 ly→zB3 lx→Bool}{next:zB3 ly→zB3 lx→zB3 lx}{ok:zB3 ly→zB3 lx→Prop}{es:zB3 ly→zB3 lx→List Comp}
  (hs:sp=xU9 ly lx g next ok es) (les:List (List (Nat×Sh))){bs:List Code}(hb:zG9 body=bs) (hL:zO0 P c bs) (hw:zC8 c.keep body=true) (hl:look (fun _=>none) c.loops (zE body)=sp)
  (hsum:∀ y x,yD2 c body ly lx les y x=some (ok y x,g y x,y,next y x,es y x)):xD3 P c body:=by
 subst hs;exact wB9 hc hm hb hL hw hl hsum
def xD4 (fn:Func)(c:Ctx)(ps:List (Nat×Sh))(os:List (Nat×Sh)):Bool:=
 fn.body.isSome&&(!(fn.name=="runtime.NumGoroutine")&&(Nat.beq fn.ntmps c.n&&(zC8 c.keep (fn.body.getD .skip)&&(wD1 0 ps&&wG ps c.keep os&&Nat.ble ps.length c.n))))
theorem wL5 (hc:CtxOk P c)(hm:P.follows .mixedOrders=true){f:Nat}{fn:Func}(hf:P.funcs[f]?=some fn){ps:List (Nat×Sh)}{rs:Sh}{os:List (Nat×Sh)}{ok:zB3 ps→Prop}{F:zB3 ps→rs.den}{o:zB3 ps→zT8 os}
  (hk:xD4 fn c ps os=true){bs:List Code}(hbs:zG9 (fn.body.getD .skip)=bs) (hL:zO0 P c bs) (hsum:∀ x,xD2 c (fn.body.getD .skip) fn.results.toList ps rs os x=some (ok x,F x,o x)):SpecOk P f (fnSpec ps rs os ok F o):=by
 simp only[xD4,Bool.and_eq_true,Bool.not_eq_true',beq_eq_false_iff_ne,ne_eq] at hk;obtain⟨h1,h2,h3,h4,h5⟩:=hk;obtain⟨code,hb⟩:=Option.isSome_iff_exists.1 h1;rw[hb,Option.getD_some] at h4 hbs hsum;exact wC hc hm hf hb h2 (Nat.eq_of_beq_eq_true h3) hbs hL h4 (by simpa only[Bool.and_eq_true] using h5) rfl hsum
theorem zY3:∀ {l r:List Code},zO0 P c l→zO0 P c r→zO0 P c (l++r)
 |[],_,_,h=>h
 |_::_,_,⟨h1,h2⟩,h=>⟨h1,zY3 h2 h⟩
structure Li where
 ly:List (Nat×Sh)
 lx:List (Nat×Sh)
 g:zB3 ly→zB3 lx→Bool
 next:zB3 ly→zB3 lx→zB3 lx
 ok:zB3 ly→zB3 lx→Prop
 es:zB3 ly→zB3 lx→List Comp
 les:List (List (Nat×Sh))
def Li.sp (l:Li):St→Option Out:=xU9 l.ly l.lx l.g l.next l.ok l.es
def zO1:Code→List Code
 |.seq a b=>zO1 a++zO1 b
 |.cond _ a b=>zO1 a++zO1 b
 |.block _ a=>zO1 a
 |.loop a=>a::zO1 a
 |_=>[]
abbrev wK3:Type:=Option (Σ l:Li,Bool×(St→Option Out)×(zB3 l.ly→zB3 l.lx→Option (Prop×Bool×zB3 l.ly×zB3 l.lx×List Comp)))
def wC0 [GlobTab] (c:Ctx):List Code→List (Nat×Li)→List wK3
 |b::bs,(_,l)::ls=>some ⟨l,zC8 c.keep b,look (fun _=>none) c.loops (zE b),fun y x=>yD2 c b l.ly l.lx l.les y x⟩::wC0 c bs ls
 |_::_,[]=>[none]
 |[],_=>[]
def wC1:List (Nat×Li)→List wK3
 |[]=>[]
 |(_,l)::ls=>some ⟨l,true,l.sp,fun y x=>some (l.ok y x,l.g y x,y,l.next y x,l.es y x)⟩::wC1 ls
def wK4 [GlobTab] (c:Ctx)(b:Code):Prop:=∃ l:Li,zC8 c.keep b=true∧look (fun _=>none) c.loops (zE b)=l.sp∧∀ y x,yD2 c b l.ly l.lx l.les y x=some (l.ok y x,l.g y x,y,l.next y x,l.es y x)
theorem xG3:∀ {bs:List Code}{ls:List (Nat×Li)},wC0 c bs ls=wC1 ls→∀ b∈bs,wK4 c b
 |[],_,_,_,h=>nomatch h
 |_::_,[],h,_,_=>by cases h
 |b::bs,(_,l)::ls,h,b',hb=>by
  simp only[wC0,wC1,List.cons.injEq,Option.some.injEq,Sigma.mk.injEq,heq_eq_eq,Prod.mk.injEq,true_and] at h;obtain⟨⟨h1,h2,h3⟩,h4⟩:=h;rcases List.mem_cons.1 hb with rfl|hb
  ·exact⟨l,h1,h2,fun y x=>congrFun (congrFun h3 y) x⟩
  ·exact xG3 h4 b' hb
theorem xV3 (hc:CtxOk P c)(hm:P.follows .mixedOrders=true):∀ {code:Code},(∀ b∈zO1 code,wK4 c b)→zO0 P c (zG9 code):=by
 intro code
 induction code with
 |seq a b iha ihb=>intro h;exact zY3 (iha fun x hx=>h x (List.mem_append_left _ hx)) (ihb fun x hx=>h x (List.mem_append_right _ hx))
 |cond x a b iha ihb=>intro h;exact zY3 (iha fun x hx=>h x (List.mem_append_left _ hx)) (ihb fun x hx=>h x (List.mem_append_right _ hx))
 |block id a ih=>intro h;exact ih h
 |loop a ih =>
  intro h;obtain⟨l,h1,h2,h3⟩:=h a (List.mem_cons_self ..);exact⟨wL4 hc hm rfl l.les rfl (ih fun x hx=>h x (List.mem_cons_of_mem _ hx)) h1 h2 h3,trivial⟩
 |_=>intro _;trivial
structure Fb [GlobTab] (P:Program) where
 n:Nat
 s:Spec
 h:SpecOk P n s
def Fb.l [GlobTab]{P:Program}:List (Fb P)→List (Nat×Spec)
 |[]=>[]
 |b::r=>(b.n,b.s)::Fb.l r
theorem Fb.all:∀ l:List (Fb P),xV0 P (Fb.l l)
 |[]=>trivial
 |b::r=>⟨b.h,Fb.all r⟩
def Li.l:List (Nat×Li)→List (Nat×(St→Option Out))
 |[]=>[]
 |(k,l)::r=>(k,l.sp)::Li.l r
theorem wL6 (hc:CtxOk P c)(hm:P.follows .mixedOrders=true){f:Nat}{fn:Func}(hf:P.funcs[f]?=some fn){ps:List (Nat×Sh)}{rs:Sh}{os:List (Nat×Sh)}{ok:zB3 ps→Prop}{F:zB3 ps→rs.den}{o:zB3 ps→zT8 os}
  (hk:xD4 fn c ps os=true){ls:List (Nat×Li)}(hl:wC0 c (zO1 (fn.body.getD .skip)) ls=wC1 ls) (hsum:∀ x,xD2 c (fn.body.getD .skip) fn.results.toList ps rs os x=some (ok x,F x,o x)):SpecOk P f (fnSpec ps rs os ok F o):=
 wL5 hc hm hf hk rfl (xV3 hc hm (xG3 hl)) hsum
def wL7 (k:IntKind)(a b:Int):Int:=yG9 k (fun x y=>x &&& y) a b
def ior (k:IntKind)(a b:Int):Int:=yG9 k (fun x y=>x ||| y) a b
def wL8 (a b:Int)(n:Nat):Int:=a.fdiv (2 ^ (min b.toNat n))
def nth {α:Type}(l:List α)(i:Int)(d:α):α:=l.getD i.toNat d
def InB (i n:Int):Prop:=0≤i∧i<n
def len {α:Type}(l:List α):Int:=(l.length:Int)
def wK5 (s:List UInt8)(i:Int):Int:=((s.getD i.toNat 0).toNat:Int)
end Go.Am
namespace Go.Am
open Go Go.RowKit
variable {gtab:GlobTab}{P:Program}{c:Ctx}
def St.prune (S:St):List Nat→St
 |[]=>yX2
 |s::r=>(s,S.get s)::St.prune S r
def AVal.leads:AVal→List Nat
 |.ref s _ _=>[s]
 |.eref s _ _ _ _=>[s]
 |.rref s=>[s]
 |.pn _ s _=>[s]
 |.ptrs _ l=>l.filterMap fun o=>o.map (·.1)
 |.opt _ _ _ a=>a.leads
 |.box _ a=>a.leads
 |.may _ _ a=>a.leads
 |.cons a b=>a.leads++b.leads
 |.agg _ a=>a.leads
 |.tup a=>a.leads
 |.fn _ a=>a.leads
 |_=>[]
def wK:List Nat→List Nat→List Nat
 |[],l=>l
 |s::r,l=>bif l.any (Nat.beq s) then wK r l else wK r (s::l)
def St.wanted (S:St)(l:List Nat):List Nat:=wK (l.flatMap fun s=>(S.get s).leads) l
def wH7 (id:Nat)(k:Nat):Nat:=bif Nat.beq k (id+2) then 0 else k
def xV4 (f:St→Option (List Prop×Nat×St)):Nat→St→Option (List Prop×Nat×St)
 |0,_=>none
 |n+1,S=>match f S with
  |some (p,0,T)=>(match xV4 f n T with|some (q,k,U)=>some (p++q,k,U)|none=>none)
  |r=>r
def zN2 [GlobTab] (c:Ctx)(lv:List (Nat×List Nat)):Code→St→Option (List Prop×Nat×St)
 |.skip,S=>some ([],0,S)
 |.region id ops draw,S=>match eval c (.region id ops draw) S with
  |some ⟨p,[⟨0,none,d⟩]⟩=>St.force c.closed (St.prune (d++S) (St.wanted (d++S) (look [] lv id))) fun T=>some (p,0,T)
  |_=>none
 |.seq a b,S=>match zN2 c lv a S with
  |some (p,0,T)=>(match zN2 c lv b T with|some (q,k,U)=>some (p++q,k,U)|none=>none)
  |r=>r
 |.cond x a b,S=>match arg S x with
  |.val .bool t=>(match (t:Bool) with|true=>zN2 c lv a S | false=>zN2 c lv b S)
  |_=>none
 |.block id a,S=>match zN2 c lv a S with
  |some (p,k,T)=>some (p,wH7 id k,T)
  |none=>none
 |.loop a,S=>xV4 (zN2 c lv a) 64 S
 |.exit id,S=>some ([],id+2,S)
 |.ret,S=>some ([],1,S)
 |_,_=>none
theorem weaker_prune {S:St}:∀ {l:List Nat},Weaker (St.prune S l) S:=by
 intro l
 induction l with
 |nil=>exact zP7
 |cons q r ih =>
  intro s G w tm v h;simp only[St.prune,St.get];cases hq:Nat.beq q s with
  |true=>have:=Nat.eq_of_beq_eq_true hq;subst this;exact h
  |false =>
   cases Nat.beq q zA7 with
   |true=>simp only[cond_true,cond_false,zA]
   |false=>exact ih s G w tm v h
def wK0 [GlobTab] (P:Program)(c:Ctx)(code:Code)(S:St)(k:Nat)(T:St):Prop:=
 ∀ (rd:Option Nat) (χ0:Nat→Nat→Nat) (w0:World) (vs:Nat→Value) (a:Act) (w:World) (G:Gh),Rel c.n χ0 w0 S a w G→yL9 c.keep vs a →
  code.wpIn (fz rd) 0 P (fun e a' w'=>zB e=some k∧(∃ G',Rel c.n χ0 w0 T a' w' G')∧yL9 c.keep vs a') a w
theorem yL2 (hc:CtxOk P c)(hm:P.follows .mixedOrders=true){lv:List (Nat×List Nat)}:∀ {code:Code}{S:St}{p:List Prop}{k:Nat}{T:St},zC8 c.keep code=true→zN2 c lv code S=some (p,k,T)→(∀ q∈p,q)→wK0 P c code S k T:=by
 intro code
 induction code with
 |skip =>
  intro S p k T _ h _ rd χ0 w0 vs a w G hR hk;simp only[zN2,Option.some.injEq,Prod.mk.injEq] at h;obtain⟨_,rfl,rfl⟩:=h;exact wpIn_skip ⟨rfl,⟨G,hR⟩,hk⟩
 |region id ops draw =>
  intro S p k T hw h hok rd χ0 w0 vs a w G hR hk;simp only[zN2] at h;split at h
  ·rename_i q d he;rw[St.force_eq] at h;simp only[Option.some.injEq,Prod.mk.injEq] at h;obtain⟨rfl,rfl,rfl⟩:=h;refine wpIn_mono (zV9 hc hm (code:=.region id ops draw) trivial hw he hok rd χ0 w0 vs a w G hR hk) fun e a' w' hP=>?_;obtain⟨⟨k,cp,G',h1,h2,_,_,h5⟩,h6⟩:=hP;simp only[zA6] at h2;generalize hb:Nat.beq 0 k=b at h2;cases b with
   |false=>simp at h2
   |true =>
    have:=Nat.eq_of_beq_eq_true hb;subst this;simp only[cond_true,Option.some.injEq] at h2;subst h2;exact⟨h1,⟨G',weaker_prune.rel h5⟩,h6⟩
  ·cases h
 |seq x y ihx ihy =>
  intro S p k T hw h hok rd χ0 w0 vs a w G hR hk;simp only[zC8,Bool.and_eq_true] at hw;simp only[zN2] at h;split at h
  ·rename_i p1 T1 ha;split at h
   ·rename_i q k' U hb;simp only[Option.some.injEq,Prod.mk.injEq] at h;obtain⟨rfl,rfl,rfl⟩:=h;refine wpIn_seq (wpIn_mono (ihx hw.1 ha (fun q hq=>hok q (List.mem_append_left _ hq)) rd χ0 w0 vs a w G hR hk) fun e a' w' hP=>?_);obtain⟨h1,⟨G',h2⟩,h3⟩:=hP;cases e<;>simp[zB] at h1;exact ihy hw.2 hb (fun q hq=>hok q (List.mem_append_right _ hq)) rd χ0 w0 vs a' w' G' h2 h3
   ·cases h
  ·rename_i r hr;have hk0:k≠0:=fun e=>by subst e;exact hr _ _ h
   refine wpIn_seq (wpIn_mono (ihx hw.1 h hok rd χ0 w0 vs a w G hR hk) fun e a' w' hP=>?_);cases e with
   |normal=>have:=hP.1;simp only[zB,Option.some.injEq] at this;exact absurd this.symm hk0
   |_=>exact hP
 |cond x y z ihx ihy =>
  intro S p k T hw h hok rd χ0 w0 vs a w G hR hk;simp only[zC8,Bool.and_eq_true] at hw;simp only[zN2] at h;split at h
  ·rename_i t hx;have hv:a.eval x=.bool t:=by
    have:=zH0 hR x;rw[hx] at this;simp only[zA] at this;have:=(zC rfl).1 this;simpa only[zB5,List.cons.injEq,and_true] using this
   refine wpIn_cond_split hv (fun ht=>?_) (fun ht=>?_)
   ·subst ht;exact ihx hw.1 h hok rd χ0 w0 vs a w G hR hk
   ·subst ht;exact ihy hw.2 h hok rd χ0 w0 vs a w G hR hk
  ·cases h
 |block id x ih =>
  intro S p k T hw h hok rd χ0 w0 vs a w G hR hk;simp only[zC8] at hw;simp only[zN2] at h;split at h
  ·rename_i p' k' T' ha;simp only[Option.some.injEq,Prod.mk.injEq] at h;obtain⟨rfl,rfl,rfl⟩:=h;refine wpIn_block (wpIn_mono (ih hw ha hok rd χ0 w0 vs a w G hR hk) fun e a' w' hP=>?_);obtain⟨h1,h2⟩:=hP;cases e with
   |exit id' =>
    simp only[zB,Option.some.injEq] at h1;subst h1;simp only[Exit.inBlock,wH7];split
    ·rename_i e;subst e;exact⟨by simp[zB],h2⟩
    ·rename_i e;have:Nat.beq (id'+2) (id+2)=false:=by cases hb:Nat.beq (id'+2) (id+2) with|false=>rfl|true=>exact absurd (by have:=Nat.eq_of_beq_eq_true hb;omega) e
     exact⟨by simp[zB,this],h2⟩
   |normal=>simp only[zB,Option.some.injEq] at h1;subst h1;exact⟨rfl,h2⟩
   |ret=>simp only[zB,Option.some.injEq] at h1;subst h1;exact⟨rfl,h2⟩
   |_=>simp[zB] at h1
  ·cases h
 |loop x ih =>
  intro S p k T hw h hok rd χ0 w0 vs a w G hR hk;simp only[zC8] at hw;simp only[zN2] at h;refine yX3 (I:=fun m a w=>∃ S p G,xV4 (zN2 c lv x) m S=some (p,k,T)∧(∀ q∈p,q)∧Rel c.n χ0 w0 S a w G∧yL9 c.keep vs a) (k:=64) ⟨S,p,G,h,hok,hR,hk⟩ ?_;rintro m a w ⟨S,p,G,h,hok,hR,hk⟩;cases m with
  |zero=>simp[xV4] at h
  |succ m =>
   simp only[xV4] at h;split at h
   ·rename_i p1 T1 ha;split at h
    ·rename_i q k' U hb;simp only[Option.some.injEq,Prod.mk.injEq] at h;obtain⟨rfl,rfl,rfl⟩:=h;refine wpIn_mono (ih hw ha (fun q hq=>hok q (List.mem_append_left _ hq)) rd χ0 w0 vs a w G hR hk) fun e a' w' hP=>?_;obtain⟨h1,⟨G',h2⟩,h3⟩:=hP;cases e<;>simp[zB] at h1;exact⟨m,by omega,T1,q,G',hb,fun q hq=>hok q (List.mem_append_right _ hq),h2,h3⟩
    ·cases h
   ·rename_i r hr;have hk0:k≠0:=fun e=>by subst e;exact hr _ _ h
    refine wpIn_mono (ih hw h hok rd χ0 w0 vs a w G hR hk) fun e a' w' hP=>?_;cases e with
    |normal=>have:=hP.1;simp only[zB,Option.some.injEq] at this;exact absurd this.symm hk0
    |_=>exact hP
 |exit id =>
  intro S p k T _ h _ rd χ0 w0 vs a w G hR hk;simp only[zN2,Option.some.injEq,Prod.mk.injEq] at h;obtain⟨_,rfl,rfl⟩:=h;exact wpIn_exit ⟨rfl,⟨G,hR⟩,hk⟩
 |ret =>
  intro S p k T _ h _ rd χ0 w0 vs a w G hR hk;simp only[zN2,Option.some.injEq,Prod.mk.injEq] at h;obtain⟨_,rfl,rfl⟩:=h;exact wpIn_ret ⟨rfl,⟨G,hR⟩,hk⟩
 |_=>intro S p k T _ h;simp[zN2] at h
def wK6 [GlobTab] (c:Ctx)(lv:List (Nat×List Nat))(fn:Func)(rs:Sh):Option (List Prop×rs.den):=
 match zN2 c lv (fn.body.getD .skip) (zB7 [] ()) with
 |some (p,k,T)=>bif Nat.ble k 1 then (match zK9 c T fn.results.toList with
  |some r=>(match rs.parse r with|some v=>some (p,v)|none=>none)
  |none=>none) else none
 |none=>none
theorem wH8 (hc:CtxOk P c)(hm:P.follows .mixedOrders=true){f:Nat}{fn:Func}(hf:P.funcs[f]?=some fn){lv:List (Nat×List Nat)}{rs:Sh}{p:List Prop}{v:rs.den}
  (hk:xD4 fn c [] []=true) (h:wK6 c lv fn rs=some (p,v)) (hp:xG9 p):SpecOk P f (fnSpec [] rs [] (fun _=>True) (fun _=>v) (fun _=>())):=by
 simp only[xD4,Bool.and_eq_true,Bool.not_eq_true',beq_eq_false_iff_ne,ne_eq] at hk;obtain⟨h1,h2,h3,h4,h5⟩:=hk;obtain⟨code,hb⟩:=Option.isSome_iff_exists.1 h1;unfold wK6 at h;rw[hb,Option.getD_some] at h h4;split at h
 ·rename_i p' k T he;generalize hkb:Nat.ble k 1=b at h;cases b with
  |false=>cases h
  |true =>
   simp only[cond_true] at h;split at h
   ·rename_i r hr;split at h
    ·rename_i v' hv;simp only[Option.some.injEq,Prod.mk.injEq] at h;obtain⟨rfl,rfl⟩:=h;have hk1:=Nat.le_of_ble_eq_true hkb;refine yR8 hc hf hb h2 (Nat.eq_of_beq_eq_true h3) (D:=fun _=>T) (res:=fun _=>r) (by simpa only[Bool.and_eq_true,and_assoc] using h5) (fun _ _=>?_) (fun _=>hr) (fun _=>hv) (fun _=>rfl);intro rd χ0 w0 vs a w G hR hkp;refine wpIn_mono (yL2 hc hm h4 he (AllP_iff.1 hp) rd χ0 w0 vs a w G hR hkp) fun e a' w' hP=>⟨?_,hP.2⟩;have:=hP.1;cases e<;>simp[zB] at this
     ·exact .inl rfl
     ·omega
     ·exact .inr rfl
    ·cases h
   ·cases h
 ·cases h
def wK7 [GlobTab] (c:Ctx)(lv:List (Nat×List Nat))(fn:Func)(ps:List (Nat×Sh))(rs:Sh)(os:List (Nat×Sh))(x:zB3 ps):Option (List Prop×rs.den×zT8 os):=
 match zN2 c lv (fn.body.getD .skip) (zB7 ps x) with
 |some (p,k,T)=>bif Nat.ble k 1 then (match zK9 c T fn.results.toList,zO os T with
  |some r,some z=>(match rs.parse r with|some v=>some (p,v,z)|none=>none)
  |_,_=>none) else none
 |none=>none
theorem wJ0 (hc:CtxOk P c)(hm:P.follows .mixedOrders=true){f:Nat}{fn:Func}(hf:P.funcs[f]?=some fn){lv:List (Nat×List Nat)}{ps os:List (Nat×Sh)}{rs:Sh}{F:zB3 ps→rs.den}{o:zB3 ps→zT8 os}{p:List Prop}(hp:xG9 p)
  (hk:xD4 fn c ps os=true) (h:∀ x,wK7 c lv fn ps rs os x=some (p,F x,o x)):SpecOk P f (fnSpec ps rs os (fun _=>True) F o):=by
 simp only[xD4,Bool.and_eq_true,Bool.not_eq_true',beq_eq_false_iff_ne,ne_eq] at hk;obtain⟨h1,h2,h3,h4,h5⟩:=hk;obtain⟨code,hb⟩:=Option.isSome_iff_exists.1 h1;have hx:∀ x,∃ k T r,zN2 c lv code (zB7 ps x)=some (p,k,T)∧k≤1∧zK9 c T fn.results.toList=some r∧rs.parse r=some (F x)∧zO os T=some (o x):=by
  intro x;have h:=h x;unfold wK7 at h;rw[hb,Option.getD_some] at h;split at h
  ·rename_i p' k T he;generalize hkb:Nat.ble k 1=b at h;cases b with
   |false=>cases h
   |true =>
    simp only[cond_true] at h;split at h
    ·rename_i r z hr hz;split at h
     ·rename_i v' hv;simp only[Option.some.injEq,Prod.mk.injEq] at h;obtain⟨rfl,rfl,rfl⟩:=h;exact⟨k,T,r,he,Nat.le_of_ble_eq_true hkb,hr,hv,hz⟩
     ·cases h
    ·cases h
  ·cases h
 rw[hb,Option.getD_some] at h4
 let T:zB3 ps→St:=fun x=>(zN2 c lv code (zB7 ps x)).elim [] (fun q=>q.2.2)
 have hT:∀ x,∃ k r,zN2 c lv code (zB7 ps x)=some (p,k,T x)∧k≤1∧zK9 c (T x) fn.results.toList=some r∧rs.parse r=some (F x)∧zO os (T x)=some (o x):=fun x=>by
  obtain⟨k,T',r,e1,e2,e3,e4⟩:=hx x;have e:T x=T':=by simp only[T,e1,Option.elim_some]
  exact⟨k,r,by rw[e];exact e1,e2,by rw[e];exact e3,by rw[e];exact e4⟩
 refine yR8 hc hf hb h2 (Nat.eq_of_beq_eq_true h3) (D:=T) (res:=fun x=>(zK9 c (T x) fn.results.toList).getD .junk) (by simpa only[Bool.and_eq_true,and_assoc] using h5) (fun x _=>?_) (fun x=>?_) (fun x=>?_) (fun x=>?_)
 ·intro rd χ0 w0 vs a w G hR hkp;obtain⟨k,r,e1,e2,_⟩:=hT x;refine wpIn_mono (yL2 hc hm h4 e1 (AllP_iff.1 hp) rd χ0 w0 vs a w G hR hkp) fun e a' w' hP=>⟨?_,hP.2⟩;have:=hP.1;cases e<;>simp[zB] at this
  ·exact .inl rfl
  ·omega
  ·exact .inr rfl
 ·obtain⟨k,r,_,_,e3,_⟩:=hT x;rw[e3];rfl
 ·obtain⟨k,r,_,_,e3,e4,_⟩:=hT x;rw[e3];exact e4
 ·obtain⟨k,r,_,_,_,_,e5⟩:=hT x;exact e5
def xV5 (ps:List (Nat×Sh))(rs:Sh)(os:List (Nat×Sh))(ok:zB3 ps→Prop) [DecidablePred ok] (f:zB3 ps→rs.den)(o:zB3 ps→zT8 os):Spec:=fun args =>
 bif Nat.beq args.length ps.length then
  match zC7 ps (zW3 0 args) with
  |some x=>bif decide (ok x) then some ⟨[],rs.mk (f x),mkO os (o x),xU5 os (o x)⟩ else none
  |none=>none
 else none
theorem wK8 {f:Nat}{ps:List (Nat×Sh)}{rs:Sh}{os:List (Nat×Sh)}{ok:zB3 ps→Prop}[DecidablePred ok]{F:zB3 ps→rs.den}{o:zB3 ps→zT8 os}(h:SpecOk P f (fnSpec ps rs os ok F o)):SpecOk P f (xV5 ps rs os ok F o):=by
 refine⟨h.1,fun args co hsp _=>?_⟩;unfold xV5 at hsp;generalize hb:Nat.beq args.length ps.length=b at hsp;cases b with
 |false=>cases hsp
 |true =>
  simp only[cond_true] at hsp;split at hsp
  ·rename_i x hx;generalize hd:decide (ok x)=d at hsp;cases d with
   |false=>cases hsp
   |true =>
    simp only[cond_true,Option.some.injEq] at hsp;subst hsp;exact h.2 args ⟨[ok x],rs.mk (F x),mkO os (o x),xU5 os (o x)⟩ (by unfold fnSpec;rw[hb,cond_true,hx]) (fun q hq=>by rw[List.mem_singleton.1 hq];exact of_decide_eq_true hd)
  ·cases hsp
theorem wH9 {f:Nat}{ps os os':List (Nat×Sh)}{s:Nat}{τ:Ty}{ok:zB3 ps→Prop}{F:zB3 ps→Bool}{o:zB3 ps→zT8 os}{o':zB3 ps→zT8 os'}(h:SpecOk P f (fnSpec ps (.pn s τ) os ok F o))
  (ho:∀ x,mkO os' (o' x)=mkO os (o x)) (hn:∀ x,xU5 os' (o' x)=[]):SpecOk P f (fnSpec ps .nilp os' (fun x=>ok x∧F x=true) (fun _=>()) o'):=by
 refine⟨h.1,fun args co hsp hok G w vals hl hg hr=>?_⟩;unfold fnSpec at hsp;generalize hb:Nat.beq args.length ps.length=b at hsp;cases b with
 |false=>cases hsp
 |true =>
  simp only[cond_true] at hsp;split at hsp
  ·rename_i x hx;injection hsp with hsp
   subst hsp;have h0:=hok _ (List.mem_cons_self ..);refine (h.2 args ⟨[ok x],(Sh.pn s τ).mk (F x),mkO os (o x),xU5 os (o x)⟩ (by unfold fnSpec;rw[hb,cond_true,hx]) (fun q hq=>by rw[List.mem_singleton.1 hq];exact h0.1) G w vals hl hg hr).mono ?_;rintro e w' ⟨v,G',e1,e2,e3,e4,e5⟩;refine⟨v,G',e1,e2,?_,?_,?_⟩
   ·simp only[Sh.mk,zA] at e3 ⊢;rw[h0.2] at e3;simpa using e3
   ·simp only[ho];exact e4
   ·simp only[hn];intro k B hk;cases hk
  ·cases hsp
end Go.Am
namespace Go.Am
open Go Go.RowKit
variable {gtab:GlobTab}{P:Program}
def xG4:List AVal→Option (List Prop×AVal)
 |[.val (.int .u64) x,.val (.int .u64) y,.val (.int .u64) c] =>
  some ([0≤c∧c≤1],.tup (.cons (.val (.int .u64) (((Int.toNat x+Int.toNat y+Int.toNat c) % 18446744073709551616:Nat):Int)) (.cons (.val (.int .u64) (((Int.toNat x+Int.toNat y+Int.toNat c) / 18446744073709551616:Nat):Int)) .nl)))
 |_=>none
def yE5:List AVal→Option (List Prop×AVal)
 |[.val .str s,.val (.int .u8) c]=>some ([],.val (.int .i64) (Lib.indexByte s (Int.toNat c).toUInt8))
 |_=>none
theorem wC2 {G:Gh}{w:World}{tm:Array Value}{A B:AVal}{vals:List Value}(h:zH1 (zA G w tm none) [A,B] vals):∃ u v,vals=[u,v]∧zA G w tm none A u∧zA G w tm none B v:=by
 match vals,h with
 |[u,v],h=>simp only[zH1] at h;exact⟨u,v,rfl,h.1,h.2.1⟩
 |[],h=>simp[zH1] at h
 |[_],h=>simp[zH1] at h
 |_::_::_::_,h=>simp[zH1] at h
theorem xM2 {G:Gh}{w:World}{tm:Array Value}{A B C:AVal}{vals:List Value}(h:zH1 (zA G w tm none) [A,B,C] vals):∃ u v x,vals=[u,v,x]∧zA G w tm none A u∧zA G w tm none B v∧zA G w tm none C x:=by
 match vals,h with
 |[u,v,x],h=>simp only[zH1] at h;exact⟨u,v,x,rfl,h.1,h.2.1,h.2.2.1⟩
 |[],h=>simp[zH1] at h
 |[_],h=>simp[zH1] at h
 |[_,_],h=>simp[zH1] at h
 |_::_::_::_::_,h=>simp[zH1] at h
theorem wD2 {f:Nat}{fn:Func}(hf:P.funcs[f]?=some fn)(hname:(fn.name=="runtime.NumGoroutine")=false) (hb:fn.body.isNone=true) (hn:(Extern.findNext fn).isNone=true)
  (he:Extern.find fn=some Extern.BytealgIndexByte.indexByte):xQ0 P f yE5:=by
 intro args p A h _ G w tm vals hv;unfold yE5 at h;split at h
 ·simp only[Option.some.injEq,Prod.mk.injEq] at h;obtain⟨rfl,rfl⟩:=h;obtain⟨u,v,rfl,h1,h2⟩:=wC2 hv;simp only[zA] at h1 h2;rw[VRep_str] at h1;rw[VRep_int] at h2;subst h1;subst h2;refine⟨_,?_,zD⟩;rw[run_callFunc_extern hf hname hb (Option.isNone_iff_eq_none.1 hn) he,Lib.run_indexByteString];rfl
 ·cases h
theorem wJ1 {f:Nat}{fn:Func}(hf:P.funcs[f]?=some fn)(hname:(fn.name=="runtime.NumGoroutine")=false) (hb:fn.body.isNone=true) (hn:(Extern.findNext fn).isNone=true)
  (he:Extern.find fn=some add64Entry):xQ0 P f xG4:=by
 intro args p A h hp G w tm vals hv;unfold xG4 at h;split at h
 ·rename_i x y c;simp only[Option.some.injEq,Prod.mk.injEq] at h;obtain⟨rfl,rfl⟩:=h;have hc:(0:Int)≤c∧(c:Int)≤1:=hp _ (List.mem_cons_self ..);obtain⟨u,v,q,rfl,h1,h2,h3⟩:=xM2 hv;simp only[zA] at h1 h2 h3;rw[VRep_int] at h1 h2 h3;subst h1;subst h2;subst h3;refine⟨Extern.MathBitsCarry.pair ((Int.toNat x+Int.toNat y+Int.toNat c) % Extern.MathBitsCarry.m64) ((Int.toNat x+Int.toNat y+Int.toNat c) / Extern.MathBitsCarry.m64),?_,?_⟩
  ·rw[run_callFunc_extern hf hname hb (Option.isNone_iff_eq_none.1 hn) he];have key:∀ k:Nat,k≤1→(add64Entry #[.int .u64 x,.int .u64 y,.int .u64 (k:Int)]).run P w =
     .ok (Extern.MathBitsCarry.pair ((Int.toNat x+Int.toNat y+k) % Extern.MathBitsCarry.m64) ((Int.toNat x+Int.toNat y+k) / Extern.MathBitsCarry.m64)) w:=by
    intro k hk;have:k=0∨k=1:=by omega
    rcases this with rfl|rfl<;>rfl
   obtain⟨k,hk⟩:=Int.eq_ofNat_of_zero_le hc.1;have h0:c=((k:Nat):Int):=hk;have hk1:k≤1:=by
    have h1:=hc.2;rw[h0] at h1;exact Int.ofNat_le.1 h1
   rw[h0];show ((add64Entry #[.int .u64 x,.int .u64 y,.int .u64 (k:Int)]).run P w).andThen _=_;rw[key k hk1];rfl
  ·simp only[zA,Extern.MathBitsCarry.pair,Extern.MathBitsCarry.m64];exact⟨_,[_],rfl,zD (s:=none) (tm:=tm),_,[],rfl,zD (s:=none) (tm:=tm),rfl⟩
 ·cases h
end Go.Am
namespace Go.Am
open Go
instance (r:Int):Decidable (InR r):=inferInstanceAs (Decidable (_∧_))
instance (i n:Int):Decidable (InB i n):=inferInstanceAs (Decidable (_∧_))
def xV6 {X:Type}(g:X→Bool)(next:X→X)(okb:X→Bool):Nat→X→Bool
 |0,_=>false
 |k+1,x=>okb x&&(bif g x then xV6 g next okb k (next x) else true)
theorem wC3 {X:Type}{g:X→Bool}{next:X→X}{ok:X→Prop}{okb:X→Bool}(h:∀ x,okb x=true↔ok x):∀ {F:Nat}{x:X},xV6 g next okb F x=true↔∃ k,k<F∧Runs g next ok k x:=by
 intro F
 induction F with
 |zero=>intro x;simp[xV6]
 |succ F ih =>
  intro x;simp only[xV6,Bool.and_eq_true,h];cases hg:g x with
  |false =>
   simp only[cond_false,and_true];constructor
   ·intro hx;exact⟨0,by omega,hx,hg⟩
   ·rintro⟨k,_,hr⟩;cases k with
    |zero=>exact hr.1
    |succ k=>exact hr.1
  |true =>
   simp only[cond_true,ih];constructor
   ·rintro⟨hx,k,hk,hr⟩;exact⟨k+1,by omega,hx,hg,hr⟩
   ·rintro⟨k,hk,hr⟩;cases k with
    |zero=>rw[hr.2] at hg;cases hg
    |succ k=>exact⟨hr.1,k,by omega,hr.2.2⟩
instance {X:Type}{g:X→Bool}{next:X→X}{ok:X→Prop}[inst:∀ x,Decidable (ok x)] (x:X):Decidable (wB6 g next ok x):=
 decidable_of_iff (xV6 g next (fun x=>decide (ok x)) zK0 x=true) (wC3 fun x=>by simp)
end Go.Am
namespace Go.Am
open Go Go.RowKit
variable {gtab:GlobTab}{P:Program}{w:World}{χ:Nat→Nat→Nat}
def Ty.deep:Ty→Bool
 |.ptr _=>false|.cons h t=>h.deep&&t.deep|.st f=>f.deep|.arr _ t=>t.deep|.sl t=>Nat.blt 0 t.size&&t.deep|_=>true
def Ty.wf:(τ:Ty)→τ.den→Prop
 |.int k,x=>k.min≤x∧x≤k.max
 |.bool,_=>True
 |.str,s=>List.length (α:=UInt8) s≤maxLen
 |.nl,_=>True
 |.cons h t,x=>h.wf x.1∧t.wf x.2
 |.st f,x=>f.wf x
 |.arr n t,l=>List.length (α:=t.den) l=n∧∀ y∈(l:List t.den),t.wf y
 |.sl t,l=>List.length (α:=t.den) l≤maxLen∧∀ y∈(l:List t.den),t.wf y
 |.ptr t,x=>t.wf x
theorem yX6 {α β γ:Type}{f:α→Option β}{R:γ→List Value→Prop}{g:α→List Value}{wf:γ→Prop}:∀ {l:List α}{ys:List β},l.mapM f=some ys→(∀ x y,x∈l→f x=some y→∃ z,R z (g x)∧wf z) →
  ∃ zs:List γ,zs.length=l.length∧zL6 R zs (l.flatMap g)∧∀ z∈zs,wf z:=by
 intro l
 induction l with
 |nil=>intro ys _ _;exact⟨[],rfl,rfl,fun z h=>(by grind)⟩
 |cons x l ih =>
  intro ys h hf;simp[List.mapM_cons,Option.bind_eq_some_iff] at h;obtain⟨y,hy,ys',hys,rfl⟩:=h;obtain⟨z,h1,h2⟩:=hf x y (List.mem_cons_self ..) hy;obtain⟨zs,h3,h4,h5⟩:=ih hys fun x y hx=>hf x y (List.mem_cons_of_mem _ hx);refine⟨z::zs,by grind,⟨g x,l.flatMap g,rfl,h1,h4⟩,fun z' hz=>?_⟩
  all_goals grind
theorem xM3 {f:Nat→Value}(sz:Nat):∀ n,(List.range n).flatMap (fun i=>(List.range sz).map fun k=>f (i*sz+k))=(List.range (n*sz)).map f:=by
 intro n
 induction n<;>simp_all [Nat.succ_mul,List.range_add]
theorem xV7 {cs:List Value}(sz:Nat):∀ n,(List.range n).flatMap (fun i=>(cs.drop (i*sz)).take sz)=cs.take (n*sz):=by
 intro n
 induction n<;>simp_all [List.range_succ,Nat.succ_mul,List.take_add]
theorem zP8 {τ:Ty}{T:Nat}(h:zC2 P τ (.inl T)=true):P.cellsOf T=τ.size:=by
 obtain⟨⟨i,z,hi,hs,_⟩,_⟩:=zG4 h
 grind [Program.cellsOf]
theorem cells?_is {a:Addr}{n:Nat}{cs:List Value}(h:w.cells? 0 a n=some cs):cs=(List.range n).map (fun k=>(w.cell? (a.add k)).getD undef)∧∀ k,k<n→∃ v,w.cell? (a.add k)=some v:=by
 simp[World.cells?] at h;generalize hf:(fun i=>w.cell? (a.add i))=f at h;have key:∀ (l:List Nat) (cs:List Value),l.mapM f=some cs→cs=l.map (fun k=>(f k).getD undef)∧∀ k∈l,∃ v,f k=some v:=by
  intro l
  induction l<;>simp_all [Option.bind_eq_some_iff]
 have:=key _ _ h;subst hf;simp_all
theorem xV8 (a:Addr)(m k:Nat):(a.add m).add k=a.add (m+k):=by
 grind [Addr.add,Nat.add_assoc]
theorem yX7 {a:Addr}{v:Value}(h:w.cell? a=some v):a.spot=none∧a.block<w.heap.size:=by
 unfold World.cell? at h;split at h
 ·rename_i c _ _ hb;split at h
  ·grind
  ·refine⟨by simp_all,zE6 hb⟩
 grind
section
variable {H:Type}{enc:TypeId×Value→H}{sp:Nat→Bool}{held:Bool}
theorem wC4 (hχ:∀ b o,b<w.heap.size→χ b o=0):∀ τ:Ty,
  (∀ (T zK0:Nat) (cs:List Value) (d:DataW H) (ps:List MemPlace),zC2 P τ (.inl T)=true→τ.deep=true→DataW.trod enc P w 0 sp held zK0 T cs=some (d,ps)→∃ x,zB5 χ w τ x cs∧τ.wf x) ∧
  (∀ (fs:List Field) (o:Nat) (cs:List Value) (zK0:Nat) (xs:List (DataW H×List MemPlace)),zC2 P τ (.inr (fs,o))=true→τ.deep=true→fs.mapM (fun f=>DataW.trod enc P w 0 sp held zK0 f.type ((cs.drop f.offset).take (P.cellsOf f.type)))=some xs→cs.length=o+τ.size →
   ∃ x,zB5 χ w τ x (cs.drop o)∧τ.wf x):=by
 intro τ
 induction τ with
 |int k =>
  refine⟨fun T zK0 cs d ps hT _ h=>?_,fun fs o cs zK0 xs hT=>by grind [zC2]⟩;have hu:P.underlying T=some (.int k):=by
   simp only[zC2,Bool.and_eq_true] at hT;cases hu:P.underlying T with
   |none=>grind
   |some d=>rw[hu] at hT;cases d<;>simp at hT;grind [zH9]
  cases zK0 with
  |zero=>simp[DataW.trod] at h
  |succ zK0 =>
   unfold DataW.trod at h;rw[hu] at h
   match cs,h with
   |[.int k' n],h =>
    simp only at h;split at h
    ·rename_i hc;obtain⟨rfl,hw⟩:=hc;simp only[Lit.wf,Bool.and_eq_true,decide_eq_true_eq] at hw;exact⟨n,by grind [zB5],hw⟩
    grind
 |bool =>
  refine⟨fun T zK0 cs d ps hT _ h=>?_,fun fs o cs zK0 xs hT=>by grind [zC2]⟩;have hu:P.underlying T=some .bool:=by
   simp only[zC2,Bool.and_eq_true] at hT
   grind
  cases zK0 with
  |zero=>simp[DataW.trod] at h
  |succ zK0 =>
   unfold DataW.trod at h;rw[hu] at h
   match cs,h with
   |[.bool b],h=>exact⟨b,by grind [zB5],trivial⟩
 |str =>
  refine⟨fun T zK0 cs d ps hT _ h=>?_,fun fs o cs zK0 xs hT=>by grind [zC2]⟩;have hu:=zN4 hT;cases zK0 with
  |zero=>simp[DataW.trod] at h
  |succ zK0 =>
   unfold DataW.trod at h;rw[hu] at h
   match cs,h with
   |[.string b],h =>
    simp only at h;split at h
    ·rename_i hs;refine⟨b.data.toList,by grind [zB5],?_⟩;show b.data.toList.length≤maxLen;simp_all
    grind
 |nl =>
  refine⟨fun T zK0 cs d ps hT=>by grind [zC2],fun fs o cs zK0 xs hT _ h hl=>?_⟩;refine⟨(),?_,trivial⟩;simp_all [zB5,Ty.size,Nat.add_zero]
 |cons a b iha ihb =>
  refine⟨fun T zK0 cs d ps hT=>by grind [zC2],fun fs o cs zK0 xs hT hd h hl=>?_⟩;cases fs with
  |nil=>grind [zC2]
  |cons fd r =>
   simp only[zC2,Bool.and_eq_true] at hT;obtain⟨⟨⟨h1,_⟩,h2⟩,h3⟩:=hT;have ho:=Nat.eq_of_beq_eq_true h1;simp only[Ty.deep,Bool.and_eq_true] at hd;simp only[Ty.size] at hl;simp only[List.mapM_cons,Option.bind_eq_bind,Option.bind_eq_some_iff,Option.pure_def,Option.some.injEq] at h;obtain⟨y,hy,ys,hys,rfl⟩:=h;obtain⟨x,q1,q2⟩:=iha.1 _ _ _ _ _ h2 hd.1 (show _=some (y.1,y.2) from hy);rw[zP8 h2,ho] at q1;obtain⟨z,q3,q4⟩:=ihb.2 r (o+a.size) cs zK0 ys h3 hd.2 hys (by omega);refine⟨(x,z),?_,q2,q4⟩;simp only[zB5];refine⟨_,_,?_,q1,q3⟩;rw[← List.drop_drop,List.take_append_drop]
 |st f ih =>
  refine⟨fun T zK0 cs d ps hT hd h=>?_,fun fs o cs zK0 xs hT=>by grind [zC2]⟩;obtain⟨fs,hu,hf⟩:=zX1 hT;have hsz:=zP8 hT;cases zK0 with
  |zero=>simp[DataW.trod] at h
  |succ zK0 =>
   unfold DataW.trod at h;rw[hu] at h;simp only at h;split at h
   ·rename_i hl;simp only[Option.map_eq_some_iff] at h;obtain⟨xs,hxs,_⟩:=h;obtain⟨x,h1,h2⟩:=ih.2 fs.toList 0 cs zK0 xs hf (by grind [Ty.deep]) hxs (by grind [Ty.size]);exact⟨x,by simpa only[zB5,List.drop_zero] using h1,h2⟩
   grind
 |arr n t ih =>
  refine⟨fun T zK0 cs d ps hT hd h=>?_,fun fs o cs zK0 xs hT=>by grind [zC2]⟩;obtain⟨e,hu,hf⟩:=zU2 hT;have hsz:=zP8 hT;have hse:=zP8 hf;cases zK0 with
  |zero=>simp[DataW.trod] at h
  |succ zK0 =>
   unfold DataW.trod at h;rw[hu] at h;simp only at h;split at h
   ·rename_i hl;simp only[Option.map_eq_some_iff] at h;obtain⟨xs,hxs,_⟩:=h;obtain⟨zs,h1,h2,h3⟩:=yX6 (R:=zB5 χ w t) (g:=fun i=>(cs.drop (i*t.size)).take t.size) (wf:=t.wf) hxs (fun i y _ hy=>by
     grind [Ty.deep])
    rw[xV7] at h2;simp only[List.length_range] at h1;rw[List.take_of_length_le (by grind [Ty.size])] at h2;exact⟨zs,by grind [zB5],h1,h3⟩
   ·cases h
 |sl t ih =>
  refine⟨fun T zK0 cs d ps hT hd h=>?_,fun fs o cs zK0 xs hT=>by grind [zC2]⟩;obtain⟨e,hu,hf⟩:=zG hT;have hse:=zP8 hf;cases zK0 with
  |zero=>simp[DataW.trod] at h
  |succ zK0 =>
   unfold DataW.trod at h;rw[hu] at h
   match cs,h with
   |[.slice none 0 0],h=>exact⟨[],by simp only[zB5];exact⟨none,0,rfl,.inl trivial⟩,by simp[Ty.wf]⟩
   |[.slice (some a) ln cap],h =>
    simp only at h;split at h
    ·rename_i hc;simp only[Option.bind_eq_some_iff] at h;obtain⟨els,hels,_⟩:=h;rw[hse] at hels;obtain⟨zs,h1,h2,h3⟩:=yX6 (R:=zB5 χ w t) (g:=fun i=>(List.range t.size).map fun k=>(w.cell? (a.add (i*t.size+k))).getD undef) (wf:=t.wf) hels (fun i y _ hy=>by
      simp only[Option.bind_eq_some_iff] at hy;obtain⟨cs',hcs,hy⟩:=hy;obtain⟨z,q1,q2⟩:=ih.1 _ _ _ _ _ hf (by simp only[Ty.deep,Bool.and_eq_true] at hd;exact hd.2) (show _=some (y.1,y.2) from hy);refine⟨z,?_,q2⟩;have:=(cells?_is hcs).1;rw[this] at q1;simpa only[xV8] using q1)
     rw[xM3 (f:=fun j=>(w.cell? (a.add j)).getD undef)] at h2;simp only[List.length_range] at h1;refine⟨zs,?_,by simp only[Ty.wf];exact⟨by omega,h3⟩⟩;simp only[zB5];refine⟨some a,cap,by rw[h1],?_⟩;by_cases hz:zs=[]
     ·exact .inl hz
     ·have hcell:∀ j,j<ln*t.size→∃ v,w.cell? (a.add j)=some v:=by
       intro j hj;have hpos:0<t.size:=by rcases Nat.eq_zero_or_pos t.size with h0|h0;rw[h0] at hj;simp at hj;exact h0
       have hi:j / t.size<ln:=Nat.div_lt_of_lt_mul (by rw[Nat.mul_comm];exact hj);have hmem:∀ i,i<ln→∃ y,(w.cells? 0 (a.add (i*t.size)) t.size).bind (DataW.trod enc P w 0 sp held zK0 e)=some y:=by
        intro i hi;have key:∀ (l:List Nat) els,l.mapM (fun i=>(w.cells? 0 (a.add (i*t.size)) t.size).bind (DataW.trod enc P w 0 sp held zK0 e))=some els→∀ i∈l,∃ y,(w.cells? 0 (a.add (i*t.size)) t.size).bind (DataW.trod enc P w 0 sp held zK0 e)=some y:=by
         intro l
         induction l with
         |nil=>intro els _ i h;cases h
         |cons x l ihl =>
          intro els h i hi;simp only[List.mapM_cons,Option.bind_eq_bind,Option.bind_eq_some_iff,Option.pure_def,Option.some.injEq] at h;obtain⟨y,hy,ys,hys,rfl⟩:=h;rcases List.mem_cons.1 hi with rfl|hi
          ·exact⟨y,by simpa only[Option.bind_eq_some_iff] using hy⟩
          ·exact ihl ys hys i hi
        exact key _ _ hels i (List.mem_range.2 hi)
       obtain⟨y,hy⟩:=hmem _ hi;simp only[Option.bind_eq_some_iff] at hy;obtain⟨cs',hcs,_⟩:=hy;obtain⟨v,hv⟩:=(cells?_is hcs).2 (j % t.size) (Nat.mod_lt _ hpos);refine⟨v,?_⟩;have e1:(a.add (j / t.size*t.size)).add (j % t.size)=a.add j:=by
        rw[xV8,Nat.div_add_mod']
       rwa [e1] at hv
      obtain⟨b,o,s⟩:=a;simp only[Ty.deep,Bool.and_eq_true] at hd;have hs1:0<t.size:=Nat.le_of_ble_eq_true hd.1;by_cases hs0:ln=0
      ·exact .inl (List.length_eq_zero_iff.1 (by omega))
      ·have hpos:0<ln*t.size:=Nat.mul_pos (by omega) (by omega);obtain⟨v,hv⟩:=hcell 0 hpos;have hsp:=(yX7 hv).1;have hsp:s=none:=by simpa[Addr.add] using hsp
       subst hsp;refine .inr ⟨b,o,_,rfl,by omega,h2,fun j v hj=>?_⟩;rw[List.getElem?_map] at hj;have hjl:j<ln*t.size:=by
        rcases Nat.lt_or_ge j (ln*t.size) with h' | h'
        ·exact h'
        ·rw[List.getElem?_eq_none (by simpa using h')] at hj;simp at hj
       obtain⟨v',hv'⟩:=hcell j hjl;rw[List.getElem?_range hjl] at hj;simp only[Option.map_some,Option.some.injEq] at hj;rw[hv'] at hj;simp only[Option.getD_some] at hj;subst hj;have e2:(⟨b,o,none⟩:Addr).add j=⟨b,o+j,none⟩:=by
        by_cases hj0:j=0
        ·subst hj0;simp[Addr.add]
        ·simp[Addr.add,hj0]
       rw[e2] at hv';exact⟨hv',hχ b (o+j) (yX7 hv').2⟩
    ·cases h
 |ptr t _=>exact⟨fun T zK0 cs d ps _ hd=>by simp[Ty.deep] at hd,fun fs o cs zK0 xs _ hd=>by simp[Ty.deep] at hd⟩
end
end Go.Am
