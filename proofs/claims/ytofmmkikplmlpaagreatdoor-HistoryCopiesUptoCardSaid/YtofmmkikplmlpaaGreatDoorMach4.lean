/- The abstract machine, part 4: a typed interpreter for the program's code, and that it is sound. No condition. -/
import Derived.Test.YtofmmkikplmlpaaGreatDoorMach3
import Derived.Lib.Bytealg
import Derived.ProofKit
import Derived.Carry
import Derived.ChangeSame
namespace Go.Am
open Go Go.RowKit
variable {rd:Option Nat}{gtab:GlobTab}{P:Program}{c:Ctx}{G:Gh}{w:World}{tm:Array Value}{n:Nat}{χ0:Nat→Nat→Nat}{w0:World}{S:St}{a:Act}
theorem xE7 {T:Nat}{X:Nat→Prop}{G':Gh}(hX:∀ x,X x→x=zB T)(hx:Ext X (fun _=>False) G w G' w) :
  MapOk (fun _=>False) G w G' w (fun t l T' m=>bif Nat.beq T T' then .junk else .own t l T' m) (fun s T' t i p=>bif Nat.beq T T' then .junk else .eref s T' t i p):=by
 have h0:¬ X 0:=fun h=>zA9 _ (hX 0 h);refine⟨hx.prot,fun s=>hx.box s id,fun s hcol hlt=>?_,fun t l T' m v _ ho hf=>?_,fun t l T' m v _ ho tm=>?_,fun s T' t i p v _ tm ha=>?_⟩
 ·have:=hx.block _ hlt (fun o=>by grind [zA7])
  grind
 ·cases hb:Nat.beq T T' with
  |true=>grind [AVal.fitsT]
  |false =>
   simp only[cond_false,zA8];exact⟨trivial,v,rfl,zF hx h0 (fun e=>by have:=zA4 (hX _ e);simp_all) ho⟩
 ·cases hb:Nat.beq T T' with
  |true=>simp[zA]
  |false=>exact zF hx h0 (fun e=>by have:=zA4 (hX _ e);simp_all) ho
 ·cases hb:Nat.beq T T' with
  |true=>simp[zA]
  |false=>simp[zA] at ha ⊢;rw[hx.tag T' id];grind
theorem xS4 {T:Nat}{g:(t:Ty)→List t.den→Nat→Bool→AVal}{h:Nat→Nat→Ty→Int→yK1→AVal}{G':Gh}(H:MapOk (fun _=>False) G w G' w g h) :
  ∀ {b:AVal}{f:Ty}{k:Nat}{vs:List Value}{t:Ty}{l:List t.den}{m:Bool},zA8 G w f b vs→b.nth k=.own t l T m→(∀ v,zF7 G w t l T m v→zF7 G' w t l T false v) →
   ((b.mapOwn g h).setNth k (.own t l T false)).fitsT f=true→zA8 G' w f ((b.mapOwn g h).setNth k (.own t l T false)) vs:=by
 intro b
 induction b with
 |cons x y _ ihy =>
  intro f k vs t l m ht hk ho hf;obtain⟨h1,t1,us,ws,rfl,rfl,h2,h3⟩:=ht;cases k with
  |zero =>
   subst hk;obtain⟨rfl,v,rfl,h2⟩:=h2;simp[AVal.mapOwn,AVal.setNth,AVal.fitsT,zE9] at hf ⊢;exact⟨_,_,_,_,rfl,rfl,⟨rfl,v,rfl,ho v h2⟩,H.trep (fun _ h=>h.elim) h3 (zP6 hf.2)⟩
  |succ k =>
   simp[AVal.mapOwn,AVal.setNth,AVal.fitsT,zE9] at hf ⊢;exact⟨_,_,_,_,rfl,rfl,H.trep (fun _ h=>h.elim) h2 (zP6 hf.1),ihy h3 hk ho hf.2⟩
 |_=>grind [AVal.nth]
theorem wD6 {T:Nat}{t:Ty}{l:List t.den}{m:Bool}:∀ {b:AVal}{f:Ty}{k:Nat}{us:List Value},zA8 G w f b us→b.nth k=.own t l T m→∃ v,zF7 G w t l T m v:=by
 intro b
 induction b with
 |cons x y _ ihy =>
  intro f k us ht hfld;cases k<;>grind [AVal.nth,zA8]
 |_=>grind [AVal.nth]
theorem xS5 (hR:Rel n χ0 w0 S a w G)(hn:n≤vNo){s k T:Nat}(hT:xF9 k (S.get s)=some T)(hlt:∀ e∈(s,zG1 k (S.get s))::zB7 T (AVal.gone T) S S,e.1<zA6) :
  ∃ G',Rel n χ0 w0 (((s,zG1 k (S.get s))::zB7 T (AVal.gone T) S S)++S) a w G':=by
 have hs:=hR.reps s;have main:∀ G',Ext (fun x=>x=zB T) (fun _=>False) G w G' w→Frame0 χ0 w0 G'.χ w→(zA G' w a.tmps (some s) (zG1 k (S.get s)) (a.tmps.getD s undef)) →
   ∃ G',Rel n χ0 w0 (((s,zG1 k (S.get s))::zB7 T (AVal.gone T) S S)++S) a w G':=by
  intro G' hx hfr hst;refine⟨G',?_⟩;have:=zD6 (u:=(s,zG1 k (S.get s))::zB7 T (AVal.gone T) S S) (dst:=none) (v:=undef) hR hn hlt (fun d e=>by cases e) (fun d e=>by cases e) hx (fun e=>zA9 _ e) hfr (fun s' hs'=>?_) (fun s d e=>by cases e) (fun s' hs'=>?_)
  ·exact this
  ·refine yY8 (fun x h=>h) ?_;simp only[St.has,List.any_cons,Bool.or_eq_false_iff] at hs';cases ht:(S.get s').hasTag T with
   |false=>rfl
   |true=>have:=zT9 (k:=AVal.gone T) (zN8 (zS5 ht)) ht;unfold St.has at this;rw[hs'.2] at this;cases this
  ·rw[zJ0];by_cases e:s=s'
   ·subst e;have:St.get ((s,zG1 k (S.get s))::zB7 T (AVal.gone T) S S) s=zG1 k (S.get s):=by simp[St.get]
    rw[this];exact hst
   ·have h1:Nat.beq s s'=false:=by cases hb:Nat.beq s s' with
     |false=>rfl
     |true=>exact absurd (Nat.eq_of_beq_eq_true hb) e
    have h2:Nat.beq s zA6=false:=by cases hb:Nat.beq s zA6 with
     |false=>rfl
     |true=>have:=hlt (s,zG1 k (S.get s)) (by simp);have:=Nat.eq_of_beq_eq_true hb;omega
    have hs'':St.has s' (zB7 T (AVal.gone T) S S)=true:=by simpa[St.has,h1] using hs'
    have hget:St.get ((s,zG1 k (S.get s))::zB7 T (AVal.gone T) S S) s'=AVal.gone T (S.get s'):=by
     simp only[St.get,h1,h2,cond_false];rcases zT8 hs'' with h3|⟨e,he,h3⟩
     ·exact h3.1
     ·have:=hlt e (by simp[he]);omega
    rw[hget];exact (xE7 (fun x h=>h) hx).arep (fun _ h=>h.elim) (hR.reps s')
 generalize hA:S.get s=A at hs hT main ⊢;cases A with
 |own t l T' m =>
  simp only[xF9,Option.some.injEq] at hT;subst hT;simp only[zA] at hs;cases htl:t.isL with
  |true=>exact main G ⟨fun _ _ _ h=>⟨h,rfl⟩,fun _ _ _=>⟨rfl,fun _=>rfl⟩,Nat.le_refl _,fun _ _=>rfl,fun _ _=>rfl,fun _ h=>h.elim⟩ hR.frame (by simp only[zG1,htl,cond_true,zA])
  |false =>
   obtain⟨G',h1,h2,h3⟩:=zZ7 htl hR.frame hs;exact main G' h1 h2 (by simp only[zG1,htl,cond_false,zA];exact h3.2 _ hs)
 |box τ b =>
  simp only[xF9] at hT;split at hT
  ·rename_i t l T' m hfld;injection hT with hT
   subst hT;cases b with
   |agg f b =>
    simp only[AVal.fld] at hfld;simp only[zA] at hs;obtain⟨hv,hvt,cur,e,g1,g2,g3⟩:=hs;simp only[zA8] at g2;obtain⟨rfl,g2⟩:=g2;have hown:∃ v,zF7 G w t l T' m v:=wD6 g2 hfld;obtain⟨v0,ho⟩:=hown;cases htl:t.isL with
    |true=>exact main G ⟨fun _ _ _ h=>⟨h,rfl⟩,fun _ _ _=>⟨rfl,fun _=>rfl⟩,Nat.le_refl _,fun _ _=>rfl,fun _ _=>rfl,fun _ h=>h.elim⟩ hR.frame (by simp only[zG1,hfld,htl,cond_true,zA])
    |false =>
    obtain⟨G',h1,h2,h3,h4⟩:=zZ7 htl hR.frame ho;refine main G' h1 h2 ?_;simp only[zG1,hfld,htl,cond_false];generalize hfit:((b.gone T').setNth k (.own t l T' false)).fitsT f=fit;cases fit with
    |false=>simp only[cond_false,zA]
    |true =>
     simp only[cond_true,zA];have hb:=h1.block (G.β s) (zE4 g1) (fun o=>by rw[g3];exact zA7 _ _);refine⟨by rw[h3];exact hv,hvt,cur,e,by rw[h3,hb.1];exact g1,?_,fun o=>by rw[h3,hb.2 o];exact g3 o⟩;simp only[zA8];exact⟨trivial,xS4 (xE7 (fun x h=>h) h1) g2 hfld h4 hfit⟩
   |_=>exact main G ⟨fun _ _ _ h=>⟨h,rfl⟩,fun _ _ _=>⟨rfl,fun _=>rfl⟩,Nat.le_refl _,fun _ _=>rfl,fun _ _=>rfl,fun _ h=>h.elim⟩ hR.frame (by simp only[zG1,zA])
  ·cases hT
 |ownh t l T' i U m =>
  simp only[xF9] at hT;cases hTU:Nat.beq T' U with
  |true=>simp[hTU] at hT
  |false =>
  simp only[hTU,cond_false,Option.some.injEq] at hT;subst hT;simp only[zA] at hs;obtain⟨hvt,⟨he,_⟩ | ⟨hne,hcase⟩⟩:=hs
  ·subst he;simp at hTU
  have hfin:∀ (G':Gh),Ext (fun x=>x=zB U) (fun _=>False) G w G' w→(∀ u,yW7 G w t (List.getD (α:=List t.den) l i []) U m u→i<List.length (α:=List t.den) l→zB4 G'.χ w (.sl t) (List.getD (α:=List t.den) l i []) [u]) →
    yW7 G' w (.sl t) l T' true (a.tmps.getD s undef):=by
   intro G' hx hcr;refine⟨⟨by simp[Ty.plain,hvt.1,hvt.2],rfl⟩,?_⟩;rcases hcase with h|⟨cap,cur,e,h1,h2,h3,h4,h5,h6,h7⟩
   ·exact .inl h
   ·have hb:=hx.block (G.γ T') (zE4 h2) (fun o=>by rw[h6 o];exact fun e=>hne (zA4 e));have hg:=hx.tag T' (fun h=>h);refine .inr ⟨cap,cur,e,cur.toList.take (List.length (α:=List t.den) l),by rw[hg];exact h1,by rw[hg];exact h2,h3,h4,by rw[h5];simp[Ty.size],?_,by simp[Ty.size],fun o=>by rw[hg,hb.2 o,h6 o];simp⟩;refine xX8 (α:=List t.den) (R:=zB4 G'.χ w (.sl t)) (l:=l) (us:=List.take (List.length (α:=List t.den) l) cur.toList) (by simp[h5];omega) fun j x hj=>?_;obtain⟨u,hu,hr⟩:=h7 j x hj;have hjl:j<List.length (α:=List t.den) l:=by
     rw[List.getElem?_eq_some_iff] at hj;exact hj.1
    refine⟨u,by rw[List.getElem?_take,if_pos hjl];exact hu,?_⟩;by_cases e:j=i
    ·rw[if_pos e] at hr;subst e;have hx2:List.getD (α:=List t.den) l j []=x:=by rw[List.getD_eq_getElem?_getD,hj];rfl
     rw[← hx2] at hr ⊢;exact hcr u hr hjl
    ·rw[if_neg e] at hr;exact zA2 hx.prot hr
  by_cases hin:i<List.length (α:=List t.den) l∧∃ u,yW7 G w t (List.getD (α:=List t.den) l i []) U m u
  ·obtain⟨hi,u,hu⟩:=hin;obtain⟨G',h1,h2,h3,h4⟩:=zZ7 hvt.2 hR.frame (.inl hu);exact main G' h1 h2 (by simp only[zG1,zA];exact .inl (hfin G' h1 fun u' hu' _=>zD2 (h4 u' (.inl hu'))))
  ·exact main G ⟨fun _ _ _ h=>⟨h,rfl⟩,fun _ _ _=>⟨rfl,fun _=>rfl⟩,Nat.le_refl _,fun _ _=>rfl,fun _ _=>rfl,fun _ h=>h.elim⟩ hR.frame (by
    simp only[zG1,zA];exact .inl (hfin G ⟨fun _ _ _ h=>⟨h,rfl⟩,fun _ _ _=>⟨rfl,fun _=>rfl⟩,Nat.le_refl _,fun _ _=>rfl,fun _ _=>rfl,fun _ h=>h.elim⟩ fun u hu hi=>absurd ⟨hi,u,hu⟩ hin))
 |_=>simp[xF9] at hT
theorem yQ2 {T:Nat}{k:AVal→AVal}:∀ {R:St}{s:Nat},St.has s (yH T k S R)=true→(yH T k S R).get s=k (S.get s)∧(S.get s).hasRef T=true∨(∃ e∈yH T k S R,e.1=zA6):=by
 intro R
 induction R<;>grind [yH,St.has,St.get,Nat.beq,List.mem_cons_self,Nat.eq_of_beq_eq_true]
theorem xK0 (hR:Rel n χ0 w0 S a w G)(hn:n≤vNo){s:Nat}{u:St}(h:yX S s=some u)(hlt:∀ e∈u,e.1<zA6):∃ G',Rel n χ0 w0 (u++S) a w G':=by
 unfold yX at h;split at h
 ·rename_i τ b hA;split at h
  ·rename_i x hx;injection h with h
   subst h;have hs:=hR.reps s;rw[hA] at hs;simp only[zA] at hs;obtain⟨hv,hvt,cur,e,g1,g2,g3⟩:=hs;have hc:=zL8 hx g2;have hE:Ext (fun x=>x=zE s) (fun _=>False) G w (G.still (G.β s) cur.size) w:=yU2 fun o _=>.inr (g3 o);have hF:Frame0 χ0 w0 (G.still (G.β s) cur.size).χ w:=yJ hR.frame fun o _=>.inr (by rw[g3];have:=zN7 s;omega);have hptr:∀ tm os,zA (G.still (G.β s) cur.size) w tm os (.val (.ptr τ) x) (.pointer (some ⟨G.β s,0,none⟩)):=by
    intro tm os;simp only[zA];refine (zC rfl).2 ?_;simp only[zB4];refine⟨G.β s,0,cur.toList,rfl,zA2 yB5 hc,fun j v hj=>?_⟩;have hlt:j<cur.size:=by
     have:=(List.getElem?_eq_some_iff.1 hj).1;simpa using this
    refine⟨?_,?_⟩
    ·simp only[World.cell?,g1];simpa using hj
    ·simp only[Gh.still,Nat.zero_add,true_and];rw[if_pos hlt]
   refine⟨G.still (G.β s) cur.size,?_⟩;have:=zD6 (u:=(s,bif Nat.blt s vNo then .val (.ptr τ) x else .junk)::yH s (yO0 s τ x) S S) (dst:=none) (v:=undef) hR hn hlt (fun d e=>by cases e) (fun d e=>by cases e) hE (fun e=>zD4 _ e) hF (fun s' hs'=>?_) (fun s d e=>by cases e) (fun s' hs'=>?_)
   ·exact this
   ·refine yB7 fun e=>?_;injection e with e
    subst e;simp[St.has] at hs'
   ·rw[zJ0];by_cases e:s=s'
    ·subst e;have:St.get ((s,bif Nat.blt s vNo then .val (.ptr τ) x else .junk)::yH s (yO0 s τ x) S S) s=bif Nat.blt s vNo then .val (.ptr τ) x else .junk:=by simp[St.get]
     rw[this];cases hb:Nat.blt s vNo with
     |true=>rw[cond_true,hv (Nat.le_of_ble_eq_true hb)];exact hptr _ _
     |false=>simp only[cond_false,zA]
    ·have h1:Nat.beq s s'=false:=by cases hb:Nat.beq s s' with
      |false=>rfl
      |true=>exact absurd (Nat.eq_of_beq_eq_true hb) e
     have h2:Nat.beq s zA6=false:=by cases hb:Nat.beq s zA6 with
      |false=>rfl
      |true=>have:=hlt _ (List.mem_cons_self ..);have:=Nat.eq_of_beq_eq_true hb;omega
     have hs'':St.has s' (yH s (yO0 s τ x) S S)=true:=by simpa[St.has,h1] using hs'
     have hget:St.get ((s,bif Nat.blt s vNo then .val (.ptr τ) x else .junk)::yH s (yO0 s τ x) S S) s'=yO0 s τ x (S.get s'):=by
      simp only[St.get,h1,h2,cond_false];rcases yQ2 hs'' with h3|⟨e,he,h3⟩
      ·exact h3.1
      ·have:=hlt e (by simp[he]);omega
     rw[hget];have hr:=hR.reps s';generalize S.get s'=B at hr;cases B with
     |ref s2 τ2 p =>
      cases p with
      |nil =>
       simp only[yO0];generalize hb:(Nat.beq s s2&&Ty.beq τ2 τ)=bb;cases bb with
       |false=>simp only[cond_false,zA]
       |true =>
        simp only[Bool.and_eq_true] at hb;have e1:=Nat.eq_of_beq_eq_true hb.1;subst e1;simp only[zA] at hr;rw[hr.2];simpa[Ty.poff] using hptr a.tmps (some s')
      |cons _ _=>simp only[yO0,zA]
     |_=>simp only[yO0,zA]
  ·cases h
 ·cases h
theorem xK1 (hR:Rel n χ0 w0 S a w G)(hn:n≤vNo){g:Nat×Nat×Nat×Nat}{u:St}(h:xN0 S g=some u)(hlt:∀ e∈u,e.1<zA6):∃ G',Rel n χ0 w0 (u++S) a w G':=by
 obtain⟨kind,s,k,U⟩:=g;simp only[xN0] at h;cases h3:Nat.beq kind 3 with
 |true=>simp[h3] at h;exact xK0 hR hn h hlt
 |false =>
  simp[h3,cond_false] at h;cases h4:Nat.beq kind 4 with
  |true =>
   simp[h4] at h;cases hb:Nat.beq k U with
   |true=>grind
   |false =>
    simp[hb] at h;cases hu:yL U S with
    |false=>grind
    |true=>simp[hu] at h;subst h;exact⟨_,yV9 hR hn hu hlt⟩
  |false =>
  simp[h4] at h;cases h5:Nat.beq kind 5 with
  |true=>simp[h5] at h;subst h;exact⟨G,xE2 hR hn hlt⟩
  |false =>
  simp[h5] at h;split at h
  ·grind
  ·rename_i T hT;split at h
   ·cases hb:Nat.beq T U with
    |true=>grind
    |false =>
     simp[hb] at h;cases hu:yL U S with
     |false=>grind
     |true=>simp[hu] at h;subst h;exact⟨_,yV9 hR hn hu hlt⟩
   ·injection h with h;subst h;exact xS5 hR hn hT hlt
   ·injection h with h;subst h;exact⟨G,xE2 hR hn hlt⟩
abbrev RX (s U:Nat):Nat→Prop:=fun x=>(∃ y,(x,y)∈zR3 [(s,0)] [])∨(∃ U',U'∈([]:List (Nat×Nat)).map (·.2)∧x=zB U')∨∃ V,V∈[(0,U)].map (·.2)∧x=zE V
abbrev RY (U:Nat):Nat→Prop:=fun x=>(∃ U',U'∈([]:List (Nat×Nat)).map (·.2)∧x=zB U')∨∃ V,V∈[(0,U)].map (·.2)∧x=zE V
theorem yJ8 {s U:Nat}{A:AVal}{os:Option Nat}(h:A.hasRef U=false)(hs:∀ k,os=some k→k≠s∧k≠U):¬ A.names (RX s U) (RY U) os:=
 zW5 (HB:=[(s,0)]) (HT:=[]) (KT:=[]) (KB:=[(0,U)]) (fun T hT=>by simp at hT) (fun V hV=>by simp at hV;subst hV;exact h) (fun k e=>by simpa using hs k e)
theorem RX_box {s U k:Nat}:RX s U (zE k)↔k=s∨k=U:=by
 constructor
 ·rintro (⟨y,hy⟩ | ⟨_,h,_⟩ | ⟨V,hV,e⟩)
  ·obtain⟨i,_,hm⟩:=cols_box.1 hy;simp at hm;exact .inl hm.1
  ·simp at h
  ·simp at hV;subst hV;exact .inr (zD8 e)
 ·rintro (rfl|rfl)
  ·exact .inl ⟨zE 0,cols_box.2 ⟨0,rfl,by simp⟩⟩
  ·exact .inr (.inr ⟨k,by simp,rfl⟩)
theorem xB0 {s U:Nat}:¬ RX s U 0:=by
 rintro (⟨y,hy⟩ | ⟨_,h,_⟩ | ⟨V,_,e⟩)
 ·have:=yB6 hy;omega
 ·simp at h
 ·exact zD4 _ e
def Gh.ren (G:Gh)(s U:Nat):Gh:={ χ:=fun b o=>if b=G.β s then zE U else G.χ b o,β:=fun k=>if k=U then G.β s else G.β k,γ:=G.γ }
theorem xB1 {s U:Nat}(hc:∀ o,G.χ (G.β s) o=zE s):Ext (RX s U) (RY U) G w (G.ren s U) w:=by
 refine⟨fun b o _ h0=>⟨?_,rfl⟩,fun b _ hX=>⟨rfl,fun o=>?_⟩,Nat.le_refl _,fun k hk=>?_,fun _ _=>rfl,fun _ h=>.inr h⟩
 ·simp only[Gh.ren];rw[if_neg]
  ·exact h0
  ·rintro rfl;rw[hc o] at h0;exact zD4 _ h0.symm
 ·simp only[Gh.ren];rw[if_neg];rintro rfl;exact hX 0 (by rw[hc 0];exact RX_box.2 (.inl rfl))
 ·simp only[Gh.ren];rw[if_neg];rintro rfl;exact hk (.inr ⟨k,by simp,rfl⟩)
theorem yW {s U:Nat}(hc:∀ o,G.χ (G.β s) o=zE s)(hf:Frame0 χ0 w0 G.χ w):Frame0 χ0 w0 (G.ren s U).χ w:=by
 refine⟨hf.os,hf.tape,hf.output,hf.size,hf.block,fun b o hb h0=>⟨?_,(hf.cell b o hb h0).2⟩⟩;have h1:=(hf.cell b o hb h0).1;simp only[Gh.ren];rw[if_neg]
 ·exact h1
 ·rintro rfl;rw[hc o] at h1;have:=zN7 s;omega
theorem xK2 {s U:Nat}{G':Gh}(hx:Ext (RX s U) (RY U) G w G' w)(hb1:G'.β U=G.β s)(hb2:∀ k,k≠U→G'.β k=G.β k):∀ {A:AVal}{os:Option Nat}{v:Value},A.hasRef U=false→(∀ k,os=some k→k≠s∧k≠U)→zA G w tm os A v→zA (G') w tm os (A.renRef s U) v:=by
 have key:∀ (A:AVal) (os:Option Nat) (v:Value),A.hasRef U=false→(∀ k,os=some k→k≠s∧k≠U)→zA G w tm os A v→zA (G') w tm os (bif A.hasRef s then .junk else A) v:=fun A os v h hs ha=>by
  cases A.hasRef s with
  |true=>simp only[cond_true,zA]
  |false=>exact zT2 hx xB0 tm (yJ8 h hs) ha
 have hβ:∀ s',Nat.beq U s'=false→(G').β (bif Nat.beq s s' then U else s')=G.β s':=fun s' h=>by
  cases hb:Nat.beq s s' with
  |true=>have:=Nat.eq_of_beq_eq_true hb;subst this;exact hb1
  |false =>
   simp only[cond_false];refine hb2 s' ?_;rintro rfl;simp at h
 intro A
 induction A with
 |ref s' τ p=>intro os v h _ ha;simp only[AVal.renRef,zA] at ha ⊢;rw[hβ s' h];exact ha
 |pn b s' τ=>intro os v h _ ha;simp only[AVal.renRef,zA] at ha ⊢;rw[hβ s' h];exact ha
 |cons x y ihx ihy =>
  intro os v h _ ha;simp only[AVal.hasRef,Bool.or_eq_false_iff] at h;simp only[AVal.renRef,zA] at ha ⊢;obtain⟨u,us,h1,h2,h3⟩:=ha;exact⟨u,us,h1,ihx h.1 (fun k e=>by cases e) h2,ihy h.2 (fun k e=>by cases e) h3⟩
 |tup b ih=>intro os v h _ ha;simp only[AVal.renRef,zA] at ha ⊢;exact ih h (fun k e=>by cases e) ha
 |_=>intro os v h hs ha;exact key _ os v h hs ha
theorem yC2 {U:Nat}(h:xD1 U S=true)(k:Nat):(S.get k).hasRef U=false:=by
 cases hr:(S.get k).hasRef U with
 |false=>rfl
 |true =>
  exfalso;have hne:S.get k≠.junk:=fun e=>by rw[e] at hr;simp[AVal.hasRef] at hr
  obtain⟨e,he,hes⟩:=List.any_eq_true.1 (zN8 hne);have hes:=Nat.eq_of_beq_eq_true hes;have h2:=List.all_eq_true.1 h e he;rw[hes,hr] at h2;cases h2
theorem xB2 (hR:Rel n χ0 w0 S a w G)(hn:n≤vNo){s U:Nat}{B C:AVal}{G':Gh}(hnr:xD1 U S=true)(hx:Ext (RX s U) (RY U) G w G' w)(hfr:Frame0 χ0 w0 G'.χ w)(hb1:G'.β U=G.β s)(hb2:∀ k,k≠U→G'.β k=G.β k)
  (hB:zA G' w a.tmps (some U) B (a.tmps.getD U undef)) (hC:zA G' w a.tmps (some s) C (a.tmps.getD s undef))
  (hlt:∀ e∈(U,B)::(s,C)::yH s (AVal.renRef s U) S S,e.1<zA6):∃ G',Rel n χ0 w0 (((U,B)::(s,C)::yH s (AVal.renRef s U) S S)++S) a w G':=by
 refine⟨G',?_⟩;have hkey:∀ k,St.has k ((U,B)::(s,C)::yH s (AVal.renRef s U) S S)=false→k≠s∧k≠U:=fun k hk=>by
  simp only[St.has,List.any_cons,Bool.or_eq_false_iff] at hk;refine⟨?_,?_⟩
  ·rintro rfl;simp at hk
  ·rintro rfl;simp at hk
 have:=zD6 (u:=(U,B)::(s,C)::yH s (AVal.renRef s U) S S) (dst:=none) (v:=undef) hR hn hlt (fun d e=>by cases e) (fun d e=>by cases e) hx xB0 hfr (fun k hk=>?_) (fun s d e=>by cases e) (fun k hk=>?_)
 ·exact this
 ·obtain⟨k1,k2⟩:=hkey k hk;exact yJ8 (yC2 hnr k) (fun k' e=>by injection e with e;subst e;exact⟨k1,k2⟩)
 ·rw[zJ0];have hcut:∀ k',k'=U∨k'=s→Nat.beq k' zA6=false:=fun k' h=>by
   cases hb:Nat.beq k' zA6 with
   |false=>rfl
   |true =>
    have h1:=Nat.eq_of_beq_eq_true hb;rcases h with rfl|rfl
    ·have:=hlt _ (List.mem_cons_self ..);omega
    ·have:=hlt (k',C) (by simp);simp only at this;omega
  by_cases e1:k=U
  ·subst e1;have:St.get ((k,B)::(s,C)::yH s (AVal.renRef s k) S S) k=B:=by simp[St.get]
   rw[this];exact hB
  ·have hb1':Nat.beq U k=false:=by
    cases hb:Nat.beq U k with
    |false=>rfl
    |true=>exact absurd (Nat.eq_of_beq_eq_true hb).symm e1
   by_cases e2:k=s
   ·subst e2;have:St.get ((U,B)::(k,C)::yH k (AVal.renRef k U) S S) k=C:=by simp[St.get,hb1',hcut U (.inl rfl)]
    rw[this];exact hC
   ·have hb2':Nat.beq s k=false:=by
     cases hb:Nat.beq s k with
     |false=>rfl
     |true=>exact absurd (Nat.eq_of_beq_eq_true hb).symm e2
    have hk':St.has k (yH s (AVal.renRef s U) S S)=true:=by simpa[St.has,hb1',hb2'] using hk
    have hget:St.get ((U,B)::(s,C)::yH s (AVal.renRef s U) S S) k=AVal.renRef s U (S.get k):=by
     simp only[St.get,hb1',hb2',hcut U (.inl rfl),hcut s (.inr rfl),cond_false];rcases yQ2 hk' with h3|⟨e,he,h3⟩
     ·exact h3.1
     ·have:=hlt e (by simp[he]);omega
    rw[hget];exact xK2 hx hb1 hb2 (yC2 hnr k) (fun k' e=>by injection e with e;subst e;exact⟨e2,e1⟩) (hR.reps k)
theorem ren_b {s U:Nat}:(G.ren s U).β U=G.β s∧∀ k,k≠U→(G.ren s U).β k=G.β k:=⟨by simp[Gh.ren],fun k h=>by simp[Gh.ren,h]⟩
theorem xS6 {s U:Nat}{τ:Ty}{c:AVal}(h:zP4 G w s τ c)(hr:c.hasRef U=false):zP4 (G.ren s U) w U τ c:=by
 obtain⟨hvt,cur,e,g1,g2,g3⟩:=h;exact⟨hvt,cur,e,by rw[ren_b.1];exact g1,zY8 (xB1 g3) xB0 (yJ8 hr (fun k' e=>by cases e)) g2,fun o=>by rw[ren_b.1];simp[Gh.ren]⟩
theorem xZ4 (hR:Rel n χ0 w0 S a w G)(hn:n≤vNo){s U:Nat}{u:St}(h:wI7 S s U=some u)(hlt:∀ e∈u,e.1<zA6):∃ G',Rel n χ0 w0 (u++S) a w G':=by
 unfold wI7 at h;generalize hb:(Nat.ble vNo U&&Nat.blt U zA6&&!(Nat.beq s U)&&xD1 U S)=b at h;cases b with
 |false=>cases h
 |true =>
  simp only[Bool.and_eq_true,Bool.not_eq_true'] at hb;obtain⟨⟨⟨h1,_⟩,h3⟩,h4⟩:=hb;have hU:=Nat.le_of_ble_eq_true h1;have hne:s≠U:=by rintro rfl;simp at h3
  have hs:=hR.reps s;have hrf:=yC2 h4 s;simp only[cond_true] at h;split at h
  ·rename_i τ c hA;injection h with h
   subst h;rw[hA] at hs hrf;simp only[zA] at hs;obtain⟨hp,hbx⟩:=hs;have hcol:=hbx.2.choose_spec.choose_spec.2.2;refine xB2 (G':=G.ren s U) hR hn h4 (xB1 hcol) (yW hcol hR.frame) ren_b.1 ren_b.2 (by simp only[zA];exact⟨fun h=>absurd h (Nat.not_lt.2 hU),xS6 hbx hrf⟩) ?_ hlt;cases hb:Nat.blt s vNo with
   |false=>simp only[cond_false,zA]
   |true =>
    simp only[cond_true,zA];exact⟨trivial,by rw[ren_b.1,hp (Nat.le_of_ble_eq_true hb)];rfl⟩
  ·rename_i m τ c hA;cases hv:Nat.ble vNo s with
   |false=>simp[hv] at h
   |true =>
   simp only[hv,cond_true,Option.some.injEq] at h;subst h;rw[hA] at hs hrf;simp only[zA] at hs;cases m with
   |true =>
    have hbx:=hs rfl;have hcol:=hbx.2.choose_spec.choose_spec.2.2;exact xB2 (G':=G.ren s U) hR hn h4 (xB1 hcol) (yW hcol hR.frame) ren_b.1 ren_b.2 (by simp only[zA];exact fun _=>xS6 hbx hrf) (by simp only[zA]) hlt
   |false =>
    refine xB2 (G':={ χ:=G.χ,β:=fun k=>if k=U then G.β s else G.β k,γ:=G.γ }) hR hn h4 ⟨fun b o _ h0=>⟨h0,rfl⟩,fun b _ _=>⟨rfl,fun _=>rfl⟩,Nat.le_refl _,fun k hk=>?_,fun _ _=>rfl,fun _ h=>.inr h⟩ ⟨hR.frame.os,hR.frame.tape,hR.frame.output,hR.frame.size,hR.frame.block,hR.frame.cell⟩ (by simp) (fun k h=>by simp[h]) (by simp only[zA];exact fun h=>by cases h) (by simp only[zA]) hlt;simp only;rw[if_neg];rintro rfl;exact hk (.inr ⟨k,by simp,rfl⟩)
  ·cases h
theorem xK3 (hR:Rel n χ0 w0 S a w G)(hn:n≤vNo){g:Nat×Nat×Nat×Nat}{p:List Prop}{u:St}(h:xN1 S g=some (p,u))(hp:∀ q∈p,q)(hlt:∀ e∈u,e.1<zA6):∃ G',Rel n χ0 w0 (u++S) a w G':=by
 have one:∀ {s:Nat}{B:AVal},(∀ e∈[(s,B)],e.1<zA6)→zA G w a.tmps (some s) B (a.tmps.getD s undef)→∃ G',Rel n χ0 w0 ([(s,B)]++S) a w G':=fun {s B} hlt hB=>by
  refine⟨G,?_⟩;have:=zD6 (u:=[(s,B)]) (dst:=none) (v:=undef) hR hn hlt (fun d e=>by cases e) (fun d e=>by cases e) (Ext.refl (fun _=>False) G w) id hR.frame (fun k _=>zQ5 _ _) (fun s d e=>by cases e) (fun k hk=>?_)
  ·exact this
  ·have e:k=s:=by simp[St.has] at hk;exact hk.symm
   subst e;have:St.get [(k,B)] k=B:=by simp[St.get]
   rw[this,zJ0];exact hB
 unfold xN1 at h;split at h
 ·split at h
  ·rename_i u' hu;simp only[Option.some.injEq,Prod.mk.injEq] at h;obtain⟨_,rfl⟩:=h;exact xZ4 hR hn hu hlt
  ·cases h
 ·rename_i s _ _;simp only[Option.some.injEq,Prod.mk.injEq] at h;obtain⟨_,rfl⟩:=h;refine⟨G,?_⟩;have:=zD6 (u:=yH s (fun _=>.junk) S S) (dst:=none) (v:=undef) hR hn hlt (fun d e=>by cases e) (fun d e=>by cases e) (Ext.refl (fun _=>False) G w) id hR.frame (fun k _=>zQ5 _ _) (fun s d e=>by cases e) (fun k hk=>?_)
  ·exact this
  ·rcases yQ2 hk with h3|⟨e,he,h3⟩
   ·rw[h3.1,zJ0];simp only[zA]
   ·have:=hlt e he;omega
 ·rename_i s _ _;split at h
  ·rename_i b τ c hA;cases hv:Nat.ble vNo s with
   |false=>simp[hv] at h
   |true =>
   simp only[hv,cond_true,Option.some.injEq,Prod.mk.injEq] at h;obtain⟨rfl,rfl⟩:=h;have hb:=hp _ (List.mem_singleton.2 rfl);have hs:=hR.reps s;rw[hA] at hs;simp only[zA] at hs;exact one hlt (by simp only[zA];exact⟨fun h=>absurd h (Nat.not_lt.2 (Nat.le_of_ble_eq_true hv)),hs hb⟩)
  ·cases h
 ·rename_i s _ _;split at h
  ·rename_i b k τ hA;simp only[Option.some.injEq,Prod.mk.injEq] at h;obtain⟨rfl,rfl⟩:=h;have hb:=hp _ (List.mem_singleton.2 rfl);have hs:=hR.reps s;rw[hA] at hs;simp only[zA] at hs;subst hb;exact one hlt (by simp only[zA];exact⟨trivial,by rw[hs];rfl⟩)
  ·cases h
 ·split at h
  ·rename_i u' hu;simp only[Option.some.injEq,Prod.mk.injEq] at h;obtain⟨_,rfl⟩:=h;exact xK1 hR hn hu hlt
  ·cases h
theorem yM7 (hn:n≤vNo):∀ {gs:List (Nat×Nat×Nat×Nat)}{S:St}{G:Gh}{p:List Prop}{u:St},Rel n χ0 w0 S a w G→yL2 gs S=some (p,u)→(∀ q∈p,q)→(∀ e∈u,e.1<zA6)→∃ G',Rel n χ0 w0 (u++S) a w G':=by
 intro gs
 induction gs with
 |nil=>intro S G p u hR h _ _;simp only[yL2,Option.some.injEq,Prod.mk.injEq] at h;obtain⟨rfl,rfl⟩:=h;exact⟨G,hR⟩
 |cons g r ih =>
  intro S G p u hR h hp hlt;simp only[yL2] at h;split at h
  ·cases h
  ·rename_i p1 u1 h1;split at h
   ·cases h
   ·rename_i p2 u2 h2;simp only[Option.some.injEq,Prod.mk.injEq] at h;obtain⟨rfl,rfl⟩:=h;obtain⟨G1,hR1⟩:=xK3 hR hn h1 (fun q hq=>hp q (List.mem_append_left _ hq)) fun e he=>hlt e (List.mem_append_right _ he);rw[List.append_assoc];exact ih hR1 h2 (fun q hq=>hp q (List.mem_append_right _ hq)) fun e he=>hlt e (List.mem_append_left _ he)
theorem xZ5 {f:AVal→AVal}:∀ {u:St}{s:Nat},(∀ e∈u,e.1≠zA6)→St.get (u.map (fun e=>(e.1,f e.2))++S) s=if St.has s u=true then f (u.get s) else S.get s:=by
 intro u
 induction u with
 |nil=>grind [St.has]
 |cons e r ih =>
  intro s hc;obtain⟨k,A⟩:=e;have h2:Nat.beq k zA6=false:=by grind [Nat.beq,absurd,Nat.eq_of_beq_eq_true,List.mem_cons_self]
  simp only[List.map_cons,List.cons_append,St.get];cases hk:Nat.beq k s with
  |true=>grind [St.has]
  |false =>
   have:St.has s ((k,A)::r)=St.has s r:=by simp_all [St.has]
   grind
theorem xZ6 {u:St}(hR:Rel n χ0 w0 (u++S) a w G)(hu:∀ e∈u,e.1≠zA6):Rel n χ0 w0 (u.map (fun e=>(e.1,bif e.2.hasOpt then .junk else e.2))++S) a w G:=by
 refine⟨hR.len,hR.defers,fun s=>?_,hR.frame,hR.glob⟩;have:=hR.reps s;rw[xZ5 (f:=fun A=>bif A.hasOpt then .junk else A) hu]
 grind [zZ4,zA,zJ8]
theorem yW0 {ops:Array Oper}{K:Act→Prop}(hK:∀ o∈ops.toList,∀ a v,K a→K (a.put o.dst v))(hc:CtxOk P c)(hm:P.follows .mixedOrders=true){gh:List (Nat×Nat×Nat×Nat)}{id:Nat}{draw:Bool}{p:List Prop}{u:St}(h:yX0 c gh ops.toList draw S=some (p,u))(hp:∀ q∈p,q)
  (hR:Rel c.n χ0 w0 S a w G) (hk:K a){Q:Exit→Act→World→Prop}(hQ:∀ a' w' G',Rel c.n χ0 w0 (u++S) a' w' G'→K a'→Q .normal a' w'):(Code.region id ops draw).wpIn (fz rd) 0 P Q a w:=by
 unfold yX0 at h;rw[St.force_eq] at h;cases hS:S.any (fun e=>e.2.hasOpt) with
 |true=>simp[hS] at h
 |false =>
  simp only[hS,cond_false] at h;have hS':∀ e∈S,e.2.hasOpt=false:=by simpa using hS
  split at h
  ·cases h
  ·rename_i p0 u0 ts hrun;obtain⟨hl,rfl,hF⟩:=xJ7 hrun;simp only[List.append_nil,Array.length_toList] at hl h;have hn:yV5 ts:=by
    intro j e he;obtain⟨t,ht,_⟩:=yQ0 he;have hj:j<ops.toList.length:=by rw[Array.length_toList,← hl];exact (List.getElem?_eq_some_iff.1 ht).1
    obtain⟨pi,hv,_,_,_,_,q5⟩:=hF j ops.toList[j] (List.getElem?_eq_getElem hj);have:=q5.1 e he;omega
   have htex:∀ k,∀ e∈tex ts k,e.1≠zA6:=by
    intro k
    induction k with
    |zero=>intro e he;cases he
    |succ k ih =>
     intro e he;rcases List.mem_append.1 he with he|he
     ·exact hn k e he
     ·exact ih e he
   generalize hgo:(!draw||(zI6 0 ops.toList&&(zP3 0 [] (ahead ops.toList []) ts||zP3 (zR1 c ops.toList S 0 ops.toList ts []) [] (ahead ops.toList []) ts)))=go at h;cases go with
   |false=>cases h
   |true =>
    simp only[cond_true] at h;split at h
    ·rename_i p1 u' hu';generalize hlt:u'.all (fun e=>Nat.blt e.1 zA6)=lt at h;cases lt with
     |false=>cases h
     |true =>
      simp only[cond_true,St.force_eq,Option.some.injEq,Prod.mk.injEq] at h;obtain⟨rfl,rfl⟩:=h;have hp0:∀ q∈p0,q:=fun q hq=>hp q (List.mem_append_left _ hq);have fin:∀ a' w' G',Rel c.n χ0 w0 (tex ts ops.size++S) a' w' G'→K a'→Q .normal a' w':=by
       intro a' w' G' hR' hk';obtain⟨G'',hR''⟩:=yM7 hc.n (xZ6 hR' (htex _)) hu' (fun q hq=>hp q (List.mem_append_right _ hq)) fun e he=>Nat.blt_eq.mp (List.all_eq_true.1 hlt e he);exact hQ a' w' G'' (by rw[List.append_assoc];exact hR'') hk'
      cases draw with
      |false =>
       refine wpIn_region ?_;have:=xY5 (rd:=rd) hK hc hF hS' hp0 fin ops.size 0 (by omega) a w G (by simpa[tex] using hR) hk
       rwa [List.range_eq_range']
      |true =>
       simp only[Bool.not_true,Bool.false_or,Bool.and_eq_true,Bool.or_eq_true] at hgo;have hx:Ext (fun _=>False) (fun _=>False) G w G { w with drawn:=w.drawn+1 }:=⟨fun _ _ _ h=>⟨h,rfl⟩,fun _ _ _=>⟨rfl,fun _=>rfl⟩,Nat.le_refl _,fun _ _=>rfl,fun _ _=>rfl,fun _ h=>h⟩
       have hR1:Rel c.n χ0 w0 S a { w with drawn:=w.drawn+1 } G:=⟨hR.len,hR.defers,fun s=>zT2 hx (fun h=>h) _ (zQ5 _ _) (hR.reps s),⟨hR.frame.os,hR.frame.tape,hR.frame.output,hR.frame.size,hR.frame.block,hR.frame.cell⟩,zH4 hx.prot hR.glob⟩
       obtain⟨hE,ho|ho⟩:=hgo
       ·refine wpIn_region_any hm ?_;refine xE6 hK hc hF hS' hp0 (wB9 ho) hn hE fin ops.size _ [] a _ G (by simp) (fun j=>?_) (fun j hj=>absurd hj (Nat.not_lt_zero _)) (xR8 hn) ?_ (by simpa[exe] using hR1) hk
        ·simp[Array.getElem?_replicate];split<;>simp
        ·exact Nat.le_trans (List.length_filter_le _ _) (by simp)
       ·obtain⟨_,hks,hkk⟩:=xA8 (c:=c) (S:=S) (all:=ops.toList) (r:=ops.toList) (ts:=ts) (i:=0) (U:=[]);generalize zR1 c ops.toList S 0 ops.toList ts []=k at ho hks hkk;have hks:k≤ops.size:=by simpa using hks
        refine wpIn_mono (Q:=fun e a w=>e=.normal∧Q .normal a w) (wpIn_region_any hm ?_) (fun e a w h=>by obtain⟨rfl,h⟩:=h;exact h);have:=xS3 (rd:=rd) (Q:=fun e a w=>e=.normal∧Q .normal a w) (k:=k) (fk:=ops.size-k) hK hc hF hS' hp0 hE (fun e a w hne h=>hne h.1) hks (fun j hj=>?_) (fun a w G hR hk=>?_) k 0 (by omega) a _ G (by simpa[tex] using hR1) hk
        ·rw[show ops.size-k+k=ops.size by omega] at this;exact this
        ·obtain⟨o,q1,q2,q3⟩:=hkk j (Nat.zero_le _) hj;exact⟨o,by simpa using q1,by simpa using q2,by simpa using q3⟩
        ·exact xE6 hK hc hF hS' hp0 (wB9 ho) hn hE (fun a' w' G' hR' hk'=>⟨rfl,fin a' w' G' hR' hk'⟩) (ops.size-k) (yA2 ops.size k) (yJ7 k) a w G zU6 (fun j=>(yF7 hks).trans downs_mem.symm) (fun j hj=>downs_mem.2 hj) (xS2 hn hE hks) xZ3 (by rw[xS1];exact hR) hk
    ·cases h
end Go.Am
namespace Go.Am
open Go Go.RowKit
variable {gtab:GlobTab}{P:Program}{c:Ctx}{G:Gh}{w:World}{tm:Array Value}{n:Nat}{χ0:Nat→Nat→Nat}{w0:World}{S:St}{a:Act}
theorem AllP_iff:∀ {l:List Prop},xL6 l↔∀ q∈l,q:=by
 intro l
 induction l with
 |nil=>exact⟨fun _ q hq=>(by grind),fun _=>trivial⟩
 |cons p r ih =>
  cases r with
  |nil =>
   refine⟨fun h q hq=>?_,fun h=>h p (List.mem_cons_self ..)⟩;rcases List.mem_cons.1 hq with rfl|hq
   ·exact h
   grind
  |cons q r =>
   constructor
   ·intro h q' hq;rcases List.mem_cons.1 hq with rfl|hq
    ·exact h.1
    ·exact ih.1 h.2 q' hq
   ·intro h;exact⟨h p (List.mem_cons_self ..),ih.2 fun q' hq=>h q' (List.mem_cons_of_mem _ hq)⟩
theorem xB3 {b:Prop}{l:List Prop}(h:∀ q∈wG b l,q)(hb:b):∀ q∈l,q:=by
 cases l with
 |nil=>grind
 |cons p r =>
  have:=h (b→xL6 (p::r)) (by simp[wG])
  grind [AllP_iff]
def zB3:Exit→Option Nat
 |.normal=>some 0
 |.ret=>some 1
 |.exit id=>some (id+2)
 |_=>none
def tk (g:Option Bool):Bool:=g.getD true
def yQ3 [GlobTab] (n:Nat)(χ0:Nat→Nat→Nat)(w0:World)(S:St)(l:List Comp)(e:Exit)(a:Act)(w:World):Prop:=
 ∃ k cp G,zB3 e=some k∧zA5 k l=some cp∧tk cp.g=true∧(∀ k' c',zA5 k' l=some c'→tk c'.g=true→k'=k)∧Rel n χ0 w0 (cp.d++S) a w G
theorem yD6 {k:Nat}:∀ {l l':List Comp},zA5 k (l++l')=match zA5 k l with|some x=>some x|none=>zA5 k l':=by
 intro l
 induction l with
 |nil=>intro l';rfl
 |cons x r ih =>
  intro l';simp[zA5];cases Nat.beq x.kind k with
  |true=>rfl
  |false=>exact ih
theorem zO9 {k:Nat}{x:Comp}:∀ {l:List Comp},zA5 k l=some x→x.kind=k:=by
 intro l
 induction l with
 |nil=>intro h;cases h
 |cons y r ih =>
  intro h;simp only[zA5] at h;cases hb:Nat.beq y.kind k<;>simp_all
theorem zS9 {k:Nat}{q:Nat→Bool}:∀ {l:List Comp},zA5 k (l.filter fun x=>q x.kind)=bif q k then zA5 k l else none:=by
 intro l
 induction l with
 |nil=>cases q k<;>rfl
 |cons x r ih =>
  simp only[List.filter_cons];cases hx:q x.kind with
  |true =>
   simp[zA5];cases hb:Nat.beq x.kind k<;>simp_all
  |false =>
   simp[zA5];cases hb:Nat.beq x.kind k<;>simp_all
theorem zJ9 {k k0:Nat}{l:List Comp}:zA5 k (zJ3 k0 l)=bif Nat.beq k k0 then none else zA5 k l:=by
 unfold zJ3;rw[zS9 (q:=fun x=>!(Nat.beq x k0))]
 grind
theorem yA3 {k:Nat}{f:Comp→Comp}(hf:∀ x,(f x).kind=x.kind):∀ {l:List Comp},zA5 k (l.map f)=(zA5 k l).map f:=by
 intro l
 induction l with
 |nil=>rfl
 |cons x r ih =>
  simp[zA5,hf];cases Nat.beq x.kind k with
  |true=>rfl
  |false=>exact ih
def xZ7 (t:Bool)(S:St):Option Comp→Option Comp→St
 |some a,some b=>zE7 t a.d b.d S
 |some a,none=>a.d
 |none,some b=>b.d
 |none,none=>[]
def xS7 (t:Bool)(S:St)(la lb:List Comp)(x:Comp):Comp:=⟨x.kind,zW t (zA5 x.kind la) (zA5 x.kind lb),xZ7 t S (zA5 x.kind la) (zA5 x.kind lb)⟩
theorem xS8 {t:Bool}{la lb:List Comp}:∀ {l:List Comp},xN2 t S la lb l=l.map (xS7 t S la lb):=by
 intro l
 induction l with
 |nil=>rfl
 |cons x r ih =>
  simp[xN2,ih,xS7];cases zA5 x.kind la<;>cases zA5 x.kind lb<;>rfl
theorem yA4 {t:Bool}{la lb:List Comp}{k:Nat} :
  zA5 k (xN2 t S la lb (la++lb.filter fun x=>(zA5 x.kind la).isNone))=match zA5 k la,zA5 k lb with
   |none,none=>none
   |xa,xb=>some ⟨k,zW t xa xb,xZ7 t S xa xb⟩:=by
 rw[xS8,yA3 (f:=xS7 t S la lb) (fun _=>rfl),yD6,zS9 (q:=fun x=>(zA5 x la).isNone)];cases ha:zA5 k la with
 |some x=>grind [xS7,zO9]
 |none =>
  cases hb:zA5 k lb<;>grind [xS7,zO9]
theorem zT {x y:Option Bool}:tk (yN3 x y)=(tk x&&tk y):=by cases x<;>cases y<;>simp[yN3,tk]
theorem yD7 {x y:Option Bool}:tk (gor x y)=(tk x||tk y):=by cases x<;>cases y<;>simp[gor,tk]
theorem xZ8 {g:Option Bool}(h:tk g=false):g=some false:=by
 cases g<;>grind [tk]
theorem xK4 {e:Exit}{oa ob:Out}(h:yQ3 n χ0 w0 S oa.comps e a w):yQ3 n χ0 w0 S (yB true S oa ob).comps e a w:=by
 obtain⟨k,cp,G,h1,h2,h3,h4,h5⟩:=h;simp only[yB];refine⟨k,⟨k,zW true (some cp) (zA5 k ob.comps),xZ7 true S (some cp) (zA5 k ob.comps)⟩,G,h1,?_,?_,?_,?_⟩
 ·rw[yA4,h2]
 ·cases hb:zA5 k ob.comps with
  |none=>cases hg:cp.g<;>simp_all [zW,yN3,tk]
  |some b=>grind [zW,tk]
 ·intro k' c' hf ht;rw[yA4] at hf;cases ha:zA5 k' oa.comps with
  |none =>
   cases hb:zA5 k' ob.comps with
   |none=>grind
   |some b =>
    simp[ha,hb] at hf;subst hf;cases hg:b.g<;>simp[zW,yN3,tk,hg] at ht
  |some x =>
   cases hb:zA5 k' ob.comps with
   |none =>
    simp[ha] at hf;subst hf;cases hg:x.g<;>simp_all [zW,yN3,tk]
   |some b =>
    grind [Option.some.injEq,zW,tk]
 ·cases zA5 k ob.comps with
  |none=>exact h5
  |some b=>exact zQ6 h5
theorem xK5 {e:Exit}{oa ob:Out}(h:yQ3 n χ0 w0 S ob.comps e a w):yQ3 n χ0 w0 S (yB false S oa ob).comps e a w:=by
 obtain⟨k,cp,G,h1,h2,h3,h4,h5⟩:=h;simp only[yB];refine⟨k,⟨k,zW false (zA5 k oa.comps) (some cp),xZ7 false S (zA5 k oa.comps) (some cp)⟩,G,h1,?_,?_,?_,?_⟩
 ·grind [yA4]
 ·cases hb:zA5 k oa.comps with
  |none=>cases hg:cp.g<;>simp_all [zW,yN3,tk]
  |some b=>grind [zW,tk]
 ·intro k' c' hf ht;rw[yA4] at hf;cases hb:zA5 k' ob.comps with
  |none =>
   cases ha:zA5 k' oa.comps with
   |none=>grind
   |some b =>
    simp[ha,hb] at hf;subst hf;cases hg:b.g<;>simp[zW,yN3,tk,hg] at ht
  |some x =>
   cases ha:zA5 k' oa.comps with
   |none =>
    simp[hb] at hf;subst hf;cases hg:x.g<;>simp_all [zW,yN3,tk]
   |some b =>
    grind [Option.some.injEq,zW,tk]
 ·cases zA5 k oa.comps with
  |none=>exact h5
  |some b=>exact zM6 h5
def wH7 (m:Comp)(S:St)(la:List Comp)(x:Comp):Comp:=
 ⟨x.kind,(match zA5 x.kind la with|some a=>gor a.g (yN3 m.g x.g)|none=>yN3 m.g x.g),(match zA5 x.kind la with|some a=>zE7 (tk a.g) a.d (x.d++m.d) S | none=>x.d++m.d)⟩
theorem xZ9 {m:Comp}{la:List Comp}:∀ {l:List Comp},wE4 m S la l=l.map (wH7 m S la):=by
 intro l
 induction l with
 |nil=>rfl
 |cons x r ih =>
  simp[wE4,ih,wH7];cases zA5 x.kind la<;>rfl
theorem zQ8 {m:Comp}{la lb:List Comp}{k:Nat} :
  zA5 k (wE4 m S la lb++la.filter fun x=>(zA5 x.kind lb).isNone)=match zA5 k la,zA5 k lb with
   |none,none=>none
   |some a,none=>some a
   |none,some x=>some ⟨k,yN3 m.g x.g,x.d++m.d⟩
   |some a,some x=>some ⟨k,gor a.g (yN3 m.g x.g),zE7 (tk a.g) a.d (x.d++m.d) S⟩:=by
 rw[yD6,xZ9,yA3 (f:=wH7 m S la) (fun _=>rfl),zS9 (q:=fun x=>(zA5 x lb).isNone)]
 grind [wH7,zO9]
theorem xS9 {e:Exit}{m:Comp}{oa ob:Out}(hm:zA5 0 oa.comps=some m)(h:yQ3 n χ0 w0 S oa.comps e a w)(he:zB3 e≠some 0):yQ3 n χ0 w0 S (yL3 m S oa ob).comps e a w:=by
 obtain⟨k,cp,G,h1,h2,h3,h4,h5⟩:=h;have hk0:Nat.beq k 0=false:=by cases k with|zero=>grind|succ k=>rfl
 have hmf:tk m.g=false:=by
  grind
 have h2':zA5 k (zJ3 0 oa.comps)=some cp:=by grind [zJ9]
 simp only[yL3];cases hb:zA5 k ob.comps with
 |none =>
  refine⟨k,cp,G,h1,by grind [zQ8],h3,?_,h5⟩;intro k' c' hf ht;rw[zQ8,zJ9] at hf;cases hk':Nat.beq k' 0 with
  |true =>
   grind [Option.some.injEq,zT]
  |false =>
   grind [Option.some.injEq,zT,yD7]
 |some x0 =>
  refine⟨k,{ kind:=k,g:=gor cp.g (yN3 m.g x0.g),d:=zE7 (tk cp.g) cp.d (x0.d++m.d) S },G,h1,by grind [zQ8],?_,?_,?_⟩
  ·simp[yD7,h3]
  ·intro k' c' hf ht;rw[zQ8,zJ9] at hf;cases hk':Nat.beq k' 0 with
   |true =>
    simp[hk'] at hf;cases hb':zA5 k' ob.comps with
    |none=>simp[hb'] at hf
    |some x=>simp[hb'] at hf;subst hf;simp[zT,hmf] at ht
   |false =>
    simp[hk'] at hf;cases ha:zA5 k' oa.comps with
    |none =>
     cases hb':zA5 k' ob.comps with
     |none=>simp[ha,hb'] at hf
     |some x=>simp[ha,hb'] at hf;subst hf;simp[zT,hmf] at ht
    |some y =>
     refine h4 k' y ha ?_;cases hb':zA5 k' ob.comps with
     |none=>simp[ha,hb'] at hf;subst hf;exact ht
     |some x=>simp[ha,hb'] at hf;subst hf;simpa[zT,yD7,hmf] using ht
  grind [zQ6]
theorem xT {e:Exit}{m:Comp}{oa ob:Out}(hmt:tk m.g=true)(hu:∀ k' c',zA5 k' oa.comps=some c'→tk c'.g=true→k'=0)
  (h:yQ3 n χ0 w0 (m.d++S) ob.comps e a w):yQ3 n χ0 w0 S (yL3 m S oa ob).comps e a w:=by
 obtain⟨k,cp,G,h1,h2,h3,h4,h5⟩:=h;rw[← List.append_assoc] at h5;have hoth:∀ k' y,zA5 k' (zJ3 0 oa.comps)=some y→y.g=some false:=by
  grind [zJ9,Nat.beq,xZ8,tk]
 have huni:∀ k' c',zA5 k' (wE4 m S (zJ3 0 oa.comps) ob.comps++(zJ3 0 oa.comps).filter fun x=>(zA5 x.kind ob.comps).isNone)=some c'→tk c'.g=true→k'=k:=by
  grind [zQ8,zA5,zJ3,zT,tk,yD7]
 simp only[yL3];cases ha:zA5 k (zJ3 0 oa.comps) with
 |none =>
  refine⟨k,{ kind:=k,g:=yN3 m.g cp.g,d:=cp.d++m.d },G,h1,by grind [zQ8],?_,huni,h5⟩
  grind [zT]
 |some y =>
  have hyg:=hoth k y ha;refine⟨k,{ kind:=k,g:=gor y.g (yN3 m.g cp.g),d:=zE7 (tk y.g) y.d (cp.d++m.d) S },G,h1,by grind [zQ8],?_,huni,?_⟩
  ·grind [yD7,zT]
  ·simp[hyg];exact zM6 h5
theorem xK6 {e:Exit}{id:Nat}{oa:Out}(h:yQ3 n χ0 w0 S oa.comps e a w):Exit.inBlock id (yQ3 n χ0 w0 S (yF id S oa).comps) e a w:=by
 obtain⟨k,cp,G,h1,h2,h3,h4,h5⟩:=h;unfold yF;cases hE:zA5 (id+2) oa.comps with
 |none =>
  have hP:yQ3 n χ0 w0 S oa.comps e a w:=⟨k,cp,G,h1,h2,h3,h4,h5⟩;have hne:e≠.exit id:=by
   grind [zB3,Option.some.injEq]
  cases e<;>simp_all [Exit.inBlock]
 |some ex =>
  have b20:Nat.beq (id+2) 0=false:=rfl;cases h0:zA5 0 oa.comps with
  |none =>
   have hfind:∀ k',zA5 k' ({ ex with kind:=0 }::zJ3 (id+2) oa.comps)=bif Nat.beq 0 k' then some { ex with kind:=0 } else bif Nat.beq k' (id+2) then none else zA5 k' oa.comps:=by
    grind [zA5,zJ9]
   by_cases hk:k=id+2
   ·subst hk;rw[hE] at h2;injection h2 with h2
    subst h2;have hP:yQ3 n χ0 w0 S ({ ex with kind:=0 }::zJ3 (id+2) oa.comps) .normal a w:=by
     refine⟨0,{ ex with kind:=0 },G,rfl,by simp_all,h3,fun k' c' hf ht=>?_,h5⟩
     cases hb:Nat.beq 0 k' with
     |true=>grind [Nat.eq_of_beq_eq_true]
     |false =>
      cases hb2:Nat.beq k' (id+2)<;>simp_all
    cases e<;>simp_all [zB3,Exit.inBlock]
   ·have hP:yQ3 n χ0 w0 S ({ ex with kind:=0 }::zJ3 (id+2) oa.comps) e a w:=by
     refine⟨k,cp,G,h1,?_,h3,fun k' c' hf ht=>?_,h5⟩
     all_goals grind [Nat.beq,absurd,Nat.eq_of_beq_eq_true,id]
    cases e with
    |exit id'=>simp[zB3] at h1;simp only[Exit.inBlock];grind
    |_=>exact hP
  |some m =>
   simp only;generalize hN:({ kind:=0,g:=gor ex.g m.g,d:=zE7 (ex.g.getD true) ex.d m.d S }:Comp)=N;have hfind:∀ k',zA5 k' (N::zJ3 0 (zJ3 (id+2) oa.comps))=bif Nat.beq 0 k' then some N else bif Nat.beq k' 0 then none else bif Nat.beq k' (id+2) then none else zA5 k' oa.comps:=by
    grind [zA5,zJ9]
   by_cases hk:k=id+2∨k=0
   ·have hP:yQ3 n χ0 w0 S (N::zJ3 0 (zJ3 (id+2) oa.comps)) .normal a w:=by
     have huni:∀ k' c',zA5 k' (N::zJ3 0 (zJ3 (id+2) oa.comps))=some c'→tk c'.g=true→k'=0:=by
      intro k' c' hf ht;rw[hfind] at hf;cases hb:Nat.beq 0 k' with
      |true=>simp_all
      |false =>
       simp[hb] at hf;cases hb1:Nat.beq k' 0 with
       |true=>grind
       |false =>
        cases hb2:Nat.beq k' (id+2) with
        |true=>grind
        |false =>
         simp[hb1,hb2] at hf;have:=h4 k' c' hf ht;rcases hk with hk|hk
         ·rw[hk] at this;subst this;simp at hb2
         ·rw[hk] at this;exact this
     rcases hk with hk|hk
     ·subst hk;rw[hE] at h2;injection h2 with h2
      subst h2;refine⟨0,N,G,rfl,by simp[hfind],?_,huni,?_⟩
      ·grind [yD7]
      ·have:ex.g.getD true=true:=h3
       grind [zQ6]
     ·have hxf:tk ex.g=false:=by
       grind
      refine⟨0,N,G,rfl,by simp[hfind],?_,huni,?_⟩
      ·grind [yD7]
      ·have:ex.g.getD true=false:=hxf
       grind [zM6]
    cases e with
    |exit id' =>
     simp[zB3] at h1;simp only[Exit.inBlock]
     grind
    |normal=>exact hP
    |ret=>simp[zB3] at h1;omega
    |_=>simp[zB3] at h1
   ·have hk2:k≠id+2:=fun e=>hk (.inl e);have hk0:k≠0:=fun e=>hk (.inr e);have hxf:tk ex.g=false:=by
     grind
    have hmf:tk m.g=false:=by
     grind
    have hP:yQ3 n χ0 w0 S (N::zJ3 0 (zJ3 (id+2) oa.comps)) e a w:=by
     refine⟨k,cp,G,h1,?_,h3,fun k' c' hf ht=>?_,h5⟩
     ·rw[hfind];have b1:Nat.beq 0 k=false:=by cases hb:Nat.beq 0 k with|false=>rfl|true=>exact absurd (Nat.eq_of_beq_eq_true hb).symm hk0
      have b3:Nat.beq k 0=false:=by cases hb:Nat.beq k 0 with|false=>rfl|true=>exact absurd (Nat.eq_of_beq_eq_true hb) hk0
      have b2:Nat.beq k (id+2)=false:=by cases hb:Nat.beq k (id+2) with|false=>rfl|true=>exact absurd (Nat.eq_of_beq_eq_true hb) hk2
      rw[b1,b2,b3];exact h2
     ·rw[hfind] at hf;cases hb:Nat.beq 0 k' with
      |true =>
       simp[hb] at hf;subst hf;rw[← hN] at ht;simp[yD7,hxf,hmf] at ht
      |false =>
       simp[hb] at hf;cases hb1:Nat.beq k' 0 with
       |true=>simp[hb1] at hf
       |false =>
        cases hb2:Nat.beq k' (id+2) with
        |true=>simp[hb2] at hf
        |false=>simp[hb1,hb2] at hf;exact h4 k' c' hf ht
    cases e with
    |exit id'=>simp[zB3] at h1;simp only[Exit.inBlock];grind
    |_=>exact hP
end Go.Am
namespace Go.Am
open Go Go.RowKit
inductive Sh where
 |val (τ:Ty)|own (t:Ty) (T:Nat) (m:Bool)|nl|cons (a b:Sh)|agg (f:Ty) (s:Sh)|box (τ:Ty) (s:Sh)|ref (s:Nat) (τ:Ty)|tup (s:Sh)|fn (f:Nat) (s:Sh)|any|nil|nn (b:Bool)|fptr (f:Nat) (caps:List (Option (Nat×Ty)))|ownh (t:Ty) (T U:Nat) (m:Bool)|nilp|pn (s:Nat) (τ:Ty)|may (τ:Ty) (s:Sh)
@[reducible] def Sh.den:Sh→Type
 |.val τ=>τ.den|.own t _ _=>List t.den|.nl=>Unit|.cons a b=>a.den×b.den|.agg _ s=>s.den|.box _ s=>s.den|.ref _ _=>Unit|.tup s=>s.den|.fn _ s=>s.den|.any=>Unit|.nil=>Unit|.nn _=>Unit|.fptr _ _=>Unit|.ownh t _ _ _=>List (List t.den)×Nat|.nilp=>Unit|.pn _ _=>Bool|.may _ s=>Bool×s.den
def Sh.mk:(s:Sh)→s.den→AVal
 |.val τ,x=>.val τ x
 |.own t T m,l=>.own t l T m
 |.nl,_=>.nl
 |.cons a b,x=>.cons (a.mk x.1) (b.mk x.2)
 |.agg f s,x=>.agg f (s.mk x)
 |.box τ s,x=>.box τ (s.mk x)
 |.ref s τ,_=>.ref s τ []
 |.tup s,x=>.tup (s.mk x)
 |.fn f s,x=>.fn f (s.mk x)
 |.any,_=>.junk
 |.nil,_=>.nil
 |.nn b,_=>.nn b
 |.fptr f caps,_=>.fptr f caps
 |.ownh t T U m,x=>.ownh t x.1 T x.2 U m
 |.nilp,_=>.nilp
 |.pn s τ,b=>.pn b s τ
 |.may τ s,x=>.may x.1 τ (s.mk x.2)
def xB4 (t:Ty)(T:Nat)(m:Bool):AVal→Option (List t.den)
 |.nil=>bif t.plain&&!t.isL then some [] else none
 |.own t' l T' m'=>bif Nat.beq T T'&&(m==m') then Ty.cast (a:=.sl t') (.sl t) l else none
 |_=>none
def yM8 (t:Ty)(T U:Nat)(m:Bool):AVal→Option (List (List t.den)×Nat)
 |.ownh t' l T' i U' m'=>bif Nat.beq T T'&&Nat.beq U U'&&(m==m') then (match Ty.cast (a:=.sl (.sl t')) (.sl (.sl t)) l with|some l2=>some (l2,i)|none=>none) else none
 |.own t' l T' true=>bif Nat.beq T T'&&!(Nat.beq T U)&&t.plain&&!t.isL then (match Ty.cast (a:=.sl t') (.sl (.sl t)) l with|some l2=>some (l2,List.length (α:=List t.den) l2)|none=>none) else none
 |_=>none
def xE8:AVal→Bool
 |.nil=>true|_=>false
def wA (b:Bool):AVal→Bool
 |.nn b'=>b==b' | _=>false
def yK7:List (Option (Nat×Ty))→List (Option (Nat×Ty))→Bool
 |[],[]=>true
 |none::r,none::r'=>yK7 r r'
 |some (k,τ)::r,some (k',τ')::r'=>Nat.beq k k'&&Ty.beq τ τ'&&yK7 r r'
 |_,_=>false
def xE9 (f:Nat)(caps:List (Option (Nat×Ty))):AVal→Bool
 |.fptr f' caps'=>Nat.beq f f'&&yK7 caps caps'
 |_=>false
def xT0:AVal→Bool
 |.nilp=>true|_=>false
def wD7 (s:Nat)(τ:Ty):AVal→Option Bool
 |.nilp=>some true
 |.ref s' τ' []=>bif Nat.beq s s'&&Ty.beq τ τ' then some false else none
 |.pn b s' τ'=>bif Nat.beq s s'&&Ty.beq τ τ' then some b else none
 |_=>none
def wA0 (τ:Ty):AVal→Option (Bool×AVal)
 |.box τ' c=>bif Ty.beq τ τ' then some (true,c) else none
 |.may b τ' c=>bif Ty.beq τ τ' then some (b,c) else none
 |_=>none
def wA1:AVal→Bool
 |.nl=>true|_=>false
def yM9 (s:Nat)(τ:Ty):AVal→Bool
 |.ref s' τ' []=>Nat.beq s s'&&Ty.beq τ τ'
 |_=>false
def wH8 (f:Nat):AVal→Option AVal
 |.fn f' c=>bif Nat.beq f f' then some c else none
 |_=>none
def xK7 (f:Ty):AVal→Option AVal
 |.agg f' c=>bif Ty.beq f f' then some c else none
 |_=>none
def xT1 (τ:Ty):AVal→Option AVal
 |.box τ' c=>bif Ty.beq τ τ' then some c else none
 |_=>none
def wA2:AVal→Option AVal
 |.tup c=>some c
 |_=>none
def yN:AVal→Option (AVal×AVal)
 |.cons a b=>some (a,b)
 |_=>none
def Sh.parse:(s:Sh)→AVal→Option s.den
 |.val τ,A=>bif τ.isL then none else AVal.as τ A
 |.own t T m,A=>xB4 t T m A
 |.nl,A=>bif wA1 A then some () else none
 |.cons a b,A=>match yN A with
  |some (x,y)=>(match a.parse x,b.parse y with|some p,some q=>some (p,q)|_,_=>none)
  |none=>none
 |.agg f s,A=>match xK7 f A with
  |some c=>(match s.parse c with|some x=>bif (s.mk x).fitsT f then some x else none|none=>none)
  |none=>none
 |.box τ s,A=>match xT1 τ A with
  |some c=>(match s.parse c with|some x=>bif (s.mk x).fitsT τ then some x else none|none=>none)
  |none=>none
 |.ref s τ,A=>bif yM9 s τ A then some () else none
 |.tup s,A=>match wA2 A with
  |some c=>s.parse c
  |none=>none
 |.fn f s,A=>match wH8 f A with
  |some c=>s.parse c
  |none=>none
 |.any,_=>some ()
 |.nil,A=>bif xE8 A then some () else none
 |.nn b,A=>bif wA b A then some () else none
 |.fptr f caps,A=>bif xE9 f caps A then some () else none
 |.ownh t T U m,A=>yM8 t T U m A
 |.nilp,A=>bif xT0 A then some () else none
 |.pn s τ,A=>wD7 s τ A
 |.may τ s,A=>match wA0 τ A with
  |some (b,c)=>(match s.parse c with|some x=>bif (s.mk x).fitsT τ then some (b,x) else none|none=>none)
  |none=>none
variable {gtab:GlobTab}{P:Program}{c:Ctx}{G:Gh}{w:World}{tm:Array Value}{n:Nat}{χ0:Nat→Nat→Nat}{w0:World}{S:St}{a:Act}
theorem wA3:∀ {l l':List (Option (Nat×Ty))},yK7 l l'=true→l=l':=by
 intro l
 induction l with
 |nil=>grind [yK7]
 |cons q r ih =>
  intro l' h;cases q with
  |none=>cases l' with
   |nil=>grind [yK7]
   |cons q' r'=>cases q'<;>grind [yK7]
  |some q=>cases l' with
   |nil=>grind [yK7]
   |cons q' r'=>cases q'<;>grind [yK7,Nat.eq_of_beq_eq_true,Ty.eq_of_beq]
theorem yJ9 {t:Ty}{T:Nat}{m:Bool}{A:AVal}{l:List t.den}{v:Value}{os:Option Nat}(h:xB4 t T m A=some l)(hA:zA G w tm os A v):zF7 G w t l T m v:=by
 cases A with
 |nil =>
  grind [xB4,zA,zZ9]
 |own t' l' T' m' =>
  simp only[xB4] at h;generalize hb:(Nat.beq T T'&&(m==m'))=b at h;cases b with
  |false=>grind
  |true =>
   simp  at hb
   grind [yP8,zA]
 |_=>grind [xB4]
theorem yC3:∀ {s:Sh}{A:AVal}{x:s.den}{τ:Ty}{vs:List Value},s.parse A=some x→(s.mk x).fitsT τ=true→zA8 G w τ A vs→zA8 G w τ (s.mk x) vs:=by
 intro s
 induction s with
 |val τ' =>
  intro A x τ vs h hf hA;simp only[Sh.parse] at h;cases hl:τ'.isL with
  |true=>grind
  |false =>
   simp[hl] at h;simp[Sh.mk,AVal.fitsT] at hf;have e:=Ty.eq_of_beq hf.1;subst e;simp only[Sh.mk,zA8];exact⟨trivial,hl,zL8 h hA⟩
 |own t T m =>
  intro A x τ vs h hf hA;simp only[Sh.parse] at h;have e:=Ty.eq_of_beq hf;subst e;simp only[Sh.mk,zA8];refine⟨trivial,?_⟩;cases A with
  |nil=>exact⟨_,hA.2,yJ9 (tm:=#[]) (os:=none) h (by grind [zA])⟩
  |own t' l' T' m'=>obtain⟨_,v,h1,h2⟩:=hA;exact⟨v,h1,yJ9 (tm:=#[]) (os:=none) h (by grind [zA])⟩
  |_=>grind [xB4]
 |nl =>
  intro A x τ vs h hf hA;cases A with
  |nl=>exact hA
  |_=>grind [Sh.parse,wA1]
 |cons p q ihp ihq =>
  intro A x τ vs h hf hA;cases A with
  |cons a b =>
   simp[Sh.parse,yN] at h;split at h
   ·rename_i y z hy hz;injection h with h
    subst h;obtain⟨h1,t1,us,ws,rfl,rfl,h2,h3⟩:=hA;simp[Sh.mk,AVal.fitsT,zE9] at hf;exact⟨_,_,_,_,rfl,rfl,ihp hy hf.1 h2,ihq hz hf.2 h3⟩
   grind
  |_=>grind [Sh.parse,yN]
 |agg f s ih =>
  intro A x τ vs h hf hA;cases A with
  |agg f' b =>
   simp[Sh.parse,xK7] at h;cases hb:Ty.beq f f' with
   |false=>grind
   |true =>
    simp[hb] at h;have e:=Ty.eq_of_beq hb;split at h
    ·rename_i y hy;generalize hfit:(s.mk y).fitsT f=bb at h;cases bb with
     |false=>grind
     |true =>
      grind [zA8,Sh.mk]
    grind
  |_=>grind [Sh.parse,xK7]
 |nil =>
  intro A x τ vs h hf hA;cases A with
  |nil=>exact hA
  |_=>grind [Sh.parse,xE8]
 |_=>grind [Sh.mk,AVal.fitsT]
theorem zE2:∀ {s:Sh}{A:AVal}{x:s.den}{os:Option Nat}{v:Value},s.parse A=some x→zA G w tm os A v→zA G w tm os (s.mk x) v:=by
 intro s
 induction s with
 |val τ' =>
  intro A x os v h hA;simp only[Sh.parse] at h;cases hl:τ'.isL with
  |true=>simp[hl] at h
  |false =>
   simp only[hl,cond_false] at h;simp only[Sh.mk,zA];refine zJ4 h hl (zO2 hA ?_ ?_ ?_)
   ·intro τ c e;subst e;simp[AVal.as,AVal.asT] at h
   ·intro e;subst e;simp[AVal.as,AVal.asT] at h
   ·intro b τ c e;subst e;simp[AVal.as,AVal.asT] at h
 |own t T m=>intro A x os v h hA;simp only[Sh.parse] at h;simp only[Sh.mk,zA];exact yJ9 h hA
 |nl =>
  intro A x os v h hA;cases A with
  |nl=>exact hA
  |_=>simp[Sh.parse,wA1] at h
 |cons p q ihp ihq =>
  intro A x os v h hA;cases A with
  |cons a b =>
   simp only[Sh.parse,yN] at h;split at h
   ·rename_i y z hy hz;injection h with h
    subst h;simp only[zA] at hA;obtain⟨u,us,rfl,h2,h3⟩:=hA;simp only[Sh.mk,zA];exact⟨u,us,rfl,ihp hy h2,ihq hz h3⟩
   ·cases h
  |_=>simp[Sh.parse,yN] at h
 |agg f s ih =>
  intro A x os v h hA;cases A with
  |agg f' b =>
   simp only[Sh.parse,xK7] at h;cases hb:Ty.beq f f' with
   |false=>simp[hb] at h
   |true =>
    simp only[hb,cond_true] at h;have e:=Ty.eq_of_beq hb;subst e;split at h
    ·rename_i y hy;generalize hfit:(s.mk y).fitsT f=bb at h;cases bb with
     |false=>cases h
     |true =>
      simp only[cond_true,Option.some.injEq] at h;subst h;simp only[zA] at hA;obtain⟨vs,h1,h2⟩:=hA;simp only[Sh.mk,zA];exact⟨vs,h1,yC3 hy hfit h2⟩
    ·cases h
  |_=>simp[Sh.parse,xK7] at h
 |box f s ih =>
  intro A x os v h hA;cases A with
  |box f' b =>
   simp only[Sh.parse,xT1] at h;cases hb:Ty.beq f f' with
   |false=>simp[hb] at h
   |true =>
    simp only[hb,cond_true] at h;have e:=Ty.eq_of_beq hb;subst e;split at h
    ·rename_i y hy;generalize hfit:(s.mk y).fitsT f=bb at h;cases bb with
     |false=>cases h
     |true =>
      simp only[cond_true,Option.some.injEq] at h;subst h;cases os with
      |none=>simp only[zA] at hA
      |some s =>
       simp only[zA] at hA;obtain⟨h1,h2,cur,e,h3,h4,h5⟩:=hA;simp only[Sh.mk,zA];exact⟨h1,h2,cur,e,h3,yC3 hy hfit h4,h5⟩
    ·cases h
  |_=>simp[Sh.parse,xT1] at h
 |ref s τ =>
  intro A x os v h hA;simp only[Sh.parse] at h;generalize hr:yM9 s τ A=b at h;cases b with
  |false=>cases h
  |true =>
   cases A with
   |ref s' τ' p =>
    cases p with
    |nil =>
     simp only[yM9,Bool.and_eq_true] at hr;have e1:=Nat.eq_of_beq_eq_true hr.1;have e2:=Ty.eq_of_beq hr.2;subst e1;subst e2;exact hA
    |cons _ _=>simp[yM9] at hr
   |_=>simp[yM9] at hr
 |tup s ih =>
  intro A x os v h hA;cases A with
  |tup b=>simp only[Sh.parse,wA2] at h;simp only[Sh.mk,zA] at hA ⊢;exact ih h hA
  |_=>simp[Sh.parse,wA2] at h
 |fn f s ih =>
  intro A x os v h hA;cases A with
  |fn f' cs =>
   simp only[Sh.parse,wH8] at h;cases hb:Nat.beq f f' with
   |false=>simp[hb] at h
   |true =>
    simp only[hb,cond_true] at h;have e:=Nat.eq_of_beq_eq_true hb;subst e;simp only[Sh.mk,zA] at hA ⊢;obtain⟨vs,h1,h2⟩:=hA;exact⟨vs,h1,ih h h2⟩
  |_=>simp[Sh.parse,wH8] at h
 |any=>intro A x os v _ _;simp only[Sh.mk,zA]
 |nil =>
  intro A x os v h hA;cases A with
  |nil=>exact hA
  |_=>simp[Sh.parse,xE8] at h
 |nn b =>
  intro A x os v h hA;cases A with
  |nn b' =>
   simp only[Sh.parse,wA] at h;cases hb:(b==b') with
   |false=>simp[hb] at h
   |true=>have:=beq_iff_eq.1 hb;subst this;exact hA
  |_=>simp[Sh.parse,wA] at h
 |ownh t T U m =>
  intro A x os v h hA;cases A with
  |ownh t' l' T' i' U' m' =>
   simp only[Sh.parse,yM8] at h;generalize hb:(Nat.beq T T'&&Nat.beq U U'&&(m==m'))=b at h;cases b with
   |false=>cases h
   |true =>
    simp only[cond_true] at h;simp only[Bool.and_eq_true,beq_iff_eq] at hb;have e1:=Nat.eq_of_beq_eq_true hb.1.1;have e2:=Nat.eq_of_beq_eq_true hb.1.2;have e3:=hb.2;subst e1 e2 e3;split at h
    ·rename_i l2 hl;injection h with h
     subst h;obtain⟨e,hl⟩:=zC7 hl;injection e with e
     injection e with e
     subst e;have hl:l'=l2:=hl;subst hl;exact hA
    ·cases h
  |own t' l' T' m' =>
   cases m' with
   |false=>simp[Sh.parse,yM8] at h
   |true =>
   simp only[Sh.parse,yM8] at h;generalize hb:(Nat.beq T T'&&!(Nat.beq T U)&&t.plain&&!t.isL)=b at h;cases b with
   |false=>cases h
   |true =>
    simp only[cond_true] at h;simp only[Bool.and_eq_true,Bool.not_eq_true'] at hb;have e1:=Nat.eq_of_beq_eq_true hb.1.1.1;subst e1;split at h
    ·rename_i l2 hl;injection h with h
     subst h;obtain⟨e,hl⟩:=zC7 hl;injection e with e
     subst e;have hl:l'=l2:=hl;subst hl;simp only[zA] at hA;simp only[Sh.mk,zA];refine⟨⟨hb.1.2,hb.2⟩,.inr ⟨fun e=>by subst e;simp at hb,?_⟩⟩;rcases (zB0 hA rfl).2 with h|⟨cap,cur,e,us,h1,h2,h3,h4,h5,h6,h7,h8⟩
     ·exact .inl h
     ·obtain⟨k1,k2⟩:=yP5 (fun y vs h=>by have:=zA1 h;simpa[Ty.size] using this) h6;refine .inr ⟨cap,cur,e,h1,h2,h3,h4,by rw[h5];simp[Ty.size],fun o=>by rw[h8,if_neg (by simp)],fun j x hj=>?_⟩;have hjl:j<List.length (α:=List t.den) l':=(List.getElem?_eq_some_iff.1 hj).1;obtain⟨u,hu,hc⟩:=k2 j x hj;refine⟨u,?_,by rw[if_neg (by omega)];exact hc⟩;rw[← h7,List.getElem?_take] at hu;split at hu
      ·exact hu
      ·cases hu
    ·cases h
  |_=>simp[Sh.parse,yM8] at h
 |fptr f caps =>
  intro A x os v h hA;cases A with
  |fptr f' caps' =>
   simp only[Sh.parse,xE9] at h;cases hb:(Nat.beq f f'&&yK7 caps caps') with
   |false=>simp[hb] at h
   |true =>
    simp only[Bool.and_eq_true] at hb;have e1:=Nat.eq_of_beq_eq_true hb.1;have e2:=wA3 hb.2;subst e1;subst e2;exact hA
  |_=>simp[Sh.parse,xE9] at h
 |nilp =>
  intro A x os v h hA;cases A with
  |nilp=>exact hA
  |_=>simp[Sh.parse,xT0] at h
 |pn s τ =>
  intro A x os v h hA;cases A with
  |nilp =>
   simp only[Sh.parse,wD7,Option.some.injEq] at h;subst h;simp only[Sh.mk,zA,if_true] at hA ⊢;exact hA
  |ref s' τ' p =>
   cases p with
   |nil =>
    simp only[Sh.parse,wD7] at h;generalize hb:(Nat.beq s s'&&Ty.beq τ τ')=b at h;cases b with
    |false=>cases h
    |true =>
     simp only[Bool.and_eq_true] at hb;have e1:=Nat.eq_of_beq_eq_true hb.1;subst e1;simp only[cond_true,Option.some.injEq] at h;subst h;simp only[Sh.mk,zA] at hA ⊢;exact hA.2
   |cons _ _=>simp[Sh.parse,wD7] at h
  |pn b' s' τ' =>
   simp only[Sh.parse,wD7] at h;generalize hb:(Nat.beq s s'&&Ty.beq τ τ')=b at h;cases b with
   |false=>cases h
   |true =>
    simp only[Bool.and_eq_true] at hb;have e1:=Nat.eq_of_beq_eq_true hb.1;subst e1;simp only[cond_true,Option.some.injEq] at h;subst h;simp only[Sh.mk,zA] at hA ⊢;exact hA
  |_=>simp[Sh.parse,wD7] at h
 |may τ s ih =>
  intro A x os v h hA;have bx:∀ (q:Nat) (c:AVal) (y:s.den),s.parse c=some y→(s.mk y).fitsT τ=true→zP4 G w q τ c→zP4 G w q τ (s.mk y):=fun q c y hy hf hb=>by
   obtain⟨h2,cur,e,h3,h4,h5⟩:=hb;exact⟨h2,cur,e,h3,yC3 hy hf h4,h5⟩
  simp only[Sh.parse] at h;split at h
  ·rename_i m c hm;split at h
   ·rename_i y hy;generalize hfit:(s.mk y).fitsT τ=bb at h;cases bb with
    |false=>cases h
    |true =>
     simp only[cond_true,Option.some.injEq] at h;subst h;cases A with
     |box τ' c' =>
      simp only[wA0] at hm;cases hb:Ty.beq τ τ' with
      |false=>simp[hb] at hm
      |true =>
       simp only[hb,cond_true,Option.some.injEq,Prod.mk.injEq] at hm;obtain⟨rfl,rfl⟩:=hm;have e:=Ty.eq_of_beq hb;subst e;cases os with
       |none=>simp only[zA] at hA
       |some q =>
        simp only[zA] at hA;simp only[Sh.mk,zA];exact fun _=>bx q _ y hy hfit hA.2
     |may b' τ' c' =>
      simp only[wA0] at hm;cases hb:Ty.beq τ τ' with
      |false=>simp[hb] at hm
      |true =>
       simp only[hb,cond_true,Option.some.injEq,Prod.mk.injEq] at hm;obtain⟨rfl,rfl⟩:=hm;have e:=Ty.eq_of_beq hb;subst e;cases os with
       |none=>simp only[zA] at hA
       |some q =>
        simp only[zA] at hA;simp only[Sh.mk,zA];exact fun hq=>bx q _ y hy hfit (hA hq)
     |_=>simp[wA0] at hm
   ·cases h
  ·cases h
theorem yF8:∀ {s:Sh}{x:s.den},(s.mk x).hasOpt=false:=by
 intro s
 induction s<;>grind [Sh.mk,AVal.hasOpt]
@[reducible] def zB2:List (Nat×Sh)→Type
 |[]=>Unit
 |(_,s)::r=>s.den×zB2 r
def wA4:(l:List (Nat×Sh))→zB2 l→St
 |[],_=>[]
 |(k,s)::r,x=>(k,s.mk x.1)::wA4 r x.2
def zC8:(l:List (Nat×Sh))→St→Option (zB2 l)
 |[],_=>some ()
 |(k,s)::r,S=>match s.parse (S.get k),zC8 r S with|some x,some y=>some (x,y)|_,_=>none
def yW1:St:=[(zA6,.junk)]
def Weaker (S' S:St):Prop:=∀ (s:Nat),∀ G w tm v,zA G w tm (some s) (S.get s) v→zA G w tm (some s) (S'.get s) v
theorem Weaker.rel {S':St}(h:Weaker S' S)(hR:Rel n χ0 w0 S a w G):Rel n χ0 w0 S' a w G:=⟨hR.len,hR.defers,fun s=>h s _ _ _ _ (hR.reps s),hR.frame,hR.glob⟩
theorem zP:Weaker yW1 S:=by
 intro s G w tm v _;simp[yW1,St.get]
 grind [zA]
theorem zI1:∀ {l:List (Nat×Sh)}{x:zB2 l}{R:St},zC8 l S=some x→Weaker R S→Weaker (wA4 l x++R) S:=by
 intro l
 induction l with
 |nil=>intro x R _ h;exact h
 |cons e r ih =>
  intro x R hp h;obtain⟨k,s⟩:=e;simp only[zC8] at hp;split at hp
  ·rename_i y z hy hz;injection hp with hp
   subst hp;intro q G w tm v hA;simp[wA4,St.get];cases hk:Nat.beq k q with
   |true =>
    grind [Nat.eq_of_beq_eq_true,zE2]
   |false =>
    cases Nat.beq k zA6 with
    |true=>simp[zA]
    |false=>exact ih hz h q G w tm v hA
  grind
theorem xB5 {A:St}(h:St.hasCut A=true){s:Nat}:(A++S).get s=A.get s:=by
 induction A<;>grind [St.get,St.hasCut]
theorem zJ1 {A B:St}(h:St.hasCut B=true):St.hasCut (A++B)=true:=by
 grind [St.hasCut]
end Go.Am
namespace Go.Am
open Go Go.RowKit
variable {gtab:GlobTab}{P:Program}{c:Ctx}{G:Gh}{w:World}{tm:Array Value}{n:Nat}{χ0:Nat→Nat→Nat}{w0:World}{S:St}{a:Act}
def yQ4 (ks:List Nat)(vs:Nat→Value)(a:Act):Prop:=∀ i∈ks,a.tmps.getD i undef=vs i
def zU8 (ks:List Nat):List Oper→Bool
 |[]=>true
 |o::r=>(match o.dst with|some d=>!(ks.any (Nat.beq d))|none=>true)&&zU8 ks r
def zC9 (ks:List Nat):Code→Bool
 |.region _ ops _=>zU8 ks ops.toList
 |.seq a b=>zC9 ks a&&zC9 ks b
 |.cond _ a b=>zC9 ks a&&zC9 ks b
 |.block _ a=>zC9 ks a
 |.loop a=>zC9 ks a
 |_=>true
theorem xB6 {ks:List Nat}{vs:Nat→Value}:∀ {ops:List Oper},zU8 ks ops=true→∀ o∈ops,∀ a v,yQ4 ks vs a→yQ4 ks vs (a.put o.dst v):=by
 intro ops
 induction ops with
 |nil=>grind
 |cons x r ih =>
  intro h o ho a v hk;simp[zU8] at h;rcases List.mem_cons.1 ho with rfl|ho
  ·cases hd:o.dst with
   |none=>exact hk
   |some d =>
    intro i hi;have hne:d≠i:=by simp_all
    rw[← hk i hi];simp[Act.put,Array.getElem?_setIfInBounds_ne hne]
  grind
def xT2 [GlobTab] (P:Program)(c:Ctx)(code:Code)(S:St)(out:Out):Prop:=
 (∀ q∈out.ok,q)→∀ (rd:Option Nat) (χ0:Nat→Nat→Nat) (w0:World) (vs:Nat→Value) (a:Act) (w:World) (G:Gh),Rel c.n χ0 w0 S a w G→yQ4 c.keep vs a →
  code.wpIn (fz rd) 0 P (fun e a' w'=>yQ3 c.n χ0 w0 S out.comps e a' w'∧yQ4 c.keep vs a') a w
def zJ2 [GlobTab] (P:Program)(c:Ctx):Code→Prop
 |.seq a b=>zJ2 P c a∧zJ2 P c b
 |.cond _ a b=>zJ2 P c a∧zJ2 P c b
 |.block _ a=>zJ2 P c a
 |.loop a=>∀ S out,look (fun _=>none) c.loops (zD7 a) S=some out→xT2 P c (.loop a) S out
 |_=>True
theorem yF9 {k:Nat}{u:St}{e:Exit}(he:zB3 e=some k)(hR:Rel n χ0 w0 (u++S) a w G):yQ3 n χ0 w0 S [⟨k,none,u⟩] e a w:=by
 refine⟨k,⟨k,none,u⟩,G,he,by simp[zA5],rfl,fun k' c' hf _=>?_,hR⟩
 grind [zA5,Nat.beq,Nat.eq_of_beq_eq_true]
theorem zU9 (hc:CtxOk P c)(hm:P.follows .mixedOrders=true):∀ {code:Code}{S:St}{out:Out},zJ2 P c code→zC9 c.keep code=true→eval c code S=some out→xT2 P c code S out:=by
 intro code
 induction code with
 |skip =>
  intro S out _ _ h _ rd χ0 w0 vs a w G hR hk;simp only[eval,Option.some.injEq] at h;subst h;exact wpIn_skip ⟨yF9 rfl hR,hk⟩
 |region id ops draw =>
  intro S out _ hw h hok rd χ0 w0 vs a w G hR hk;simp only[eval] at h;split at h
  ·cases h
  ·rename_i p0 v hg;generalize hv:v.all (fun e=>Nat.blt e.1 zA6)=bv at h;cases bv with
   |false=>cases h
   |true =>
    simp only[Bool.not_true,cond_false] at h;split at h
    ·rename_i p u hr;injection h with h
     subst h;simp only[zC9] at hw;obtain⟨G1,hR1⟩:=yM7 hc.n hR hg (fun q hq=>hok q (List.mem_append_left _ hq)) fun e he=>Nat.blt_eq.mp (List.all_eq_true.1 hv e he);exact yW0 (xB6 (vs:=vs) hw) hc hm hr (fun q hq=>hok q (List.mem_append_right _ hq)) hR1 hk fun a' w' G' hR' hk'=>⟨yF9 rfl (by rw[List.append_assoc];exact hR'),hk'⟩
    ·cases h
 |seq x y ihx ihy =>
  intro S out hL hw h hok rd χ0 w0 vs a w G hR hk;simp only[zJ2] at hL;simp only[zC9,Bool.and_eq_true] at hw;simp only[eval] at h;split at h
  ·cases h
  ·rename_i oa ha;split at h
   ·rename_i h0;injection h with h
    subst h;refine wpIn_seq (wpIn_mono (ihx hL.1 hw.1 ha hok rd χ0 w0 vs a w G hR hk) fun e a' w' hP=>?_);cases e with
    |normal=>obtain⟨⟨k,cp,G',h1,h2,_⟩,_⟩:=hP;simp only[zB3,Option.some.injEq] at h1;subst h1;rw[h0] at h2;cases h2
    |_=>exact hP
   ·rename_i m h0;split at h
    ·cases h
    ·rename_i ob hb;injection h with h
     subst h;simp only[yL3,List.mem_append] at hok;refine wpIn_seq (wpIn_mono (ihx hL.1 hw.1 ha (fun q hq=>hok q (.inl hq)) rd χ0 w0 vs a w G hR hk) fun e a' w' hP=>?_);obtain⟨hP,hk'⟩:=hP;by_cases he:e=.normal
     ·subst he;obtain⟨k,cp,G',h1,h2,h3,h4,h5⟩:=hP;simp only[zB3,Option.some.injEq] at h1;subst h1;rw[h0] at h2;injection h2 with h2
      subst h2;simp only[Exit.then];refine wpIn_mono (ihy hL.2 hw.2 hb (fun q hq=>?_) rd χ0 w0 vs a' w' G' h5 hk') fun e'' a'' w'' hP'=>⟨xT h3 h4 hP'.1,hP'.2⟩;cases hg:m.g with
      |none=>exact hok q (.inr (by simp only[imp,hg];exact hq))
      |some b =>
       have hb1:b=true:=by rw[hg] at h3;exact h3
       exact xB3 (fun q hq=>hok q (.inr (by simp only[imp,hg];exact hq))) hb1 q hq
     ·have hne:zB3 e≠some 0:=by
       cases e with
       |normal=>exact absurd rfl he
       |exit id=>simp[zB3]
       |_=>simp[zB3]
      have:=xS9 (ob:=ob) h0 hP hne;cases e with
      |normal=>exact absurd rfl he
      |_=>exact⟨this,hk'⟩
 |cond x p q ihp ihq =>
  intro S out hL hw h hok rd χ0 w0 vs a w G hR hk;simp only[zJ2] at hL;simp only[zC9,Bool.and_eq_true] at hw;simp only[eval] at h;split at h
  ·rename_i t hx;split at h
   ·rename_i oa ob ha hb;injection h with h
    subst h;have hv:a.eval x=.bool t:=by
     have:=zJ7 hR x;rw[hx] at this;simp only[zA] at this;have:=(zC rfl).1 this;simpa only[zB4,List.cons.injEq,and_true] using this
    simp only[yB,List.mem_append] at hok;refine wpIn_cond_split hv (fun ht=>?_) (fun ht=>?_)
    ·subst ht;exact wpIn_mono (ihp hL.1 hw.1 ha (xB3 (fun q hq=>hok q (.inl hq)) rfl) rd χ0 w0 vs a w G hR hk) fun e a' w' hP=>⟨xK4 hP.1,hP.2⟩
    ·subst ht;exact wpIn_mono (ihq hL.2 hw.2 hb (xB3 (fun q hq=>hok q (.inr hq)) rfl) rd χ0 w0 vs a w G hR hk) fun e a' w' hP=>⟨xK5 hP.1,hP.2⟩
   ·cases h
  ·cases h
 |block id x ih =>
  intro S out hL hw h hok rd χ0 w0 vs a w G hR hk;simp only[zJ2] at hL;simp only[zC9] at hw;simp only[eval] at h;split at h
  ·rename_i oa ha;injection h with h
   subst h;have hok':∀ q∈oa.ok,q:=by
    intro q hq;refine hok q ?_;unfold yF;split<;>exact hq
   refine wpIn_block (wpIn_mono (ih hL hw ha hok' rd χ0 w0 vs a w G hR hk) fun e a' w' hP=>?_);have:=xK6 (id:=id) hP.1;cases e with
   |exit id' =>
    simp only[Exit.inBlock] at this ⊢;split
    ·rename_i e;rw[if_pos e] at this;exact⟨this,hP.2⟩
    ·rename_i e;rw[if_neg e] at this;exact⟨this,hP.2⟩
   |_=>exact⟨this,hP.2⟩
  ·cases h
 |loop x _ =>
  intro S out hL hw h;simp only[eval] at h;exact hL S out h
 |exit id =>
  intro S out _ _ h _ rd χ0 w0 vs a w G hR hk;simp only[eval,Option.some.injEq] at h;subst h;exact wpIn_exit ⟨yF9 rfl hR,hk⟩
 |ret =>
  intro S out _ _ h _ rd χ0 w0 vs a w G hR hk;simp only[eval,Option.some.injEq] at h;subst h;exact wpIn_ret ⟨yF9 rfl hR,hk⟩
 |_=>intro S out _ _ h;simp[eval] at h
def loopN {X:Type}(g:X→Bool)(next:X→X):Nat→X→X
 |0,x=>x
 |k+1,x=>bif g x then loopN g next k (next x) else x
def zH7:Nat:=18446744073709551616
def zB9 {X:Type}(g:X→Bool)(next:X→X)(x:X):X:=loopN g next zH7 x
def Runs {X:Type}(g:X→Bool)(next:X→X)(ok:X→Prop):Nat→X→Prop
 |0,x=>ok x∧g x=false
 |k+1,x=>ok x∧g x=true∧Runs g next ok k (next x)
def xB7 {X:Type}(g:X→Bool)(next:X→X)(ok:X→Prop)(x:X):Prop:=∃ k,k<zH7∧Runs g next ok k x
theorem Runs.loopN {X:Type}{g:X→Bool}{next:X→X}{ok:X→Prop}:∀ {k:Nat}{x:X}{F:Nat},Runs g next ok k x→k<F→g (loopN g next F x)=false∧ok (Am.loopN g next F x):=by
 intro k
 induction k with
 |zero =>
  intro x F h hF;cases F with
  |zero=>omega
  |succ F=>simp only[Am.loopN,h.2,cond_false];exact⟨trivial,h.1⟩
 |succ k ih =>
  intro x F h hF;cases F with
  |zero=>omega
  |succ F=>simp[Am.loopN,h.2.1];exact ih h.2.2 (by omega)
theorem xT3 {rd:Option Nat}{cd:Code}{Q:Exit→Act→World→Prop}(I:Nat→Act→World→Prop){k:Nat}(h₀:I k a w)
  (round:∀ k a w,I k a w→cd.wpIn (fz rd) 0 P (Exit.then (fun a' w'=>∃ m,m<k∧I m a' w') Q) a w):(Code.loop cd).wpIn (fz rd) 0 P Q a w:=by
 intro b kk cs hro hb hr;have key:∀ n a w,I n a w→∃ e a' w',Q e a' w'∧ArrivesIn (Machine.fenced P (fz rd)) P (lone (b.atR a (.code cd::.inLoop cd::kk)) cs w) b kk cs e a' w':=by
  intro n
  induction n using Nat.strongRecOn with
  |_ n ih =>
   intro a w hI;obtain⟨e,a₁,w₁,hq,harr⟩:=round n a w hI b (.inLoop cd::kk) cs hro hb hr;cases e with
   |normal =>
    obtain⟨m,hlt,hI₁⟩:=hq;obtain⟨e₂,a₂,w₂,hq₂,harr₂⟩:=ih m hlt a₁ w₁ hI₁;exact⟨e₂,a₂,w₂,hq₂,.of_steps (StepsIn.trans harr (.one (fenced_calm hb hr rfl) stepR_inLoop)) harr₂⟩
   |exit id=>exact⟨_,a₁,w₁,hq,.pass (x:=.inLoop cd) rfl (fun _ _=>.inl (by simp)) harr⟩
   |goto l=>exact⟨_,a₁,w₁,hq,.pass (x:=.inLoop cd) rfl (fun _ _=>.inl (by simp)) harr⟩
   |ret=>exact⟨_,a₁,w₁,hq,.pass (x:=.inLoop cd) rfl (fun _ _=>.inl (by simp)) harr⟩
   |panic ch=>exact⟨_,a₁,w₁,hq,.pass (x:=.inLoop cd) rfl (fun _ _=>.inl (by simp)) harr⟩
   |outgrown=>exact⟨_,a₁,w₁,hq,.pass (x:=.inLoop cd) rfl (fun _ _=>.inl (by simp)) harr⟩
 obtain⟨e,a',w',hq,harr⟩:=key _ a w h₀;exact⟨e,a',w',hq,.of_steps (.one (fenced_calm hb hr rfl) stepR_loop) harr⟩
def zE8 (ly lx:List (Nat×Sh))(y:zB2 ly)(x:zB2 lx):St:=wA4 ly y++(wA4 lx x++yW1)
def zX1 (L:St)(l:List Comp):List Comp:=(zJ3 0 l).map fun cp=>⟨cp.kind,cp.g,cp.d++L⟩
def yG (ly lx:List (Nat×Sh))(g:zB2 ly→zB2 lx→Bool)(next:zB2 ly→zB2 lx→zB2 lx)(ok:zB2 ly→zB2 lx→Prop)(comps:zB2 ly→zB2 lx→List Comp)(S:St):Option Out:=
 match zC8 ly S,zC8 lx S with
 |some y,some x=>some ⟨[xB7 (g y) (next y) (ok y) x],zX1 (zE8 ly lx y (zB9 (g y) (next y) x)) (comps y (zB9 (g y) (next y) x))⟩
 |_,_=>none
theorem xF {ly lx:List (Nat×Sh)}{y:zB2 ly}{x:zB2 lx}:St.hasCut (zE8 ly lx y x)=true:=zJ1 (zJ1 rfl)
theorem xK8 (hc:CtxOk P c)(hm:P.follows .mixedOrders=true){body:Code}(hL:zJ2 P c body)(hw:zC9 c.keep body=true){ly lx:List (Nat×Sh)}{g:zB2 ly→zB2 lx→Bool}{next:zB2 ly→zB2 lx→zB2 lx}
  {ok:zB2 ly→zB2 lx→Prop}{comps:zB2 ly→zB2 lx→List Comp}{oks:zB2 ly→zB2 lx→List Prop}
  (hbody:∀ y x,eval c body (zE8 ly lx y x)=some ⟨oks y x,comps y x⟩) (hoks:∀ y x,ok y x→xL6 (oks y x))
  (hnext:∀ y x,∃ m,zA5 0 (comps y x)=some m∧tk m.g=g y x∧zC8 ly (m.d++zE8 ly lx y x)=some y∧zC8 lx (m.d++zE8 ly lx y x)=some (next y x)) :
  ∀ S out,yG ly lx g next ok comps S=some out→xT2 P c (.loop body) S out:=by
 intro S out h hok rd χ0 w0 vs a w G hR hk;unfold yG at h;split at h
 ·rename_i y x hy hx;injection h with h
  subst h;obtain⟨k,hkf,hruns⟩:=hok _ (List.mem_cons_self ..);have hR0:Rel c.n χ0 w0 (zE8 ly lx y x) a w G:=(zI1 hy (zI1 hx zP)).rel hR;refine xT3 (I:=fun k a w=>∃ x' G F,Rel c.n χ0 w0 (zE8 ly lx y x') a w G∧yQ4 c.keep vs a∧Runs (g y) (next y) (ok y) k x'∧k<F∧loopN (g y) (next y) F x'=zB9 (g y) (next y) x) (k:=k) ⟨x,G,zH7,hR0,hk,hruns,hkf,rfl⟩ ?_
  rintro k a w ⟨x',G,F,hR,hk,hruns,hF,hend⟩;have hokx:ok y x':=by cases k with|zero=>exact hruns.1|succ k=>exact hruns.1
  refine wpIn_mono (zU9 hc hm hL hw (hbody y x') (AllP_iff.1 (hoks y x' hokx)) rd χ0 w0 vs a w G hR hk) fun e a' w' hP=>?_;obtain⟨hP,hk'⟩:=hP;obtain⟨m,m1,m2,m3,m4⟩:=hnext y x';obtain⟨q,cp,G',h1,h2,h3,h4,h5⟩:=hP;by_cases he:e=.normal
  ·subst he;simp[zB3] at h1;subst h1;rw[m1] at h2;injection h2 with h2
   subst h2;rw[m2] at h3;cases k with
   |zero=>rw[hruns.2] at h3;grind
   |succ k =>
    cases F with
    |zero=>omega
    |succ F =>
     refine⟨k,by omega,next y x',G',F,(zI1 m3 (zI1 m4 zP)).rel h5,hk',hruns.2.2,by omega,?_⟩
     simp_all [Am.loopN]
  ·have hq:q≠0:=by
    intro e0;subst e0;cases e<;>simp[zB3] at h1 he
   have hg:g y x'=false:=by
    grind
   have hfin:x'=zB9 (g y) (next y) x:=by
    rw[← hend];cases F with
    |zero=>omega
    |succ F=>rw[Am.loopN,hg,cond_false]
   subst hfin;have hq0:Nat.beq q 0=false:=by cases q with|zero=>exact absurd rfl hq|succ q=>rfl
   have hfind:∀ k',zA5 k' (zX1 (zE8 ly lx y (zB9 (g y) (next y) x)) (comps y (zB9 (g y) (next y) x)))=(bif Nat.beq k' 0 then none else zA5 k' (comps y (zB9 (g y) (next y) x))).map fun cp=>⟨cp.kind,cp.g,cp.d++zE8 ly lx y (zB9 (g y) (next y) x)⟩:=by
    intro k';unfold zX1;rw[yA3 (f:=fun cp=>⟨cp.kind,cp.g,cp.d++zE8 ly lx y (zB9 (g y) (next y) x)⟩) (fun _=>rfl),zJ9]
   have hpost:yQ3 c.n χ0 w0 S (zX1 (zE8 ly lx y (zB9 (g y) (next y) x)) (comps y (zB9 (g y) (next y) x))) e a' w':=by
    refine⟨q,⟨cp.kind,cp.g,cp.d++zE8 ly lx y (zB9 (g y) (next y) x)⟩,G',h1,?_,h3,fun k' c' hf ht=>?_,?_⟩
    ·rw[hfind,hq0,cond_false,h2];rfl
    ·rw[hfind] at hf;cases hk':Nat.beq k' 0 with
     |true=>simp[hk'] at hf
     |false =>
      cases hx:zA5 k' (comps y (zB9 (g y) (next y) x))<;>grind
    grind [yA,xB5,zJ1,xF]
   cases e with
   |normal=>exact absurd rfl he
   |_=>exact⟨hpost,hk'⟩
 grind
end Go.Am
namespace Go.Am
open Go Go.RowKit
variable {gtab:GlobTab}{P:Program}{c:Ctx}{G:Gh}{w:World}{tm:Array Value}{n:Nat}{χ0:Nat→Nat→Nat}{w0:World}{S:St}{a:Act}
def yC4 [GlobTab] (c:Ctx)(S:St):ResultVar→Option AVal
 |.tmp t=>some (arg S (.tmp t))
 |.cell r T=>match yN6 c T (arg S (.tmp r)) (zA3 S (arg S (.tmp r))) with|some ([],A)=>some A | _=>none
def zP0 [GlobTab] (c:Ctx)(S:St):List ResultVar→Option AVal
 |[]=>some (.tup .nl)
 |[r]=>yC4 c S r
 |[r,s]=>match yC4 c S r,yC4 c S s with|some A,some B=>some (.tup (.cons A (.cons B .nl)))|_,_=>none
 |[r,s,t]=>match yC4 c S r,yC4 c S s,yC4 c S t with|some A,some B,some C=>some (.tup (.cons A (.cons B (.cons C .nl))))|_,_,_=>none
 |[r,s,t,u]=>match yC4 c S r,yC4 c S s,yC4 c S t,yC4 c S u with|some A,some B,some C,some D=>some (.tup (.cons A (.cons B (.cons C (.cons D .nl)))))|_,_,_,_=>none
 |_=>none
def xT4 (tmps:Array Value):ResultVar→Sem Value
 |.tmp t=>pure (tmps.getD t undef)
 |.cell a t=>do loadVar t (← asAddr (tmps.getD a undef))
theorem zE6 (hc:CtxOk P c)(hR:Rel n χ0 w0 S a w G){r:ResultVar}{A:AVal}(h:yC4 c S r=some A):∃ v,(xT4 a.tmps r).run P w=.ok v w∧zA G w a.tmps none A v:=by
 cases r with
 |tmp t =>
  simp[yC4] at h;subst h;exact⟨_,rfl,zJ7 hR (.tmp t)⟩
 |cell r T =>
  simp only[yC4] at h;split at h
  ·rename_i A' hl;have hx:=zJ7 hR (.tmp r);obtain⟨u,h1,h2⟩:=yI hc.tys hc.fts hx (fun s hs=>⟨_,by
    have:=hR.reps s;cases hA:arg S (.tmp r)<;>simp[hA,zD0] at hs<;>(subst hs;simpa[zA3] using this)⟩) hl (fun q hq=>by grind)
   simp only[xT4];have hv:a.eval (.tmp r)=a.tmps.getD r undef:=rfl;cases hvv:a.tmps.getD r undef with
   |pointer p =>
    cases p<;>simp_all [Instr.loadAt,Instr.sureAddr,asAddr]
   |_=>simp_all [Instr.loadAt,Instr.sureAddr]
  grind
theorem yW2 (hc:CtxOk P c)(hR:Rel n χ0 w0 S a w G){fn:Func}{A:AVal}(h:zP0 c S fn.results.toList=some A):∃ v,(results fn a.tmps).run P w=.ok v w∧zA G w a.tmps none A v:=by
 have hfn:fn.results=fn.results.toList.toArray:=by simp
 generalize fn.results.toList=l at h hfn;have hsem:results fn a.tmps=(do let vs ← fn.results.mapM (xT4 a.tmps);pure (if h:vs.size=1 then vs[0] else .tuple vs)):=by
  congr 1
 match l,h with
 |[],h=>simp[zP0] at h;subst h;simp_all [zA]
 |[r],h =>
  obtain⟨v,h1,h2⟩:=zE6 hc hR h;simp_all
 |[r,s],h =>
  simp only[zP0] at h;split at h
  ·rename_i A' B hA hB;injection h with h;subst h
   obtain⟨v,h1,h2⟩:=zE6 hc hR hA;obtain⟨v',h1',h2'⟩:=zE6 hc hR hB;exact⟨.tuple #[v,v'],by simp_all,by exact⟨v,[v'],rfl,h2,v',[],rfl,h2',rfl⟩⟩
  grind
 |[r,s,t],h =>
  simp only[zP0] at h;split at h
  ·rename_i A' B C hA hB hC;injection h with h;subst h
   obtain⟨v,h1,h2⟩:=zE6 hc hR hA;obtain⟨v',h1',h2'⟩:=zE6 hc hR hB;obtain⟨v'',h1'',h2''⟩:=zE6 hc hR hC;exact⟨.tuple #[v,v',v''],by simp_all,by exact⟨v,[v',v''],rfl,h2,v',[v''],rfl,h2',v'',[],rfl,h2'',rfl⟩⟩
  grind
 |[r,s,t,u],h =>
  simp only[zP0] at h;split at h
  ·rename_i A' B C D hA hB hC hD;injection h with h;subst h
   obtain⟨v,h1,h2⟩:=zE6 hc hR hA;obtain⟨v',h1',h2'⟩:=zE6 hc hR hB;obtain⟨v'',h1'',h2''⟩:=zE6 hc hR hC;obtain⟨v3,h13,h23⟩:=zE6 hc hR hD;exact⟨.tuple #[v,v',v'',v3],by simp_all,by exact⟨v,[v',v'',v3],rfl,h2,v',[v'',v3],rfl,h2',v'',[v3],rfl,h2'',v3,[],rfl,h23,rfl⟩⟩
  grind
 |_::_::_::_::_::_,h=>grind [zP0]
def xB8 (S:St)(l:List Comp):Option St:=
 bif l.all (fun x=>Nat.ble x.kind 1) then
  match zA5 0 l,zA5 1 l with
  |none,some r=>some r.d
  |some m,none=>some m.d
  |some m,some r=>some (zE7 (tk r.g) r.d m.d S)
  |none,none=>none
 else none
theorem yW3 {k:Nat}{x:Comp}:∀ {l:List Comp},zA5 k l=some x→x∈l:=by
 intro l
 induction l<;>grind [zA5]
theorem yQ5 {l:List Comp}{d:St}{e:Exit}(h:xB8 S l=some d)(hP:yQ3 n χ0 w0 S l e a w):(e=.normal∨e=.ret)∧∃ G,Rel n χ0 w0 (d++S) a w G:=by
 obtain⟨k,cp,G,h1,h2,h3,h4,h5⟩:=hP;unfold xB8 at h;generalize hall:l.all (fun x=>Nat.ble x.kind 1)=b at h;cases b with
 |false=>grind
 |true =>
  have hk:k≤1:=by
   have:=List.all_eq_true.1 hall cp (yW3 h2);rw[zO9 h2] at this;simp_all
  have he:e=.normal∨e=.ret:=by
   cases e<;>grind [id,zB3,Option.some.injEq]
  refine⟨he,G,?_⟩;obtain rfl|rfl:k=0∨k=1:=by omega
  all_goals grind [tk,zM6,zQ6]
def zV3:Nat→List AVal→St
 |_,[]=>[]
 |i,A::r=>(i,A)::zV3 (i+1) r
@[reducible] def zX2:List (Nat×Sh)→Type
 |[]=>Unit
 |(_,s)::r=>s.den×zX2 r
def wD8:(s:Sh)→s.den→AVal
 |.box _ s,x=>s.mk x
 |s,x=>s.mk x
def mkO:(l:List (Nat×Sh))→zX2 l→List (Nat×AVal)
 |[],_=>[]
 |(i,s)::r,x=>bif Nat.blt i vNo then (i,wD8 s x.1)::mkO r x.2 else mkO r x.2
def wA5:(l:List (Nat×Sh))→zX2 l→List (Nat×AVal)
 |[],_=>[]
 |(i,s)::r,x=>bif Nat.blt i vNo then wA5 r x.2 else (i,s.mk x.1)::wA5 r x.2
def zT0:(l:List (Nat×Sh))→St→Option (zX2 l)
 |[],_=>some ()
 |(i,s)::r,S=>match s.parse (S.get i),zT0 r S with|some x,some y=>some (x,y)|_,_=>none
def xB9:Sh→Bool
 |.box _ _=>true|.may _ _=>true|_=>false
def fnSpec (ps:List (Nat×Sh))(rs:Sh)(os:List (Nat×Sh))(ok:zB2 ps→Prop)(f:zB2 ps→rs.den)(o:zB2 ps→zX2 os):Spec:=fun args =>
 bif Nat.beq args.length ps.length then
  match zC8 ps (zV3 0 args) with
  |some x=>some ⟨[ok x],rs.mk (f x),mkO os (o x),wA5 os (o x)⟩
  |none=>none
 else none
def wC:Nat→List (Nat×Sh)→Bool
 |_,[]=>true
 |i,(k,_)::r=>Nat.beq k i&&wC (i+1) r
def wE7 (ps:List (Nat×Sh))(keep:List Nat)(os:List (Nat×Sh)):Bool:=
 os.all fun e=>Nat.ble vNo e.1||keep.any (Nat.beq e.1)&&(match ps[e.1]? with
  |some (_,.box τ _)=>(match e.2 with|.box τ' _=>Ty.beq τ' τ | _=>false)
  |some (_,.any)=>false
  |some (_,.may _ _)=>false
  |some _=>!xB9 e.2
  |none=>false)
theorem yK {s:Nat}:∀ {args:List AVal}{i:Nat},i≤s→s<i+args.length→i+args.length≤zA6→some ((zV3 i args).get s)=args[s-i]?:=by
 intro args
 induction args with
 |nil=>grind
 |cons A r ih =>
  intro i h1 h2 h3;simp[zV3,St.get];by_cases e:i=s
  ·simp_all
  grind [Nat.beq,absurd,Nat.eq_of_beq_eq_true]
theorem xT5 {s:Nat}:∀ {args:List AVal}{i:Nat},i+args.length≤s∨s<i→(zV3 i args).get s=.junk:=by
 intro args
 induction args<;>grind [zV3,St.get,Nat.beq,Nat.eq_of_beq_eq_true]
theorem yN0 {S:St}:∀ {ps:List (Nat×Sh)}{x:zB2 ps}{k:Nat}{i:Nat}{s:Sh},zC8 ps S=some x→ps[k]?=some (i,s)→∃ y,s.parse (S.get i)=some y:=by
 intro ps
 induction ps<;>grind [zC8]
theorem wD9:∀ {ps:List (Nat×Sh)}{i k j:Nat}{s:Sh},wC i ps=true→ps[k]?=some (j,s)→j=i+k:=by
 intro ps
 induction ps with
 |nil=>grind
 |cons e r ih =>
  intro i k j s h hk;simp[wC] at h
  grind
theorem xT6 {S:St}{i:Nat}{k:AVal}:∀ {os:List (Nat×Sh)}{x:zX2 os},zT0 os S=some x→(i,k)∈mkO os x→i<vNo∧∃ s y,(i,s)∈os∧k=wD8 s y∧s.parse (S.get i)=some y:=by
 intro os
 induction os with
 |nil=>intro x _ h;cases h
 |cons e r ih =>
  intro x hp hk;obtain⟨j,s⟩:=e;simp only[zT0] at hp;split at hp
  ·rename_i y z hy hz;injection hp with hp
   subst hp;have hr:(i,k)∈mkO r z→i<vNo∧∃ s' y,(i,s')∈(j,s)::r∧k=wD8 s' y∧s'.parse (S.get i)=some y:=fun h=>by
    obtain⟨q,s',y',h1,h2,h3⟩:=ih hz h;exact⟨q,s',y',List.mem_cons_of_mem _ h1,h2,h3⟩
   simp only[mkO] at hk;cases hb:Nat.blt j vNo with
   |false=>rw[hb] at hk;exact hr hk
   |true =>
    rw[hb] at hk;rcases List.mem_cons.1 hk with h|h
    ·injection h with h1 h2
     subst h1;subst h2;exact⟨Nat.le_of_ble_eq_true hb,s,y,List.mem_cons_self ..,rfl,hy⟩
    ·exact hr h
  ·cases hp
theorem xK9 {S:St}{i:Nat}{k:AVal}:∀ {os:List (Nat×Sh)}{x:zX2 os},zT0 os S=some x→(i,k)∈wA5 os x→¬ i<vNo∧∃ (s:Sh) (y:s.den),k=s.mk y∧s.parse (S.get i)=some y:=by
 intro os
 induction os with
 |nil=>intro x _ h;cases h
 |cons e r ih =>
  intro x hp hk;obtain⟨j,s⟩:=e;simp only[zT0] at hp;split at hp
  ·rename_i y z hy hz;injection hp with hp
   subst hp;simp only[wA5] at hk;cases hb:Nat.blt j vNo with
   |true=>rw[hb] at hk;exact ih hz hk
   |false =>
    rw[hb] at hk;rcases List.mem_cons.1 hk with h|h
    ·injection h with h1 h2
     subst h1;subst h2;refine⟨fun h=>?_,s,y,rfl,hy⟩;have:Nat.blt i vNo=true:=Nat.ble_eq ▸ h;rw[hb] at this;cases this
    ·exact ih hz h
  ·cases hp
theorem xT7 {s:Sh}{A:AVal}{x:s.den}{τ:Ty}{k0:AVal}(h:s.parse A=some x)(hA:A=.box τ k0):(s=.any∨∃ τ' s',s=.may τ' s')∨∃ s',s=.box τ s':=by
 cases s with
 |box τ' s' =>
  simp[Sh.parse,xT1] at h;cases hb:Ty.beq τ' τ with
  |true=>have:=Ty.eq_of_beq hb;simp_all
  |false=>grind
 |any=>simp_all
 |may τ' s=>exact .inl (.inr ⟨_,_,rfl⟩)
 |nilp=>subst hA;simp[Sh.parse,xT0] at h
 |pn q τ'=>subst hA;simp[Sh.parse,wD7] at h
 |val τ'=>grind [Sh.parse,AVal.as,AVal.asT]
 |own t T m=>grind [Sh.parse,xB4]
 |nl=>grind [Sh.parse,wA1]
 |cons a b=>grind [Sh.parse,yN]
 |agg f s=>grind [Sh.parse,xK7]
 |ref s τ'=>grind [Sh.parse,yM9]
 |tup s=>grind [Sh.parse,wA2]
 |fn f s=>grind [Sh.parse,wH8]
 |nil=>grind [Sh.parse,xE8]
 |nn b=>grind [Sh.parse,wA]
 |fptr f caps=>grind [Sh.parse,xE9]
 |ownh t T U m=>grind [Sh.parse,yM8]
def zC1 (ps:List (Nat×Sh))(x:zB2 ps):St:=wA4 ps x++yW1
theorem xL:∀ {ps:List (Nat×Sh)}{x:zB2 ps},∀ e∈zC1 ps x,e.2.hasOpt=false:=by
 intro ps
 induction ps with
 |nil=>intro x e he;simp[zC1,wA4,yW1] at he;subst he;rfl
 |cons q r ih =>
  intro x e he;rcases List.mem_cons.1 he with h|h
  ·grind [yF8]
  ·exact ih e h
def wG2 [GlobTab] (P:Program)(c:Ctx)(code:Code)(S S':St):Prop:=
 ∀ (rd:Option Nat) (χ0:Nat→Nat→Nat) (w0:World) (vs:Nat→Value) (a:Act) (w:World) (G:Gh),Rel c.n χ0 w0 S a w G→yQ4 c.keep vs a →
  code.wpIn (fz rd) 0 P (fun e a' w'=>(e=.normal∨e=.ret)∧(∃ G',Rel c.n χ0 w0 S' a' w' G')∧yQ4 c.keep vs a') a w
theorem xF0 (hc:CtxOk P c){f:Nat}{fn:Func}{code:Code}(hf:P.funcs[f]?=some fn)(hb:fn.body=some code)(hname:fn.name≠"runtime.NumGoroutine") (hn:fn.ntmps=c.n)
  {ps:List (Nat×Sh)}{rs:Sh}{os:List (Nat×Sh)}{ok:zB2 ps→Prop}{F:zB2 ps→rs.den}{o:zB2 ps→zX2 os}
  {D:zB2 ps→St}{res:zB2 ps→AVal}(hps:(wC 0 ps&&wE7 ps c.keep os&&Nat.ble ps.length c.n)=true)
  (hrun:∀ x,ok x→wG2 P c code (zC1 ps x) (D x)) (hres:∀ x,zP0 c (D x) fn.results.toList=some (res x)) (hpar:∀ x,rs.parse (res x)=some (F x))
  (hout:∀ x,zT0 os (D x)=some (o x)):SpecOk P f (fnSpec ps rs os ok F o):=by
 simp only[Bool.and_eq_true] at hps;obtain⟨⟨hps1,hps2⟩,hps3⟩:=hps;have hps3:ps.length≤c.n:=Nat.le_of_ble_eq_true hps3;refine⟨⟨fn,hf,by rw[hb];rfl,hname⟩,fun args co hsp hok G w vals hlen hglob hreps=>?_⟩;unfold fnSpec at hsp;generalize hal:Nat.beq args.length ps.length=b at hsp;cases b with
 |false=>cases hsp
 |true =>
  have hal:=Nat.eq_of_beq_eq_true hal;simp only[cond_true] at hsp;split at hsp
  ·rename_i x hx;injection hsp with hsp
   subst hsp;have hokx:ok x:=hok _ (List.mem_cons_self ..);refine callsIn_wide.1 (callsIn_of_wp (n:=0) hf hb trivial ?_);generalize hact:({ tmps:=vals.toArray++Array.replicate (fn.ntmps-vals.toArray.size) undef,defers:=[] }:Act)=act;have hget:∀ s,s<vals.length→act.tmps.getD s undef=vals.getD s undef:=by
    intro s hs;rw[← hact];simp[Array.getElem?_append,hs]
   have hcn:=hc.n;have hvc:vNo<zA6:=by decide
   have hrel:Rel c.n G.χ w (zC1 ps x) act w G:=by
    refine⟨?_,by rw[← hact],fun s=>?_,⟨rfl,rfl,rfl,Nat.le_refl _,fun _ _ _=>rfl,fun _ _ _ _=>⟨rfl,rfl⟩⟩,hglob⟩
    ·rw[← hact];simp;omega
    ·have key:zA G w #[] (some s) ((zC1 ps x).get s) (act.tmps.getD s undef):=by
      refine zI1 hx zP s G w #[] _ ?_;by_cases hs:s<args.length
      ·have h1:=yK (s:=s) (args:=args) (i:=0) (by omega) (by omega) (by omega);simp only[Nat.sub_zero] at h1;have h2:vals[s]?=some (vals.getD s undef):=by simp[List.getElem?_eq_getElem (show s<vals.length by omega)]
       rw[hget s (by omega)];exact hreps s _ _ h1.symm h2
      ·rw[xT5 (.inl (by omega))];simp only[zA]
     refine zN5 (fun k hk=>?_) key;have:=zX0 (q:=fun A=>A.hasOpt=false) rfl (S:=zC1 ps x) (s:=s) xL;rw[zL5 this] at hk;cases hk
   refine wpIn_mono (hrun x hokx none G.χ w (fun i=>act.tmps.getD i undef) act w G hrel (fun i _=>rfl)) fun e a' w' hP=>?_;obtain⟨he,⟨G',hR⟩,hk⟩:=hP;obtain⟨v,hv1,hv2⟩:=yW2 hc hR (hres x);have hfinal:a'.defers=[]∧∃ v,(results fn a'.tmps).run P w'=.ok v w'∧∃ v' G',Ending.returned v=.returned v'∧Frame0 G.χ w G'.χ w'∧zA G' w' #[] none (rs.mk (F x)) v' ∧
     (∀ (i:Nat) k A u,(i,k)∈mkO os (o x)→args[i]?=some A→vals[i]?=some u →
      (∀ τ k0,A=.box τ k0→zA G' w' #[] (some i) (.box τ k) u∧G'.β i=G.β i)∧(zF8 A=false→zA G' w' #[] none k u))∧∀ k B,(k,B)∈wA5 os (o x)→zA G' w' #[] (some k) B undef:=by
    refine⟨hR.defers,v,hv1,v,G',rfl,hR.frame,?_,?_,?_⟩
    ·refine zN5 (fun k hk=>?_) (zE2 (hpar x) hv2);rw[zL5 yF8] at hk;cases hk
    ·intro i k A u hi ha hu;obtain⟨hiv,s',y,h1,rfl,h3⟩:=xT6 (hout x) hi;simp only[wE7,List.all_eq_true,Bool.or_eq_true,Bool.and_eq_true] at hps2;have h4:=(hps2 _ h1).resolve_left (fun h=>absurd (Nat.le_of_ble_eq_true h) (Nat.not_le.2 hiv));simp only at h4;have hrep:=zE2 h3 (hR.reps i);have hilt:i<args.length:=(List.getElem?_eq_some_iff.1 ha).1;have hkeep:a'.tmps.getD i undef=u:=by
      obtain⟨j,hj,hjb⟩:=List.any_eq_true.1 h4.1;have:=Nat.eq_of_beq_eq_true hjb;subst this;rw[hk i hj];show act.tmps.getD i undef=u;rw[hget i (by omega)];simp[hu]
     rw[hkeep] at hrep;have hrep:zA G' w' #[] (some i) (s'.mk y) u:=zN5 (fun k hk=>by rw[zL5 yF8] at hk;cases hk) hrep;obtain⟨p,hpi⟩:∃ p,ps[i]?=some (i,p)∧∃ z,p.parse A=some z:=by
      have hil:i<ps.length:=by omega
      obtain⟨⟨j,p⟩,hpi⟩:∃ q,ps[i]?=some q:=⟨_,List.getElem?_eq_getElem hil⟩;have hj:=wD9 hps1 hpi;simp only[Nat.zero_add] at hj;subst hj;obtain⟨z,hz⟩:=yN0 hx hpi;have h1:=yK (s:=j) (args:=args) (i:=0) (by omega) (by omega) (by omega);simp only[Nat.sub_zero,ha,Option.some.injEq] at h1;rw[h1] at hz;exact⟨p,hpi,z,hz⟩
     obtain⟨hpi,z,hz⟩:=hpi;rw[hpi] at h4;constructor
     ·rintro τ k0 rfl;rcases xT7 hz rfl with (rfl|⟨_,_,rfl⟩)|⟨s2,rfl⟩
      ·simp at h4
      ·simp at h4
      ·simp only at h4;cases s' with
       |box τ' s3 =>
        have:=Ty.eq_of_beq h4.2;subst this;refine⟨hrep,?_⟩;have h0:=hreps i _ _ ha hu;simp only[Sh.mk,zA] at h0 hrep;have:=(h0.1 hiv).symm.trans (hrep.1 hiv);simp only[Value.pointer.injEq,Option.some.injEq,Addr.mk.injEq] at this;exact this.1.symm
       |_=>simp at h4
     ·intro hA;cases s' with
      |box τ' s3 =>
       exfalso;split at h4
       ·rename_i j τ2 s2 e;simp only[Option.some.injEq,Prod.mk.injEq] at e;obtain⟨rfl,rfl⟩:=e;simp only[Sh.parse] at hz;cases A<;>simp[xT1,zF8] at hz hA
       all_goals simp[xB9] at h4
      |may τ' s3 =>
       exfalso;split at h4
       all_goals simp[xB9] at h4
      |_=>exact zO2 (by simpa only[wD8] using hrep) (by intro τ c e;simp only[wD8,Sh.mk] at e;cases e) (by intro e;simp only[wD8,Sh.mk] at e;cases e) (by intro _ _ _ e;simp only[wD8,Sh.mk] at e;cases e)
    ·intro k B hk;obtain⟨hkv,s',y,rfl,hy⟩:=xK9 (hout x) hk;have hrep:=zE2 hy (hR.reps k);have hun:a'.tmps.getD k undef=undef:=by
      have hsz:=hR.len;have hkn:¬ k<a'.tmps.size:=by rw[hsz];exact fun h=>hkv (Nat.lt_of_lt_of_le h hc.n)
      simp[Array.getElem?_eq_none (Nat.le_of_not_lt hkn)]
     rw[hun] at hrep;exact zN5 (fun k hk=>by rw[zL5 yF8] at hk;cases hk) hrep
   rcases he with rfl|rfl
   ·exact hfinal
   ·exact hfinal
  ·cases hsp
theorem xL0 (hc:CtxOk P c)(hm:P.follows .mixedOrders=true){f:Nat}{fn:Func}{code:Code}(hf:P.funcs[f]?=some fn)(hb:fn.body=some code)(hname:fn.name≠"runtime.NumGoroutine") (hn:fn.ntmps=c.n)
  (hL:zJ2 P c code) (hw:zC9 c.keep code=true){ps:List (Nat×Sh)}{rs:Sh}{os:List (Nat×Sh)}{ok:zB2 ps→Prop}{F:zB2 ps→rs.den}{o:zB2 ps→zX2 os}
  {oks:zB2 ps→List Prop}{comps:zB2 ps→List Comp}{d:zB2 ps→St}{res:zB2 ps→AVal}(hps:(wC 0 ps&&wE7 ps c.keep os&&Nat.ble ps.length c.n)=true)
  (heval:∀ x,eval c code (zC1 ps x)=some ⟨oks x,comps x⟩) (hoks:∀ x,ok x→xL6 (oks x))
  (hfin:∀ x,xB8 (zC1 ps x) (comps x)=some (d x)) (hres:∀ x,zP0 c (d x++zC1 ps x) fn.results.toList=some (res x)) (hpar:∀ x,rs.parse (res x)=some (F x))
  (hout:∀ x,zT0 os (d x++zC1 ps x)=some (o x)):SpecOk P f (fnSpec ps rs os ok F o):=
 xF0 hc hf hb hname hn (D:=fun x=>d x++zC1 ps x) hps (fun x hx rd χ0 w0 vs a w G hR hk=>wpIn_mono (zU9 hc hm hL hw (heval x) (AllP_iff.1 (hoks x hx)) rd χ0 w0 vs a w G hR hk) fun _ _ _ hP=>⟨(yQ5 (hfin x) hP.1).1,(yQ5 (hfin x) hP.1).2,hP.2⟩) hres hpar hout
end Go.Am
namespace Go.Am
open Go Go.RowKit
variable {gtab:GlobTab}{P:Program}{c:Ctx}
def wE8 (H:St):List Comp→List (List (Nat×Sh))→Option (List Comp)
 |[],[]=>some []
 |cp::r,l::s=>match zC8 l (cp.d++H),wE8 H r s with
  |some z,some q=>some (⟨cp.kind,cp.g,wA4 l z++yW1⟩::q)
  |_,_=>none
 |_,_=>none
def wH9 (H:St)(l:List Comp)(ls:List (List (Nat×Sh))):Option (List Comp):=
 match wE8 H l ls with
 |some [q]=>some [⟨q.kind,none,q.d⟩]
 |r=>r
def yC5 [GlobTab] (c:Ctx)(body:Code)(ly lx:List (Nat×Sh))(les:List (List (Nat×Sh)))(y:zB2 ly)(x:zB2 lx):Option (Prop×Bool×zB2 ly×zB2 lx×List Comp):=
 match eval c body (zE8 ly lx y x) with
 |none=>none
 |some o=>match zA5 0 o.comps with
  |none=>none
  |some m=>match zC8 ly (m.d++zE8 ly lx y x),zC8 lx (m.d++zE8 ly lx y x),wH9 (zE8 ly lx y x) (zJ3 0 o.comps) les with
   |some y',some x',some es=>some (xL6 o.ok,tk m.g,y',x',es)
   |_,_,_=>none
def xT8 (ly lx:List (Nat×Sh))(g:zB2 ly→zB2 lx→Bool)(next:zB2 ly→zB2 lx→zB2 lx)(ok:zB2 ly→zB2 lx→Prop)(es:zB2 ly→zB2 lx→List Comp)(S:St):Option Out:=
 match zC8 ly S,zC8 lx S with
 |some y,some x=>some ⟨[xB7 (g y) (next y) (ok y) x],es y (zB9 (g y) (next y) x)⟩
 |_,_=>none
theorem xC {H:St}{k:Nat}:∀ {l:List Comp}{ls:List (List (Nat×Sh))}{es:List Comp},wE8 H l ls=some es →
  (zA5 k es=none∧zA5 k l=none)∨∃ cp cp',zA5 k l=some cp∧zA5 k es=some cp'∧cp'.g=cp.g∧St.hasCut cp'.d=true∧Weaker cp'.d (cp.d++H):=by
 intro l
 induction l with
 |nil=>intro ls es h;cases ls<;>simp[wE8] at h;subst h;exact .inl ⟨rfl,rfl⟩
 |cons cp r ih =>
  intro ls es h;cases ls with
  |nil=>grind [wE8]
  |cons s ls =>
   simp only[wE8] at h;split at h
   ·rename_i z q hz hq;injection h with h
    subst h;simp only[zA5];cases Nat.beq cp.kind k with
    |true=>exact .inr ⟨cp,_,rfl,rfl,rfl,zJ1 rfl,zI1 hz zP⟩
    |false=>grind
   grind
theorem xT9 {H:St}{k:Nat}{l:List Comp}{ls:List (List (Nat×Sh))}{es:List Comp}(h:wH9 H l ls=some es) :
  (zA5 k es=none∧zA5 k l=none)∨∃ cp cp',zA5 k l=some cp∧zA5 k es=some cp'∧(cp'.g=cp.g∨(cp'.g=none∧∀ k' c',zA5 k' l=some c'→k'=k))∧St.hasCut cp'.d=true∧Weaker cp'.d (cp.d++H):=by
 unfold wH9 at h;split at h
 ·rename_i q hq;have hone:∀ k',zA5 k' [q]=none→zA5 k' l=none:=fun k' h'=>by
   grind [xC]
  rcases xC (k:=k) hq with ⟨h1,h2⟩ | ⟨cp,cp',h1,h2,h3,h4,h5⟩
  ·grind [zA5]
  ·right;have hqk:=h2;simp only[zA5] at hqk;cases hb:Nat.beq q.kind k with
   |false=>grind
   |true =>
    simp[hb] at hqk;subst hqk;refine⟨cp,⟨q.kind,none,q.d⟩,h1,by grind [zA5],.inr ⟨rfl,fun k' c' hf=>?_⟩,h4,h5⟩;cases hb':Nat.beq q.kind k'<;>simp_all [zA5]
 grind [xC]
theorem wA6 (hc:CtxOk P c)(hm:P.follows .mixedOrders=true){body:Code}(hL:zJ2 P c body)(hw:zC9 c.keep body=true){ly lx:List (Nat×Sh)}{les:List (List (Nat×Sh))}{g:zB2 ly→zB2 lx→Bool}{next:zB2 ly→zB2 lx→zB2 lx}
  {ok:zB2 ly→zB2 lx→Prop}{es:zB2 ly→zB2 lx→List Comp}(hsum:∀ y x,yC5 c body ly lx les y x=some (ok y x,g y x,y,next y x,es y x)) :
  ∀ S out,xT8 ly lx g next ok es S=some out→xT2 P c (.loop body) S out:=by
 intro S out h hok rd χ0 w0 vs a w G hR hk;unfold xT8 at h;split at h
 ·rename_i y x hy hx;injection h with h
  subst h;have hopen:∀ y x,∃ o m,eval c body (zE8 ly lx y x)=some o∧zA5 0 o.comps=some m∧xL6 o.ok=ok y x∧tk m.g=g y x∧zC8 ly (m.d++zE8 ly lx y x)=some y∧zC8 lx (m.d++zE8 ly lx y x)=some (next y x)∧wH9 (zE8 ly lx y x) (zJ3 0 o.comps) les=some (es y x):=by
   intro y x;have:=hsum y x;unfold yC5 at this;split at this
   ·cases this
   ·rename_i o ho;split at this
    ·cases this
    ·rename_i m hm;split at this
     ·rename_i y' x' es' h1 h2 h3;simp only[Option.some.injEq,Prod.mk.injEq] at this;obtain⟨e1,e2,rfl,rfl,rfl⟩:=this;exact⟨o,m,ho,hm,e1,e2,h1,h2,h3⟩
     ·cases this
  let O:zB2 ly→zB2 lx→Out:=fun y x=>(eval c body (zE8 ly lx y x)).getD ⟨[],[]⟩
  have hO:∀ y x,eval c body (zE8 ly lx y x)=some (O y x):=by
   intro y x;obtain⟨o,m,h1,_⟩:=hopen y x;simp only[O,h1,Option.getD_some]
  have hspec:yG ly lx g next ok (fun y x=>(O y x).comps) S=some ⟨[xB7 (g y) (next y) (ok y) x],zX1 (zE8 ly lx y (zB9 (g y) (next y) x)) (O y (zB9 (g y) (next y) x)).comps⟩:=by
   unfold yG;rw[hy,hx]
  have hsnd:=xK8 hc hm hL hw (g:=g) (next:=next) (ok:=ok) (comps:=fun y x=>(O y x).comps) (oks:=fun y x=>(O y x).ok) hO (fun y x hx=>by
   obtain⟨o,m,h1,h2,h3,_⟩:=hopen y x;have:=hO y x;rw[h1] at this;injection this with this
   rw[← this,h3];exact hx) (fun y x=>by
   obtain⟨o,m,h1,h2,h3,h4,h5,h6,h7⟩:=hopen y x;have:=hO y x;rw[h1] at this;injection this with this
   exact⟨m,by rw[← this];exact h2,h4,h5,h6⟩) S _ hspec hok rd χ0 w0 vs a w G hR hk
  refine wpIn_mono hsnd fun e a' w' hP=>⟨?_,hP.2⟩;obtain⟨k,cp,G',q1,q2,q3,q4,q5⟩:=hP.1;obtain⟨o,m,h1,h2,h3,h4,h5,h6,h7⟩:=hopen y (zB9 (g y) (next y) x)
  have hoo:=hO y (zB9 (g y) (next y) x)
  rw[h1] at hoo;injection hoo with hoo
  have hfind:∀ k',zA5 k' (zX1 (zE8 ly lx y (zB9 (g y) (next y) x)) (O y (zB9 (g y) (next y) x)).comps)=(zA5 k' (zJ3 0 o.comps)).map fun cp=>⟨cp.kind,cp.g,cp.d++zE8 ly lx y (zB9 (g y) (next y) x)⟩:=by
   intro k';unfold zX1;rw[yA3 (f:=fun cp=>⟨cp.kind,cp.g,cp.d++zE8 ly lx y (zB9 (g y) (next y) x)⟩) (fun _=>rfl),hoo]
  rw[hfind] at q2;rcases xT9 (k:=k) h7 with ⟨_,e2⟩ | ⟨c1,c2,e1,e2,e3,e4,e5⟩
  ·rw[e2] at q2;cases q2
  ·rw[e1] at q2;simp only[Option.map_some,Option.some.injEq] at q2;subst q2;have htk:tk c2.g=true:=by
    rcases e3 with e3|⟨e3,_⟩
    ·rw[e3];exact q3
    ·rw[e3];rfl
   refine⟨k,c2,G',q1,e2,htk,fun k' c' hf ht=>?_,?_⟩
   ·rcases xT9 (k:=k') h7 with ⟨f1,_⟩ | ⟨d1,d2,f1,f2,f3,_,_⟩
    ·rw[f1] at hf;cases hf
    ·rw[f2] at hf;injection hf with hf
     subst hf;rcases f3 with f3|⟨_,f3⟩
     ·refine q4 k' ⟨d1.kind,d1.g,d1.d++zE8 ly lx y (zB9 (g y) (next y) x)⟩ (by rw[hfind,f1];rfl) ?_
      rw[f3] at ht;exact ht
     ·exact (f3 k c1 e1).symm
   ·have r1:Rel c.n χ0 w0 (c1.d++zE8 ly lx y (zB9 (g y) (next y) x)) a' w' G':=yA (fun s=>(xB5 (zJ1 xF)).symm) q5
    exact yA (fun s=>xB5 e4) (e5.rel r1)
 ·cases h
def xC0 [GlobTab] (c:Ctx)(code:Code)(rv:List ResultVar)(ps:List (Nat×Sh))(rs:Sh)(os:List (Nat×Sh))(x:zB2 ps):Option (Prop×rs.den×zX2 os):=
 match eval c code (zC1 ps x) with
 |none=>none
 |some o=>match xB8 (zC1 ps x) o.comps with
  |none=>none
  |some d=>match zP0 c (d++zC1 ps x) rv,zT0 os (d++zC1 ps x) with
   |some r,some z=>(match rs.parse r with|some v=>some (xL6 o.ok,v,z)|none=>none)
   |_,_=>none
theorem wA7 (hc:CtxOk P c)(hm:P.follows .mixedOrders=true){f:Nat}{fn:Func}{code:Code}(hf:P.funcs[f]?=some fn)(hb:fn.body=some code)(hname:fn.name≠"runtime.NumGoroutine") (hn:fn.ntmps=c.n)
  (hL:zJ2 P c code) (hw:zC9 c.keep code=true){ps:List (Nat×Sh)}{rs:Sh}{os:List (Nat×Sh)}{ok:zB2 ps→Prop}{F:zB2 ps→rs.den}{o:zB2 ps→zX2 os}
  (hps:(wC 0 ps&&wE7 ps c.keep os&&Nat.ble ps.length c.n)=true){rv:List ResultVar}(hrv:fn.results.toList=rv)
  (hsum:∀ x,xC0 c code rv ps rs os x=some (ok x,F x,o x)):SpecOk P f (fnSpec ps rs os ok F o):=by
 have hopen:∀ x,∃ out d r,eval c code (zC1 ps x)=some out∧xB8 (zC1 ps x) out.comps=some d∧zP0 c (d++zC1 ps x) fn.results.toList=some r∧rs.parse r=some (F x)∧zT0 os (d++zC1 ps x)=some (o x)∧xL6 out.ok=ok x:=by
  intro x;have:=hsum x;unfold xC0 at this
  grind
 let O:zB2 ps→Out:=fun x=>(eval c code (zC1 ps x)).getD ⟨[],[]⟩
 let D:zB2 ps→St:=fun x=>(xB8 (zC1 ps x) (O x).comps).getD []
 let R:zB2 ps→AVal:=fun x=>(zP0 c (D x++zC1 ps x) fn.results.toList).getD .junk
 have hO:∀ x,eval c code (zC1 ps x)=some (O x)∧xB8 (zC1 ps x) (O x).comps=some (D x)∧zP0 c (D x++zC1 ps x) fn.results.toList=some (R x)∧rs.parse (R x)=some (F x)∧zT0 os (D x++zC1 ps x)=some (o x)∧xL6 (O x).ok=ok x:=by
  intro x;obtain⟨out,d,r,h1,h2,h3,h4,h5,h6⟩:=hopen x
  grind
 exact xL0 hc hm hf hb hname hn hL hw (oks:=fun x=>(O x).ok) (comps:=fun x=>(O x).comps) (d:=D) (res:=R) hps (fun x=>(hO x).1) (fun x hx=>by grind) (fun x=>(hO x).2.1) (fun x=>(hO x).2.2.1) (fun x=>(hO x).2.2.2.1) (fun x=>(hO x).2.2.2.2.1)
end Go.Am
namespace Go.Am
open Go Go.RowKit
variable {gtab:GlobTab}{P:Program}{c:Ctx}
def zG6:Code→List Code
 |.seq a b=>zG6 a++zG6 b
 |.cond _ a b=>zG6 a++zG6 b
 |.block _ a=>zG6 a
 |.loop a=>[a]
 |_=>[]
def wI9 (cd:Code)(i:Nat):Code:=(zG6 cd).getD i .skip
def xC1 [GlobTab] (P:Program)(c:Ctx)(b:Code):Prop:=∀ S out,look (fun _=>none) c.loops (zD7 b) S=some out→xT2 P c (.loop b) S out
def zN2 [GlobTab] (P:Program)(c:Ctx):List Code→Prop
 |[]=>True
 |b::r=>xC1 P c b∧zN2 P c r
theorem yA5:∀ {l r:List Code},zN2 P c (l++r)→zN2 P c l∧zN2 P c r:=by
 intro l
 induction l with
 |nil=>intro r h;exact⟨trivial,h⟩
 |cons b l ih=>intro r h;have:=ih h.2;exact⟨⟨h.1,this.1⟩,this.2⟩
theorem yK0:∀ {code:Code}{bs:List Code},zG6 code=bs→zN2 P c bs→zJ2 P c code:=by
 intro code
 induction code with
 |seq a b iha ihb=>intro bs he h;subst he;simp only[zG6] at h;have:=yA5 h;exact⟨iha rfl this.1,ihb rfl this.2⟩
 |cond x a b iha ihb=>intro bs he h;subst he;simp only[zG6] at h;have:=yA5 h;exact⟨iha rfl this.1,ihb rfl this.2⟩
 |block id a ih=>intro bs he h;subst he;simp only[zG6] at h;exact ih rfl h
 |loop a _=>intro bs he h;subst he;simp only[zG6] at h;exact h.1
 |_=>intro bs _ _;trivial
def xU [GlobTab] (P:Program):List (Nat×Spec)→Prop
 |[]=>True
 |(f,sp)::r=>SpecOk P f sp∧xU P r
theorem xF1:∀ {l:List (Nat×Spec)},xU P l→∀ f sp,(f,sp)∈l→SpecOk P f sp:=by
 intro l
 induction l with
 |nil=>intro _ f sp h;cases h
 |cons e r ih =>
  intro h f sp hm;obtain⟨g,s⟩:=e;rcases List.mem_cons.1 hm with e|hm
  ·simp only[Prod.mk.injEq] at e;obtain⟨rfl,rfl⟩:=e;exact h.1
  ·exact ih h.2 f sp hm
def xU0 [GlobTab] (P:Program):List (Nat×(List AVal→Option (List Prop×AVal)))→Prop
 |[]=>True
 |(f,e)::r=>xP P f e∧xU0 P r
theorem xU1:∀ {l:List (Nat×(List AVal→Option (List Prop×AVal)))},xU0 P l→∀ f e,(f,e)∈l→xP P f e:=by
 intro l
 induction l with
 |nil=>intro _ f e h;cases h
 |cons q r ih =>
  intro h f e hm;obtain⟨g,e'⟩:=q;rcases List.mem_cons.1 hm with hm|hm
  ·injection hm with e1 e2;subst e1;subst e2;exact h.1
  ·exact ih h.2 f e hm
theorem wG3 (ht:zM7 P c.tys=true)(hmp:(yI3 P c.maps&&yX3 P c.fts)=true)(hf:xU P c.fns)(he:xU0 P c.exts)(hn:Nat.ble c.n vNo=true)(hcl:c.clones=[]:=by rfl):CtxOk P c:=⟨ht,xF1 hf,xU1 he,((Bool.and_eq_true _ _).mp hmp).1,((Bool.and_eq_true _ _).mp hmp).2,Nat.le_of_ble_eq_true hn,fun f k h=>by rw[hcl] at h;cases h⟩
theorem wI (ht:zM7 P c.tys=true)(hmp:(yI3 P c.maps&&yX3 P c.fts)=true)(hf:xU P c.fns)(he:c.exts=[])(hn:Nat.ble c.n vNo=true)(hcl:c.clones=[]:=by rfl):CtxOk P c:=⟨ht,xF1 hf,(fun f e h=>by rw[he] at h;cases h),((Bool.and_eq_true _ _).mp hmp).1,((Bool.and_eq_true _ _).mp hmp).2,Nat.le_of_ble_eq_true hn,fun f k h=>by rw[hcl] at h;cases h⟩
theorem wA8 (hc:CtxOk P c)(hm:P.follows .mixedOrders=true){body:Code}{bs:List Code}(hb:zG6 body=bs)(hL:zN2 P c bs)(hw:zC9 c.keep body=true){ly lx:List (Nat×Sh)}{les:List (List (Nat×Sh))}{g:zB2 ly→zB2 lx→Bool}{next:zB2 ly→zB2 lx→zB2 lx}
  {ok:zB2 ly→zB2 lx→Prop}{es:zB2 ly→zB2 lx→List Comp}(hl:look (fun _=>none) c.loops (zD7 body)=xT8 ly lx g next ok es)
  (hsum:∀ y x,yC5 c body ly lx les y x=some (ok y x,g y x,y,next y x,es y x)):xC1 P c body:=by
 intro S out h;rw[hl] at h;exact wA6 hc hm (yK0 hb hL) hw hsum S out h
theorem wA9 (hc:CtxOk P c)(hm:P.follows .mixedOrders=true){f:Nat}{fn:Func}{code:Code}(hf:P.funcs[f]?=some fn)(hb:fn.body=some code)(hname:fn.name≠"runtime.NumGoroutine") (hn:fn.ntmps=c.n)
  {bs:List Code}(hbs:zG6 code=bs) (hL:zN2 P c bs) (hw:zC9 c.keep code=true){ps:List (Nat×Sh)}{rs:Sh}{os:List (Nat×Sh)}{ok:zB2 ps→Prop}{F:zB2 ps→rs.den}{o:zB2 ps→zX2 os}
  (hps:(wC 0 ps&&wE7 ps c.keep os&&Nat.ble ps.length c.n)=true){rv:List ResultVar}(hrv:fn.results.toList=rv)
  (hsum:∀ x,xC0 c code rv ps rs os x=some (ok x,F x,o x)):SpecOk P f (fnSpec ps rs os ok F o):=
 wA7 hc hm hf hb hname hn (yK0 hbs hL) hw hps hrv hsum
theorem wE9 {f:Nat}{fn:Func}(hf:P.funcs[f]?=some fn)(hb:fn.body.isSome=true)(hname:fn.name≠"runtime.NumGoroutine"){ps:List (Nat×Sh)}{rs:Sh}{os:List (Nat×Sh)}{F:zB2 ps→rs.den}{o:zB2 ps→zX2 os} :
  SpecOk P f (fnSpec ps rs os (fun _=>False) F o):=by
 refine⟨⟨fn,hf,hb,hname⟩,fun args co hsp hok=>?_⟩;unfold fnSpec at hsp;generalize Nat.beq args.length ps.length=b at hsp;cases b with
 |false=>cases hsp
 |true =>
  simp only[cond_true] at hsp;split at hsp
  ·injection hsp with hsp;subst hsp;exact (hok _ (List.mem_cons_self ..)).elim
  ·cases hsp
theorem wG4 {f:Nat}{ps:List (Nat×Sh)}{rs:Sh}{os:List (Nat×Sh)}{R:Nat→zB2 ps→Prop×rs.den×zX2 os}(h:∀ k,SpecOk P f (fnSpec ps rs os (fun x=>(R k x).1) (fun x=>(R k x).2.1) (fun x=>(R k x).2.2)))(m:zB2 ps→Nat) :
  SpecOk P f (fnSpec ps rs os (fun x=>(R (m x) x).1) (fun x=>(R (m x) x).2.1) (fun x=>(R (m x) x).2.2)):=by
 refine⟨(h 0).1,fun args co hsp hok=>?_⟩;unfold fnSpec at hsp;generalize hb:Nat.beq args.length ps.length=b at hsp;cases b with
 |false=>cases hsp
 |true =>
  simp only[cond_true] at hsp;split at hsp
  ·rename_i x hx;refine (h (m x)).2 args co ?_ hok;unfold fnSpec;rw[hb,cond_true,hx];exact hsp
  ·cases hsp
@[reducible] def vI:Sh:=.val (.int .i64)
@[reducible] def vB:Sh:=.val .bool
@[reducible] def vS:Sh:=.val .str
def ex (k:Nat)(g:Option Bool)(l:List (Nat×Sh))(v:zB2 l):Comp:=⟨k,g,wA4 l v++yW1⟩
@[reducible] def Cx (tys:List (Nat×Ty)) (fns:List (Nat×Spec)) (loops:List (Nat×(St→Option Out))) (gh:List (Nat×List (Nat×Nat×Nat×Nat))) (wrap:Bool) (n:Nat) (keep wr:List Nat):Ctx:=
 {tys,fns,loops,gh,wrap,n,keep,wr }
theorem wK4 (hc:CtxOk P c)(hm:P.follows .mixedOrders=true){body:Code}{sp:St→Option Out}{ly lx:List (Nat×Sh)}{g:zB2 ly→zB2 lx→Bool}{next:zB2 ly→zB2 lx→zB2 lx}{ok:zB2 ly→zB2 lx→Prop}{es:zB2 ly→zB2 lx→List Comp}
  (hs:sp=xT8 ly lx g next ok es) (les:List (List (Nat×Sh))){bs:List Code}(hb:zG6 body=bs) (hL:zN2 P c bs) (hw:zC9 c.keep body=true) (hl:look (fun _=>none) c.loops (zD7 body)=sp)
  (hsum:∀ y x,yC5 c body ly lx les y x=some (ok y x,g y x,y,next y x,es y x)):xC1 P c body:=by
 subst hs;exact wA8 hc hm hb hL hw hl hsum
def xU2 (fn:Func)(c:Ctx)(ps:List (Nat×Sh))(os:List (Nat×Sh)):Bool:=
 fn.body.isSome&&(!(fn.name=="runtime.NumGoroutine")&&(Nat.beq fn.ntmps c.n&&(zC9 c.keep (fn.body.getD .skip)&&(wC 0 ps&&wE7 ps c.keep os&&Nat.ble ps.length c.n))))
theorem wK5 (hc:CtxOk P c)(hm:P.follows .mixedOrders=true){f:Nat}{fn:Func}(hf:P.funcs[f]?=some fn){ps:List (Nat×Sh)}{rs:Sh}{os:List (Nat×Sh)}{ok:zB2 ps→Prop}{F:zB2 ps→rs.den}{o:zB2 ps→zX2 os}
  (hk:xU2 fn c ps os=true){bs:List Code}(hbs:zG6 (fn.body.getD .skip)=bs) (hL:zN2 P c bs) (hsum:∀ x,xC0 c (fn.body.getD .skip) fn.results.toList ps rs os x=some (ok x,F x,o x)):SpecOk P f (fnSpec ps rs os ok F o):=by
 simp only[xU2,Bool.and_eq_true,Bool.not_eq_true',beq_eq_false_iff_ne,ne_eq] at hk;obtain⟨h1,h2,h3,h4,h5⟩:=hk;obtain⟨code,hb⟩:=Option.isSome_iff_exists.1 h1;rw[hb,Option.getD_some] at h4 hbs hsum;exact wA9 hc hm hf hb h2 (Nat.eq_of_beq_eq_true h3) hbs hL h4 (by simpa only[Bool.and_eq_true] using h5) rfl hsum
theorem zX3:∀ {l r:List Code},zN2 P c l→zN2 P c r→zN2 P c (l++r)
 |[],_,_,h=>h
 |_::_,_,⟨h1,h2⟩,h=>⟨h1,zX3 h2 h⟩
structure Li where
 ly:List (Nat×Sh)
 lx:List (Nat×Sh)
 g:zB2 ly→zB2 lx→Bool
 next:zB2 ly→zB2 lx→zB2 lx
 ok:zB2 ly→zB2 lx→Prop
 es:zB2 ly→zB2 lx→List Comp
 les:List (List (Nat×Sh))
def Li.sp (l:Li):St→Option Out:=xT8 l.ly l.lx l.g l.next l.ok l.es
def zN3:Code→List Code
 |.seq a b=>zN3 a++zN3 b
 |.cond _ a b=>zN3 a++zN3 b
 |.block _ a=>zN3 a
 |.loop a=>a::zN3 a
 |_=>[]
abbrev wJ3:Type:=Option (Σ l:Li,Bool×(St→Option Out)×(zB2 l.ly→zB2 l.lx→Option (Prop×Bool×zB2 l.ly×zB2 l.lx×List Comp)))
def wB [GlobTab] (c:Ctx):List Code→List (Nat×Li)→List wJ3
 |b::bs,(_,l)::ls=>some ⟨l,zC9 c.keep b,look (fun _=>none) c.loops (zD7 b),fun y x=>yC5 c b l.ly l.lx l.les y x⟩::wB c bs ls
 |_::_,[]=>[none]
 |[],_=>[]
def wB0:List (Nat×Li)→List wJ3
 |[]=>[]
 |(_,l)::ls=>some ⟨l,true,l.sp,fun y x=>some (l.ok y x,l.g y x,y,l.next y x,l.es y x)⟩::wB0 ls
def wJ4 [GlobTab] (c:Ctx)(b:Code):Prop:=∃ l:Li,zC9 c.keep b=true∧look (fun _=>none) c.loops (zD7 b)=l.sp∧∀ y x,yC5 c b l.ly l.lx l.les y x=some (l.ok y x,l.g y x,y,l.next y x,l.es y x)
theorem xF2:∀ {bs:List Code}{ls:List (Nat×Li)},wB c bs ls=wB0 ls→∀ b∈bs,wJ4 c b
 |[],_,_,_,h=>nomatch h
 |_::_,[],h,_,_=>by cases h
 |b::bs,(_,l)::ls,h,b',hb=>by
  simp only[wB,wB0,List.cons.injEq,Option.some.injEq,Sigma.mk.injEq,heq_eq_eq,Prod.mk.injEq,true_and] at h;obtain⟨⟨h1,h2,h3⟩,h4⟩:=h;rcases List.mem_cons.1 hb with rfl|hb
  ·exact⟨l,h1,h2,fun y x=>congrFun (congrFun h3 y) x⟩
  ·exact xF2 h4 b' hb
theorem xU3 (hc:CtxOk P c)(hm:P.follows .mixedOrders=true):∀ {code:Code},(∀ b∈zN3 code,wJ4 c b)→zN2 P c (zG6 code):=by
 intro code
 induction code with
 |seq a b iha ihb=>intro h;exact zX3 (iha fun x hx=>h x (List.mem_append_left _ hx)) (ihb fun x hx=>h x (List.mem_append_right _ hx))
 |cond x a b iha ihb=>intro h;exact zX3 (iha fun x hx=>h x (List.mem_append_left _ hx)) (ihb fun x hx=>h x (List.mem_append_right _ hx))
 |block id a ih=>intro h;exact ih h
 |loop a ih =>
  intro h;obtain⟨l,h1,h2,h3⟩:=h a (List.mem_cons_self ..);exact⟨wK4 hc hm rfl l.les rfl (ih fun x hx=>h x (List.mem_cons_of_mem _ hx)) h1 h2 h3,trivial⟩
 |_=>intro _;trivial
structure Fb [GlobTab] (P:Program) where
 n:Nat
 s:Spec
 h:SpecOk P n s
def Fb.l [GlobTab]{P:Program}:List (Fb P)→List (Nat×Spec)
 |[]=>[]
 |b::r=>(b.n,b.s)::Fb.l r
theorem Fb.all:∀ l:List (Fb P),xU P (Fb.l l)
 |[]=>trivial
 |b::r=>⟨b.h,Fb.all r⟩
def Li.l:List (Nat×Li)→List (Nat×(St→Option Out))
 |[]=>[]
 |(k,l)::r=>(k,l.sp)::Li.l r
theorem wK6 (hc:CtxOk P c)(hm:P.follows .mixedOrders=true){f:Nat}{fn:Func}(hf:P.funcs[f]?=some fn){ps:List (Nat×Sh)}{rs:Sh}{os:List (Nat×Sh)}{ok:zB2 ps→Prop}{F:zB2 ps→rs.den}{o:zB2 ps→zX2 os}
  (hk:xU2 fn c ps os=true){ls:List (Nat×Li)}(hl:wB c (zN3 (fn.body.getD .skip)) ls=wB0 ls) (hsum:∀ x,xC0 c (fn.body.getD .skip) fn.results.toList ps rs os x=some (ok x,F x,o x)):SpecOk P f (fnSpec ps rs os ok F o):=
 wK5 hc hm hf hk rfl (xU3 hc hm (xF2 hl)) hsum
def wK8 (k:IntKind)(a b:Int):Int:=yG1 k (fun x y=>x &&& y) a b
def ior (k:IntKind)(a b:Int):Int:=yG1 k (fun x y=>x ||| y) a b
def wK9 (a b:Int)(n:Nat):Int:=a.fdiv (2 ^ (min b.toNat n))
def nth {α:Type}(l:List α)(i:Int)(d:α):α:=l.getD i.toNat d
def InB (i n:Int):Prop:=0≤i∧i<n
def len {α:Type}(l:List α):Int:=(l.length:Int)
def wJ5 (s:List UInt8)(i:Int):Int:=((s.getD i.toNat 0).toNat:Int)
end Go.Am
namespace Go.Am
open Go Go.RowKit
variable {gtab:GlobTab}{P:Program}{c:Ctx}
def St.prune (S:St):List Nat→St
 |[]=>yW1
 |s::r=>(s,S.get s)::St.prune S r
def AVal.leads:AVal→List Nat
 |.ref s _ _=>[s]
 |.eref s _ _ _ _=>[s]
 |.rref s=>[s]
 |.pn _ s _=>[s]
 |.opt _ _ _ a=>a.leads
 |.box _ a=>a.leads
 |.may _ _ a=>a.leads
 |.cons a b=>a.leads++b.leads
 |.agg _ a=>a.leads
 |.tup a=>a.leads
 |.fn _ a=>a.leads
 |_=>[]
def wJ:List Nat→List Nat→List Nat
 |[],l=>l
 |s::r,l=>bif l.any (Nat.beq s) then wJ r l else wJ r (s::l)
def St.wanted (S:St)(l:List Nat):List Nat:=wJ (l.flatMap fun s=>(S.get s).leads) l
def wG5 (id:Nat)(k:Nat):Nat:=bif Nat.beq k (id+2) then 0 else k
def zX4 [GlobTab] (c:Ctx)(lv:List (Nat×List Nat)):Code→St→Option (List Prop×Nat×St)
 |.skip,S=>some ([],0,S)
 |.region id ops draw,S=>match eval c (.region id ops draw) S with
  |some ⟨p,[⟨0,none,d⟩]⟩=>St.force true (St.prune (d++S) (St.wanted (d++S) (look [] lv id))) fun T=>some (p,0,T)
  |_=>none
 |.seq a b,S=>match zX4 c lv a S with
  |some (p,0,T)=>(match zX4 c lv b T with|some (q,k,U)=>some (p++q,k,U)|none=>none)
  |r=>r
 |.cond x a b,S=>match arg S x with
  |.val .bool t=>(match (t:Bool) with|true=>zX4 c lv a S | false=>zX4 c lv b S)
  |_=>none
 |.block id a,S=>match zX4 c lv a S with
  |some (p,k,T)=>some (p,wG5 id k,T)
  |none=>none
 |.exit id,S=>some ([],id+2,S)
 |.ret,S=>some ([],1,S)
 |_,_=>none
theorem weaker_prune {S:St}:∀ {l:List Nat},Weaker (St.prune S l) S:=by
 intro l
 induction l with
 |nil=>exact zP
 |cons q r ih =>
  intro s G w tm v h;simp only[St.prune,St.get];cases hq:Nat.beq q s with
  |true=>have:=Nat.eq_of_beq_eq_true hq;subst this;exact h
  |false =>
   cases Nat.beq q zA6 with
   |true=>simp only[cond_true,cond_false,zA]
   |false=>exact ih s G w tm v h
def wJ0 [GlobTab] (P:Program)(c:Ctx)(code:Code)(S:St)(k:Nat)(T:St):Prop:=
 ∀ (rd:Option Nat) (χ0:Nat→Nat→Nat) (w0:World) (vs:Nat→Value) (a:Act) (w:World) (G:Gh),Rel c.n χ0 w0 S a w G→yQ4 c.keep vs a →
  code.wpIn (fz rd) 0 P (fun e a' w'=>zB3 e=some k∧(∃ G',Rel c.n χ0 w0 T a' w' G')∧yQ4 c.keep vs a') a w
theorem xC2 (hc:CtxOk P c)(hm:P.follows .mixedOrders=true){lv:List (Nat×List Nat)}:∀ {code:Code}{S:St}{p:List Prop}{k:Nat}{T:St},zC9 c.keep code=true→zX4 c lv code S=some (p,k,T)→(∀ q∈p,q)→wJ0 P c code S k T:=by
 intro code
 induction code with
 |skip =>
  intro S p k T _ h _ rd χ0 w0 vs a w G hR hk;simp only[zX4,Option.some.injEq,Prod.mk.injEq] at h;obtain⟨_,rfl,rfl⟩:=h;exact wpIn_skip ⟨rfl,⟨G,hR⟩,hk⟩
 |region id ops draw =>
  intro S p k T hw h hok rd χ0 w0 vs a w G hR hk;simp only[zX4] at h;split at h
  ·rename_i q d he;rw[St.force_eq] at h;simp only[Option.some.injEq,Prod.mk.injEq] at h;obtain⟨rfl,rfl,rfl⟩:=h;refine wpIn_mono (zU9 hc hm (code:=.region id ops draw) trivial hw he hok rd χ0 w0 vs a w G hR hk) fun e a' w' hP=>?_;obtain⟨⟨k,cp,G',h1,h2,_,_,h5⟩,h6⟩:=hP;simp only[zA5] at h2;generalize hb:Nat.beq 0 k=b at h2;cases b with
   |false=>simp at h2
   |true =>
    have:=Nat.eq_of_beq_eq_true hb;subst this;simp only[cond_true,Option.some.injEq] at h2;subst h2;exact⟨h1,⟨G',weaker_prune.rel h5⟩,h6⟩
  ·cases h
 |seq x y ihx ihy =>
  intro S p k T hw h hok rd χ0 w0 vs a w G hR hk;simp only[zC9,Bool.and_eq_true] at hw;simp only[zX4] at h;split at h
  ·rename_i p1 T1 ha;split at h
   ·rename_i q k' U hb;simp only[Option.some.injEq,Prod.mk.injEq] at h;obtain⟨rfl,rfl,rfl⟩:=h;refine wpIn_seq (wpIn_mono (ihx hw.1 ha (fun q hq=>hok q (List.mem_append_left _ hq)) rd χ0 w0 vs a w G hR hk) fun e a' w' hP=>?_);obtain⟨h1,⟨G',h2⟩,h3⟩:=hP;cases e<;>simp[zB3] at h1;exact ihy hw.2 hb (fun q hq=>hok q (List.mem_append_right _ hq)) rd χ0 w0 vs a' w' G' h2 h3
   ·cases h
  ·rename_i r hr;have hk0:k≠0:=fun e=>by subst e;exact hr _ _ h
   refine wpIn_seq (wpIn_mono (ihx hw.1 h hok rd χ0 w0 vs a w G hR hk) fun e a' w' hP=>?_);cases e with
   |normal=>have:=hP.1;simp only[zB3,Option.some.injEq] at this;exact absurd this.symm hk0
   |_=>exact hP
 |cond x y z ihx ihy =>
  intro S p k T hw h hok rd χ0 w0 vs a w G hR hk;simp only[zC9,Bool.and_eq_true] at hw;simp only[zX4] at h;split at h
  ·rename_i t hx;have hv:a.eval x=.bool t:=by
    have:=zJ7 hR x;rw[hx] at this;simp only[zA] at this;have:=(zC rfl).1 this;simpa only[zB4,List.cons.injEq,and_true] using this
   refine wpIn_cond_split hv (fun ht=>?_) (fun ht=>?_)
   ·subst ht;exact ihx hw.1 h hok rd χ0 w0 vs a w G hR hk
   ·subst ht;exact ihy hw.2 h hok rd χ0 w0 vs a w G hR hk
  ·cases h
 |block id x ih =>
  intro S p k T hw h hok rd χ0 w0 vs a w G hR hk;simp only[zC9] at hw;simp only[zX4] at h;split at h
  ·rename_i p' k' T' ha;simp only[Option.some.injEq,Prod.mk.injEq] at h;obtain⟨rfl,rfl,rfl⟩:=h;refine wpIn_block (wpIn_mono (ih hw ha hok rd χ0 w0 vs a w G hR hk) fun e a' w' hP=>?_);obtain⟨h1,h2⟩:=hP;cases e with
   |exit id' =>
    simp only[zB3,Option.some.injEq] at h1;subst h1;simp only[Exit.inBlock,wG5];split
    ·rename_i e;subst e;exact⟨by simp[zB3],h2⟩
    ·rename_i e;have:Nat.beq (id'+2) (id+2)=false:=by cases hb:Nat.beq (id'+2) (id+2) with|false=>rfl|true=>exact absurd (by have:=Nat.eq_of_beq_eq_true hb;omega) e
     exact⟨by simp[zB3,this],h2⟩
   |normal=>simp only[zB3,Option.some.injEq] at h1;subst h1;exact⟨rfl,h2⟩
   |ret=>simp only[zB3,Option.some.injEq] at h1;subst h1;exact⟨rfl,h2⟩
   |_=>simp[zB3] at h1
  ·cases h
 |exit id =>
  intro S p k T _ h _ rd χ0 w0 vs a w G hR hk;simp only[zX4,Option.some.injEq,Prod.mk.injEq] at h;obtain⟨_,rfl,rfl⟩:=h;exact wpIn_exit ⟨rfl,⟨G,hR⟩,hk⟩
 |ret =>
  intro S p k T _ h _ rd χ0 w0 vs a w G hR hk;simp only[zX4,Option.some.injEq,Prod.mk.injEq] at h;obtain⟨_,rfl,rfl⟩:=h;exact wpIn_ret ⟨rfl,⟨G,hR⟩,hk⟩
 |_=>intro S p k T _ h;simp[zX4] at h
def wJ6 [GlobTab] (c:Ctx)(lv:List (Nat×List Nat))(fn:Func)(rs:Sh):Option (List Prop×rs.den):=
 match zX4 c lv (fn.body.getD .skip) (zC1 [] ()) with
 |some (p,k,T)=>bif Nat.ble k 1 then (match zP0 c T fn.results.toList with
  |some r=>(match rs.parse r with|some v=>some (p,v)|none=>none)
  |none=>none) else none
 |none=>none
theorem wG6 (hc:CtxOk P c)(hm:P.follows .mixedOrders=true){f:Nat}{fn:Func}(hf:P.funcs[f]?=some fn){lv:List (Nat×List Nat)}{rs:Sh}{p:List Prop}{v:rs.den}
  (hk:xU2 fn c [] []=true) (h:wJ6 c lv fn rs=some (p,v)) (hp:xL6 p):SpecOk P f (fnSpec [] rs [] (fun _=>True) (fun _=>v) (fun _=>())):=by
 simp only[xU2,Bool.and_eq_true,Bool.not_eq_true',beq_eq_false_iff_ne,ne_eq] at hk;obtain⟨h1,h2,h3,h4,h5⟩:=hk;obtain⟨code,hb⟩:=Option.isSome_iff_exists.1 h1;unfold wJ6 at h;rw[hb,Option.getD_some] at h h4;split at h
 ·rename_i p' k T he;generalize hkb:Nat.ble k 1=b at h;cases b with
  |false=>cases h
  |true =>
   simp only[cond_true] at h;split at h
   ·rename_i r hr;split at h
    ·rename_i v' hv;simp only[Option.some.injEq,Prod.mk.injEq] at h;obtain⟨rfl,rfl⟩:=h;have hk1:=Nat.le_of_ble_eq_true hkb;refine xF0 hc hf hb h2 (Nat.eq_of_beq_eq_true h3) (D:=fun _=>T) (res:=fun _=>r) (by simpa only[Bool.and_eq_true,and_assoc] using h5) (fun _ _=>?_) (fun _=>hr) (fun _=>hv) (fun _=>rfl);intro rd χ0 w0 vs a w G hR hkp;refine wpIn_mono (xC2 hc hm h4 he (AllP_iff.1 hp) rd χ0 w0 vs a w G hR hkp) fun e a' w' hP=>⟨?_,hP.2⟩;have:=hP.1;cases e<;>simp[zB3] at this
     ·exact .inl rfl
     ·omega
     ·exact .inr rfl
    ·cases h
   ·cases h
 ·cases h
def xU4 (ps:List (Nat×Sh))(rs:Sh)(os:List (Nat×Sh))(ok:zB2 ps→Prop) [DecidablePred ok] (f:zB2 ps→rs.den)(o:zB2 ps→zX2 os):Spec:=fun args =>
 bif Nat.beq args.length ps.length then
  match zC8 ps (zV3 0 args) with
  |some x=>bif decide (ok x) then some ⟨[],rs.mk (f x),mkO os (o x),wA5 os (o x)⟩ else none
  |none=>none
 else none
theorem wJ7 {f:Nat}{ps:List (Nat×Sh)}{rs:Sh}{os:List (Nat×Sh)}{ok:zB2 ps→Prop}[DecidablePred ok]{F:zB2 ps→rs.den}{o:zB2 ps→zX2 os}(h:SpecOk P f (fnSpec ps rs os ok F o)):SpecOk P f (xU4 ps rs os ok F o):=by
 refine⟨h.1,fun args co hsp _=>?_⟩;unfold xU4 at hsp;generalize hb:Nat.beq args.length ps.length=b at hsp;cases b with
 |false=>cases hsp
 |true =>
  simp only[cond_true] at hsp;split at hsp
  ·rename_i x hx;generalize hd:decide (ok x)=d at hsp;cases d with
   |false=>cases hsp
   |true =>
    simp only[cond_true,Option.some.injEq] at hsp;subst hsp;exact h.2 args ⟨[ok x],rs.mk (F x),mkO os (o x),wA5 os (o x)⟩ (by unfold fnSpec;rw[hb,cond_true,hx]) (fun q hq=>by rw[List.mem_singleton.1 hq];exact of_decide_eq_true hd)
  ·cases hsp
end Go.Am
namespace Go.Am
open Go Go.RowKit
variable {gtab:GlobTab}{P:Program}
def xF3:List AVal→Option (List Prop×AVal)
 |[.val (.int .u64) x,.val (.int .u64) y,.val (.int .u64) c] =>
  some ([0≤c∧c≤1],.tup (.cons (.val (.int .u64) (((Int.toNat x+Int.toNat y+Int.toNat c) % 18446744073709551616:Nat):Int)) (.cons (.val (.int .u64) (((Int.toNat x+Int.toNat y+Int.toNat c) / 18446744073709551616:Nat):Int)) .nl)))
 |_=>none
def yD8:List AVal→Option (List Prop×AVal)
 |[.val .str s,.val (.int .u8) c]=>some ([],.val (.int .i64) (Lib.indexByte s (Int.toNat c).toUInt8))
 |_=>none
theorem wB1 {G:Gh}{w:World}{tm:Array Value}{A B:AVal}{vals:List Value}(h:zH6 (zA G w tm none) [A,B] vals):∃ u v,vals=[u,v]∧zA G w tm none A u∧zA G w tm none B v:=by
 match vals,h with
 |[u,v],h=>simp only[zH6] at h;exact⟨u,v,rfl,h.1,h.2.1⟩
 |[],h=>simp[zH6] at h
 |[_],h=>simp[zH6] at h
 |_::_::_::_,h=>simp[zH6] at h
theorem xL1 {G:Gh}{w:World}{tm:Array Value}{A B C:AVal}{vals:List Value}(h:zH6 (zA G w tm none) [A,B,C] vals):∃ u v x,vals=[u,v,x]∧zA G w tm none A u∧zA G w tm none B v∧zA G w tm none C x:=by
 match vals,h with
 |[u,v,x],h=>simp only[zH6] at h;exact⟨u,v,x,rfl,h.1,h.2.1,h.2.2.1⟩
 |[],h=>simp[zH6] at h
 |[_],h=>simp[zH6] at h
 |[_,_],h=>simp[zH6] at h
 |_::_::_::_::_,h=>simp[zH6] at h
theorem wC0 {f:Nat}{fn:Func}(hf:P.funcs[f]?=some fn)(hname:(fn.name=="runtime.NumGoroutine")=false) (hb:fn.body.isNone=true) (hn:(Extern.findNext fn).isNone=true)
  (he:Extern.find fn=some Extern.BytealgIndexByte.indexByte):xP P f yD8:=by
 intro args p A h _ G w tm vals hv;unfold yD8 at h;split at h
 ·simp only[Option.some.injEq,Prod.mk.injEq] at h;obtain⟨rfl,rfl⟩:=h;obtain⟨u,v,rfl,h1,h2⟩:=wB1 hv;simp only[zA] at h1 h2;rw[VRep_str] at h1;rw[VRep_int] at h2;subst h1;subst h2;refine⟨_,?_,zD⟩;rw[run_callFunc_extern hf hname hb (Option.isNone_iff_eq_none.1 hn) he,Lib.run_indexByteString];rfl
 ·cases h
theorem wI0 {f:Nat}{fn:Func}(hf:P.funcs[f]?=some fn)(hname:(fn.name=="runtime.NumGoroutine")=false) (hb:fn.body.isNone=true) (hn:(Extern.findNext fn).isNone=true)
  (he:Extern.find fn=some add64Entry):xP P f xF3:=by
 intro args p A h hp G w tm vals hv;unfold xF3 at h;split at h
 ·rename_i x y c;simp only[Option.some.injEq,Prod.mk.injEq] at h;obtain⟨rfl,rfl⟩:=h;have hc:(0:Int)≤c∧(c:Int)≤1:=hp _ (List.mem_cons_self ..);obtain⟨u,v,q,rfl,h1,h2,h3⟩:=xL1 hv;simp only[zA] at h1 h2 h3;rw[VRep_int] at h1 h2 h3;subst h1;subst h2;subst h3;refine⟨Extern.MathBitsCarry.pair ((Int.toNat x+Int.toNat y+Int.toNat c) % Extern.MathBitsCarry.m64) ((Int.toNat x+Int.toNat y+Int.toNat c) / Extern.MathBitsCarry.m64),?_,?_⟩
  ·rw[run_callFunc_extern hf hname hb (Option.isNone_iff_eq_none.1 hn) he];have key:∀ k:Nat,k≤1→(add64Entry #[.int .u64 x,.int .u64 y,.int .u64 (k:Int)]).run P w =
     .ok (Extern.MathBitsCarry.pair ((Int.toNat x+Int.toNat y+k) % Extern.MathBitsCarry.m64) ((Int.toNat x+Int.toNat y+k) / Extern.MathBitsCarry.m64)) w:=by
    intro k hk;have:k=0∨k=1:=by omega
    rcases this with rfl|rfl<;>rfl
   obtain⟨k,hk⟩:=Int.eq_ofNat_of_zero_le hc.1;have h0:c=((k:Nat):Int):=hk;have hk1:k≤1:=by
    have h1:=hc.2;rw[h0] at h1;exact Int.ofNat_le.1 h1
   rw[h0];show ((add64Entry #[.int .u64 x,.int .u64 y,.int .u64 (k:Int)]).run P w).andThen _=_;rw[key k hk1];rfl
  ·simp only[zA,Extern.MathBitsCarry.pair,Extern.MathBitsCarry.m64];exact⟨_,[_],rfl,zD (s:=none) (tm:=tm),_,[],rfl,zD (s:=none) (tm:=tm),rfl⟩
 ·cases h
end Go.Am
namespace Go.Am
open Go
instance (r:Int):Decidable (InR r):=inferInstanceAs (Decidable (_∧_))
instance (i n:Int):Decidable (InB i n):=inferInstanceAs (Decidable (_∧_))
def xU5 {X:Type}(g:X→Bool)(next:X→X)(okb:X→Bool):Nat→X→Bool
 |0,_=>false
 |k+1,x=>okb x&&(bif g x then xU5 g next okb k (next x) else true)
theorem wB2 {X:Type}{g:X→Bool}{next:X→X}{ok:X→Prop}{okb:X→Bool}(h:∀ x,okb x=true↔ok x):∀ {F:Nat}{x:X},xU5 g next okb F x=true↔∃ k,k<F∧Runs g next ok k x:=by
 intro F
 induction F with
 |zero=>intro x;simp[xU5]
 |succ F ih =>
  intro x;simp only[xU5,Bool.and_eq_true,h];cases hg:g x with
  |false =>
   simp only[cond_false,and_true];constructor
   ·intro hx;exact⟨0,by omega,hx,hg⟩
   ·rintro⟨k,_,hr⟩;cases k with
    |zero=>exact hr.1
    |succ k=>exact hr.1
  |true =>
   simp only[cond_true,ih];constructor
   ·rintro⟨hx,k,hk,hr⟩;exact⟨k+1,by omega,hx,hg,hr⟩
   ·rintro⟨k,hk,hr⟩;cases k with
    |zero=>rw[hr.2] at hg;cases hg
    |succ k=>exact⟨hr.1,k,by omega,hr.2.2⟩
instance {X:Type}{g:X→Bool}{next:X→X}{ok:X→Prop}[inst:∀ x,Decidable (ok x)] (x:X):Decidable (xB7 g next ok x):=
 decidable_of_iff (xU5 g next (fun x=>decide (ok x)) zH7 x=true) (wB2 fun x=>by simp)
end Go.Am
namespace Go.Am
open Go Go.RowKit
variable {gtab:GlobTab}{P:Program}{w:World}{χ:Nat→Nat→Nat}
def Ty.deep:Ty→Bool
 |.ptr _=>false|.cons h t=>h.deep&&t.deep|.st f=>f.deep|.arr _ t=>t.deep|.sl t=>Nat.blt 0 t.size&&t.deep|_=>true
def Ty.wf:(τ:Ty)→τ.den→Prop
 |.int k,x=>k.min≤x∧x≤k.max
 |.bool,_=>True
 |.str,s=>List.length (α:=UInt8) s≤maxLen
 |.nl,_=>True
 |.cons h t,x=>h.wf x.1∧t.wf x.2
 |.st f,x=>f.wf x
 |.arr n t,l=>List.length (α:=t.den) l=n∧∀ y∈(l:List t.den),t.wf y
 |.sl t,l=>List.length (α:=t.den) l≤maxLen∧∀ y∈(l:List t.den),t.wf y
 |.ptr t,x=>t.wf x
theorem xL2 {f:Nat→Value}(sz:Nat):∀ n,(List.range n).flatMap (fun i=>(List.range sz).map fun k=>f (i*sz+k))=(List.range (n*sz)).map f:=by
 intro n
 induction n<;>simp_all [Nat.succ_mul,List.range_add]
theorem xU6 {cs:List Value}(sz:Nat):∀ n,(List.range n).flatMap (fun i=>(cs.drop (i*sz)).take sz)=cs.take (n*sz):=by
 intro n
 induction n<;>simp_all [List.range_succ,Nat.succ_mul,List.take_add]
theorem zP1 {τ:Ty}{T:Nat}(h:zC3 P τ (.inl T)=true):P.cellsOf T=τ.size:=by
 obtain⟨⟨i,z,hi,hs,_⟩,_⟩:=zG8 h
 grind [Program.cellsOf]
theorem cells?_is {a:Addr}{n:Nat}{cs:List Value}(h:w.cells? 0 a n=some cs):cs=(List.range n).map (fun k=>(w.cell? (a.add k)).getD undef)∧∀ k,k<n→∃ v,w.cell? (a.add k)=some v:=by
 simp[World.cells?] at h;generalize hf:(fun i=>w.cell? (a.add i))=f at h;have key:∀ (l:List Nat) (cs:List Value),l.mapM f=some cs→cs=l.map (fun k=>(f k).getD undef)∧∀ k∈l,∃ v,f k=some v:=by
  intro l
  induction l<;>simp_all [Option.bind_eq_some_iff]
 have:=key _ _ h;subst hf;simp_all
theorem xU7 (a:Addr)(m k:Nat):(a.add m).add k=a.add (m+k):=by
 grind [Addr.add,Nat.add_assoc]
theorem yW4 {a:Addr}{v:Value}(h:w.cell? a=some v):a.spot=none∧a.block<w.heap.size:=by
 unfold World.cell? at h;split at h
 ·rename_i c _ _ hb;split at h
  ·grind
  ·refine⟨by simp_all,zE4 hb⟩
 grind
section
variable {H:Type}{enc:TypeId×Value→H}{sp:Nat→Bool}{held:Bool}
end
end Go.Am
namespace Go.Am
open Go Go.RowKit Go.ChangeShapes
variable {gtab:GlobTab}{P:Program}{w:World}
def enumSh:Nat→List Ty→List (Nat×Sh)
 |_,[]=>[]
 |i,τ::r=>(i,.val τ)::enumSh (i+1) r
def mkA:(i:Nat)→(τs:List Ty)→zB2 (enumSh i τs)→List AVal
 |_,[],_=>[]
 |i,τ::r,x=>.val τ x.1::mkA (i+1) r x.2
def wfL:(i:Nat)→(τs:List Ty)→zB2 (enumSh i τs)→Prop
 |_,[],_=>True
 |i,τ::r,x=>τ.wf x.1∧wfL (i+1) r x.2
def yD9 (P:Program):List Ty→List TypeId→Bool
 |[],[]=>true
 |τ::r,T::s=>zC3 P τ (.inl T)&&τ.deep&&yD9 P r s
 |_,_=>false
theorem beq_refl:∀ τ:Ty,Ty.beq τ τ=true:=by
 intro τ
 induction τ<;>simp_all [Ty.beq]
theorem yW5 {τ:Ty}{x:τ.den}:Ty.cast τ x=some x:=by
 grind [Ty.cast,beq_refl]
theorem xU8:∀ {τs:List Ty}{i:Nat}{x:zB2 (enumSh i τs)}{S:St},(∀ k,(mkA i τs x)[k]?=none∨(mkA i τs x)[k]?=some (S.get (i+k)))→(∀ τ∈τs,τ.isL=false)→zC8 (enumSh i τs) S=some x:=by
 intro τs
 induction τs with
 |nil=>intro i x S _ _;rfl
 |cons τ r ih =>
  intro i x S h hl;simp[enumSh,zC8];have h0:=h 0;simp only[mkA,Nat.add_zero] at h0;rcases h0 with h0|h0
  ·grind
  ·injection h0 with h0
   rw[← h0];have hx:(Sh.val τ).parse (.val τ x.1)=some x.1:=by
    simp_all [Sh.parse,AVal.as,AVal.asT,yW5]
   have hr:=ih (i:=i+1) (x:=x.2) (S:=S) (fun k=>by
    have:=h (k+1)
    grind [mkA,List.getElem?_cons_succ]) fun τ hτ=>hl τ (List.mem_cons_of_mem _ hτ)
   rw[hx,hr];rfl
theorem xL3:∀ {τs:List Ty}{i:Nat}{x:zB2 (enumSh i τs)},(mkA i τs x).length=τs.length∧(enumSh i τs).length=τs.length:=by
 intro τs
 induction τs with
 |nil=>exact⟨rfl,rfl⟩
 |cons τ r ih=>intro i x;simp[mkA,enumSh,(ih (i:=i+1) (x:=x.2)).1,(ih (i:=i+1) (x:=x.2)).2]
theorem xC3:∀ {τs:List Ty}{Ts:List TypeId},yD9 P τs Ts=true→∀ τ∈τs,τ.isL=false:=by
 intro τs
 induction τs with
 |nil=>grind
 |cons σ r ih =>
  intro Ts h τ hτ;cases Ts<;>grind [yD9,zC5]
section
variable {H:Type}{enc:TypeId×Value→H}
theorem wE {τ:Ty}{T:TypeId}{v:Value}(hT:zC3 P τ (.inl T)=true)(ha:τ.isAgg=false)(hd:τ.deep=true){base:Nat}(h:Value.okWide P w .any base T v):∀ cs,v≠.agg cs:=by
 intro cs e;unfold Value.okWide at h;cases τ with
 |st f=>grind [Ty.isAgg]
 |arr n t=>grind [Ty.isAgg]
 |ptr t=>grind [Ty.deep]
 |nl=>grind [zC3]
 |cons a b=>grind [zC3]
 |int k =>
  have hu:P.underlying T=some (.int k):=by
   simp[zC3] at hT;cases hu:P.underlying T with
   |none=>grind
   |some d=>rw[hu] at hT;cases d<;>simp at hT;grind [zH8]
  simp_all [Cell.okWide,Cell.ok]
 |bool =>
  have hu:P.underlying T=some .bool:=by
   grind [zC3]
  simp_all [Cell.okWide,Cell.ok]
 |str =>
  have hu:=zM9 hT;simp_all [Cell.okWide,Cell.ok]
 |sl t =>
  obtain⟨e,hu,_⟩:=zG9 hT;simp_all [Cell.okWide,Cell.ok]
theorem wG7 {τ:Ty}{T:TypeId}{v:Value}(hT:zC3 P τ (.inl T)=true)(ha:τ.isAgg=true){base:Nat}(h:Value.okWide P w .any base T v):∃ cs,v=.agg cs:=by
 unfold Value.okWide at h;cases τ<;>grind [zW0,zT3,Ty.isAgg]
end
theorem below_trods {H:Type}{enc:TypeId×Value→H}(hl:laidOutB P=true):∀ {Ts:List TypeId}{vs:List Value}{ds:List (DataW H)}{ps:List MemPlace}{W W':World}{sp:Nat→Bool},Ts.all (fun t=>P.readableRec t&&Nat.blt t P.types.size)=true →
  DataW.TrodAll enc P W 0 (fun _=>true) true Ts vs ds ps→Below W.heap.size W W'→(∀ x∈ps,x.block<W.heap.size)→(∀ p∈ps,sp p.block=true)→DataW.TrodAll enc P W' 0 sp true Ts vs ds ps:=by
 intro Ts
 induction Ts with
 |nil=>grind [DataW.TrodAll]
 |cons T s ih =>
  intro vs ds ps W W' sp ht h hb hlt hsp;cases vs with
  |nil=>grind [DataW.TrodAll]
  |cons v vs =>
   cases ds with
   |nil=>grind [DataW.TrodAll]
   |cons d ds =>
    simp only[List.all_cons,Bool.and_eq_true] at ht;obtain⟨p,q,h1,h2,rfl⟩:=h;refine⟨p,q,WideElems.Trod_stays hl ht.1.1 (Nat.blt_eq.mp ht.1.2) h1 (fun x hx=>hb.same (hlt x (List.mem_append_left _ hx))) (fun x hx=>hsp x (List.mem_append_left _ hx)),?_,rfl⟩
    grind
theorem trod_len3 {H:Type}{enc:TypeId×Value→H}{T0 T1 T2:TypeId}{vs:List Value}{ds:List (DataW H)}{ps:List MemPlace}{sp:Nat→Bool}{hd:Bool}(h:DataW.TrodAll enc P w 0 sp hd [T0,T1,T2] vs ds ps):∃ d0 d1 d2,ds=[d0,d1,d2]:=by
 obtain⟨v,vs1,d,ds1,a,b,rfl,rfl,rfl,h1,h2⟩:=trodAll_cons h;obtain⟨v,vs1,d',ds1,a,b,rfl,rfl,rfl,h1,h2⟩:=trodAll_cons h2;obtain⟨v,vs1,d'',ds1,a,b,rfl,rfl,rfl,h1,h2⟩:=trodAll_cons h2;obtain⟨rfl,rfl,rfl⟩:=trodAll_nil h2;simp_all
theorem post_law {H:Type}{enc:TypeId×Value→H}{f:Func}{s:ChangeSpec}{W W':World}{args:Array Value}{v:Value}{ds gs:List (DataW H)}{before pa pv:List MemPlace}
  (hW:DataW.Whole enc P f.params.toList s.vars false W args.toList ds gs before)
  (hres:∀ (b:Nat) (sp:Nat→Bool) (hd:Bool),DataW.TrodAll enc P W' b sp hd f.resultTypes.toList (v.resultList f.resultTypes.size) (s.fn H (ds++gs)).results [])
  (hargs:∀ sp:Nat→Bool,(∀ p∈before,sp p.block=true)→DataW.TrodAll enc P W' 0 sp true f.params.toList args.toList (s.fn H (ds++gs)).args pa)
  (hvars:∀ sp:Nat→Bool,(∀ p∈before,sp p.block=true)→DataW.TrodVars enc P W' sp s.vars (s.fn H (ds++gs)).vars pv)
  (hps:before=pa++pv) (hk:W.keptBut W' (·∈before)):s.post enc P f false true false false W args v W':=by
 have hold:∀ p∈before,(fun b=>decide (b<W.heap.size)) p.block=true:=fun p hp=>by simpa using hW.lt p hp
 refine⟨ds,gs,before,[],pa,pv,hW,hres _ _ _,hargs _ hold,hvars _ hold,World.keptBut_mono (fun p hp=>⟨hp,?_⟩) hk,fun h=>by grind⟩
 grind
def zeroV (P:Program)(T:TypeId):Value:=((P.info? T).bind (·.zero)).getD undef
def wJ8:DataW Unit→Value
 |.lit (.int k n)=>.int k n
 |_=>undef
def flat1:DataW Unit→List Value
 |.agg l=>l.map wJ8
 |.lit (.int k n)=>[.int k n]
 |_=>[]
def flat2:DataW Unit→List Value
 |.agg l=>l.flatMap flat1
 |_=>[]
def putG (h:Array Obj)(g:Nat)(cs:List Value):Array Obj:=h.modify g fun
 |.cells _ t frozen=>.cells cs.toArray t frozen
 |o=>o
def rangeLen:DataW Unit→Nat
 |.ptr (.agg (.slice l _::_))=>l.length
 |_=>0
def rangeLatin:DataW Unit→Value
 |.ptr (.agg [_,_,d])=>wJ8 d
 |_=>undef
def rangeCells:DataW Unit→List Value
 |.ptr (.agg (.slice l _::_))=>l.flatMap flat1
 |_=>[]
end Go.Am
namespace Go.Am
open Go
theorem xF4 {X:Type}{g:X→Bool}{next:X→X}(inv:X→Prop)(m:X→Nat)(hstep:∀ x,inv x→g x=true→inv (next x)∧m (next x)<m x) :
  ∀ {x:X},inv x→m x<zH7→inv (zB9 g next x)∧g (zB9 g next x)=false:=by
 have key:∀ (F:Nat) (x:X),inv x→m x<F→inv (loopN g next F x)∧g (loopN g next F x)=false:=by
  intro F
  induction F with
  |zero=>intro x _ h;omega
  |succ F ih =>
   intro x hx hm;simp only[loopN];cases hg:g x with
   |false=>simp only[cond_false];exact⟨hx,hg⟩
   |true =>
    simp only[cond_true];have:=hstep x hx hg;exact ih _ this.1 (by omega)
 intro x hx hm;exact key zH7 x hx hm
theorem xF5 {X:Type}{g:X→Bool}{next:X→X}{ok:X→Prop}(inv:X→Prop)(m:X→Nat)(hok:∀ x,inv x→ok x)(hstep:∀ x,inv x→g x=true→inv (next x)∧m (next x)<m x) :
  ∀ {x:X},inv x→m x<zH7→xB7 g next ok x:=by
 have key:∀ (F:Nat) (x:X),inv x→m x<F→∃ k,k<F∧Runs g next ok k x:=by
  intro F
  induction F with
  |zero=>intro x _ h;omega
  |succ F ih =>
   intro x hx hm;cases hg:g x with
   |false=>exact⟨0,by omega,hok x hx,hg⟩
   |true =>
    have:=hstep x hx hg;obtain⟨k,hk,hr⟩:=ih _ this.1 (by omega);exact⟨k+1,by omega,hok x hx,hg,hr⟩
 intro x hx hm;exact key zH7 x hx hm
theorem wK7 {g:Int×Unit→Bool}{next:Int×Unit→Int×Unit}{n:Int}{c:Int→Bool}(hn0:0≤n)(hn:n<9223372036854775808)(hg:∀ x,g x=(decide (x.1<n)&&!(c x.1)))(hx:∀ x,next x=(x.1+1,())) :
  ∃ j,0≤j∧j≤n∧zB9 g next (0,())=(j,())∧(∀ k,0≤k→k<j→c k=false)∧(j<n→c j=true):=by
 have h:=xF4 (g:=g) (next:=next) (fun x=>0≤x.1∧x.1≤n∧∀ k,0≤k→k<x.1→c k=false) (fun x=>(n-x.1).toNat) (fun x hi hgx=>by
  rw[hg] at hgx;simp only[Bool.and_eq_true,decide_eq_true_eq,Bool.not_eq_true'] at hgx;rw[hx];refine⟨⟨by omega,by omega,fun k h1 h2=>?_⟩,by simp only;omega⟩;by_cases e:k=x.1
  ·rw[e];exact hgx.2
  ·exact hi.2.2 k h1 (by simp only at h2;omega)) (x:=(0,())) ⟨by simp,hn0,fun k h1 h2=>by simp only at h2;omega⟩ (by simp only[zH7];omega)
 generalize hj:zB9 g next (0,())=e at h
 obtain⟨⟨h1,h2,h3⟩,h4⟩:=h;refine⟨e.1,h1,h2,rfl,h3,fun hlt=>?_⟩;rw[hg] at h4;simp only[Bool.and_eq_false_iff,decide_eq_false_iff_not,Bool.not_eq_false'] at h4;rcases h4 with h4|h4
 ·exact absurd hlt h4
 ·exact h4
theorem wG8 {g:Int×Unit→Bool}{next:Int×Unit→Int×Unit}{ok:Int×Unit→Prop}{n:Int}(hn0:0≤n)(hn:n<9223372036854775808)(hg:∀ x,g x=true→x.1<n)(hx:∀ x,next x=(x.1+1,()))
  (hok:∀ x:Int×Unit,0≤x.1→x.1≤n→ok x):xB7 g next ok (0,()):=
 xF5 (fun x=>0≤x.1∧x.1≤n) (fun x=>(n-x.1).toNat) (fun x h=>hok x h.1 h.2) (fun x hi hgx=>by
  have:=hg x hgx;rw[hx];refine⟨⟨by simp only;omega,by simp only;omega⟩,by simp only;omega⟩) ⟨by simp,hn0⟩ (by simp only[zH7];omega)
def wJ9 (n:Int)(c:Int→Bool):Bool:=(List.range n.toNat).any fun i=>c (i:Int)
theorem wI1 {g:Int×Unit→Bool}{next:Int×Unit→Int×Unit}{n:Int}{c:Int→Bool}(hn0:0≤n)(hn:n<9223372036854775808)(hg:∀ x,g x=(decide (x.1<n)&&!(c x.1)))(hx:∀ x,next x=(x.1+1,())) :
  (decide ((zB9 g next (0,())).1<n)&&c (zB9 g next (0,())).1)=wJ9 n c:=by
 obtain⟨j,h1,h2,h3,h4,h5⟩:=wK7 hn0 hn hg hx;rw[h3];rw[Bool.eq_iff_iff];simp only[Bool.and_eq_true,decide_eq_true_eq,wJ9,List.any_eq_true,List.mem_range];constructor
 ·rintro⟨h,h'⟩;exact⟨j.toNat,by omega,by rw[Int.toNat_of_nonneg h1];exact h'⟩
 ·rintro⟨i,hi,hc⟩;by_cases hj:j<n
  ·exact⟨hj,h5 hj⟩
  ·have:=h4 (i:Int) (by omega) (by omega);rw[this] at hc;cases hc
theorem wF {α:Type}(l:List α):0≤len l:=by simp[len]
def xC4 {A:Type}(step:A→Int→A):Nat→A→A
 |0,a=>a
 |k+1,a=>step (xC4 step k a) (k:Int)
theorem wG9 {A:Type}{g:A×Int×Unit→Bool}{next:A×Int×Unit→A×Int×Unit}{n:Int}{step:A→Int→A}(hn0:0≤n)(hn:n<9223372036854775808)(hg:∀ x,g x=decide (x.2.1<n))(hx:∀ x,next x=(step x.1 x.2.1,x.2.1+1,()))(a:A) :
  zB9 g next (a,0,())=(xC4 step n.toNat a,n,()):=by
 have h:=xF4 (g:=g) (next:=next) (fun x=>0≤x.2.1∧x.2.1≤n∧x.1=xC4 step x.2.1.toNat a) (fun x=>(n-x.2.1).toNat) (fun x hi hgx=>by
  rw[hg] at hgx;have hgx:=of_decide_eq_true hgx;rw[hx];refine⟨⟨by simp only;omega,by simp only;omega,?_⟩,by simp only;omega⟩;simp only;have e:(x.2.1+1).toNat=x.2.1.toNat+1:=by omega
  rw[e,xC4,← hi.2.2,Int.toNat_of_nonneg hi.1]) (x:=(a,0,())) ⟨by simp,hn0,rfl⟩ (by simp only[zH7];omega)
 generalize zB9 g next (a,0,())=e at h
 obtain⟨⟨h1,h2,h3⟩,h4⟩:=h;rw[hg] at h4;have h4:=of_decide_eq_false h4;obtain⟨e1,e2,e3⟩:=e;simp only at h1 h2 h3 h4;have:e2=n:=by omega
 subst this;rw[h3]
theorem wH {A:Type}{g:A×Int×Unit→Bool}{next:A×Int×Unit→A×Int×Unit}{ok:A×Int×Unit→Prop}{n:Int}{step:A→Int→A}(hn0:0≤n)(hn:n<9223372036854775808)(hg:∀ x,g x=decide (x.2.1<n))(hx:∀ x,next x=(step x.1 x.2.1,x.2.1+1,()))(a:A)
  (hok:∀ i:Int,0≤i→i≤n→ok (xC4 step i.toNat a,i,())):xB7 g next ok (a,0,()):=
 xF5 (fun x=>0≤x.2.1∧x.2.1≤n∧x.1=xC4 step x.2.1.toNat a) (fun x=>(n-x.2.1).toNat) (fun x h=>by
  have:=hok x.2.1 h.1 h.2.1;rw[← h.2.2] at this;exact this) (fun x hi hgx=>by
  rw[hg] at hgx;have hgx:=of_decide_eq_true hgx;rw[hx];refine⟨⟨by simp only;omega,by simp only;omega,?_⟩,by simp only;omega⟩;simp only;have e:(x.2.1+1).toNat=x.2.1.toNat+1:=by omega
  rw[e,xC4,← hi.2.2,Int.toNat_of_nonneg hi.1]) ⟨by simp,hn0,rfl⟩ (by simp only[zH7];omega)
end Go.Am
namespace Go.Am
open Go Go.RowKit
variable {gtab:GlobTab}{P:Program}
theorem wH0 {f:Nat}{t:Ty}{rs:Sh}{o0:zB2 [(0,Sh.nn true)]→zX2 []}{o1:zB2 [(0,Sh.nn false)]→zX2 []}{o2:zB2 [(0,Sh.val (.sl t))]→zX2 []}{ok0:zB2 [(0,Sh.nn true)]→Prop}{ok1:zB2 [(0,Sh.nn false)]→Prop}{ok2:zB2 [(0,Sh.val (.sl t))]→Prop}
  {F0:zB2 [(0,Sh.nn true)]→rs.den}{F1:zB2 [(0,Sh.nn false)]→rs.den}{F2:zB2 [(0,Sh.val (.sl t))]→rs.den}(h0:SpecOk P f (fnSpec [(0,.nn true)] rs [] ok0 F0 o0)) (h1:SpecOk P f (fnSpec [(0,.nn false)] rs [] ok1 F1 o1))
  (h2:SpecOk P f (fnSpec [(0,.val (.sl t))] rs [] ok2 F2 o2)){F:List t.den→rs.den}{ok:List t.den→Prop}{o:zB2 [(0,Sh.val (.sl t))]→zX2 []}(hok0:ok0 ((),())) (hok1:ok1 ((),())) (hok2:∀ l:List t.den,ok l→0<l.length→ok2 (l,()))
  (e0:F []=F0 ((),())) (e1:F []=F1 ((),())) (e2:∀ l:List t.den,F l=F2 (l,())) :
  SpecOk P f (fnSpec [(0,.val (.sl t))] rs [] (fun x=>ok x.1) (fun x=>F x.1) o):=by
 refine⟨h0.1,fun args co hsp hok G w vals hlen hglob hreps=>?_⟩;unfold fnSpec at hsp;generalize hal:Nat.beq args.length _=b at hsp;cases b with
 |false=>cases hsp
 |true =>
  simp only[cond_true] at hsp;split at hsp
  ·rename_i x hx;injection hsp with hsp
   subst hsp;have hl:args.length=1:=Nat.eq_of_beq_eq_true hal;obtain⟨A,rfl⟩:∃ A,args=[A]:=by
    match args,hl with
    |[A],_=>exact⟨A,rfl⟩
   obtain⟨v,rfl⟩:∃ v,vals=[v]:=by
    match vals,hlen with
    |[v],_=>exact⟨v,rfl⟩
   obtain⟨l,_⟩:=x;have hp:(Sh.val (.sl t)).parse A=some l:=by
    simp only[zC8,zV3,St.get] at hx;split at hx
    ·rename_i y z hy _;simp only[Option.some.injEq,Prod.mk.injEq] at hx;rw[← hx.1];simpa using hy
    ·cases hx
   have hokl:ok l:=hok _ (List.mem_singleton.2 rfl);have hA:=zE2 hp (hreps 0 A v rfl rfl);simp only[Sh.mk,zA] at hA;rw[zC rfl] at hA;have hC:=hA;simp only[zB4] at hA;obtain⟨a,cap,hv,hA⟩:=hA;injection hv with hv _
   have run:∀ {s:Sh}{y:s.den}{ok':zB2 [(0,s)]→Prop}{F':zB2 [(0,s)]→rs.den}{o':zB2 [(0,s)]→zX2 []},SpecOk P f (fnSpec [(0,s)] rs [] ok' F' o')→(∀ S:St,s.parse (s.mk y)=some y)→ok' (y,())→F l=F' (y,())→zA G w #[] (some 0) (s.mk y) v →
     Calls P f [v].toArray w fun e w'=>∃ v' G',e=.returned v'∧Frame0 G.χ w G'.χ w'∧zA G' w' #[] none (rs.mk (F l)) v' ∧
      (∀ (i:Nat) k A' u,(i,k)∈mkO [] (o (l,()))→[A][i]?=some A'→[v][i]?=some u→(∀ τ k0,A'=.box τ k0→zA G' w' #[] (some i) (.box τ k) u∧G'.β i=G.β i)∧(zF8 A'=false→zA G' w' #[] none k u))∧∀ k B,(k,B)∈wA5 [] (o (l,()))→zA G' w' #[] (some k) B undef:=by
    intro s y ok' F' o' hs hpar hok' hF' hrep;have hsp:fnSpec [(0,s)] rs [] ok' F' o' [s.mk y]=some ⟨[ok' (y,())],rs.mk (F' (y,())),mkO [] (o' (y,())),[]⟩:=by
     have:zC8 [(0,s)] (zV3 0 [s.mk y])=some (y,()):=by simp[zC8,zV3,St.get,hpar []]
     unfold fnSpec;rw[this];rfl
    refine (hs.2 _ _ hsp (fun q hq=>by simp only[List.mem_singleton] at hq;subst hq;exact hok') G w [v] rfl hglob (fun i A' v' h1 h2=>?_)).mono ?_
    ·match i,h1,h2 with
     |0,h1,h2=>simp only[List.getElem?_cons_zero,Option.some.injEq] at h1 h2;subst h1;subst h2;exact hrep
     |i+1,h1,_=>simp at h1
    ·rintro e w' ⟨v',G',rfl,q1,q2,_⟩;exact⟨v',G',rfl,q1,by rw[hF'];exact q2,(fun i k A' u h=>by cases h),fun k B h=>by cases h⟩
   rcases hA with hA | ⟨b,o2',us,ha,_⟩
   ·have hl0:l=[]:=hA;subst hl0;cases a with
    |none=>exact run (s:=.nn true) (y:=()) h0 (fun _=>rfl) hok0 e0 (by simp only[Sh.mk,zA];exact⟨none,cap,hv,rfl⟩)
    |some ad=>exact run (s:=.nn false) (y:=()) h1 (fun _=>rfl) hok1 e1 (by simp only[Sh.mk,zA];exact⟨some ad,cap,hv,rfl⟩)
   ·have hpos:0<List.length (α:=t.den) l∨l=[]:=by
     cases l with
     |nil=>exact .inr rfl
     |cons _ _=>exact .inl (by simp)
    rcases hpos with hpos|hl0
    ·refine run (s:=.val (.sl t)) (y:=l) h2 (fun _=>?_) (hok2 l hokl hpos) (e2 l) (by simp only[Sh.mk,zA];exact (zC rfl).2 hC);simp only[Sh.parse,Sh.mk,Ty.isL,cond_false,AVal.as,AVal.asT];exact yW5
    ·subst hl0;subst ha;exact run (s:=.nn false) (y:=()) h1 (fun _=>rfl) hok1 e1 (by simp only[Sh.mk,zA];exact⟨_,cap,hv,rfl⟩)
  ·cases hsp
end Go.Am
namespace Go.Am
open Go Go.RowKit
variable {gtab:GlobTab}{P:Program}{w:World}{χ:Nat→Nat→Nat}
def Ty.bulk:(τ:Ty)→τ.den→Nat
 |.int _,_=>1
 |.bool,_=>1
 |.str,s=>List.length (α:=UInt8) s+1
 |.nl,_=>0
 |.cons h t,x=>h.bulk x.1+t.bulk x.2
 |.st f,x=>f.bulk x+1
 |.arr _ t,l=>(List.map t.bulk l).sum+1
 |.sl t,l=>(List.map t.bulk l).sum+1
 |.ptr _,_=>0
structure BulkFn (H:Type) where
 B:DataW H→Nat
 BA:List (DataW H)→Nat
 str:∀ s,s.length+1≤B (.lit (.string s))
 lit:∀ l,1≤B (.lit l)
 slice:∀ e s,BA e+1≤B (.slice e s)
 agg:∀ p,BA p+1≤B (.agg p)
 nil':1≤B .nil
 cons:∀ d r,B d+BA r≤BA (d::r)
theorem yW6 {H α γ:Type}{K:BulkFn H}{f:α→Option (DataW H×List MemPlace)}{R:γ→List Value→Prop}{g:α→List Value}{wf:γ→Prop}{bk:γ→Nat}:∀ {l:List α}{ys:List (DataW H×List MemPlace)},l.mapM f=some ys→(∀ x y,x∈l→f x=some y→∃ z,R z (g x)∧wf z∧bk z≤K.B y.1) →
  ∃ zs:List γ,zs.length=l.length∧zL0 R zs (l.flatMap g)∧(∀ z∈zs,wf z)∧(zs.map bk).sum≤K.BA (ys.map (·.1)):=by
 intro l
 induction l with
 |nil=>intro ys _ _;exact⟨[],rfl,rfl,fun z h=>(by grind),by simp⟩
 |cons x l ih =>
  intro ys h hf;simp only[List.mapM_cons,Option.bind_eq_bind,Option.bind_eq_some_iff,Option.pure_def,Option.some.injEq] at h;obtain⟨y,hy,ys',hys,rfl⟩:=h;obtain⟨z,h1,h2,h6⟩:=hf x y (List.mem_cons_self ..) hy;obtain⟨zs,h3,h4,h5,h7⟩:=ih hys fun x y hx=>hf x y (List.mem_cons_of_mem _ hx);refine⟨z::zs,by grind,⟨g x,l.flatMap g,rfl,h1,h4⟩,fun z' hz=>?_,?_⟩
  ·all_goals grind
  ·simp;have:=K.cons y.1 (ys'.map (·.1));omega
section
variable {H:Type}{enc:TypeId×Value→H}{sp:Nat→Bool}{held:Bool}
theorem xU9 (K:BulkFn H)(hχ:∀ b o,b<w.heap.size→χ b o=0):∀ τ:Ty,
  (∀ (T zH7:Nat) (cs:List Value) (d:DataW H) (ps:List MemPlace),zC3 P τ (.inl T)=true→τ.deep=true→DataW.trod enc P w 0 sp held zH7 T cs=some (d,ps)→∃ x,zB4 χ w τ x cs∧τ.wf x∧τ.bulk x≤K.B d) ∧
  (∀ (fs:List Field) (o:Nat) (cs:List Value) (zH7:Nat) (xs:List (DataW H×List MemPlace)),zC3 P τ (.inr (fs,o))=true→τ.deep=true→fs.mapM (fun f=>DataW.trod enc P w 0 sp held zH7 f.type ((cs.drop f.offset).take (P.cellsOf f.type)))=some xs→cs.length=o+τ.size →
   ∃ x,zB4 χ w τ x (cs.drop o)∧τ.wf x∧τ.bulk x≤K.BA (xs.map (·.1))):=by
 intro τ
 induction τ with
 |int k =>
  refine⟨fun T zH7 cs d ps hT _ h=>?_,fun fs o cs zH7 xs hT=>by grind [zC3]⟩;have hu:P.underlying T=some (.int k):=by
   simp only[zC3,Bool.and_eq_true] at hT;cases hu:P.underlying T with
   |none=>grind
   |some d=>rw[hu] at hT;cases d<;>simp at hT;grind [zH8]
  cases zH7 with
  |zero=>simp[DataW.trod] at h
  |succ zH7 =>
   unfold DataW.trod at h;rw[hu] at h
   match cs,h with
   |[.int k' n],h =>
    simp only at h;split at h
    ·rename_i hc;obtain⟨rfl,hw⟩:=hc;simp only[Lit.wf,Bool.and_eq_true,decide_eq_true_eq] at hw;simp only[Option.some.injEq,Prod.mk.injEq] at h;exact⟨n,by grind [zB4],hw,by rw[← h.1];exact K.lit _⟩
    grind
 |bool =>
  refine⟨fun T zH7 cs d ps hT _ h=>?_,fun fs o cs zH7 xs hT=>by grind [zC3]⟩;have hu:P.underlying T=some .bool:=by
   simp only[zC3,Bool.and_eq_true] at hT
   grind
  cases zH7 with
  |zero=>simp[DataW.trod] at h
  |succ zH7 =>
   unfold DataW.trod at h;rw[hu] at h
   match cs,h with
   |[.bool b],h =>
    simp only[Option.some.injEq,Prod.mk.injEq] at h;exact⟨b,by grind [zB4],trivial,by rw[← h.1];exact K.lit _⟩
 |str =>
  refine⟨fun T zH7 cs d ps hT _ h=>?_,fun fs o cs zH7 xs hT=>by grind [zC3]⟩;have hu:=zM9 hT;cases zH7 with
  |zero=>simp[DataW.trod] at h
  |succ zH7 =>
   unfold DataW.trod at h;rw[hu] at h
   match cs,h with
   |[.string b],h =>
    simp only at h;split at h
    ·rename_i hs;simp only[Option.some.injEq,Prod.mk.injEq] at h;refine⟨b.data.toList,by grind [zB4],?_,by rw[← h.1];exact K.str _⟩;show b.data.toList.length≤maxLen;simp_all
    grind
 |nl =>
  refine⟨fun T zH7 cs d ps hT=>by grind [zC3],fun fs o cs zH7 xs hT _ h hl=>?_⟩;refine⟨(),?_,trivial,Nat.zero_le _⟩;simp_all [zB4,Ty.size,Nat.add_zero]
 |cons a b iha ihb =>
  refine⟨fun T zH7 cs d ps hT=>by grind [zC3],fun fs o cs zH7 xs hT hd h hl=>?_⟩;cases fs with
  |nil=>grind [zC3]
  |cons fd r =>
   simp only[zC3,Bool.and_eq_true] at hT;obtain⟨⟨⟨h1,_⟩,h2⟩,h3⟩:=hT;have ho:=Nat.eq_of_beq_eq_true h1;simp only[Ty.deep,Bool.and_eq_true] at hd;simp only[Ty.size] at hl;simp only[List.mapM_cons,Option.bind_eq_bind,Option.bind_eq_some_iff,Option.pure_def,Option.some.injEq] at h;obtain⟨y,hy,ys,hys,rfl⟩:=h;obtain⟨x,q1,q2,q5⟩:=iha.1 _ _ _ _ _ h2 hd.1 (show _=some (y.1,y.2) from hy);rw[zP1 h2,ho] at q1;obtain⟨z,q3,q4,q6⟩:=ihb.2 r (o+a.size) cs zH7 ys h3 hd.2 hys (by omega);refine⟨(x,z),?_,⟨q2,q4⟩,by simp only[Ty.bulk,List.map_cons];have:=K.cons y.1 (ys.map (·.1));omega⟩;simp only[zB4];refine⟨_,_,?_,q1,q3⟩;rw[← List.drop_drop,List.take_append_drop]
 |st f ih =>
  refine⟨fun T zH7 cs d ps hT hd h=>?_,fun fs o cs zH7 xs hT=>by grind [zC3]⟩;obtain⟨fs,hu,hf⟩:=zW0 hT;have hsz:=zP1 hT;cases zH7 with
  |zero=>simp[DataW.trod] at h
  |succ zH7 =>
   unfold DataW.trod at h;rw[hu] at h;simp only at h;split at h
   ·rename_i hl;simp only[Option.map_eq_some_iff] at h;obtain⟨xs,hxs,he⟩:=h;obtain⟨x,h1,h2,h3⟩:=ih.2 fs.toList 0 cs zH7 xs hf (by grind [Ty.deep]) hxs (by grind [Ty.size]);simp only[Prod.mk.injEq] at he;exact⟨x,by simpa only[zB4,List.drop_zero] using h1,h2,by rw[← he.1];have:=K.agg (xs.map (·.1));grind [Ty.bulk]⟩
   grind
 |arr n t ih =>
  refine⟨fun T zH7 cs d ps hT hd h=>?_,fun fs o cs zH7 xs hT=>by grind [zC3]⟩;obtain⟨e,hu,hf⟩:=zT3 hT;have hsz:=zP1 hT;have hse:=zP1 hf;cases zH7 with
  |zero=>simp[DataW.trod] at h
  |succ zH7 =>
   unfold DataW.trod at h;rw[hu] at h;simp only at h;split at h
   ·rename_i hl;simp only[Option.map_eq_some_iff] at h;obtain⟨xs,hxs,he⟩:=h;obtain⟨zs,h1,h2,h3,h4⟩:=yW6 (K:=K) (R:=zB4 χ w t) (g:=fun i=>(cs.drop (i*t.size)).take t.size) (wf:=t.wf) (bk:=t.bulk) hxs (fun i y _ hy=>by
     grind [Ty.deep])
    rw[xU6] at h2;simp only[List.length_range] at h1;rw[List.take_of_length_le (by grind [Ty.size])] at h2;simp only[Prod.mk.injEq] at he;exact⟨zs,by grind [zB4],⟨h1,h3⟩,by rw[← he.1];have:=K.agg (xs.map (·.1));grind [Ty.bulk]⟩
   grind
 |sl t ih =>
  refine⟨fun T zH7 cs d ps hT hd h=>?_,fun fs o cs zH7 xs hT=>by grind [zC3]⟩;obtain⟨e,hu,hf⟩:=zG9 hT;have hse:=zP1 hf;cases zH7 with
  |zero=>simp[DataW.trod] at h
  |succ zH7 =>
   unfold DataW.trod at h;rw[hu] at h
   match cs,h with
   |[.slice none 0 0],h =>
    simp only[Option.some.injEq,Prod.mk.injEq] at h;exact⟨[],by simp_all [zB4],by simp[Ty.wf],by rw[← h.1];simpa[Ty.bulk] using K.nil'⟩
   |[.slice (some a) ln cap],h =>
    simp only at h;split at h
    ·rename_i hc;simp only[Option.bind_eq_some_iff] at h;obtain⟨els,hels,hrest⟩:=h;simp only[Option.map_eq_some_iff] at hrest;obtain⟨rest,_,he⟩:=hrest;simp only[Prod.mk.injEq] at he;rw[hse] at hels;obtain⟨zs,h1,h2,h3,hbk⟩:=yW6 (K:=K) (R:=zB4 χ w t) (g:=fun i=>(List.range t.size).map fun k=>(w.cell? (a.add (i*t.size+k))).getD undef) (wf:=t.wf) (bk:=t.bulk) hels (fun i y _ hy=>by
      simp only[Option.bind_eq_some_iff] at hy;obtain⟨cs',hcs,hy⟩:=hy;obtain⟨z,q1,q2,q3⟩:=ih.1 _ _ _ _ _ hf (by simp_all [Ty.deep,Bool.and_eq_true]) (show _=some (y.1,y.2) from hy)
      grind [cells?_is,xU7])
     rw[xL2 (f:=fun j=>(w.cell? (a.add j)).getD undef)] at h2;simp only[List.length_range] at h1;refine⟨zs,?_,by grind [Ty.wf],by rw[← he.1];have:=K.slice (els.map (·.1)) (rest.map (·.1));simp only[Ty.bulk];omega⟩;simp only[zB4];refine⟨some a,cap,by rw[h1],?_⟩;by_cases hz:zs=[]
     ·grind
     ·have hcell:∀ j,j<ln*t.size→∃ v,w.cell? (a.add j)=some v:=by
       intro j hj;have hpos:0<t.size:=by rcases Nat.eq_zero_or_pos t.size with h0|h0;rw[h0] at hj;simp at hj;exact h0
       have hi:j / t.size<ln:=Nat.div_lt_of_lt_mul (by rw[Nat.mul_comm];exact hj);have hmem:∀ i,i<ln→∃ y,(w.cells? 0 (a.add (i*t.size)) t.size).bind (DataW.trod enc P w 0 sp held zH7 e)=some y:=by
        intro i hi;have key:∀ (l:List Nat) els,l.mapM (fun i=>(w.cells? 0 (a.add (i*t.size)) t.size).bind (DataW.trod enc P w 0 sp held zH7 e))=some els→∀ i∈l,∃ y,(w.cells? 0 (a.add (i*t.size)) t.size).bind (DataW.trod enc P w 0 sp held zH7 e)=some y:=by
         intro l
         induction l with
         |nil=>intro els _ i h;cases h
         |cons x l ihl =>
          intro els h i hi;simp only[List.mapM_cons,Option.bind_eq_bind,Option.bind_eq_some_iff,Option.pure_def,Option.some.injEq] at h;obtain⟨y,hy,ys,hys,rfl⟩:=h;rcases List.mem_cons.1 hi with rfl|hi
          ·exact⟨y,by simpa only[Option.bind_eq_some_iff] using hy⟩
          ·exact ihl ys hys i hi
        exact key _ _ hels i (List.mem_range.2 hi)
       obtain⟨y,hy⟩:=hmem _ hi;simp only[Option.bind_eq_some_iff] at hy;obtain⟨cs',hcs,_⟩:=hy;obtain⟨v,hv⟩:=(cells?_is hcs).2 (j % t.size) (Nat.mod_lt _ hpos)
       grind [xU7,Nat.div_add_mod']
      obtain⟨b,o,s⟩:=a;simp only[Ty.deep,Bool.and_eq_true] at hd;have hs1:0<t.size:=Nat.le_of_ble_eq_true hd.1;by_cases hs0:ln=0
      ·exact .inl (List.length_eq_zero_iff.1 (by omega))
      ·have hpos:0<ln*t.size:=Nat.mul_pos (by omega) (by omega);obtain⟨v,hv⟩:=hcell 0 hpos;have hsp:=(yW4 hv).1;have hsp:s=none:=by simpa[Addr.add] using hsp
       subst hsp;refine .inr ⟨b,o,_,rfl,by omega,h2,fun j v hj=>?_⟩;rw[List.getElem?_map] at hj;have hjl:j<ln*t.size:=by
        rcases Nat.lt_or_ge j (ln*t.size) with h' | h'
        ·exact h'
        ·rw[List.getElem?_eq_none (by simpa using h')] at hj;simp at hj
       obtain⟨v',hv'⟩:=hcell j hjl;rw[List.getElem?_range hjl] at hj;simp only[Option.map_some,Option.some.injEq] at hj;rw[hv'] at hj;simp only[Option.getD_some] at hj;subst hj;have e2:(⟨b,o,none⟩:Addr).add j=⟨b,o+j,none⟩:=by
        by_cases hj0:j=0
        ·subst hj0;simp[Addr.add]
        ·simp[Addr.add,hj0]
       rw[e2] at hv';exact⟨hv',hχ b (o+j) (yW4 hv').2⟩
    grind
 |ptr t _=>exact⟨fun T zH7 cs d ps _ hd=>by simp[Ty.deep] at hd,fun fs o cs zH7 xs _ hd=>by simp[Ty.deep] at hd⟩
def xV:(i:Nat)→(τs:List Ty)→zB2 (enumSh i τs)→Nat
 |_,[],_=>0
 |i,τ::r,x=>τ.bulk x.1+xV (i+1) r x.2
theorem xV0 (K:BulkFn H){G:Gh}(hχ:∀ b o,b<w.heap.size→G.χ b o=0):∀ {τs:List Ty}{Ts:List TypeId}{vs:List Value}{ds:List (DataW H)}{ps:List MemPlace}{i base:Nat},yD9 P τs Ts=true →
  DataW.TrodAll enc P w 0 (fun _=>true) true Ts vs ds ps→(∀ (j:Nat) t v,Ts[j]?=some t→vs[j]?=some v→Value.okWide P w .any base t v) →
  ∃ x:zB2 (enumSh i τs),vs.length=τs.length∧wfL i τs x∧xV i τs x≤K.BA ds∧∀ (k:Nat) A v,(mkA i τs x)[k]?=some A→vs[k]?=some v→zA G w #[] (some (i+k)) A v:=by
 intro τs
 induction τs with
 |nil =>
  intro Ts vs ds ps i base ht h _;cases Ts with
  |cons T s=>grind [yD9]
  |nil =>
   cases vs with
   |nil=>exact⟨(),rfl,trivial,by simp[xV],fun k A v h=>by grind⟩
   |cons v vs=>grind [DataW.TrodAll]
 |cons τ r ih =>
  intro Ts vs ds ps i base ht h hok;cases Ts with
  |nil=>grind [yD9]
  |cons T s =>
   cases vs with
   |nil=>grind [DataW.TrodAll]
   |cons v vs =>
    cases ds with
    |nil=>grind [DataW.TrodAll]
    |cons d ds =>
     simp[yD9,Bool.and_eq_true] at ht;obtain⟨⟨h1,h2⟩,h3⟩:=ht;obtain⟨p,q,⟨fl,hd⟩,hr,_⟩:=h;obtain⟨x,hx,hwf,hbk⟩:=(xU9 K hχ τ).1 T fl _ d p h1 h2 hd;obtain⟨y,hy1,hy2,hy4,hy3⟩:=ih (i:=i+1) h3 hr fun j t v ht hv=>hok (j+1) t v (by simpa using ht) (by grind);refine⟨(x,y),by grind,⟨hwf,hy2⟩,by simp only[xV];have:=K.cons d ds;omega,fun k A u hA hu=>?_⟩;cases k with
     |zero =>
      simp[mkA] at hA hu;subst hA;subst hu;refine⟨_,hx,?_⟩;have hv:=hok 0 T v rfl rfl;cases ha:τ.isAgg with
      |true =>
       obtain⟨cs,rfl⟩:=wG7 h1 ha hv;simp[Value.cells]
      |false =>
       have:=wE h1 ha h2 hv;cases v with
       |agg cs=>exact absurd rfl (this cs)
       |_=>rfl
     |succ k =>
      have:=hy3 k A u hA hu
      rwa [show i+1+k=i+(k+1) by omega] at this
theorem law_callsU (K:BulkFn H){N:Nat}{τs:List Ty}{Ts:List TypeId}{f:Nat}{ok:zB2 (enumSh 0 τs)→Prop}{F:zB2 (enumSh 0 τs)→Bool}{o:zB2 (enumSh 0 τs)→zX2 []}(hs:SpecOk P f (fnSpec (enumSh 0 τs) (.val .bool) [] ok F o))
  (hty:yD9 P τs Ts=true) (hn:Nat.ble τs.length zA6=true) (hlaw:∀ x,wfL 0 τs x→xV 0 τs x≤N→ok x∧F x=true){args:Array Value}{ds:List (DataW H)}{ps:List MemPlace}{base:Nat}(hA:DataW.TrodAll enc P w 0 (fun _=>true) true Ts args.toList ds ps)
  (hok:∀ (j:Nat) t v,Ts[j]?=some t→args.toList[j]?=some v→Value.okWide P w .any base t v) (hN:K.BA ds≤N) (hglob:GlobOk (fun b _=>if b<w.heap.size then 0 else 2) w) :
  Calls P f args w fun e w'=>e=.returned (.bool true)∧Below w.heap.size w w':=by
 let G:Gh:=⟨fun b _=>if b<w.heap.size then 0 else 2,fun _=>0,fun _=>0⟩
 have hχ:∀ b o,b<w.heap.size→G.χ b o=0:=fun b o hb=>by grind
 obtain⟨x,h1,h2,h4,h3⟩:=xV0 K (G:=G) hχ (i:=0) hty hA hok;obtain⟨hokx,hFx⟩:=hlaw x h2 (Nat.le_trans h4 hN);have hlen:=xL3 (τs:=τs) (i:=0) (x:=x);have hn:τs.length≤zA6:=Nat.le_of_ble_eq_true hn;have hpar:zC8 (enumSh 0 τs) (zV3 0 (mkA 0 τs x))=some x:=xU8 (fun k=>by
  by_cases hk:k<τs.length
  ·have:=yK (s:=k) (args:=mkA 0 τs x) (i:=0) (by omega) (by omega) (by omega);simp_all
  grind) (xC3 hty)
 have hsp:fnSpec (enumSh 0 τs) (.val .bool) [] ok F o (mkA 0 τs x)=some ⟨[ok x],.val .bool (F x),[],[]⟩:=by
  unfold fnSpec;rw[hlen.1,hlen.2,Nat.beq_refl,cond_true,hpar];rfl
 have hcall:=hs.2 _ _ hsp (fun q hq=>by grind) G w args.toList (by rw[h1,hlen.1]) hglob (fun i A v hA hv=>by
  have:=h3 i A v hA hv
  rwa [Nat.zero_add] at this)
 refine hcall.mono ?_;rintro e w' ⟨v,G',rfl,hfr,hres,_⟩;have hv:=(zC rfl).1 hres;simp[zB4] at hv;rw[hv,hFx];refine⟨rfl,hfr.os,hfr.tape,hfr.output,hfr.size,fun k hk=>hfr.block k hk fun o=>?_⟩
 grind
end
end Go.Am
namespace Go.Am
open Go Go.RowKit
variable {gtab:GlobTab}{P:Program}
theorem xC5 {χ:Nat→Nat→Nat}{w:World}:Frame0 χ w χ w:=⟨rfl,rfl,rfl,Nat.le_refl _,fun _ _ _=>rfl,fun _ _ _ _=>⟨rfl,rfl⟩⟩
theorem xL4 {f:Nat}{τ:Ty}{rs:Sh}{ok:τ.den→Prop}{F:τ.den→rs.den}{o:zB2 [(0,Sh.val τ)]→zX2 []}(hfn:∃ fn,P.funcs[f]?=some fn∧fn.body.isSome=true∧fn.name≠"runtime.NumGoroutine")
  (H:∀ x,ok x→∀ (G:Gh) (w:World) (v:Value),GlobOk G.χ w→zR2 G.χ w τ x v→Calls P f #[v] w fun e w'=>∃ u G',e=.returned u∧Frame0 G.χ w G'.χ w'∧zA G' w' #[] none (rs.mk (F x)) u) :
  SpecOk P f (fnSpec [(0,.val τ)] rs [] (fun x=>ok x.1) (fun x=>F x.1) o):=by
 refine⟨hfn,fun args co hsp hok G w vals hlen hglob hreps=>?_⟩;unfold fnSpec at hsp;generalize hal:Nat.beq args.length _=b at hsp;cases b with
 |false=>cases hsp
 |true =>
  simp only[cond_true] at hsp;split at hsp
  ·rename_i x hx;injection hsp with hsp
   subst hsp;have hl:args.length=1:=Nat.eq_of_beq_eq_true hal;obtain⟨A,rfl⟩:∃ A,args=[A]:=by
    match args,hl with
    |[A],_=>exact⟨A,rfl⟩
   obtain⟨v,rfl⟩:∃ v,vals=[v]:=by
    match vals,hlen with
    |[v],_=>exact⟨v,rfl⟩
   obtain⟨l,_⟩:=x;have hp:(Sh.val τ).parse A=some l:=by
    simp only[zC8,zV3,St.get] at hx;split at hx
    ·rename_i y z hy _;simp only[Option.some.injEq,Prod.mk.injEq] at hx;rw[← hx.1];simpa using hy
    ·cases hx
   have hA:=zE2 hp (hreps 0 A v rfl rfl);simp only[Sh.mk,zA] at hA;refine (H l (hok _ (List.mem_singleton.2 rfl)) G w v hglob hA).mono ?_;rintro e w' ⟨u,G',rfl,q1,q2⟩;exact⟨u,G',rfl,q1,q2,(fun i k A' u h=>by cases h),fun k B h=>by cases h⟩
  ·cases hsp
theorem xL5 {f:Nat}{τ σ:Ty}{rs:Sh}{ok:τ.den→σ.den→Prop}{F:τ.den→σ.den→rs.den}{o:zB2 [(0,Sh.val τ),(1,Sh.val σ)]→zX2 []}(hfn:∃ fn,P.funcs[f]?=some fn∧fn.body.isSome=true∧fn.name≠"runtime.NumGoroutine")
  (H:∀ x y,ok x y→∀ (G:Gh) (w:World) (v u:Value),GlobOk G.χ w→zR2 G.χ w τ x v→zR2 G.χ w σ y u→Calls P f #[v,u] w fun e w'=>∃ r G',e=.returned r∧Frame0 G.χ w G'.χ w'∧zA G' w' #[] none (rs.mk (F x y)) r) :
  SpecOk P f (fnSpec [(0,.val τ),(1,.val σ)] rs [] (fun x=>ok x.1 x.2.1) (fun x=>F x.1 x.2.1) o):=by
 refine⟨hfn,fun args co hsp hok G w vals hlen hglob hreps=>?_⟩;unfold fnSpec at hsp;generalize hal:Nat.beq args.length _=b at hsp;cases b with
 |false=>cases hsp
 |true =>
  simp only[cond_true] at hsp;split at hsp
  ·rename_i x hx;injection hsp with hsp
   subst hsp;have hl:args.length=2:=Nat.eq_of_beq_eq_true hal;obtain⟨A,B,rfl⟩:∃ A B,args=[A,B]:=by
    match args,hl with
    |[A,B],_=>exact⟨A,B,rfl⟩
   obtain⟨v,u,rfl⟩:∃ v u,vals=[v,u]:=by
    match vals,hlen with
    |[v,u],_=>exact⟨v,u,rfl⟩
   obtain⟨l,m,_⟩:=x;have hp:(Sh.val τ).parse A=some l∧(Sh.val σ).parse B=some m:=by
    simp only[zC8,zV3,St.get] at hx;split at hx
    ·rename_i y z hy hz;simp only[Option.some.injEq,Prod.mk.injEq] at hx;split at hz
     ·rename_i y' z' hy' _;simp only[Option.some.injEq] at hz;rw[← hz] at hx;simp only[Prod.mk.injEq] at hx;rw[← hx.1,← hx.2.1];exact⟨by simpa using hy,by simpa[Nat.beq,zA6] using hy'⟩
     ·cases hz
    ·cases hx
   have hA:=zE2 hp.1 (hreps 0 A v rfl rfl);have hB:=zE2 hp.2 (hreps 1 B u rfl rfl);simp only[Sh.mk,zA] at hA hB;refine (H l m (hok _ (List.mem_singleton.2 rfl)) G w v u hglob hA hB).mono ?_;rintro e w' ⟨r,G',rfl,q1,q2⟩;exact⟨r,G',rfl,q1,q2,(fun i k A' u h=>by cases h),fun k B h=>by cases h⟩
  ·cases hsp
theorem wH1 {f:Nat}{F:List UInt8→List UInt8→Int}{o:zB2 [(0,Sh.val .str),(1,Sh.val .str)]→zX2 []}(hfn:∃ fn,P.funcs[f]?=some fn∧fn.body.isSome=true∧fn.name≠"runtime.NumGoroutine")
  (H:∀ (s:ByteArray) (c:UInt8) (w:World),Calls P f #[.string s,.string ⟨#[c]⟩] w fun e w'=>e=.returned (.int .i64 (F s.data.toList [c]))∧w'=w) :
  SpecOk P f (fnSpec [(0,.val .str),(1,.val .str)] (.val (.int .i64)) [] (fun x=>List.length x.2.1=1) (fun x=>F x.1 x.2.1) o):=by
 refine xL5 (τ:=.str) (σ:=.str) (rs:=.val (.int .i64)) (ok:=fun _ y=>List.length y=1) (F:=F) hfn fun x y hy G w v u _ hv hu=>?_;rw[zC rfl] at hv hu;simp only[zB4] at hv hu;injection hv with hv _
 injection hu with hu _
 match y,hy with
 |[c],_ =>
  subst hv hu;refine (H ⟨List.toArray x⟩ c w).mono ?_;rintro e w' ⟨rfl,rfl⟩;refine⟨_,G,rfl,xC5,?_⟩;simp only[Sh.mk,zA];rw[zC rfl];simp[zB4]
theorem xV1 {χ:Nat→Nat→Nat}{w:World}:∀ {l:List (List UInt8)},zL0 (zB4 χ w .str) l (l.map fun x=>Value.string ⟨x.toArray⟩):=by
 intro l
 induction l with
 |nil=>simp[zL0]
 |cons x l ih=>exact⟨[.string ⟨x.toArray⟩],_,rfl,by simp only[zB4],ih⟩
theorem xV2 {χ:Nat→Nat→Nat}{w:World}{k:IntKind}:∀ {l:List Int}{vs:List Value},zL0 (zB4 χ w (.int k)) l vs→vs=l.map (Value.int k):=by
 intro l
 induction l with
 |nil=>intro vs h;simpa[zL0] using h
 |cons x l ih =>
  rintro vs ⟨us,ws,rfl,h1,h2⟩;simp only[zB4] at h1;rw[h1,ih h2];rfl
theorem wI2 {χ:Nat→Nat→Nat}{w:World}(h:GlobOk χ w){g n:Nat}{k:IntKind}{l:List Int}(hm:(g,(⟨.arr n (.int k),l⟩:(τ:Ty)×τ.den))∈GlobTab.tab)(c:Nat)(hc:c<n):w.cell? ⟨g,c,none⟩=some (.int k (l.getD c 0)):=by
 obtain⟨vs,h1,h2⟩:=h g (.arr n (.int k)) l hm;unfold zB4 at h1;obtain⟨h1,h3⟩:=h1;have e:=xV2 h3;subst e;have hlen:List.length (α:=Int) l=n:=h1;have:=(h2 c (.int k (l.getD c 0)) (by
  rw[List.getElem?_map,List.getElem?_eq_getElem (by omega),List.getD_eq_getElem?_getD,List.getElem?_eq_getElem (by omega)];rfl)).1
 simpa using this
theorem wH2 {f:Nat}{F:List UInt8→List (List UInt8)}{e:TypeId}{ok:List UInt8→Prop}{o:zB2 [(0,Sh.val .str)]→zX2 []}(hfn:∃ fn,P.funcs[f]?=some fn∧fn.body.isSome=true∧fn.name≠"runtime.NumGoroutine")
  (H:∀ (s:ByteArray) (w:World) (χ:Nat→Nat→Nat),ok s.data.toList→GlobOk χ w→Calls P f #[.string s] w fun e' w'=>e'=.returned (.slice (some ⟨w.heap.size,0,none⟩) (F s.data.toList).length (F s.data.toList).length) ∧
   w'=w.alloc (.cells ((F s.data.toList).map fun l=>Value.string ⟨l.toArray⟩).toArray e)) :
  SpecOk P f (fnSpec [(0,.val .str)] (.val (.sl .str)) [] (fun x=>ok x.1) (fun x=>F x.1) o):=by
 refine xL4 (τ:=.str) (rs:=.val (.sl .str)) (ok:=ok) (F:=F) hfn fun x hx G w v hglob hv=>?_;rw[zC rfl] at hv;simp only[zB4] at hv;injection hv with hv _
 subst hv;refine (H ⟨List.toArray x⟩ w G.χ (by simpa using hx) hglob).mono ?_;rintro e' w' ⟨rfl,rfl⟩
 let G':Gh:={ G with χ:=fun b o=>if b=w.heap.size then 0 else G.χ b o }
 refine⟨_,G',rfl,⟨rfl,rfl,rfl,by simp,fun b hb _=>Below.heap_alloc _ _ _ hb,fun b o hb _=>⟨if_neg (by omega),World.cell?_alloc_old _ _ _ (by simp only;omega)⟩⟩,?_⟩;simp only[Sh.mk,zA];rw[zC rfl];unfold zB4;refine⟨_,_,rfl,.inr ⟨w.heap.size,0,_,rfl,Nat.le_refl _,xV1,fun j v hv=>⟨?_,if_pos rfl⟩⟩⟩;simp only[World.cell?,World.alloc_heap_new,Nat.zero_add];simpa using hv
end Go.Am
namespace Go.Am
open Go Go.RowKit
variable {gtab:GlobTab}{P:Program}{c:Ctx}
def xV3:Code→Option Code
 |.seq a b=>match xV3 a with|some x=>some x|none=>xV3 b
 |.block _ a=>xV3 a
 |.rangeFunc _ _ _ b=>some b
 |_=>none
def wC1 [GlobTab] (c:Ctx)(code:Code)(S:St):Bool:=match eval c code S with
 |some o=>o.comps.all fun x=>Nat.beq x.kind 0
 |none=>false
def wE0 [GlobTab] (P:Program)(c:Ctx)(code:Code)(ps os:List (Nat×Sh))(ok:zB2 ps→Prop)(o:zB2 ps→zX2 os):Prop:=
 ∀ x,ok x→∀ (rd:Option Nat) (χ0:Nat→Nat→Nat) (w0:World) (a:Act) (w:World) (G:Gh),Rel c.n χ0 w0 (zC1 ps x) a w G →
  code.wpIn (fz rd) 0 P (fun e a' w'=>e=.normal∧(∀ i∈c.keep,a'.tmps.getD i undef=a.tmps.getD i undef) ∧
   ∃ G' d,Rel c.n χ0 w0 (d++zC1 ps x) a' w' G'∧zT0 os (d++zC1 ps x)=some (o x)) a w
theorem wH3 (hc:CtxOk P c)(hm:P.follows .mixedOrders=true){code:Code}{bs:List Code}(hbs:zG6 code=bs)(hL:zN2 P c bs)(hw:zC9 c.keep code=true){ps os:List (Nat×Sh)}{ok:zB2 ps→Prop}{rs:Sh}{F:zB2 ps→rs.den}{o:zB2 ps→zX2 os}
  (hon:∀ x,wC1 c code (zC1 ps x)=true) (hsum:∀ x,xC0 c code [] ps rs os x=some (ok x,F x,o x)):wE0 P c code ps os ok o:=by
 intro x hx rd χ0 w0 a w G hR;have h:=hsum x;have hon:=hon x;unfold xC0 at h;unfold wC1 at hon;split at h
 ·cases h
 ·rename_i out ho;rw[ho] at hon;simp only at hon;split at h
  ·cases h
  ·rename_i d hd;split at h
   ·rename_i r z hr hz;split at h
    ·rename_i v hv;simp only[Option.some.injEq,Prod.mk.injEq] at h;obtain⟨e1,_,rfl⟩:=h;refine wpIn_mono (zU9 hc hm (yK0 hbs hL) hw ho (AllP_iff.1 (by rw[e1];exact hx)) rd χ0 w0 (fun i=>a.tmps.getD i undef) a w G hR (fun i _=>rfl)) ?_;rintro e a' w' ⟨hP,hk⟩;obtain⟨_,G',hR'⟩:=yQ5 hd hP;refine⟨?_,hk,G',d,hR',hz⟩;obtain⟨k,cp,G2,h1,h2,_⟩:=hP;have:=List.all_eq_true.1 hon cp (yW3 h2);rw[zO9 h2] at this;have:=Nat.eq_of_beq_eq_true this;subst this;cases e with
     |normal=>rfl
     |ret=>simp[zB3] at h1
     |exit id=>simp[zB3] at h1
     |_=>simp[zB3] at h1
    ·cases h
   ·cases h
end Go.Am
namespace Go.Am
open Go Go.RowKit
variable {gtab:GlobTab}{P:Program}{c:Ctx}
def xV4 {α β:Type}(ok:β→α→Prop)(next:β→α→β):List α→β→Prop
 |[],_=>True
 |x::r,l=>ok l x∧xV4 ok next r (next l x)
def xV5 {α β:Type}{ok:β→α→Prop}{next:β→α→β}(h:∀ l x,Decidable (ok l x)):(xs:List α)→(l:β)→Decidable (xV4 ok next xs l)
 |[],_=>isTrue trivial
 |x::r,l=>@instDecidableAnd _ _ (h l x) (xV5 h r (next l x))
theorem wH4 {α β:Type}{ok:β→α→Prop}{next:β→α→β}:∀ {pre:List α}{x:α}{rest:List α}{l:β},xV4 ok next (pre++x::rest) l→ok (pre.foldl next l) x:=by
 intro pre
 induction pre with
 |nil=>intro x rest l h;exact h.1
 |cons y pre ih=>intro x rest l h;exact ih h.2
theorem xV6:∀ (A:AVal) (s:Option Nat),¬ A.names (·=1) (fun _=>False) s:=by
 intro A
 induction A with
 |own t l T m=>intro s;simp only[AVal.names,zB];omega
 |ownh t l T i U m=>intro s;simp only[AVal.names,zB];omega
 |opt _ _ _ A ih=>intro s;simp only[AVal.names];exact ih none
 |box τ b ih =>
  intro s;cases s with
  |none=>simp only[AVal.names];exact ih none
  |some s=>simp only[AVal.names,not_or];exact⟨by simp only[zE];omega,ih none⟩
 |may m τ b ih =>
  intro s;cases s with
  |none=>simp only[AVal.names];exact ih none
  |some s=>simp only[AVal.names,not_or];exact⟨by simp only[zE];omega,ih none⟩
 |cons x y ihx ihy=>intro s;simp only[AVal.names,not_or];exact⟨ihx none,ihy none⟩
 |agg f b ih=>intro s;simp only[AVal.names];exact ih none
 |tup b ih=>intro s;simp only[AVal.names];exact ih none
 |fn f b ih=>intro s;simp only[AVal.names];exact ih none
 |raw =>
  intro s;cases s with
  |none=>simp[AVal.names]
  |some s=>simp only[AVal.names,zE];omega
 |_=>intro s;simp[AVal.names]
theorem xC6 {G:Gh}{W W':World}{b:Nat}(hχ:∀ o,G.χ b o=1)(h:∀ k,k≠b→W'.heap[k]?=W.heap[k]?)(hs:W.heap.size≤W'.heap.size):Ext (·=1) (fun _=>False) G W G W':=by
 refine⟨fun b' o _ h0=>⟨h0,?_⟩,fun b' _ hn=>⟨h b' ?_,fun _=>rfl⟩,hs,fun _ _=>rfl,fun _ _=>rfl,fun _ h=>h.elim⟩
 ·have hne:b'≠b:=by intro e;subst e;rw[hχ o] at h0;cases h0
  simp only[World.cell?,h b' hne]
 ·intro e;subst e;exact hn 0 (hχ 0)
theorem Frame0.trans {χ0 χ1 χ2:Nat→Nat→Nat}{w0 w1 w2:World}(h:Frame0 χ0 w0 χ1 w1)(k:Frame0 χ1 w1 χ2 w2):Frame0 χ0 w0 χ2 w2:=by
 refine⟨k.os.trans h.os,k.tape.trans h.tape,k.output.trans h.output,Nat.le_trans h.size k.size,fun b hb hc=>?_,fun b o hb hc=>?_⟩
 ·rw[k.block b (Nat.lt_of_lt_of_le hb h.size) (fun o=>by rw[(h.cell b o hb (hc o)).1];exact hc o)];exact h.block b hb hc
 ·have h1:=h.cell b o hb hc;have h2:=k.cell b o (Nat.lt_of_lt_of_le hb h.size) (by rw[h1.1];exact hc);exact⟨h2.1.trans h1.1,h2.2.trans h1.2⟩
theorem Frame0.beyond {χ0 χ:Nat→Nat→Nat}{w0 W W':World}{b:Nat}(h:Frame0 χ0 w0 χ W)(hb:w0.heap.size≤b)(hW:∀ k,k≠b→W'.heap[k]?=W.heap[k]?)(hs:W'.heap.size=W.heap.size)(hst:W'.os=W.os∧W'.tape=W.tape∧W'.output=W.output) :
  Frame0 χ0 w0 χ W':=by
 refine⟨hst.1.trans h.os,hst.2.1.trans h.tape,hst.2.2.trans h.output,by rw[hs];exact h.size,fun k hk hc=>?_,fun k o hk hc=>?_⟩
 ·rw[hW k (by omega)];exact h.block k hk hc
 ·have h1:=h.cell k o hk hc;refine⟨h1.1,?_⟩;rw[← h1.2];simp only[World.cell?,hW k (show k≠b by omega)]
structure JB [GlobTab] (χ0:Nat→Nat→Nat) (w0:World) (lo hi:Nat) (E:List (Nat×Nat×AVal)) (G:Gh) (W:World):Prop where
 frame:Frame0 χ0 w0 G.χ W
 glob:GlobOk G.χ W
 reps:∀ e∈E,zA G W #[] (some e.1) e.2.2 (.pointer (some ⟨e.2.1,0,none⟩))
 own:∀ b,lo≤b→b≤hi→∀ o,G.χ b o=1
 size:hi<W.heap.size
 low:w0.heap.size≤lo
theorem JB.foreign {χ0:Nat→Nat→Nat}{w0:World}{lo hi:Nat}{E:List (Nat×Nat×AVal)}{G:Gh}{W W':World}{b:Nat}(h:JB χ0 w0 lo hi E G W)(hl:lo≤b)(hh:b≤hi)(hW:∀ k,k≠b→W'.heap[k]?=W.heap[k]?)(hs:W'.heap.size=W.heap.size)
  (hst:W'.os=W.os∧W'.tape=W.tape∧W'.output=W.output):JB χ0 w0 lo hi E G W':=by
 have hx:=xC6 (h.own b hl hh) hW (Nat.le_of_eq hs.symm);have hlow:=h.low;refine⟨h.frame.beyond (Nat.le_trans hlow hl) hW hs hst,zH4 hx.prot h.glob,fun e he=>zT2 hx (by decide) _ (xV6 _ _) (h.reps e he),h.own,by rw[hs];exact h.size,hlow⟩
theorem JB.setCell {χ0:Nat→Nat→Nat}{w0:World}{lo hi:Nat}{E:List (Nat×Nat×AVal)}{G:Gh}{W:World}{b:Nat}(h:JB χ0 w0 lo hi E G W)(hl:lo≤b)(hh:b≤hi)(v:Value):JB χ0 w0 lo hi E G (W.setCell ⟨b,0,none⟩ v):=
 h.foreign hl hh (fun k hk=>Below.heap_setCell W ⟨b,0,none⟩ v k hk) (by simp[World.setCell]) ⟨rfl,rfl,rfl⟩
theorem JB.putObj {χ0:Nat→Nat→Nat}{w0:World}{lo hi:Nat}{E:List (Nat×Nat×AVal)}{G:Gh}{W:World}{b:Nat}(h:JB χ0 w0 lo hi E G W)(hl:lo≤b)(hh:b≤hi)(o:Obj):JB χ0 w0 lo hi E G (W.putObj b o):=
 h.foreign hl hh (fun k hk=>World.putObj_heap_other hk) (by simp[World.putObj]) ⟨rfl,rfl,rfl⟩
theorem JB.step {χ0:Nat→Nat→Nat}{w0:World}{lo hi:Nat}{E E':List (Nat×Nat×AVal)}{G G':Gh}{W W':World}(h:JB χ0 w0 lo hi E G W)(hf:Frame0 G.χ W G'.χ W')(hg:GlobOk G'.χ W')(hr:∀ e∈E',zA G' W' #[] (some e.1) e.2.2 (.pointer (some ⟨e.2.1,0,none⟩))) :
  JB χ0 w0 lo hi E' G' W'∧∀ b,lo≤b→b≤hi→W'.heap[b]?=W.heap[b]?:=by
 have hsz:=h.size;refine⟨⟨h.frame.trans hf,hg,hr,fun b hl hh o=>?_,Nat.lt_of_lt_of_le hsz hf.size,h.low⟩,fun b hl hh=>hf.block b (by omega) (fun o=>by rw[h.own b hl hh o];exact Nat.le_refl _)⟩;rw[(hf.cell b o (by omega) (by rw[h.own b hl hh o];exact Nat.le_refl _)).1];exact h.own b hl hh o
theorem wF0 {f:Nat}{τ σ υ ω:Ty}{rs:Sh}{ok:τ.den→σ.den→υ.den→ω.den→Prop}{F:τ.den→σ.den→υ.den→ω.den→rs.den}{o:zB2 [(0,Sh.val τ),(1,Sh.val σ),(2,Sh.val υ),(3,Sh.val ω)]→zX2 []}(hfn:∃ fn,P.funcs[f]?=some fn∧fn.body.isSome=true∧fn.name≠"runtime.NumGoroutine")
  (H:∀ x y z u,ok x y z u→∀ (G:Gh) (w:World) (v1 v2 v3 v4:Value),GlobOk G.χ w→zR2 G.χ w τ x v1→zR2 G.χ w σ y v2→zR2 G.χ w υ z v3→zR2 G.χ w ω u v4→Calls P f #[v1,v2,v3,v4] w fun e w'=>∃ r G',e=.returned r∧Frame0 G.χ w G'.χ w'∧zA G' w' #[] none (rs.mk (F x y z u)) r) :
  SpecOk P f (fnSpec [(0,.val τ),(1,.val σ),(2,.val υ),(3,.val ω)] rs [] (fun x=>ok x.1 x.2.1 x.2.2.1 x.2.2.2.1) (fun x=>F x.1 x.2.1 x.2.2.1 x.2.2.2.1) o):=by
 refine⟨hfn,fun args co hsp hok G w vals hlen hglob hreps=>?_⟩;unfold fnSpec at hsp;generalize hal:Nat.beq args.length _=b at hsp;cases b with
 |false=>cases hsp
 |true =>
  simp only[cond_true] at hsp;split at hsp
  ·rename_i x hx;injection hsp with hsp
   subst hsp;have hl:args.length=4:=Nat.eq_of_beq_eq_true hal;obtain⟨A,B,C,D,rfl⟩:∃ A B C D,args=[A,B,C,D]:=by
    match args,hl with
    |[A,B,C,D],_=>exact⟨A,B,C,D,rfl⟩
   obtain⟨v1,v2,v3,v4,rfl⟩:∃ v1 v2 v3 v4,vals=[v1,v2,v3,v4]:=by
    match vals,hlen with
    |[v1,v2,v3,v4],_=>exact⟨v1,v2,v3,v4,rfl⟩
   have hp:∀ (k:Nat) (i:Nat) (s:Sh),[(0,Sh.val τ),(1,Sh.val σ),(2,Sh.val υ),(3,Sh.val ω)][k]?=some (i,s)→∃ y,s.parse (St.get (zV3 0 [A,B,C,D]) i)=some y:=fun k i s h=>yN0 hx h;obtain⟨x1,x2,x3,x4,_⟩:=x;simp only[zC8] at hx;have hg:∀ i,St.get (zV3 0 [A,B,C,D]) i=[A,B,C,D].getD i .junk:=by
    intro i;simp only[zV3,St.get]
    match i with
    |0=>simp
    |1=>simp[zA6,Nat.beq]
    |2=>simp[zA6,Nat.beq]
    |3=>simp[zA6,Nat.beq]
    |k+4=>simp[zA6,Nat.beq]
   simp only[hg,List.getD_cons_zero,List.getD_cons_succ] at hx;generalize h1:(Sh.val τ).parse A=o1 at hx;generalize h2:(Sh.val σ).parse B=o2 at hx;generalize h3:(Sh.val υ).parse C=o3 at hx;generalize h4:(Sh.val ω).parse D=o4 at hx;cases o1<;>cases o2<;>cases o3<;>cases o4<;>simp at hx;obtain⟨rfl,rfl,rfl,rfl⟩:=hx;have hA:=zE2 h1 (hreps 0 A v1 rfl rfl);have hB:=zE2 h2 (hreps 1 B v2 rfl rfl);have hC:=zE2 h3 (hreps 2 C v3 rfl rfl);have hD:=zE2 h4 (hreps 3 D v4 rfl rfl);simp only[Sh.mk,zA] at hA hB hC hD;refine (H _ _ _ _ (hok _ (List.mem_singleton.2 rfl)) G w v1 v2 v3 v4 hglob hA hB hC hD).mono ?_;rintro e w' ⟨r,G',rfl,q1,q2⟩;exact⟨r,G',rfl,q1,q2,(fun i k A' u h=>by cases h),fun k B h=>by cases h⟩
  ·cases hsp
end Go.Am
namespace Go.Am
open Go Go.RowKit
variable {gtab:GlobTab}{P:Program}
end Go.Am
