/- The abstract machine, part 4: a typed interpreter for the program's code, and that it is sound. No condition. -/
import Derived.Test.YtpanghcojpnkaaaGreatDoorMach3
import Derived.Lib.Bytealg
import Derived.ProofKit
import Derived.Carry
import Derived.ChangeSame
namespace Go.Am
open Go Go.RowKit
variable {gtab:GlobTab}{P:Program}{c:Ctx}{G:Gh}{w:World}{tm:Array Value}{n:Nat}{χ0:Nat→Nat→Nat}{w0:World}{S:St}{a:Act}
theorem AllP_iff:∀ {l:List Prop},xE4 l↔∀ q∈l,q:=by
 intro l
 induction l with
 |nil=>exact⟨fun _ q hq=>(by cases hq),fun _=>trivial⟩
 |cons p r ih =>
  cases r with
  |nil =>
   refine⟨fun h q hq=>?_,fun h=>h p (jQ ..)⟩
   rcases List.mem_cons.1 hq with rfl|hq
   ·exact h
   ·cases hq
  |cons q r =>
   constructor
   ·intro h q' hq
    rcases List.mem_cons.1 hq with rfl|hq
    ·exact h.1
    ·exact ih.1 h.2 q' hq
   ·intro h
    exact⟨h p (jQ ..),ih.2 fun q' hq=>h q' (jP _ hq)⟩
theorem yU1 {b:Prop}{l:List Prop}(h:∀ q∈xU5 b l,q)(hb:b):∀ q∈l,q:=by
 cases l with
 |nil=>intro q hq;cases hq
 |cons p r =>
  have:=h (b→xE4 (p::r)) (by simp[xU5])
  exact AllP_iff.1 (this hb)
def zB9:Exit→Option Nat
 |.normal=>some 0
 |.ret=>some 1
 |.exit id=>some (id+2)
 |_=>none
def tk (g:Option Bool):Bool:=g.getD true
def yL4 [GlobTab] (n:Nat)(χ0:Nat→Nat→Nat)(w0:World)(S:St)(l:List Comp)(e:Exit)(a:Act)(w:World):Prop:=
 ∃ k cp G,zB9 e=some k∧zA3 k l=some cp∧tk cp.g=true∧(∀ k' c',zA3 k' l=some c'→tk c'.g=true→k'=k)∧Rel n χ0 w0 (cp.d++S) a w G
theorem zY8 {k:Nat}:∀ {l l':List Comp},zA3 k (l++l')=match zA3 k l with|some x=>some x|none=>zA3 k l':=by
 intro l
 induction l with
 |nil=>intro l';rfl
 |cons x r ih =>
  intro l'
  simp only[List.cons_append,zA3]
  cases Nat.beq x.kind k with
  |true=>rfl
  |false=>exact ih
theorem zM6 {k:Nat}{x:Comp}:∀ {l:List Comp},zA3 k l=some x→x.kind=k:=by
 intro l
 induction l with
 |nil=>intro h;cases h
 |cons y r ih =>
  intro h
  simp only[zA3] at h
  cases hb:Nat.beq y.kind k with
  |true=>simp only[hb,jE,jA] at h;subst h;exact jC hb
  |false=>simp only[hb,jD] at h;exact ih h
theorem zQ8 {k:Nat}{q:Nat→Bool}:∀ {l:List Comp},zA3 k (l.filter fun x=>q x.kind)=bif q k then zA3 k l else none:=by
 intro l
 induction l with
 |nil=>cases q k<;>rfl
 |cons x r ih =>
  simp only[List.filter_cons]
  cases hx:q x.kind with
  |true =>
   simp only[if_true,zA3,ih]
   cases hb:Nat.beq x.kind k with
   |true=>have:=jC hb;subst this;simp[hx]
   |false=>simp only[jD]
  |false =>
   simp only[Bool.false_eq_true,if_false,ih,zA3]
   cases hb:Nat.beq x.kind k with
   |true=>have:=jC hb;subst this;simp[hx]
   |false=>simp only[jD]
theorem zI0 {k k0:Nat}{l:List Comp}:zA3 k (zH6 k0 l)=bif Nat.beq k k0 then none else zA3 k l:=by
 unfold zH6
 rw[zQ8 (q:=fun x=>!(Nat.beq x k0))]
 cases Nat.beq k k0<;>rfl
theorem zV4 {k:Nat}{f:Comp→Comp}(hf:∀ x,(f x).kind=x.kind):∀ {l:List Comp},zA3 k (l.map f)=(zA3 k l).map f:=by
 intro l
 induction l with
 |nil=>rfl
 |cons x r ih =>
  simp only[List.map_cons,zA3,hf]
  cases Nat.beq x.kind k with
  |true=>rfl
  |false=>exact ih
def xO9 (t:Bool)(S:St):Option Comp→Option Comp→St
 |some a,some b=>zL0 t a.d b.d S
 |some a,none=>a.d
 |none,some b=>b.d
 |none,none=>[]
def xJ0 (t:Bool)(S:St)(la lb:List Comp)(x:Comp):Comp:=⟨x.kind,zT t (zA3 x.kind la) (zA3 x.kind lb),xO9 t S (zA3 x.kind la) (zA3 x.kind lb)⟩
theorem xJ1 {t:Bool}{la lb:List Comp}:∀ {l:List Comp},xE3 t S la lb l=l.map (xJ0 t S la lb):=by
 intro l
 induction l with
 |nil=>rfl
 |cons x r ih =>
  simp only[xE3,List.map_cons,ih,xJ0]
  cases zA3 x.kind la<;>cases zA3 x.kind lb<;>rfl
theorem zV5 {t:Bool}{la lb:List Comp}{k:Nat} :
  zA3 k (xE3 t S la lb (la++lb.filter fun x=>(zA3 x.kind la).isNone))=match zA3 k la,zA3 k lb with
   |none,none=>none
   |xa,xb=>some ⟨k,zT t xa xb,xO9 t S xa xb⟩:=by
 rw[xJ1,zV4 (f:=xJ0 t S la lb) (fun _=>rfl),zY8,zQ8 (q:=fun x=>(zA3 x la).isNone)]
 cases ha:zA3 k la with
 |some x=>simp only[Option.map_some,xJ0,zM6 ha,ha]
 |none =>
  simp only[Option.isNone_none,jE]
  cases hb:zA3 k lb with
  |some y=>simp only[Option.map_some,xJ0,zM6 hb,ha,hb]
  |none=>rfl
theorem zL6 {x y:Option Bool}:tk (yI6 x y)=(tk x&&tk y):=by cases x<;>cases y<;>simp[yI6,tk]
theorem zY9 {x y:Option Bool}:tk (gor x y)=(tk x||tk y):=by cases x<;>cases y<;>simp[gor,tk]
theorem yX {g:Option Bool}(h:tk g=false):g=some false:=by
 cases g with
 |none=>cases h
 |some b=>cases b<;>simp_all [tk]
theorem xB8 {e:Exit}{oa ob:Out}(h:yL4 n χ0 w0 S oa.comps e a w):yL4 n χ0 w0 S (zW0 true S oa ob).comps e a w:=by
 obtain⟨k,cp,G,h1,h2,h3,h4,h5⟩:=h
 simp only[zW0]
 refine⟨k,⟨k,zT true (some cp) (zA3 k ob.comps),xO9 true S (some cp) (zA3 k ob.comps)⟩,G,h1,?_,?_,?_,?_⟩
 ·rw[zV5,h2]
 ·cases hb:zA3 k ob.comps with
  |none=>cases hg:cp.g<;>simp_all [zT,yI6,tk]
  |some b=>cases hg:cp.g<;>cases hg':b.g<;>simp_all [zT,tk]
 ·intro k' c' hf ht
  rw[zV5] at hf
  cases ha:zA3 k' oa.comps with
  |none =>
   cases hb:zA3 k' ob.comps with
   |none=>simp[ha,hb] at hf
   |some b =>
    simp only[ha,hb,jA] at hf
    subst hf
    cases hg:b.g<;>simp[zT,yI6,tk,hg] at ht
  |some x =>
   refine h4 k' x ha ?_
   cases hb:zA3 k' ob.comps with
   |none =>
    simp only[ha,hb,jA] at hf
    subst hf
    cases hg:x.g<;>simp_all [zT,yI6,tk]
   |some b =>
    simp only[ha,hb,jA] at hf
    subst hf
    cases hg:x.g<;>cases hg':b.g<;>simp_all [zT,tk]
 ·cases zA3 k ob.comps with
  |none=>exact h5
  |some b=>exact zO5 h5
theorem xB9 {e:Exit}{oa ob:Out}(h:yL4 n χ0 w0 S ob.comps e a w):yL4 n χ0 w0 S (zW0 false S oa ob).comps e a w:=by
 obtain⟨k,cp,G,h1,h2,h3,h4,h5⟩:=h
 simp only[zW0]
 refine⟨k,⟨k,zT false (zA3 k oa.comps) (some cp),xO9 false S (zA3 k oa.comps) (some cp)⟩,G,h1,?_,?_,?_,?_⟩
 ·rw[zV5,h2];cases zA3 k oa.comps<;>rfl
 ·cases hb:zA3 k oa.comps with
  |none=>cases hg:cp.g<;>simp_all [zT,yI6,tk]
  |some b=>cases hg:cp.g<;>cases hg':b.g<;>simp_all [zT,tk]
 ·intro k' c' hf ht
  rw[zV5] at hf
  cases hb:zA3 k' ob.comps with
  |none =>
   cases ha:zA3 k' oa.comps with
   |none=>simp[ha,hb] at hf
   |some b =>
    simp only[ha,hb,jA] at hf
    subst hf
    cases hg:b.g<;>simp[zT,yI6,tk,hg] at ht
  |some x =>
   refine h4 k' x hb ?_
   cases ha:zA3 k' oa.comps with
   |none =>
    simp only[ha,hb,jA] at hf
    subst hf
    cases hg:x.g<;>simp_all [zT,yI6,tk]
   |some b =>
    simp only[ha,hb,jA] at hf
    subst hf
    cases hg:x.g<;>cases hg':b.g<;>simp_all [zT,tk]
 ·cases zA3 k oa.comps with
  |none=>exact h5
  |some b=>exact zO6 h5
def xW0 (m:Comp)(S:St)(la:List Comp)(x:Comp):Comp:=
 ⟨x.kind,(match zA3 x.kind la with|some a=>gor a.g (yI6 m.g x.g)|none=>yI6 m.g x.g),(match zA3 x.kind la with|some a=>zL0 (tk a.g) a.d (x.d++m.d) S | none=>x.d++m.d)⟩
theorem xP {m:Comp}{la:List Comp}:∀ {l:List Comp},xT1 m S la l=l.map (xW0 m S la):=by
 intro l
 induction l with
 |nil=>rfl
 |cons x r ih =>
  simp only[xT1,List.map_cons,ih,xW0]
  congr 1
  cases zA3 x.kind la<;>rfl
theorem zO7 {m:Comp}{la lb:List Comp}{k:Nat} :
  zA3 k (xT1 m S la lb++la.filter fun x=>(zA3 x.kind lb).isNone)=match zA3 k la,zA3 k lb with
   |none,none=>none
   |some a,none=>some a
   |none,some x=>some ⟨k,yI6 m.g x.g,x.d++m.d⟩
   |some a,some x=>some ⟨k,gor a.g (yI6 m.g x.g),zL0 (tk a.g) a.d (x.d++m.d) S⟩:=by
 rw[zY8,xP,zV4 (f:=xW0 m S la) (fun _=>rfl),zQ8 (q:=fun x=>(zA3 x lb).isNone)]
 cases hb:zA3 k lb with
 |some x =>
  simp only[Option.map_some,xW0,zM6 hb]
  cases ha:zA3 k la<;>rfl
 |none =>
  simp only[Option.map_none,Option.isNone_none,jE]
  cases zA3 k la<;>rfl
theorem xJ2 {e:Exit}{m:Comp}{oa ob:Out}(hm:zA3 0 oa.comps=some m)(h:yL4 n χ0 w0 S oa.comps e a w)(he:zB9 e≠some 0):yL4 n χ0 w0 S (yG9 m S oa ob).comps e a w:=by
 obtain⟨k,cp,G,h1,h2,h3,h4,h5⟩:=h
 have hk:k≠0:=fun e0=>he (by rw[h1,e0])
 have hk0:Nat.beq k 0=false:=by cases k with|zero=>exact absurd rfl hk|succ k=>rfl
 have hmf:tk m.g=false:=by
  cases hx:tk m.g with
  |false=>rfl
  |true=>exact absurd (h4 0 m hm hx) (Ne.symm hk)
 have hmg:=yX hmf
 have h2':zA3 k (zH6 0 oa.comps)=some cp:=by rw[zI0,hk0];exact h2
 simp only[yG9]
 cases hb:zA3 k ob.comps with
 |none =>
  refine⟨k,cp,G,h1,by rw[zO7,h2',hb],h3,?_,h5⟩
  intro k' c' hf ht
  rw[zO7,zI0] at hf
  cases hk':Nat.beq k' 0 with
  |true =>
   simp only[hk',jE] at hf
   cases hb':zA3 k' ob.comps with
   |none=>simp[hb'] at hf
   |some x=>simp only[hb',jA] at hf;subst hf;simp[zL6,hmf] at ht
  |false =>
   simp only[hk',jD] at hf
   cases ha:zA3 k' oa.comps with
   |none =>
    cases hb':zA3 k' ob.comps with
    |none=>simp[ha,hb'] at hf
    |some x=>simp only[ha,hb',jA] at hf;subst hf;simp[zL6,hmf] at ht
   |some y =>
    refine h4 k' y ha ?_
    cases hb':zA3 k' ob.comps with
    |none=>simp only[ha,hb',jA] at hf;subst hf;exact ht
    |some x=>simp only[ha,hb',jA] at hf;subst hf;simpa[zL6,zY9,hmf] using ht
 |some x0 =>
  refine⟨k,{ kind:=k,g:=gor cp.g (yI6 m.g x0.g),d:=zL0 (tk cp.g) cp.d (x0.d++m.d) S },G,h1,by rw[zO7,h2',hb],?_,?_,?_⟩
  ·simp[zY9,h3]
  ·intro k' c' hf ht
   rw[zO7,zI0] at hf
   cases hk':Nat.beq k' 0 with
   |true =>
    simp only[hk',jE] at hf
    cases hb':zA3 k' ob.comps with
    |none=>simp[hb'] at hf
    |some x=>simp only[hb',jA] at hf;subst hf;simp[zL6,hmf] at ht
   |false =>
    simp only[hk',jD] at hf
    cases ha:zA3 k' oa.comps with
    |none =>
     cases hb':zA3 k' ob.comps with
     |none=>simp[ha,hb'] at hf
     |some x=>simp only[ha,hb',jA] at hf;subst hf;simp[zL6,hmf] at ht
    |some y =>
     refine h4 k' y ha ?_
     cases hb':zA3 k' ob.comps with
     |none=>simp only[ha,hb',jA] at hf;subst hf;exact ht
     |some x=>simp only[ha,hb',jA] at hf;subst hf;simpa[zL6,zY9,hmf] using ht
  ·simp only[h3];exact zO5 h5
theorem xJ3 {e:Exit}{m:Comp}{oa ob:Out}(hmt:tk m.g=true)(hu:∀ k' c',zA3 k' oa.comps=some c'→tk c'.g=true→k'=0)
  (h:yL4 n χ0 w0 (m.d++S) ob.comps e a w):yL4 n χ0 w0 S (yG9 m S oa ob).comps e a w:=by
 obtain⟨k,cp,G,h1,h2,h3,h4,h5⟩:=h
 rw[← List.append_assoc] at h5
 have hoth:∀ k' y,zA3 k' (zH6 0 oa.comps)=some y→y.g=some false:=by
  intro k' y hy
  rw[zI0] at hy
  cases hk':Nat.beq k' 0 with
  |true=>simp[hk'] at hy
  |false =>
   simp only[hk',jD] at hy
   refine yX ?_
   cases hx:tk y.g with
   |false=>rfl
   |true=>have:=hu k' y hy hx;subst this;simp at hk'
 have huni:∀ k' c',zA3 k' (xT1 m S (zH6 0 oa.comps) ob.comps++(zH6 0 oa.comps).filter fun x=>(zA3 x.kind ob.comps).isNone)=some c'→tk c'.g=true→k'=k:=by
  intro k' c' hf ht
  rw[zO7] at hf
  cases ha:zA3 k' (zH6 0 oa.comps) with
  |none =>
   cases hb':zA3 k' ob.comps with
   |none=>simp[ha,hb'] at hf
   |some x =>
    simp only[ha,hb',jA] at hf
    subst hf
    refine h4 k' x hb' ?_
    simp only[zL6,jB] at ht;exact ht.2
  |some y =>
   have hyg:=hoth k' y ha
   have hyf:tk y.g=false:=by rw[hyg];rfl
   cases hb':zA3 k' ob.comps with
   |none=>simp only[ha,hb',jA] at hf;subst hf;simp[tk,hyg] at ht
   |some x =>
    simp only[ha,hb',jA] at hf
    subst hf
    refine h4 k' x hb' ?_
    simp only[zY9,zL6,hyf,Bool.false_or,jB] at ht;exact ht.2
 simp only[yG9]
 cases ha:zA3 k (zH6 0 oa.comps) with
 |none =>
  refine⟨k,{ kind:=k,g:=yI6 m.g cp.g,d:=cp.d++m.d },G,h1,by rw[zO7,ha,h2],?_,huni,h5⟩
  simp[zL6,hmt,h3]
 |some y =>
  have hyg:=hoth k y ha
  refine⟨k,{ kind:=k,g:=gor y.g (yI6 m.g cp.g),d:=zL0 (tk y.g) y.d (cp.d++m.d) S },G,h1,by rw[zO7,ha,h2],?_,huni,?_⟩
  ·simp[zY9,zL6,hmt,h3]
  ·simp only[hyg,tk,Option.getD_some];exact zO6 h5
theorem xC {e:Exit}{id:Nat}{oa:Out}(h:yL4 n χ0 w0 S oa.comps e a w):Exit.inBlock id (yL4 n χ0 w0 S (yA2 id S oa).comps) e a w:=by
 obtain⟨k,cp,G,h1,h2,h3,h4,h5⟩:=h
 unfold yA2
 cases hE:zA3 (id+2) oa.comps with
 |none =>
  have hP:yL4 n χ0 w0 S oa.comps e a w:=⟨k,cp,G,h1,h2,h3,h4,h5⟩
  have hne:e≠.exit id:=by
   rintro rfl
   simp only[zB9,jA] at h1
   rw[← h1,hE] at h2
   cases h2
  cases e with
  |exit id'=>simp only[Exit.inBlock];rw[if_neg (fun e=>hne (by rw[e]))];exact hP
  |_=>exact hP
 |some ex =>
  have b20:Nat.beq (id+2) 0=false:=rfl
  cases h0:zA3 0 oa.comps with
  |none =>
   simp only
   have hfind:∀ k',zA3 k' ({ ex with kind:=0 }::zH6 (id+2) oa.comps)=bif Nat.beq 0 k' then some { ex with kind:=0 } else bif Nat.beq k' (id+2) then none else zA3 k' oa.comps:=by
    intro k';simp only[zA3,zI0]
   by_cases hk:k=id+2
   ·subst hk
    rw[hE] at h2
    injection h2 with h2
    subst h2
    have hP:yL4 n χ0 w0 S ({ ex with kind:=0 }::zH6 (id+2) oa.comps) .normal a w:=by
     refine⟨0,{ ex with kind:=0 },G,rfl,by simp[hfind],h3,fun k' c' hf ht=>?_,h5⟩
     rw[hfind] at hf
     cases hb:Nat.beq 0 k' with
     |true=>exact (jC hb).symm
     |false =>
      simp only[hb,jD] at hf
      cases hb2:Nat.beq k' (id+2) with
      |true=>simp[hb2] at hf
      |false =>
       simp only[hb2,jD] at hf
       have:=h4 k' c' hf ht
       subst this
       simp at hb2
    cases e with
    |exit id' =>
     simp only[zB9,jA] at h1
     simp only[Exit.inBlock]
     rw[if_pos (by omega)]
     exact hP
    |normal=>simp[zB9] at h1
    |ret=>simp only[zB9,jA] at h1;omega
    |_=>simp[zB9] at h1
   ·have hk0:k≠0:=by intro e0;subst e0;rw[h0] at h2;cases h2
    have hxf:tk ex.g=false:=by
     cases hx:tk ex.g with
     |false=>rfl
     |true=>exact absurd (h4 _ _ hE hx).symm hk
    have hP:yL4 n χ0 w0 S ({ ex with kind:=0 }::zH6 (id+2) oa.comps) e a w:=by
     refine⟨k,cp,G,h1,?_,h3,fun k' c' hf ht=>?_,h5⟩
     ·rw[hfind]
      have b1:Nat.beq 0 k=false:=by cases hb:Nat.beq 0 k with|false=>rfl|true=>exact absurd (jC hb).symm hk0
      have b2:Nat.beq k (id+2)=false:=by cases hb:Nat.beq k (id+2) with|false=>rfl|true=>exact absurd (jC hb) hk
      rw[b1,b2];exact h2
     ·rw[hfind] at hf
      cases hb:Nat.beq 0 k' with
      |true=>simp only[hb,jE,jA] at hf;subst hf;simp only at ht;rw[hxf] at ht;cases ht
      |false =>
       simp only[hb,jD] at hf
       cases hb2:Nat.beq k' (id+2) with
       |true=>simp[hb2] at hf
       |false=>simp only[hb2,jD] at hf;exact h4 k' c' hf ht
    cases e with
    |exit id'=>simp only[zB9,jA] at h1;simp only[Exit.inBlock];rw[if_neg (by omega)];exact hP
    |_=>exact hP
  |some m =>
   simp only
   generalize hN:({ kind:=0,g:=gor ex.g m.g,d:=zL0 (ex.g.getD true) ex.d m.d S }:Comp)=N
   have hfind:∀ k',zA3 k' (N::zH6 0 (zH6 (id+2) oa.comps))=bif Nat.beq 0 k' then some N else bif Nat.beq k' 0 then none else bif Nat.beq k' (id+2) then none else zA3 k' oa.comps:=by
    intro k';simp only[zA3,zI0,← hN]
   by_cases hk:k=id+2∨k=0
   ·have hP:yL4 n χ0 w0 S (N::zH6 0 (zH6 (id+2) oa.comps)) .normal a w:=by
     have huni:∀ k' c',zA3 k' (N::zH6 0 (zH6 (id+2) oa.comps))=some c'→tk c'.g=true→k'=0:=by
      intro k' c' hf ht
      rw[hfind] at hf
      cases hb:Nat.beq 0 k' with
      |true=>exact (jC hb).symm
      |false =>
       simp only[hb,jD] at hf
       cases hb1:Nat.beq k' 0 with
       |true=>simp[hb1] at hf
       |false =>
        cases hb2:Nat.beq k' (id+2) with
        |true=>simp[hb1,hb2] at hf
        |false =>
         simp only[hb1,hb2,jD] at hf
         have:=h4 k' c' hf ht
         rcases hk with hk|hk
         ·rw[hk] at this;subst this;simp at hb2
         ·rw[hk] at this;exact this
     rcases hk with hk|hk
     ·subst hk
      rw[hE] at h2
      injection h2 with h2
      subst h2
      refine⟨0,N,G,rfl,by simp[hfind],?_,huni,?_⟩
      ·rw[← hN];simp only[zY9,h3,Bool.true_or]
      ·rw[← hN]
       have:ex.g.getD true=true:=h3
       simp only[this];exact zO5 h5
     ·subst hk
      rw[h0] at h2
      injection h2 with h2
      subst h2
      have hxf:tk ex.g=false:=by
       cases hx:tk ex.g with
       |false=>rfl
       |true=>have:=h4 _ _ hE hx;omega
      refine⟨0,N,G,rfl,by simp[hfind],?_,huni,?_⟩
      ·rw[← hN];simp only[zY9,h3,Bool.or_true]
      ·rw[← hN]
       have:ex.g.getD true=false:=hxf
       simp only[this];exact zO6 h5
    cases e with
    |exit id' =>
     simp only[zB9,jA] at h1
     simp only[Exit.inBlock]
     rw[if_pos (by omega)]
     exact hP
    |normal=>exact hP
    |ret=>simp only[zB9,jA] at h1;omega
    |_=>simp[zB9] at h1
   ·have hk2:k≠id+2:=fun e=>hk (.inl e)
    have hk0:k≠0:=fun e=>hk (.inr e)
    have hxf:tk ex.g=false:=by
     cases hx:tk ex.g with
     |false=>rfl
     |true=>exact absurd (h4 _ _ hE hx).symm hk2
    have hmf:tk m.g=false:=by
     cases hx:tk m.g with
     |false=>rfl
     |true=>exact absurd (h4 _ _ h0 hx).symm hk0
    have hP:yL4 n χ0 w0 S (N::zH6 0 (zH6 (id+2) oa.comps)) e a w:=by
     refine⟨k,cp,G,h1,?_,h3,fun k' c' hf ht=>?_,h5⟩
     ·rw[hfind]
      have b1:Nat.beq 0 k=false:=by cases hb:Nat.beq 0 k with|false=>rfl|true=>exact absurd (jC hb).symm hk0
      have b3:Nat.beq k 0=false:=by cases hb:Nat.beq k 0 with|false=>rfl|true=>exact absurd (jC hb) hk0
      have b2:Nat.beq k (id+2)=false:=by cases hb:Nat.beq k (id+2) with|false=>rfl|true=>exact absurd (jC hb) hk2
      rw[b1,b2,b3];exact h2
     ·rw[hfind] at hf
      cases hb:Nat.beq 0 k' with
      |true =>
       simp only[hb,jE,jA] at hf;subst hf
       rw[← hN] at ht
       simp[zY9,hxf,hmf] at ht
      |false =>
       simp only[hb,jD] at hf
       cases hb1:Nat.beq k' 0 with
       |true=>simp[hb1] at hf
       |false =>
        cases hb2:Nat.beq k' (id+2) with
        |true=>simp[hb1,hb2] at hf
        |false=>simp only[hb1,hb2,jD] at hf;exact h4 k' c' hf ht
    cases e with
    |exit id'=>simp only[zB9,jA] at h1;simp only[Exit.inBlock];rw[if_neg (by omega)];exact hP
    |_=>exact hP
end Go.Am
namespace Go.Am
open Go Go.RowKit
inductive Sh where
 |val (τ:Ty)|own (t:Ty) (T:Nat) (m:Bool)|nl|cons (a b:Sh)|agg (f:Ty) (s:Sh)|box (τ:Ty) (s:Sh)|ref (s:Nat) (τ:Ty)|tup (s:Sh)|fn (f:Nat) (s:Sh)|any|nil|nn (b:Bool)|fptr (f:Nat) (caps:List (Option (Nat×Ty)))|ownh (t:Ty) (T U:Nat) (m:Bool)
@[reducible] def Sh.den:Sh→Type
 |.val τ=>τ.den|.own t _ _=>List t.den|.nl=>Unit|.cons a b=>a.den×b.den|.agg _ s=>s.den|.box _ s=>s.den|.ref _ _=>Unit|.tup s=>s.den|.fn _ s=>s.den|.any=>Unit|.nil=>Unit|.nn _=>Unit|.fptr _ _=>Unit|.ownh t _ _ _=>List (List t.den)×Nat
def Sh.mk:(s:Sh)→s.den→AVal
 |.val τ,x=>.val τ x
 |.own t T m,l=>.own t l T m
 |.nl,_=>.nl
 |.cons a b,x=>.cons (a.mk x.1) (b.mk x.2)
 |.agg f s,x=>.agg f (s.mk x)
 |.box τ s,x=>.box τ (s.mk x)
 |.ref s τ,_=>.ref s τ []
 |.tup s,x=>.tup (s.mk x)
 |.fn f s,x=>.fn f (s.mk x)
 |.any,_=>.junk
 |.nil,_=>.nil
 |.nn b,_=>.nn b
 |.fptr f caps,_=>.fptr f caps
 |.ownh t T U m,x=>.ownh t x.1 T x.2 U m
def yU2 (t:Ty)(T:Nat)(m:Bool):AVal→Option (List t.den)
 |.nil=>bif t.plain&&!t.isL then some [] else none
 |.own t' l T' m'=>bif Nat.beq T T'&&(m==m') then Ty.cast (a:=.sl t') (.sl t) l else none
 |_=>none
def yX0 (t:Ty)(T U:Nat)(m:Bool):AVal→Option (List (List t.den)×Nat)
 |.ownh t' l T' i U' m'=>bif Nat.beq T T'&&Nat.beq U U'&&(m==m') then (match Ty.cast (a:=.sl (.sl t')) (.sl (.sl t)) l with|some l2=>some (l2,i)|none=>none) else none
 |_=>none
def yX1:AVal→Bool
 |.nil=>true|_=>false
def xP0 (b:Bool):AVal→Bool
 |.nn b'=>b==b' | _=>false
def zZ9:List (Option (Nat×Ty))→List (Option (Nat×Ty))→Bool
 |[],[]=>true
 |none::r,none::r'=>zZ9 r r'
 |some (k,τ)::r,some (k',τ')::r'=>Nat.beq k k'&&Ty.beq τ τ'&&zZ9 r r'
 |_,_=>false
def yX2 (f:Nat)(caps:List (Option (Nat×Ty))):AVal→Bool
 |.fptr f' caps'=>Nat.beq f f'&&zZ9 caps caps'
 |_=>false
def xP1:AVal→Bool
 |.nl=>true|_=>false
def yI0 (s:Nat)(τ:Ty):AVal→Bool
 |.ref s' τ' []=>Nat.beq s s'&&Ty.beq τ τ'
 |_=>false
def xW1 (f:Nat):AVal→Option AVal
 |.fn f' c=>bif Nat.beq f f' then some c else none
 |_=>none
def xC0 (f:Ty):AVal→Option AVal
 |.agg f' c=>bif Ty.beq f f' then some c else none
 |_=>none
def xJ4 (τ:Ty):AVal→Option AVal
 |.box τ' c=>bif Ty.beq τ τ' then some c else none
 |_=>none
def xP2:AVal→Option AVal
 |.tup c=>some c
 |_=>none
def yI1:AVal→Option (AVal×AVal)
 |.cons a b=>some (a,b)
 |_=>none
def Sh.parse:(s:Sh)→AVal→Option s.den
 |.val τ,A=>bif τ.isL then none else AVal.as τ A
 |.own t T m,A=>yU2 t T m A
 |.nl,A=>bif xP1 A then some () else none
 |.cons a b,A=>match yI1 A with
  |some (x,y)=>(match a.parse x,b.parse y with|some p,some q=>some (p,q)|_,_=>none)
  |none=>none
 |.agg f s,A=>match xC0 f A with
  |some c=>(match s.parse c with|some x=>bif (s.mk x).fitsT f then some x else none|none=>none)
  |none=>none
 |.box τ s,A=>match xJ4 τ A with
  |some c=>(match s.parse c with|some x=>bif (s.mk x).fitsT τ then some x else none|none=>none)
  |none=>none
 |.ref s τ,A=>bif yI0 s τ A then some () else none
 |.tup s,A=>match xP2 A with
  |some c=>s.parse c
  |none=>none
 |.fn f s,A=>match xW1 f A with
  |some c=>s.parse c
  |none=>none
 |.any,_=>some ()
 |.nil,A=>bif yX1 A then some () else none
 |.nn b,A=>bif xP0 b A then some () else none
 |.fptr f caps,A=>bif yX2 f caps A then some () else none
 |.ownh t T U m,A=>yX0 t T U m A
variable {gtab:GlobTab}{P:Program}{c:Ctx}{G:Gh}{w:World}{tm:Array Value}{n:Nat}{χ0:Nat→Nat→Nat}{w0:World}{S:St}{a:Act}
theorem xP3:∀ {l l':List (Option (Nat×Ty))},zZ9 l l'=true→l=l':=by
 intro l
 induction l with
 |nil=>intro l' h;cases l' with
  |nil=>rfl
  |cons _ _=>simp[zZ9] at h
 |cons q r ih =>
  intro l' h
  cases q with
  |none=>cases l' with
   |nil=>simp[zZ9] at h
   |cons q' r'=>cases q' with
    |none=>simp only[zZ9] at h;rw[ih h]
    |some _=>simp[zZ9] at h
  |some q=>cases l' with
   |nil=>simp[zZ9] at h
   |cons q' r'=>cases q' with
    |none=>simp[zZ9] at h
    |some q' =>
     obtain⟨k,τ⟩:=q;obtain⟨k',τ'⟩:=q'
     simp only[zZ9,jB] at h
     rw[jC h.1.1,Ty.eq_of_beq h.1.2,ih h.2]
theorem yF4 {t:Ty}{T:Nat}{m:Bool}{A:AVal}{l:List t.den}{v:Value}{os:Option Nat}(h:yU2 t T m A=some l)(hA:zA G w tm os A v):zF4 G w t l T m v:=by
 cases A with
 |nil =>
  simp only[yU2] at h
  generalize hp:(t.plain&&!t.isL)=b at h
  cases b with
  |false=>cases h
  |true=>simp only[jE,jA] at h;subst h;simp only[zA] at hA;subst hA;exact zV3 hp
 |own t' l' T' m' =>
  simp only[yU2] at h
  generalize hb:(Nat.beq T T'&&(m==m'))=b at h
  cases b with
  |false=>cases h
  |true =>
   simp only[jE] at h
   simp only[jB,beq_iff_eq] at hb
   have e:=jC hb.1
   obtain⟨_,hb⟩:=hb
   subst e;subst hb
   obtain⟨e,hz⟩:=yL3 h
   subst e
   have:=eq_of_heq hz
   subst this
   simpa only[zA] using hA
 |_=>simp[yU2] at h
theorem yI2:∀ {s:Sh}{A:AVal}{x:s.den}{τ:Ty}{vs:List Value},s.parse A=some x→(s.mk x).fitsT τ=true→zA2 G w τ A vs→zA2 G w τ (s.mk x) vs:=by
 intro s
 induction s with
 |val τ' =>
  intro A x τ vs h hf hA
  simp only[Sh.parse] at h
  cases hl:τ'.isL with
  |true=>simp[hl] at h
  |false =>
   simp only[hl,jD] at h
   simp only[Sh.mk,AVal.fitsT,jB] at hf
   have e:=Ty.eq_of_beq hf.1
   subst e
   simp only[Sh.mk,zA2]
   exact⟨trivial,hl,zK3 h hA⟩
 |own t T m =>
  intro A x τ vs h hf hA
  simp only[Sh.parse] at h
  simp only[Sh.mk,AVal.fitsT] at hf
  have e:=Ty.eq_of_beq hf
  subst e
  simp only[Sh.mk,zA2]
  refine⟨trivial,?_⟩
  cases A with
  |nil=>simp only[zA2] at hA;exact⟨_,hA.2,yF4 (tm:=#[]) (os:=none) h (by simp only[zA])⟩
  |own t' l' T' m'=>simp only[zA2] at hA;obtain⟨_,v,h1,h2⟩:=hA;exact⟨v,h1,yF4 (tm:=#[]) (os:=none) h (by simp only[zA];exact h2)⟩
  |_=>simp[yU2] at h
 |nl =>
  intro A x τ vs h hf hA
  cases A with
  |nl=>exact hA
  |_=>simp[Sh.parse,xP1] at h
 |cons p q ihp ihq =>
  intro A x τ vs h hf hA
  cases A with
  |cons a b =>
   simp only[Sh.parse,yI1] at h
   split at h
   ·rename_i y z hy hz
    injection h with h
    subst h
    simp only[zA2] at hA
    obtain⟨h1,t1,us,ws,rfl,rfl,h2,h3⟩:=hA
    simp only[Sh.mk,AVal.fitsT,zD7,jB] at hf
    simp only[Sh.mk,zA2]
    exact⟨_,_,_,_,rfl,rfl,ihp hy hf.1 h2,ihq hz hf.2 h3⟩
   ·cases h
  |_=>simp[Sh.parse,yI1] at h
 |agg f s ih =>
  intro A x τ vs h hf hA
  cases A with
  |agg f' b =>
   simp only[Sh.parse,xC0] at h
   cases hb:Ty.beq f f' with
   |false=>simp[hb] at h
   |true =>
    simp only[hb,jE] at h
    have e:=Ty.eq_of_beq hb
    subst e
    split at h
    ·rename_i y hy
     generalize hfit:(s.mk y).fitsT f=bb at h
     cases bb with
     |false=>cases h
     |true =>
      simp only[jE,jA] at h
      subst h
      simp only[zA2] at hA
      simp only[Sh.mk,zA2]
      exact⟨hA.1,ih hy hfit hA.2⟩
    ·cases h
  |_=>simp[Sh.parse,xC0] at h
 |nil =>
  intro A x τ vs h hf hA
  cases A with
  |nil=>exact hA
  |_=>simp[Sh.parse,yX1] at h
 |_=>intro A x τ vs h hf;simp[Sh.mk,AVal.fitsT] at hf
theorem zE2:∀ {s:Sh}{A:AVal}{x:s.den}{os:Option Nat}{v:Value},s.parse A=some x→zA G w tm os A v→zA G w tm os (s.mk x) v:=by
 intro s
 induction s with
 |val τ' =>
  intro A x os v h hA
  simp only[Sh.parse] at h
  cases hl:τ'.isL with
  |true=>simp[hl] at h
  |false =>
   simp only[hl,jD] at h
   simp only[Sh.mk,zA]
   refine zH9 h hl (zL9 hA ?_ ?_)
   ·intro τ c e
    subst e
    simp[AVal.as,AVal.asT] at h
   ·intro e
    subst e
    simp[AVal.as,AVal.asT] at h
 |own t T m=>intro A x os v h hA;simp only[Sh.parse] at h;simp only[Sh.mk,zA];exact yF4 h hA
 |nl =>
  intro A x os v h hA
  cases A with
  |nl=>exact hA
  |_=>simp[Sh.parse,xP1] at h
 |cons p q ihp ihq =>
  intro A x os v h hA
  cases A with
  |cons a b =>
   simp only[Sh.parse,yI1] at h
   split at h
   ·rename_i y z hy hz
    injection h with h
    subst h
    simp only[zA] at hA
    obtain⟨u,us,rfl,h2,h3⟩:=hA
    simp only[Sh.mk,zA]
    exact⟨u,us,rfl,ihp hy h2,ihq hz h3⟩
   ·cases h
  |_=>simp[Sh.parse,yI1] at h
 |agg f s ih =>
  intro A x os v h hA
  cases A with
  |agg f' b =>
   simp only[Sh.parse,xC0] at h
   cases hb:Ty.beq f f' with
   |false=>simp[hb] at h
   |true =>
    simp only[hb,jE] at h
    have e:=Ty.eq_of_beq hb
    subst e
    split at h
    ·rename_i y hy
     generalize hfit:(s.mk y).fitsT f=bb at h
     cases bb with
     |false=>cases h
     |true =>
      simp only[jE,jA] at h
      subst h
      simp only[zA] at hA
      obtain⟨vs,h1,h2⟩:=hA
      simp only[Sh.mk,zA]
      exact⟨vs,h1,yI2 hy hfit h2⟩
    ·cases h
  |_=>simp[Sh.parse,xC0] at h
 |box f s ih =>
  intro A x os v h hA
  cases A with
  |box f' b =>
   simp only[Sh.parse,xJ4] at h
   cases hb:Ty.beq f f' with
   |false=>simp[hb] at h
   |true =>
    simp only[hb,jE] at h
    have e:=Ty.eq_of_beq hb
    subst e
    split at h
    ·rename_i y hy
     generalize hfit:(s.mk y).fitsT f=bb at h
     cases bb with
     |false=>cases h
     |true =>
      simp only[jE,jA] at h
      subst h
      cases os with
      |none=>simp only[zA] at hA
      |some s =>
       simp only[zA] at hA
       obtain⟨h1,h2,cur,e,h3,h4,h5⟩:=hA
       simp only[Sh.mk,zA]
       exact⟨h1,h2,cur,e,h3,yI2 hy hfit h4,h5⟩
    ·cases h
  |_=>simp[Sh.parse,xJ4] at h
 |ref s τ =>
  intro A x os v h hA
  simp only[Sh.parse] at h
  generalize hr:yI0 s τ A=b at h
  cases b with
  |false=>cases h
  |true =>
   cases A with
   |ref s' τ' p =>
    cases p with
    |nil =>
     simp only[yI0,jB] at hr
     have e1:=jC hr.1
     have e2:=Ty.eq_of_beq hr.2
     subst e1;subst e2
     exact hA
    |cons _ _=>simp[yI0] at hr
   |_=>simp[yI0] at hr
 |tup s ih =>
  intro A x os v h hA
  cases A with
  |tup b=>simp only[Sh.parse,xP2] at h;simp only[Sh.mk,zA] at hA ⊢;exact ih h hA
  |_=>simp[Sh.parse,xP2] at h
 |fn f s ih =>
  intro A x os v h hA
  cases A with
  |fn f' cs =>
   simp only[Sh.parse,xW1] at h
   cases hb:Nat.beq f f' with
   |false=>simp[hb] at h
   |true =>
    simp only[hb,jE] at h
    have e:=jC hb
    subst e
    simp only[Sh.mk,zA] at hA ⊢
    obtain⟨vs,h1,h2⟩:=hA
    exact⟨vs,h1,ih h h2⟩
  |_=>simp[Sh.parse,xW1] at h
 |any=>intro A x os v _ _;simp only[Sh.mk,zA]
 |nil =>
  intro A x os v h hA
  cases A with
  |nil=>exact hA
  |_=>simp[Sh.parse,yX1] at h
 |nn b =>
  intro A x os v h hA
  cases A with
  |nn b' =>
   simp only[Sh.parse,xP0] at h
   cases hb:(b==b') with
   |false=>simp[hb] at h
   |true=>have:=beq_iff_eq.1 hb;subst this;exact hA
  |_=>simp[Sh.parse,xP0] at h
 |ownh t T U m =>
  intro A x os v h hA
  cases A with
  |ownh t' l' T' i' U' m' =>
   simp only[Sh.parse,yX0] at h
   generalize hb:(Nat.beq T T'&&Nat.beq U U'&&(m==m'))=b at h
   cases b with
   |false=>cases h
   |true =>
    simp only[jE] at h
    simp only[jB,beq_iff_eq] at hb
    have e1:=jC hb.1.1
    have e2:=jC hb.1.2
    have e3:=hb.2
    subst e1 e2 e3
    split at h
    ·rename_i l2 hl
     injection h with h
     subst h
     obtain⟨e,hl⟩:=zD5 hl
     injection e with e
     injection e with e
     subst e
     have hl:l'=l2:=hl
     subst hl
     exact hA
    ·cases h
  |_=>simp[Sh.parse,yX0] at h
 |fptr f caps =>
  intro A x os v h hA
  cases A with
  |fptr f' caps' =>
   simp only[Sh.parse,yX2] at h
   cases hb:(Nat.beq f f'&&zZ9 caps caps') with
   |false=>simp[hb] at h
   |true =>
    simp only[jB] at hb
    have e1:=jC hb.1
    have e2:=xP3 hb.2
    subst e1;subst e2
    exact hA
  |_=>simp[Sh.parse,yX2] at h
theorem yL5:∀ {s:Sh}{x:s.den},(s.mk x).hasOpt=false:=by
 intro s
 induction s with
 |cons p q ihp ihq=>intro x;simp[Sh.mk,AVal.hasOpt,ihp,ihq]
 |tup s ih=>intro x;simp[Sh.mk,AVal.hasOpt,ih]
 |fn f s ih=>intro x;simp[Sh.mk,AVal.hasOpt,ih]
 |_=>intro x;simp[Sh.mk,AVal.hasOpt]
@[reducible] def zB7:List (Nat×Sh)→Type
 |[]=>Unit
 |(_,s)::r=>s.den×zB7 r
def xL9:(l:List (Nat×Sh))→zB7 l→St
 |[],_=>[]
 |(k,s)::r,x=>(k,s.mk x.1)::xL9 r x.2
def zC6:(l:List (Nat×Sh))→St→Option (zB7 l)
 |[],_=>some ()
 |(k,s)::r,S=>match s.parse (S.get k),zC6 r S with|some x,some y=>some (x,y)|_,_=>none
def yU3:St:=[(zA9,.junk)]
def Weaker (S' S:St):Prop:=∀ (s:Nat),∀ G w tm v,zA G w tm (some s) (S.get s) v→zA G w tm (some s) (S'.get s) v
theorem Weaker.rel {S':St}(h:Weaker S' S)(hR:Rel n χ0 w0 S a w G):Rel n χ0 w0 S' a w G:=⟨hR.len,hR.defers,fun s=>h s _ _ _ _ (hR.reps s),hR.frame,hR.glob⟩
theorem zS2:Weaker yU3 S:=by
 intro s G w tm v _
 simp only[yU3,St.get]
 cases Nat.beq zA9 s<;>simp[zA]
theorem zG6:∀ {l:List (Nat×Sh)}{x:zB7 l}{R:St},zC6 l S=some x→Weaker R S→Weaker (xL9 l x++R) S:=by
 intro l
 induction l with
 |nil=>intro x R _ h;exact h
 |cons e r ih =>
  intro x R hp h
  obtain⟨k,s⟩:=e
  simp only[zC6] at hp
  split at hp
  ·rename_i y z hy hz
   injection hp with hp
   subst hp
   intro q G w tm v hA
   simp only[xL9,List.cons_append,St.get]
   cases hk:Nat.beq k q with
   |true =>
    have:=jC hk
    subst this
    exact zE2 hy hA
   |false =>
    simp only[jD]
    cases Nat.beq k zA9 with
    |true=>simp only[jE,zA]
    |false=>exact ih hz h q G w tm v hA
  ·cases hp
theorem yU4 {A:St}(h:St.hasCut A=true){s:Nat}:(A++S).get s=A.get s:=by
 induction A with
 |nil=>cases h
 |cons e r ih =>
  obtain⟨k,B⟩:=e
  simp only[List.cons_append,St.get]
  cases Nat.beq k s with
  |true=>rfl
  |false =>
   simp only[jD]
   cases hc:Nat.beq k zA9 with
   |true=>rfl
   |false =>
    simp only[jD]
    refine ih ?_
    simpa only[St.hasCut,List.any_cons,hc,Bool.false_or] using h
theorem zH4 {A B:St}(h:St.hasCut B=true):St.hasCut (A++B)=true:=by
 simp only[St.hasCut,List.any_append,Bool.or_eq_true] at h ⊢;exact .inr h
end Go.Am
namespace Go.Am
open Go Go.RowKit
variable {gtab:GlobTab}{P:Program}{c:Ctx}{G:Gh}{w:World}{tm:Array Value}{n:Nat}{χ0:Nat→Nat→Nat}{w0:World}{S:St}{a:Act}
def xJ5 (ks:List Nat)(vs:Nat→Value)(a:Act):Prop:=∀ i∈ks,a.tmps.getD i undef=vs i
def zS3 (ks:List Nat):List Oper→Bool
 |[]=>true
 |o::r=>(match o.dst with|some d=>!(ks.any (Nat.beq d))|none=>true)&&zS3 ks r
def zE3 (ks:List Nat):Code→Bool
 |.region _ ops _=>zS3 ks ops.toList
 |.seq a b=>zE3 ks a&&zE3 ks b
 |.cond _ a b=>zE3 ks a&&zE3 ks b
 |.block _ a=>zE3 ks a
 |.loop a=>zE3 ks a
 |_=>true
theorem yU5 {ks:List Nat}{vs:Nat→Value}:∀ {ops:List Oper},zS3 ks ops=true→∀ o∈ops,∀ a v,xJ5 ks vs a→xJ5 ks vs (a.put o.dst v):=by
 intro ops
 induction ops with
 |nil=>intro _ o h;cases h
 |cons x r ih =>
  intro h o ho a v hk
  simp only[zS3,jB] at h
  rcases List.mem_cons.1 ho with rfl|ho
  ·cases hd:o.dst with
   |none=>exact hk
   |some d =>
    rw[hd] at h
    simp only[jK,List.any_eq_false] at h
    intro i hi
    have hne:d≠i:=by intro e;subst e;exact h.1 d hi (Nat.beq_refl d)
    rw[← hk i hi]
    simp[Act.put,Array.getElem?_setIfInBounds_ne hne]
  ·exact ih h.2 o ho a v hk
def xJ6 [GlobTab] (P:Program)(c:Ctx)(code:Code)(S:St)(out:Out):Prop:=
 (∀ q∈out.ok,q)→∀ (rd:Option Nat) (χ0:Nat→Nat→Nat) (w0:World) (vs:Nat→Value) (a:Act) (w:World) (G:Gh),Rel c.n χ0 w0 S a w G→xJ5 c.keep vs a →
  code.wpIn (fz rd) 0 P (fun e a' w'=>yL4 c.n χ0 w0 S out.comps e a' w'∧xJ5 c.keep vs a') a w
def zH5 [GlobTab] (P:Program)(c:Ctx):Code→Prop
 |.seq a b=>zH5 P c a∧zH5 P c b
 |.cond _ a b=>zH5 P c a∧zH5 P c b
 |.block _ a=>zH5 P c a
 |.loop a=>∀ S out,look (fun _=>none) c.loops (zE4 a) S=some out→xJ6 P c (.loop a) S out
 |_=>True
theorem yB3 {k:Nat}{u:St}{e:Exit}(he:zB9 e=some k)(hR:Rel n χ0 w0 (u++S) a w G):yL4 n χ0 w0 S [⟨k,none,u⟩] e a w:=by
 refine⟨k,⟨k,none,u⟩,G,he,by simp[zA3],rfl,fun k' c' hf _=>?_,hR⟩
 simp only[zA3] at hf
 cases hb:Nat.beq k k' with
 |true=>exact (jC hb).symm
 |false=>simp[hb] at hf
theorem zX2 (hc:CtxOk P c)(hm:P.follows .mixedOrders=true):∀ {code:Code}{S:St}{out:Out},zH5 P c code→zE3 c.keep code=true→eval c code S=some out→xJ6 P c code S out:=by
 intro code
 induction code with
 |skip =>
  intro S out _ _ h _ rd χ0 w0 vs a w G hR hk
  simp only[eval,jA] at h
  subst h
  exact wpIn_skip ⟨yB3 rfl hR,hk⟩
 |region id ops draw =>
  intro S out _ hw h hok rd χ0 w0 vs a w G hR hk
  simp only[eval] at h
  split at h
  ·cases h
  ·rename_i v hg
   generalize hv:v.all (fun e=>Nat.blt e.1 c.n)=bv at h
   cases bv with
   |false=>cases h
   |true =>
    simp only[Bool.not_true,jD] at h
    split at h
    ·rename_i p u hr
     injection h with h
     subst h
     simp only[zE3] at hw
     obtain⟨G1,hR1⟩:=yH9 hc.n hR hg fun e he=>Nat.blt_eq.mp (List.all_eq_true.1 hv e he)
     exact yQ2 (yU5 (vs:=vs) hw) hc hm hr hok hR1 hk fun a' w' G' hR' hk'=>⟨yB3 rfl (by rw[List.append_assoc];exact hR'),hk'⟩
    ·cases h
 |seq x y ihx ihy =>
  intro S out hL hw h hok rd χ0 w0 vs a w G hR hk
  simp only[zH5] at hL
  simp only[zE3,jB] at hw
  simp only[eval] at h
  split at h
  ·cases h
  ·rename_i oa ha
   split at h
   ·rename_i h0
    injection h with h
    subst h
    refine wpIn_seq (wpIn_mono (ihx hL.1 hw.1 ha hok rd χ0 w0 vs a w G hR hk) fun e a' w' hP=>?_)
    cases e with
    |normal=>obtain⟨⟨k,cp,G',h1,h2,_⟩,_⟩:=hP;simp only[zB9,jA] at h1;subst h1;rw[h0] at h2;cases h2
    |_=>exact hP
   ·rename_i m h0
    split at h
    ·cases h
    ·rename_i ob hb
     injection h with h
     subst h
     simp only[yG9,List.mem_append] at hok
     refine wpIn_seq (wpIn_mono (ihx hL.1 hw.1 ha (fun q hq=>hok q (.inl hq)) rd χ0 w0 vs a w G hR hk) fun e a' w' hP=>?_)
     obtain⟨hP,hk'⟩:=hP
     by_cases he:e=.normal
     ·subst he
      obtain⟨k,cp,G',h1,h2,h3,h4,h5⟩:=hP
      simp only[zB9,jA] at h1
      subst h1
      rw[h0] at h2
      injection h2 with h2
      subst h2
      simp only[Exit.then]
      refine wpIn_mono (ihy hL.2 hw.2 hb (fun q hq=>?_) rd χ0 w0 vs a' w' G' h5 hk') fun e'' a'' w'' hP'=>⟨xJ3 h3 h4 hP'.1,hP'.2⟩
      cases hg:m.g with
      |none=>exact hok q (.inr (by simp only[imp,hg];exact hq))
      |some b =>
       have hb1:b=true:=by rw[hg] at h3;exact h3
       exact yU1 (fun q hq=>hok q (.inr (by simp only[imp,hg];exact hq))) hb1 q hq
     ·have hne:zB9 e≠some 0:=by
       cases e with
       |normal=>exact absurd rfl he
       |exit id=>simp[zB9]
       |_=>simp[zB9]
      have:=xJ2 (ob:=ob) h0 hP hne
      cases e with
      |normal=>exact absurd rfl he
      |_=>exact⟨this,hk'⟩
 |cond x p q ihp ihq =>
  intro S out hL hw h hok rd χ0 w0 vs a w G hR hk
  simp only[zH5] at hL
  simp only[zE3,jB] at hw
  simp only[eval] at h
  split at h
  ·rename_i t hx
   split at h
   ·rename_i oa ob ha hb
    injection h with h
    subst h
    have hv:a.eval x=.bool t:=by
     have:=zT3 hR x
     rw[hx] at this
     simp only[zA] at this
     have:=(zC1 rfl).1 this
     simpa only[zB0,List.cons.injEq,and_true] using this
    simp only[zW0,List.mem_append] at hok
    refine wpIn_cond_split hv (fun ht=>?_) (fun ht=>?_)
    ·subst ht
     exact wpIn_mono (ihp hL.1 hw.1 ha (yU1 (fun q hq=>hok q (.inl hq)) rfl) rd χ0 w0 vs a w G hR hk) fun e a' w' hP=>⟨xB8 hP.1,hP.2⟩
    ·subst ht
     exact wpIn_mono (ihq hL.2 hw.2 hb (yU1 (fun q hq=>hok q (.inr hq)) rfl) rd χ0 w0 vs a w G hR hk) fun e a' w' hP=>⟨xB9 hP.1,hP.2⟩
   ·cases h
  ·cases h
 |block id x ih =>
  intro S out hL hw h hok rd χ0 w0 vs a w G hR hk
  simp only[zH5] at hL
  simp only[zE3] at hw
  simp only[eval] at h
  split at h
  ·rename_i oa ha
   injection h with h
   subst h
   have hok':∀ q∈oa.ok,q:=by
    intro q hq
    refine hok q ?_
    unfold yA2
    split<;>exact hq
   refine wpIn_block (wpIn_mono (ih hL hw ha hok' rd χ0 w0 vs a w G hR hk) fun e a' w' hP=>?_)
   have:=xC (id:=id) hP.1
   cases e with
   |exit id' =>
    simp only[Exit.inBlock] at this ⊢
    split
    ·rename_i e;rw[if_pos e] at this;exact⟨this,hP.2⟩
    ·rename_i e;rw[if_neg e] at this;exact⟨this,hP.2⟩
   |_=>exact⟨this,hP.2⟩
  ·cases h
 |loop x _ =>
  intro S out hL hw h
  simp only[eval] at h
  exact hL S out h
 |exit id =>
  intro S out _ _ h _ rd χ0 w0 vs a w G hR hk
  simp only[eval,jA] at h
  subst h
  exact wpIn_exit ⟨yB3 rfl hR,hk⟩
 |ret =>
  intro S out _ _ h _ rd χ0 w0 vs a w G hR hk
  simp only[eval,jA] at h
  subst h
  exact wpIn_ret ⟨yB3 rfl hR,hk⟩
 |_=>intro S out _ _ h;simp[eval] at h
def loopN {X:Type}(g:X→Bool)(next:X→X):Nat→X→X
 |0,x=>x
 |k+1,x=>bif g x then loopN g next k (next x) else x
def zI1:Nat:=18446744073709551616
def zC3 {X:Type}(g:X→Bool)(next:X→X)(x:X):X:=loopN g next zI1 x
def Runs {X:Type}(g:X→Bool)(next:X→X)(ok:X→Prop):Nat→X→Prop
 |0,x=>ok x∧g x=false
 |k+1,x=>ok x∧g x=true∧Runs g next ok k (next x)
def Ends {X:Type}(g:X→Bool)(next:X→X)(ok:X→Prop)(x:X):Prop:=∃ k,k<zI1∧Runs g next ok k x
theorem Runs.loopN {X:Type}{g:X→Bool}{next:X→X}{ok:X→Prop}:∀ {k:Nat}{x:X}{F:Nat},Runs g next ok k x→k<F→g (loopN g next F x)=false∧ok (Am.loopN g next F x):=by
 intro k
 induction k with
 |zero =>
  intro x F h hF
  cases F with
  |zero=>omega
  |succ F=>simp only[Am.loopN,h.2,jD];exact⟨trivial,h.1⟩
 |succ k ih =>
  intro x F h hF
  cases F with
  |zero=>omega
  |succ F=>simp only[Am.loopN,h.2.1,jE];exact ih h.2.2 (by omega)
theorem xJ7 {rd:Option Nat}{cd:Code}{Q:Exit→Act→World→Prop}(I:Nat→Act→World→Prop){k:Nat}(h₀:I k a w)
  (round:∀ k a w,I k a w→cd.wpIn (fz rd) 0 P (Exit.then (fun a' w'=>∃ m,m<k∧I m a' w') Q) a w):(Code.loop cd).wpIn (fz rd) 0 P Q a w:=by
 intro b kk cs hro hb hr
 have key:∀ n a w,I n a w→∃ e a' w',Q e a' w'∧ArrivesIn (Machine.fenced P (fz rd)) P (lone (b.atR a (.code cd::.inLoop cd::kk)) cs w) b kk cs e a' w':=by
  intro n
  induction n using Nat.strongRecOn with
  |_ n ih =>
   intro a w hI
   obtain⟨e,a₁,w₁,hq,harr⟩:=round n a w hI b (.inLoop cd::kk) cs hro hb hr
   cases e with
   |normal =>
    obtain⟨m,hlt,hI₁⟩:=hq
    obtain⟨e₂,a₂,w₂,hq₂,harr₂⟩:=ih m hlt a₁ w₁ hI₁
    exact⟨e₂,a₂,w₂,hq₂,.of_steps (StepsIn.trans harr (.one (fenced_calm hb hr rfl) stepR_inLoop)) harr₂⟩
   |exit id=>exact⟨_,a₁,w₁,hq,.pass (x:=.inLoop cd) rfl (fun _ _=>.inl (by simp)) harr⟩
   |goto l=>exact⟨_,a₁,w₁,hq,.pass (x:=.inLoop cd) rfl (fun _ _=>.inl (by simp)) harr⟩
   |ret=>exact⟨_,a₁,w₁,hq,.pass (x:=.inLoop cd) rfl (fun _ _=>.inl (by simp)) harr⟩
   |panic ch=>exact⟨_,a₁,w₁,hq,.pass (x:=.inLoop cd) rfl (fun _ _=>.inl (by simp)) harr⟩
   |outgrown=>exact⟨_,a₁,w₁,hq,.pass (x:=.inLoop cd) rfl (fun _ _=>.inl (by simp)) harr⟩
 obtain⟨e,a',w',hq,harr⟩:=key _ a w h₀
 exact⟨e,a',w',hq,.of_steps (.one (fenced_calm hb hr rfl) stepR_loop) harr⟩
def zE0 (ly lx:List (Nat×Sh))(y:zB7 ly)(x:zB7 lx):St:=xL9 ly y++(xL9 lx x++yU3)
def zT5 (L:St)(l:List Comp):List Comp:=(zH6 0 l).map fun cp=>⟨cp.kind,cp.g,cp.d++L⟩
def yB4 (ly lx:List (Nat×Sh))(g:zB7 ly→zB7 lx→Bool)(next:zB7 ly→zB7 lx→zB7 lx)(ok:zB7 ly→zB7 lx→Prop)(comps:zB7 ly→zB7 lx→List Comp)(S:St):Option Out:=
 match zC6 ly S,zC6 lx S with
 |some y,some x=>some ⟨[Ends (g y) (next y) (ok y) x],zT5 (zE0 ly lx y (zC3 (g y) (next y) x)) (comps y (zC3 (g y) (next y) x))⟩
 |_,_=>none
theorem yX3 {ly lx:List (Nat×Sh)}{y:zB7 ly}{x:zB7 lx}:St.hasCut (zE0 ly lx y x)=true:=zH4 (zH4 rfl)
theorem xC1 (hc:CtxOk P c)(hm:P.follows .mixedOrders=true){body:Code}(hL:zH5 P c body)(hw:zE3 c.keep body=true){ly lx:List (Nat×Sh)}{g:zB7 ly→zB7 lx→Bool}{next:zB7 ly→zB7 lx→zB7 lx}
  {ok:zB7 ly→zB7 lx→Prop}{comps:zB7 ly→zB7 lx→List Comp}{oks:zB7 ly→zB7 lx→List Prop}
  (hbody:∀ y x,eval c body (zE0 ly lx y x)=some ⟨oks y x,comps y x⟩) (hoks:∀ y x,ok y x→xE4 (oks y x))
  (hnext:∀ y x,∃ m,zA3 0 (comps y x)=some m∧tk m.g=g y x∧zC6 ly (m.d++zE0 ly lx y x)=some y∧zC6 lx (m.d++zE0 ly lx y x)=some (next y x)) :
  ∀ S out,yB4 ly lx g next ok comps S=some out→xJ6 P c (.loop body) S out:=by
 intro S out h hok rd χ0 w0 vs a w G hR hk
 unfold yB4 at h
 split at h
 ·rename_i y x hy hx
  injection h with h
  subst h
  obtain⟨k,hkf,hruns⟩:=hok _ (jQ ..)
  have hR0:Rel c.n χ0 w0 (zE0 ly lx y x) a w G:=(zG6 hy (zG6 hx zS2)).rel hR
  refine xJ7 (I:=fun k a w=>∃ x' G F,Rel c.n χ0 w0 (zE0 ly lx y x') a w G∧xJ5 c.keep vs a∧Runs (g y) (next y) (ok y) k x'∧k<F∧loopN (g y) (next y) F x'=zC3 (g y) (next y) x) (k:=k) ⟨x,G,zI1,hR0,hk,hruns,hkf,rfl⟩ ?_
  rintro k a w ⟨x',G,F,hR,hk,hruns,hF,hend⟩
  have hokx:ok y x':=by cases k with|zero=>exact hruns.1|succ k=>exact hruns.1
  refine wpIn_mono (zX2 hc hm hL hw (hbody y x') (AllP_iff.1 (hoks y x' hokx)) rd χ0 w0 vs a w G hR hk) fun e a' w' hP=>?_
  obtain⟨hP,hk'⟩:=hP
  obtain⟨m,m1,m2,m3,m4⟩:=hnext y x'
  obtain⟨q,cp,G',h1,h2,h3,h4,h5⟩:=hP
  by_cases he:e=.normal
  ·subst he
   simp only[zB9,jA] at h1
   subst h1
   rw[m1] at h2
   injection h2 with h2
   subst h2
   rw[m2] at h3
   cases k with
   |zero=>rw[hruns.2] at h3;cases h3
   |succ k =>
    simp only[Exit.then]
    cases F with
    |zero=>omega
    |succ F =>
     refine⟨k,by omega,next y x',G',F,(zG6 m3 (zG6 m4 zS2)).rel h5,hk',hruns.2.2,by omega,?_⟩
     rw[← hend,Am.loopN,h3,jE]
  ·have hq:q≠0:=by
    intro e0
    subst e0
    cases e<;>simp[zB9] at h1 he
   have hg:g y x'=false:=by
    cases hg:g y x' with
    |false=>rfl
    |true=>rw[← m2] at hg;exact absurd (h4 0 m m1 hg).symm hq
   have hfin:x'=zC3 (g y) (next y) x:=by
    rw[← hend]
    cases F with
    |zero=>omega
    |succ F=>rw[Am.loopN,hg,jD]
   subst hfin
   have hq0:Nat.beq q 0=false:=by cases q with|zero=>exact absurd rfl hq|succ q=>rfl
   have hfind:∀ k',zA3 k' (zT5 (zE0 ly lx y (zC3 (g y) (next y) x)) (comps y (zC3 (g y) (next y) x)))=(bif Nat.beq k' 0 then none else zA3 k' (comps y (zC3 (g y) (next y) x))).map fun cp=>⟨cp.kind,cp.g,cp.d++zE0 ly lx y (zC3 (g y) (next y) x)⟩:=by
    intro k'
    unfold zT5
    rw[zV4 (f:=fun cp=>⟨cp.kind,cp.g,cp.d++zE0 ly lx y (zC3 (g y) (next y) x)⟩) (fun _=>rfl),zI0]
   have hpost:yL4 c.n χ0 w0 S (zT5 (zE0 ly lx y (zC3 (g y) (next y) x)) (comps y (zC3 (g y) (next y) x))) e a' w':=by
    refine⟨q,⟨cp.kind,cp.g,cp.d++zE0 ly lx y (zC3 (g y) (next y) x)⟩,G',h1,?_,h3,fun k' c' hf ht=>?_,?_⟩
    ·rw[hfind,hq0,jD,h2];rfl
    ·rw[hfind] at hf
     cases hk':Nat.beq k' 0 with
     |true=>simp[hk'] at hf
     |false =>
      simp only[hk',jD] at hf
      cases hx:zA3 k' (comps y (zC3 (g y) (next y) x)) with
      |none=>simp[hx] at hf
      |some z=>simp only[hx,Option.map_some,jA] at hf;subst hf;exact h4 k' z hx ht
    ·exact zM3 (fun s=>yU4 (zH4 yX3)) h5
   cases e with
   |normal=>exact absurd rfl he
   |_=>exact⟨hpost,hk'⟩
 ·cases h
end Go.Am
namespace Go.Am
open Go Go.RowKit
variable {gtab:GlobTab}{P:Program}{c:Ctx}{G:Gh}{w:World}{tm:Array Value}{n:Nat}{χ0:Nat→Nat→Nat}{w0:World}{S:St}{a:Act}
def zX3 [GlobTab] (c:Ctx)(S:St):ResultVar→Option AVal
 |.tmp t=>some (arg S (.tmp t))
 |.cell r T=>match yI9 c T (arg S (.tmp r)) (zA4 S (arg S (.tmp r))) with|some ([],A)=>some A | _=>none
def zQ9 [GlobTab] (c:Ctx)(S:St):List ResultVar→Option AVal
 |[]=>some (.tup .nl)
 |[r]=>zX3 c S r
 |[r,s]=>match zX3 c S r,zX3 c S s with|some A,some B=>some (.tup (.cons A (.cons B .nl)))|_,_=>none
 |[r,s,t]=>match zX3 c S r,zX3 c S s,zX3 c S t with|some A,some B,some C=>some (.tup (.cons A (.cons B (.cons C .nl))))|_,_,_=>none
 |[r,s,t,u]=>match zX3 c S r,zX3 c S s,zX3 c S t,zX3 c S u with|some A,some B,some C,some D=>some (.tup (.cons A (.cons B (.cons C (.cons D .nl)))))|_,_,_,_=>none
 |_=>none
def xJ8 (tmps:Array Value):ResultVar→Sem Value
 |.tmp t=>pure (tmps.getD t undef)
 |.cell a t=>do loadVar t (← asAddr (tmps.getD a undef))
theorem zE (hc:CtxOk P c)(hR:Rel n χ0 w0 S a w G){r:ResultVar}{A:AVal}(h:zX3 c S r=some A):∃ v,(xJ8 a.tmps r).run P w=.ok v w∧zA G w a.tmps none A v:=by
 cases r with
 |tmp t =>
  simp only[zX3,jA] at h
  subst h
  exact⟨_,rfl,zT3 hR (.tmp t)⟩
 |cell r T =>
  simp only[zX3] at h
  split at h
  ·rename_i A' hl
   injection h with h
   subst h
   have hx:=zT3 hR (.tmp r)
   obtain⟨u,h1,h2⟩:=yD3 hc.tys hc.fts hx (fun s hs=>⟨_,by
    have:=hR.reps s
    cases hA:arg S (.tmp r)<;>simp[hA,zC8] at hs<;>(subst hs;simpa[zA4,hA] using this)⟩) hl (fun q hq=>by cases hq)
   refine⟨u,?_,h2⟩
   simp only[xJ8]
   have hv:a.eval (.tmp r)=a.tmps.getD r undef:=rfl
   rw[hv] at h1
   cases hvv:a.tmps.getD r undef with
   |pointer p =>
    cases p with
    |none=>rw[hvv] at h1;simp[Instr.loadAt,Instr.sureAddr] at h1
    |some ad=>rw[hvv] at h1;simpa[Instr.loadAt,Instr.sureAddr,asAddr] using h1
   |_=>rw[hvv] at h1;simp[Instr.loadAt,Instr.sureAddr] at h1
  ·cases h
theorem yQ3 (hc:CtxOk P c)(hR:Rel n χ0 w0 S a w G){fn:Func}{A:AVal}(h:zQ9 c S fn.results.toList=some A):∃ v,(results fn a.tmps).run P w=.ok v w∧zA G w a.tmps none A v:=by
 have hfn:fn.results=fn.results.toList.toArray:=by simp
 generalize fn.results.toList=l at h hfn
 have hsem:results fn a.tmps=(do let vs ← fn.results.mapM (xJ8 a.tmps);pure (if h:vs.size=1 then vs[0] else .tuple vs)):=by
  unfold results
  congr 1
 rw[hsem,hfn]
 match l,h with
 |[],h=>simp only[zQ9,jA] at h;subst h;exact⟨.tuple #[],by simp,by simp only[zA]⟩
 |[r],h =>
  obtain⟨v,h1,h2⟩:=zE hc hR h
  exact⟨v,by simp[h1],h2⟩
 |[r,s],h =>
  simp only[zQ9] at h
  split at h
  ·rename_i A' B hA hB
   injection h with h;subst h
   obtain⟨v,h1,h2⟩:=zE hc hR hA
   obtain⟨v',h1',h2'⟩:=zE hc hR hB
   exact⟨.tuple #[v,v'],by simp[h1,h1'],by simp only[zA];exact⟨v,[v'],rfl,h2,v',[],rfl,h2',rfl⟩⟩
  ·cases h
 |[r,s,t],h =>
  simp only[zQ9] at h
  split at h
  ·rename_i A' B C hA hB hC
   injection h with h;subst h
   obtain⟨v,h1,h2⟩:=zE hc hR hA
   obtain⟨v',h1',h2'⟩:=zE hc hR hB
   obtain⟨v'',h1'',h2''⟩:=zE hc hR hC
   exact⟨.tuple #[v,v',v''],by simp[h1,h1',h1''],by simp only[zA];exact⟨v,[v',v''],rfl,h2,v',[v''],rfl,h2',v'',[],rfl,h2'',rfl⟩⟩
  ·cases h
 |[r,s,t,u],h =>
  simp only[zQ9] at h
  split at h
  ·rename_i A' B C D hA hB hC hD
   injection h with h;subst h
   obtain⟨v,h1,h2⟩:=zE hc hR hA
   obtain⟨v',h1',h2'⟩:=zE hc hR hB
   obtain⟨v'',h1'',h2''⟩:=zE hc hR hC
   obtain⟨v3,h13,h23⟩:=zE hc hR hD
   exact⟨.tuple #[v,v',v'',v3],by simp[h1,h1',h1'',h13],by simp only[zA];exact⟨v,[v',v'',v3],rfl,h2,v',[v'',v3],rfl,h2',v'',[v3],rfl,h2'',v3,[],rfl,h23,rfl⟩⟩
  ·cases h
 |_::_::_::_::_::_,h=>simp[zQ9] at h
def yU6 (S:St)(l:List Comp):Option St:=
 bif l.all (fun x=>Nat.ble x.kind 1) then
  match zA3 0 l,zA3 1 l with
  |none,some r=>some r.d
  |some m,none=>some m.d
  |some m,some r=>some (zL0 (tk r.g) r.d m.d S)
  |none,none=>none
 else none
theorem yQ4 {k:Nat}{x:Comp}:∀ {l:List Comp},zA3 k l=some x→x∈l:=by
 intro l
 induction l with
 |nil=>intro h;cases h
 |cons y r ih =>
  intro h
  simp only[zA3] at h
  cases hb:Nat.beq y.kind k with
  |true=>simp only[hb,jE,jA] at h;subst h;exact jQ ..
  |false=>simp only[hb,jD] at h;exact jP _ (ih h)
theorem yX4 {l:List Comp}{d:St}{e:Exit}(h:yU6 S l=some d)(hP:yL4 n χ0 w0 S l e a w):(e=.normal∨e=.ret)∧∃ G,Rel n χ0 w0 (d++S) a w G:=by
 obtain⟨k,cp,G,h1,h2,h3,h4,h5⟩:=hP
 unfold yU6 at h
 generalize hall:l.all (fun x=>Nat.ble x.kind 1)=b at h
 cases b with
 |false=>cases h
 |true =>
  simp only[jE] at h
  have hk:k≤1:=by
   have:=List.all_eq_true.1 hall cp (yQ4 h2)
   rw[zM6 h2] at this
   exact jR this
  have he:e=.normal∨e=.ret:=by
   cases e with
   |normal=>exact .inl rfl
   |ret=>exact .inr rfl
   |exit id=>simp only[zB9,jA] at h1;omega
   |_=>simp[zB9] at h1
  refine⟨he,G,?_⟩
  generalize h0:zA3 0 l=o0 at h
  generalize h1':zA3 1 l=o1 at h
  obtain rfl|rfl:k=0∨k=1:=by omega
  ·have:=h0.symm.trans h2
   subst this
   cases o1 with
   |none=>injection h with h;subst h;exact h5
   |some r =>
    injection h with h;subst h
    have:tk r.g=false:=by
     cases hx:tk r.g with
     |false=>rfl
     |true=>have:=h4 1 r h1' hx;omega
    rw[this]
    exact zO6 h5
  ·have:=h1'.symm.trans h2
   subst this
   cases o0 with
   |none=>injection h with h;subst h;exact h5
   |some m =>
    injection h with h;subst h
    rw[h3]
    exact zO5 h5
def zT6:Nat→List AVal→St
 |_,[]=>[]
 |i,A::r=>(i,A)::zT6 (i+1) r
@[reducible] def yA:List (Nat×Sh)→Type
 |[]=>Unit
 |(_,s)::r=>s.den×yA r
def xU8:(s:Sh)→s.den→AVal
 |.box _ s,x=>s.mk x
 |s,x=>s.mk x
def mkO:(l:List (Nat×Sh))→yA l→List (Nat×AVal)
 |[],_=>[]
 |(i,s)::r,x=>(i,xU8 s x.1)::mkO r x.2
def zZ:(l:List (Nat×Sh))→St→Option (yA l)
 |[],_=>some ()
 |(i,s)::r,S=>match s.parse (S.get i),zZ r S with|some x,some y=>some (x,y)|_,_=>none
def xJ9:Sh→Bool
 |.box _ _=>true|_=>false
def fnSpec (ps:List (Nat×Sh))(rs:Sh)(os:List (Nat×Sh))(ok:zB7 ps→Prop)(f:zB7 ps→rs.den)(o:zB7 ps→yA os):Spec:=fun args =>
 bif Nat.beq args.length ps.length then
  match zC6 ps (zT6 0 args) with
  |some x=>some ⟨[ok x],rs.mk (f x),mkO os (o x),[]⟩
  |none=>none
 else none
def xS5:Nat→List (Nat×Sh)→Bool
 |_,[]=>true
 |i,(k,_)::r=>Nat.beq k i&&xS5 (i+1) r
def xU9 (ps:List (Nat×Sh))(keep:List Nat)(os:List (Nat×Sh)):Bool:=
 os.all fun e=>keep.any (Nat.beq e.1)&&(match ps[e.1]? with
  |some (_,.box τ _)=>(match e.2 with|.box τ' _=>Ty.beq τ' τ | _=>false)
  |some (_,.any)=>false
  |some _=>!xJ9 e.2
  |none=>false)
theorem yF5 {s:Nat}:∀ {args:List AVal}{i:Nat},i≤s→s<i+args.length→i+args.length≤zA9→some ((zT6 i args).get s)=args[s-i]?:=by
 intro args
 induction args with
 |nil=>intro i h1 h2;simp at h2;omega
 |cons A r ih =>
  intro i h1 h2 h3
  simp only[List.length_cons] at h2 h3
  simp only[zT6,St.get]
  by_cases e:i=s
  ·subst e;simp
  ·have hb:Nat.beq i s=false:=by cases hb:Nat.beq i s with|false=>rfl|true=>exact absurd (jC hb) e
   have hc:Nat.beq i zA9=false:=by cases hb:Nat.beq i zA9 with|false=>rfl|true=>have:=jC hb;omega
   rw[hb,hc,jD,jD,ih (by omega) (by omega) (by omega)]
   rw[show s-i=(s-(i+1))+1 by omega]
   simp
theorem xK {s:Nat}:∀ {args:List AVal}{i:Nat},i+args.length≤s∨s<i→(zT6 i args).get s=.junk:=by
 intro args
 induction args with
 |nil=>intro i _;rfl
 |cons A r ih =>
  intro i h
  simp only[List.length_cons] at h
  simp only[zT6,St.get]
  have hb:Nat.beq i s=false:=by cases hb:Nat.beq i s with|false=>rfl|true=>have:=jC hb;omega
  rw[hb,jD]
  cases Nat.beq i zA9 with
  |true=>rfl
  |false=>exact ih (by omega)
theorem yI3 {S:St}:∀ {ps:List (Nat×Sh)}{x:zB7 ps}{k:Nat}{i:Nat}{s:Sh},zC6 ps S=some x→ps[k]?=some (i,s)→∃ y,s.parse (S.get i)=some y:=by
 intro ps
 induction ps with
 |nil=>intro x k i s _ h;simp at h
 |cons e r ih =>
  intro x k i s hp hk
  obtain⟨j,t⟩:=e
  simp only[zC6] at hp
  split at hp
  ·rename_i y z hy hz
   cases k with
   |zero=>simp only[List.getElem?_cons_zero,jA,jG] at hk;obtain⟨rfl,rfl⟩:=hk;exact⟨y,hy⟩
   |succ k=>exact ih hz (by simpa using hk)
  ·cases hp
theorem xS6:∀ {ps:List (Nat×Sh)}{i k j:Nat}{s:Sh},xS5 i ps=true→ps[k]?=some (j,s)→j=i+k:=by
 intro ps
 induction ps with
 |nil=>intro i k j s _ h;simp at h
 |cons e r ih =>
  intro i k j s h hk
  obtain⟨q,t⟩:=e
  simp only[xS5,jB] at h
  cases k with
  |zero=>simp only[List.getElem?_cons_zero,jA,jG] at hk;obtain⟨rfl,rfl⟩:=hk;exact jC h.1
  |succ k=>have:=ih h.2 (by simpa using hk);omega
theorem xK0 {S:St}{i:Nat}{k:AVal}:∀ {os:List (Nat×Sh)}{x:yA os},zZ os S=some x→(i,k)∈mkO os x→∃ s y,(i,s)∈os∧k=xU8 s y∧s.parse (S.get i)=some y:=by
 intro os
 induction os with
 |nil=>intro x _ h;cases h
 |cons e r ih =>
  intro x hp hk
  obtain⟨j,τ⟩:=e
  simp only[zZ] at hp
  split at hp
  ·rename_i y z hy hz
   injection hp with hp
   subst hp
   simp only[mkO] at hk
   rcases List.mem_cons.1 hk with h|h
   ·simp only[jG] at h
    obtain⟨rfl,rfl⟩:=h
    exact⟨τ,y,jQ ..,rfl,hy⟩
   ·obtain⟨τ',y',h1,h2,h3⟩:=ih hz h
    exact⟨τ',y',jP _ h1,h2,h3⟩
  ·cases hp
theorem xK1 {s:Sh}{A:AVal}{x:s.den}{τ:Ty}{k0:AVal}(h:s.parse A=some x)(hA:A=.box τ k0):s=.any∨∃ s',s=.box τ s':=by
 subst hA
 cases s with
 |box τ' s' =>
  simp only[Sh.parse,xJ4] at h
  cases hb:Ty.beq τ' τ with
  |true=>have:=Ty.eq_of_beq hb;subst this;exact .inr ⟨s',rfl⟩
  |false=>simp[hb] at h
 |any=>exact .inl rfl
 |val τ'=>simp only[Sh.parse,AVal.as,AVal.asT] at h;cases τ'.isL<;>simp at h
 |own t T m=>simp[Sh.parse,yU2] at h
 |nl=>simp[Sh.parse,xP1] at h
 |cons a b=>simp[Sh.parse,yI1] at h
 |agg f s=>simp[Sh.parse,xC0] at h
 |ref s τ'=>simp[Sh.parse,yI0] at h
 |tup s=>simp[Sh.parse,xP2] at h
 |fn f s=>simp[Sh.parse,xW1] at h
 |nil=>simp[Sh.parse,yX1] at h
 |nn b=>simp[Sh.parse,xP0] at h
 |fptr f caps=>simp[Sh.parse,yX2] at h
 |ownh t T U m=>simp[Sh.parse,yX0] at h
def zC2 (ps:List (Nat×Sh))(x:zB7 ps):St:=xL9 ps x++yU3
theorem xC2:∀ {ps:List (Nat×Sh)}{x:zB7 ps},∀ e∈zC2 ps x,e.2.hasOpt=false:=by
 intro ps
 induction ps with
 |nil=>intro x e he;simp only[zC2,xL9,yU3,List.nil_append,jH] at he;subst he;rfl
 |cons q r ih =>
  intro x e he
  obtain⟨k,s⟩:=q
  simp only[zC2,xL9,List.cons_append] at he
  rcases List.mem_cons.1 he with h|h
  ·subst h;exact yL5
  ·exact ih e h
theorem xC3 (hc:CtxOk P c)(hm:P.follows .mixedOrders=true){f:Nat}{fn:Func}{code:Code}(hf:P.funcs[f]?=some fn)(hb:fn.body=some code)(hname:fn.name≠"runtime.NumGoroutine") (hn:fn.ntmps=c.n)
  (hL:zH5 P c code) (hw:zE3 c.keep code=true){ps:List (Nat×Sh)}{rs:Sh}{os:List (Nat×Sh)}{ok:zB7 ps→Prop}{F:zB7 ps→rs.den}{o:zB7 ps→yA os}
  {oks:zB7 ps→List Prop}{comps:zB7 ps→List Comp}{d:zB7 ps→St}{res:zB7 ps→AVal}(hps:(xS5 0 ps&&xU9 ps c.keep os&&Nat.ble ps.length c.n)=true)
  (heval:∀ x,eval c code (zC2 ps x)=some ⟨oks x,comps x⟩) (hoks:∀ x,ok x→xE4 (oks x))
  (hfin:∀ x,yU6 (zC2 ps x) (comps x)=some (d x)) (hres:∀ x,zQ9 c (d x++zC2 ps x) fn.results.toList=some (res x)) (hpar:∀ x,rs.parse (res x)=some (F x))
  (hout:∀ x,zZ os (d x++zC2 ps x)=some (o x)):SpecOk P f (fnSpec ps rs os ok F o):=by
 simp only[jB] at hps
 obtain⟨⟨hps1,hps2⟩,hps3⟩:=hps
 have hps3:ps.length≤c.n:=jR hps3
 refine⟨⟨fn,hf,by rw[hb];rfl,hname⟩,fun args co hsp hok G w vals hlen hglob hreps=>?_⟩
 unfold fnSpec at hsp
 generalize hal:Nat.beq args.length ps.length=b at hsp
 cases b with
 |false=>cases hsp
 |true =>
  have hal:=jC hal
  simp only[jE] at hsp
  split at hsp
  ·rename_i x hx
   injection hsp with hsp
   subst hsp
   have hokx:ok x:=hok _ (jQ ..)
   refine callsIn_wide.1 (callsIn_of_wp (n:=0) hf hb trivial ?_)
   generalize hact:({ tmps:=vals.toArray++Array.replicate (fn.ntmps-vals.toArray.size) undef,defers:=[] }:Act)=act
   have hget:∀ s,s<vals.length→act.tmps.getD s undef=vals.getD s undef:=by
    intro s hs
    rw[← hact]
    simp[Array.getElem?_append,hs]
   have hcn:=hc.n
   have hrel:Rel c.n G.χ w (zC2 ps x) act w G:=by
    refine⟨?_,by rw[← hact],fun s=>?_,⟨rfl,rfl,rfl,jI _,fun _ _ _=>rfl,fun _ _ _ _=>⟨rfl,rfl⟩⟩,hglob⟩
    ·rw[← hact];simp;omega
    ·have key:zA G w #[] (some s) ((zC2 ps x).get s) (act.tmps.getD s undef):=by
      refine zG6 hx zS2 s G w #[] _ ?_
      by_cases hs:s<args.length
      ·have h1:=yF5 (s:=s) (args:=args) (i:=0) (by omega) (by omega) (by omega)
       simp only[Nat.sub_zero] at h1
       have h2:vals[s]?=some (vals.getD s undef):=by simp[jL (show s<vals.length by omega)]
       rw[hget s (by omega)]
       exact hreps s _ _ h1.symm h2
      ·rw[xK (.inl (by omega))];simp only[zA]
     refine zM9 (fun k hk=>?_) key
     have:=zT4 (q:=fun A=>A.hasOpt=false) rfl (S:=zC2 ps x) (s:=s) xC2
     rw[zM4 this] at hk
     cases hk
   refine wpIn_mono (zX2 hc hm hL hw (heval x) (AllP_iff.1 (hoks x hokx)) none G.χ w (fun i=>act.tmps.getD i undef) act w G hrel (fun i _=>rfl)) fun e a' w' hP=>?_
   obtain⟨hP,hk⟩:=hP
   obtain⟨he,G',hR⟩:=yX4 (hfin x) hP
   obtain⟨v,hv1,hv2⟩:=yQ3 hc hR (hres x)
   have hfinal:a'.defers=[]∧∃ v,(results fn a'.tmps).run P w'=.ok v w'∧∃ v' G',Ending.returned v=.returned v'∧Frame0 G.χ w G'.χ w'∧zA G' w' #[] none (rs.mk (F x)) v' ∧
     (∀ (i:Nat) k A u,(i,k)∈mkO os (o x)→args[i]?=some A→vals[i]?=some u →
      (∀ τ k0,A=.box τ k0→zA G' w' #[] (some i) (.box τ k) u∧G'.β i=G.β i)∧(zF7 A=false→zA G' w' #[] none k u)):=by
    refine⟨hR.defers,v,hv1,v,G',rfl,hR.frame,?_,?_⟩
    ·refine zM9 (fun k hk=>?_) (zE2 (hpar x) hv2)
     rw[zM4 yL5] at hk;cases hk
    ·intro i k A u hi ha hu
     obtain⟨s',y,h1,rfl,h3⟩:=xK0 (hout x) hi
     simp only[xU9,List.all_eq_true,jB] at hps2
     have h4:=hps2 _ h1
     simp only at h4
     have hrep:=zE2 h3 (hR.reps i)
     have hilt:i<args.length:=(List.getElem?_eq_some_iff.1 ha).1
     have hkeep:a'.tmps.getD i undef=u:=by
      obtain⟨j,hj,hjb⟩:=List.any_eq_true.1 h4.1
      have:=jC hjb
      subst this
      rw[hk i hj]
      show act.tmps.getD i undef=u
      rw[hget i (by omega)]
      simp[hu]
     rw[hkeep] at hrep
     have hrep:zA G' w' #[] (some i) (s'.mk y) u:=zM9 (fun k hk=>by rw[zM4 yL5] at hk;cases hk) hrep
     obtain⟨p,hpi⟩:∃ p,ps[i]?=some (i,p)∧∃ z,p.parse A=some z:=by
      have hil:i<ps.length:=by omega
      obtain⟨⟨j,p⟩,hpi⟩:∃ q,ps[i]?=some q:=⟨_,jL hil⟩
      have hj:=xS6 hps1 hpi
      simp only[Nat.zero_add] at hj
      subst hj
      obtain⟨z,hz⟩:=yI3 hx hpi
      have h1:=yF5 (s:=j) (args:=args) (i:=0) (by omega) (by omega) (by omega)
      simp only[Nat.sub_zero,ha,jA] at h1
      rw[h1] at hz
      exact⟨p,hpi,z,hz⟩
     obtain⟨hpi,z,hz⟩:=hpi
     rw[hpi] at h4
     constructor
     ·rintro τ k0 rfl
      rcases xK1 hz rfl with rfl|⟨s2,rfl⟩
      ·simp at h4
      ·simp only at h4
       cases s' with
       |box τ' s3 =>
        have:=Ty.eq_of_beq h4.2
        subst this
        refine⟨hrep,?_⟩
        have h0:=hreps i _ _ ha hu
        simp only[Sh.mk,zA] at h0 hrep
        have:=h0.1.symm.trans hrep.1
        simp only[Value.pointer.injEq,jA,Addr.mk.injEq] at this
        exact this.1.symm
       |_=>simp at h4
     ·intro hA
      cases s' with
      |box τ' s3 =>
       exfalso
       split at h4
       ·rename_i j τ2 s2 e
        simp only[jA,jG] at e
        obtain⟨rfl,rfl⟩:=e
        simp only[Sh.parse] at hz
        cases A<;>simp[xJ4,zF7] at hz hA
       ·simp at h4
       ·simp[xJ9] at h4
       ·simp at h4
      |_=>exact zL9 (by simpa only[xU8] using hrep) (by intro τ c e;simp only[xU8,Sh.mk] at e;cases e) (by intro e;simp only[xU8,Sh.mk] at e;cases e)
   rcases he with rfl|rfl
   ·exact hfinal
   ·exact hfinal
  ·cases hsp
end Go.Am
namespace Go.Am
open Go Go.RowKit
variable {gtab:GlobTab}{P:Program}{c:Ctx}
def xT5 (H:St):List Comp→List (List (Nat×Sh))→Option (List Comp)
 |[],[]=>some []
 |cp::r,l::s=>match zC6 l (cp.d++H),xT5 H r s with
  |some z,some q=>some (⟨cp.kind,cp.g,xL9 l z++yU3⟩::q)
  |_,_=>none
 |_,_=>none
def xW2 (H:St)(l:List Comp)(ls:List (List (Nat×Sh))):Option (List Comp):=
 match xT5 H l ls with
 |some [q]=>some [⟨q.kind,none,q.d⟩]
 |r=>r
def yL6 [GlobTab] (c:Ctx)(body:Code)(ly lx:List (Nat×Sh))(les:List (List (Nat×Sh)))(y:zB7 ly)(x:zB7 lx):Option (Prop×Bool×zB7 ly×zB7 lx×List Comp):=
 match eval c body (zE0 ly lx y x) with
 |none=>none
 |some o=>match zA3 0 o.comps with
  |none=>none
  |some m=>match zC6 ly (m.d++zE0 ly lx y x),zC6 lx (m.d++zE0 ly lx y x),xW2 (zE0 ly lx y x) (zH6 0 o.comps) les with
   |some y',some x',some es=>some (xE4 o.ok,tk m.g,y',x',es)
   |_,_,_=>none
def xP4 (ly lx:List (Nat×Sh))(g:zB7 ly→zB7 lx→Bool)(next:zB7 ly→zB7 lx→zB7 lx)(ok:zB7 ly→zB7 lx→Prop)(es:zB7 ly→zB7 lx→List Comp)(S:St):Option Out:=
 match zC6 ly S,zC6 lx S with
 |some y,some x=>some ⟨[Ends (g y) (next y) (ok y) x],es y (zC3 (g y) (next y) x)⟩
 |_,_=>none
theorem yU7 {H:St}{k:Nat}:∀ {l:List Comp}{ls:List (List (Nat×Sh))}{es:List Comp},xT5 H l ls=some es →
  (zA3 k es=none∧zA3 k l=none)∨∃ cp cp',zA3 k l=some cp∧zA3 k es=some cp'∧cp'.g=cp.g∧St.hasCut cp'.d=true∧Weaker cp'.d (cp.d++H):=by
 intro l
 induction l with
 |nil=>intro ls es h;cases ls<;>simp[xT5] at h;subst h;exact .inl ⟨rfl,rfl⟩
 |cons cp r ih =>
  intro ls es h
  cases ls with
  |nil=>simp[xT5] at h
  |cons s ls =>
   simp only[xT5] at h
   split at h
   ·rename_i z q hz hq
    injection h with h
    subst h
    simp only[zA3]
    cases Nat.beq cp.kind k with
    |true=>exact .inr ⟨cp,_,rfl,rfl,rfl,zH4 rfl,zG6 hz zS2⟩
    |false=>exact ih hq
   ·cases h
theorem xK2 {H:St}{k:Nat}{l:List Comp}{ls:List (List (Nat×Sh))}{es:List Comp}(h:xW2 H l ls=some es) :
  (zA3 k es=none∧zA3 k l=none)∨∃ cp cp',zA3 k l=some cp∧zA3 k es=some cp'∧(cp'.g=cp.g∨(cp'.g=none∧∀ k' c',zA3 k' l=some c'→k'=k))∧St.hasCut cp'.d=true∧Weaker cp'.d (cp.d++H):=by
 unfold xW2 at h
 split at h
 ·rename_i q hq
  injection h with h
  subst h
  have hone:∀ k',zA3 k' [q]=none→zA3 k' l=none:=fun k' h'=>by
   rcases yU7 (k:=k') hq with ⟨_,h2⟩ | ⟨cp,cp',_,h2,_⟩
   ·exact h2
   ·rw[h'] at h2;cases h2
  rcases yU7 (k:=k) hq with ⟨h1,h2⟩ | ⟨cp,cp',h1,h2,h3,h4,h5⟩
  ·left
   refine⟨?_,h2⟩
   simp only[zA3] at h1 ⊢
   cases hb:Nat.beq q.kind k with
   |true=>simp[hb] at h1
   |false=>rfl
  ·right
   have hqk:=h2
   simp only[zA3] at hqk
   cases hb:Nat.beq q.kind k with
   |false=>simp[hb] at hqk
   |true =>
    simp only[hb,jE,jA] at hqk
    subst hqk
    refine⟨cp,⟨q.kind,none,q.d⟩,h1,by simp only[zA3,hb,jE],.inr ⟨rfl,fun k' c' hf=>?_⟩,h4,h5⟩
    cases hb':Nat.beq q.kind k' with
    |true=>rw[← jC hb',jC hb]
    |false =>
     have:=hone k' (by simp only[zA3,hb',jD])
     rw[this] at hf;cases hf
 ·rename_i r _
  rcases yU7 (k:=k) h with h1|⟨cp,cp',h1,h2,h3,h4,h5⟩
  ·exact .inl h1
  ·exact .inr ⟨cp,cp',h1,h2,.inl h3,h4,h5⟩
theorem xP5 (hc:CtxOk P c)(hm:P.follows .mixedOrders=true){body:Code}(hL:zH5 P c body)(hw:zE3 c.keep body=true){ly lx:List (Nat×Sh)}{les:List (List (Nat×Sh))}{g:zB7 ly→zB7 lx→Bool}{next:zB7 ly→zB7 lx→zB7 lx}
  {ok:zB7 ly→zB7 lx→Prop}{es:zB7 ly→zB7 lx→List Comp}(hsum:∀ y x,yL6 c body ly lx les y x=some (ok y x,g y x,y,next y x,es y x)) :
  ∀ S out,xP4 ly lx g next ok es S=some out→xJ6 P c (.loop body) S out:=by
 intro S out h hok rd χ0 w0 vs a w G hR hk
 unfold xP4 at h
 split at h
 ·rename_i y x hy hx
  injection h with h
  subst h
  have hopen:∀ y x,∃ o m,eval c body (zE0 ly lx y x)=some o∧zA3 0 o.comps=some m∧xE4 o.ok=ok y x∧tk m.g=g y x∧zC6 ly (m.d++zE0 ly lx y x)=some y∧zC6 lx (m.d++zE0 ly lx y x)=some (next y x)∧xW2 (zE0 ly lx y x) (zH6 0 o.comps) les=some (es y x):=by
   intro y x
   have:=hsum y x
   unfold yL6 at this
   split at this
   ·cases this
   ·rename_i o ho
    split at this
    ·cases this
    ·rename_i m hm
     split at this
     ·rename_i y' x' es' h1 h2 h3
      simp only[jA,jG] at this
      obtain⟨e1,e2,rfl,rfl,rfl⟩:=this
      exact⟨o,m,ho,hm,e1,e2,h1,h2,h3⟩
     ·cases this
  let O:zB7 ly→zB7 lx→Out:=fun y x=>(eval c body (zE0 ly lx y x)).getD ⟨[],[]⟩
  have hO:∀ y x,eval c body (zE0 ly lx y x)=some (O y x):=by
   intro y x
   obtain⟨o,m,h1,_⟩:=hopen y x
   simp only[O,h1,Option.getD_some]
  have hspec:yB4 ly lx g next ok (fun y x=>(O y x).comps) S=some ⟨[Ends (g y) (next y) (ok y) x],zT5 (zE0 ly lx y (zC3 (g y) (next y) x)) (O y (zC3 (g y) (next y) x)).comps⟩:=by
   unfold yB4
   rw[hy,hx]
  have hsnd:=xC1 hc hm hL hw (g:=g) (next:=next) (ok:=ok) (comps:=fun y x=>(O y x).comps) (oks:=fun y x=>(O y x).ok) hO (fun y x hx=>by
   obtain⟨o,m,h1,h2,h3,_⟩:=hopen y x
   have:=hO y x
   rw[h1] at this
   injection this with this
   rw[← this,h3];exact hx) (fun y x=>by
   obtain⟨o,m,h1,h2,h3,h4,h5,h6,h7⟩:=hopen y x
   have:=hO y x
   rw[h1] at this
   injection this with this
   exact⟨m,by rw[← this];exact h2,h4,h5,h6⟩) S _ hspec hok rd χ0 w0 vs a w G hR hk
  refine wpIn_mono hsnd fun e a' w' hP=>⟨?_,hP.2⟩
  obtain⟨k,cp,G',q1,q2,q3,q4,q5⟩:=hP.1
  obtain⟨o,m,h1,h2,h3,h4,h5,h6,h7⟩:=hopen y (zC3 (g y) (next y) x)
  have hoo:=hO y (zC3 (g y) (next y) x)
  rw[h1] at hoo
  injection hoo with hoo
  have hfind:∀ k',zA3 k' (zT5 (zE0 ly lx y (zC3 (g y) (next y) x)) (O y (zC3 (g y) (next y) x)).comps)=(zA3 k' (zH6 0 o.comps)).map fun cp=>⟨cp.kind,cp.g,cp.d++zE0 ly lx y (zC3 (g y) (next y) x)⟩:=by
   intro k'
   unfold zT5
   rw[zV4 (f:=fun cp=>⟨cp.kind,cp.g,cp.d++zE0 ly lx y (zC3 (g y) (next y) x)⟩) (fun _=>rfl),hoo]
  rw[hfind] at q2
  rcases xK2 (k:=k) h7 with ⟨_,e2⟩ | ⟨c1,c2,e1,e2,e3,e4,e5⟩
  ·rw[e2] at q2;cases q2
  ·rw[e1] at q2
   simp only[Option.map_some,jA] at q2
   subst q2
   have htk:tk c2.g=true:=by
    rcases e3 with e3|⟨e3,_⟩
    ·rw[e3];exact q3
    ·rw[e3];rfl
   refine⟨k,c2,G',q1,e2,htk,fun k' c' hf ht=>?_,?_⟩
   ·rcases xK2 (k:=k') h7 with ⟨f1,_⟩ | ⟨d1,d2,f1,f2,f3,_,_⟩
    ·rw[f1] at hf;cases hf
    ·rw[f2] at hf
     injection hf with hf
     subst hf
     rcases f3 with f3|⟨_,f3⟩
     ·refine q4 k' ⟨d1.kind,d1.g,d1.d++zE0 ly lx y (zC3 (g y) (next y) x)⟩ (by rw[hfind,f1];rfl) ?_
      rw[f3] at ht;exact ht
     ·exact (f3 k c1 e1).symm
   ·have r1:Rel c.n χ0 w0 (c1.d++zE0 ly lx y (zC3 (g y) (next y) x)) a' w' G':=zM3 (fun s=>(yU4 (zH4 yX3)).symm) q5
    exact zM3 (fun s=>yU4 e4) (e5.rel r1)
 ·cases h
def xC4 [GlobTab] (c:Ctx)(code:Code)(rv:List ResultVar)(ps:List (Nat×Sh))(rs:Sh)(os:List (Nat×Sh))(x:zB7 ps):Option (Prop×rs.den×yA os):=
 match eval c code (zC2 ps x) with
 |none=>none
 |some o=>match yU6 (zC2 ps x) o.comps with
  |none=>none
  |some d=>match zQ9 c (d++zC2 ps x) rv,zZ os (d++zC2 ps x) with
   |some r,some z=>(match rs.parse r with|some v=>some (xE4 o.ok,v,z)|none=>none)
   |_,_=>none
theorem xP6 (hc:CtxOk P c)(hm:P.follows .mixedOrders=true){f:Nat}{fn:Func}{code:Code}(hf:P.funcs[f]?=some fn)(hb:fn.body=some code)(hname:fn.name≠"runtime.NumGoroutine") (hn:fn.ntmps=c.n)
  (hL:zH5 P c code) (hw:zE3 c.keep code=true){ps:List (Nat×Sh)}{rs:Sh}{os:List (Nat×Sh)}{ok:zB7 ps→Prop}{F:zB7 ps→rs.den}{o:zB7 ps→yA os}
  (hps:(xS5 0 ps&&xU9 ps c.keep os&&Nat.ble ps.length c.n)=true){rv:List ResultVar}(hrv:fn.results.toList=rv)
  (hsum:∀ x,xC4 c code rv ps rs os x=some (ok x,F x,o x)):SpecOk P f (fnSpec ps rs os ok F o):=by
 have hopen:∀ x,∃ out d r,eval c code (zC2 ps x)=some out∧yU6 (zC2 ps x) out.comps=some d∧zQ9 c (d++zC2 ps x) fn.results.toList=some r∧rs.parse r=some (F x)∧zZ os (d++zC2 ps x)=some (o x)∧xE4 out.ok=ok x:=by
  intro x
  have:=hsum x
  rw[hrv]
  unfold xC4 at this
  split at this
  ·cases this
  ·rename_i out ho
   split at this
   ·cases this
   ·rename_i d hd
    split at this
    ·rename_i r z hr hz
     split at this
     ·rename_i v hv
      simp only[jA,jG] at this
      obtain⟨e1,rfl,rfl⟩:=this
      exact⟨out,d,r,ho,hd,hr,hv,hz,e1⟩
     ·cases this
    ·cases this
 let O:zB7 ps→Out:=fun x=>(eval c code (zC2 ps x)).getD ⟨[],[]⟩
 let D:zB7 ps→St:=fun x=>(yU6 (zC2 ps x) (O x).comps).getD []
 let R:zB7 ps→AVal:=fun x=>(zQ9 c (D x++zC2 ps x) fn.results.toList).getD .junk
 have hO:∀ x,eval c code (zC2 ps x)=some (O x)∧yU6 (zC2 ps x) (O x).comps=some (D x)∧zQ9 c (D x++zC2 ps x) fn.results.toList=some (R x)∧rs.parse (R x)=some (F x)∧zZ os (D x++zC2 ps x)=some (o x)∧xE4 (O x).ok=ok x:=by
  intro x
  obtain⟨out,d,r,h1,h2,h3,h4,h5,h6⟩:=hopen x
  have e1:O x=out:=by simp only[O,h1,Option.getD_some]
  have e2:D x=d:=by simp only[D,e1,h2,Option.getD_some]
  have e3:R x=r:=by simp only[R,e2,h3,Option.getD_some]
  rw[e1,e2,e3]
  exact⟨h1,h2,h3,h4,h5,h6⟩
 exact xC3 hc hm hf hb hname hn hL hw (oks:=fun x=>(O x).ok) (comps:=fun x=>(O x).comps) (d:=D) (res:=R) hps (fun x=>(hO x).1) (fun x hx=>by rw[(hO x).2.2.2.2.2];exact hx) (fun x=>(hO x).2.1) (fun x=>(hO x).2.2.1) (fun x=>(hO x).2.2.2.1) (fun x=>(hO x).2.2.2.2.1)
end Go.Am
namespace Go.Am
open Go Go.RowKit
variable {gtab:GlobTab}{P:Program}{c:Ctx}
def zF6:Code→List Code
 |.seq a b=>zF6 a++zF6 b
 |.cond _ a b=>zF6 a++zF6 b
 |.block _ a=>zF6 a
 |.loop a=>[a]
 |_=>[]
def xX1 (cd:Code)(i:Nat):Code:=(zF6 cd).getD i .skip
def yU8 [GlobTab] (P:Program)(c:Ctx)(b:Code):Prop:=∀ S out,look (fun _=>none) c.loops (zE4 b) S=some out→xJ6 P c (.loop b) S out
def zS8 [GlobTab] (P:Program)(c:Ctx):List Code→Prop
 |[]=>True
 |b::r=>yU8 P c b∧zS8 P c r
theorem zV6:∀ {l r:List Code},zS8 P c (l++r)→zS8 P c l∧zS8 P c r:=by
 intro l
 induction l with
 |nil=>intro r h;exact⟨trivial,h⟩
 |cons b l ih=>intro r h;have:=ih h.2;exact⟨⟨h.1,this.1⟩,this.2⟩
theorem yF6:∀ {code:Code}{bs:List Code},zF6 code=bs→zS8 P c bs→zH5 P c code:=by
 intro code
 induction code with
 |seq a b iha ihb=>intro bs he h;subst he;simp only[zF6] at h;have:=zV6 h;exact⟨iha rfl this.1,ihb rfl this.2⟩
 |cond x a b iha ihb=>intro bs he h;subst he;simp only[zF6] at h;have:=zV6 h;exact⟨iha rfl this.1,ihb rfl this.2⟩
 |block id a ih=>intro bs he h;subst he;simp only[zF6] at h;exact ih rfl h
 |loop a _=>intro bs he h;subst he;simp only[zF6] at h;exact h.1
 |_=>intro bs _ _;trivial
def xK3 [GlobTab] (P:Program):List (Nat×Spec)→Prop
 |[]=>True
 |(f,sp)::r=>SpecOk P f sp∧xK3 P r
theorem yL7:∀ {l:List (Nat×Spec)},xK3 P l→∀ f sp,(f,sp)∈l→SpecOk P f sp:=by
 intro l
 induction l with
 |nil=>intro _ f sp h;cases h
 |cons e r ih =>
  intro h f sp hm
  obtain⟨g,s⟩:=e
  rcases List.mem_cons.1 hm with e|hm
  ·simp only[jG] at e;obtain⟨rfl,rfl⟩:=e;exact h.1
  ·exact ih h.2 f sp hm
def xK4 [GlobTab] (P:Program):List (Nat×(List AVal→Option (List Prop×AVal)))→Prop
 |[]=>True
 |(f,e)::r=>xG1 P f e∧xK4 P r
theorem xK5:∀ {l:List (Nat×(List AVal→Option (List Prop×AVal)))},xK4 P l→∀ f e,(f,e)∈l→xG1 P f e:=by
 intro l
 induction l with
 |nil=>intro _ f e h;cases h
 |cons q r ih =>
  intro h f e hm
  obtain⟨g,e'⟩:=q
  rcases List.mem_cons.1 hm with hm|hm
  ·injection hm with e1 e2;subst e1;subst e2;exact h.1
  ·exact ih h.2 f e hm
theorem xV (ht:zL4 P c.tys=true)(hmp:(zY1 P c.maps&&yN1 P c.fts)=true)(hf:xK3 P c.fns)(he:xK4 P c.exts)(hn:Nat.ble c.n zA9=true)(hcl:c.clones=[]:=by rfl):CtxOk P c:=⟨ht,yL7 hf,xK5 he,((jB _ _).mp hmp).1,((jB _ _).mp hmp).2,jR hn,fun f k h=>by rw[hcl] at h;cases h⟩
theorem xW3 (ht:zL4 P c.tys=true)(hmp:(zY1 P c.maps&&yN1 P c.fts)=true)(hf:xK3 P c.fns)(he:c.exts=[])(hn:Nat.ble c.n zA9=true)(hcl:c.clones=[]:=by rfl):CtxOk P c:=⟨ht,yL7 hf,(fun f e h=>by rw[he] at h;cases h),((jB _ _).mp hmp).1,((jB _ _).mp hmp).2,jR hn,fun f k h=>by rw[hcl] at h;cases h⟩
theorem xV0 (ht:zL4 P c.tys=true)(hmp:(zY1 P c.maps&&yN1 P c.fts)=true)(hf:xK3 P c.fns)(he:c.exts=[])(hn:Nat.ble c.n zA9=true){f k:Nat}(hcl:c.clones=[(f,k)])(hk:xF8 P f k):CtxOk P c:=⟨ht,yL7 hf,(fun f e h=>by rw[he] at h;cases h),((jB _ _).mp hmp).1,((jB _ _).mp hmp).2,jR hn,fun f' k' h=>by
 rw[hcl,jH] at h
 cases h
 exact hk⟩
theorem xP7 (hc:CtxOk P c)(hm:P.follows .mixedOrders=true){body:Code}{bs:List Code}(hb:zF6 body=bs)(hL:zS8 P c bs)(hw:zE3 c.keep body=true){ly lx:List (Nat×Sh)}{les:List (List (Nat×Sh))}{g:zB7 ly→zB7 lx→Bool}{next:zB7 ly→zB7 lx→zB7 lx}
  {ok:zB7 ly→zB7 lx→Prop}{es:zB7 ly→zB7 lx→List Comp}(hl:look (fun _=>none) c.loops (zE4 body)=xP4 ly lx g next ok es)
  (hsum:∀ y x,yL6 c body ly lx les y x=some (ok y x,g y x,y,next y x,es y x)):yU8 P c body:=by
 intro S out h
 rw[hl] at h
 exact xP5 hc hm (yF6 hb hL) hw hsum S out h
theorem xP8 (hc:CtxOk P c)(hm:P.follows .mixedOrders=true){f:Nat}{fn:Func}{code:Code}(hf:P.funcs[f]?=some fn)(hb:fn.body=some code)(hname:fn.name≠"runtime.NumGoroutine") (hn:fn.ntmps=c.n)
  {bs:List Code}(hbs:zF6 code=bs) (hL:zS8 P c bs) (hw:zE3 c.keep code=true){ps:List (Nat×Sh)}{rs:Sh}{os:List (Nat×Sh)}{ok:zB7 ps→Prop}{F:zB7 ps→rs.den}{o:zB7 ps→yA os}
  (hps:(xS5 0 ps&&xU9 ps c.keep os&&Nat.ble ps.length c.n)=true){rv:List ResultVar}(hrv:fn.results.toList=rv)
  (hsum:∀ x,xC4 c code rv ps rs os x=some (ok x,F x,o x)):SpecOk P f (fnSpec ps rs os ok F o):=
 xP6 hc hm hf hb hname hn (yF6 hbs hL) hw hps hrv hsum
theorem xT6 {f:Nat}{fn:Func}(hf:P.funcs[f]?=some fn)(hb:fn.body.isSome=true)(hname:fn.name≠"runtime.NumGoroutine"){ps:List (Nat×Sh)}{rs:Sh}{os:List (Nat×Sh)}{F:zB7 ps→rs.den}{o:zB7 ps→yA os} :
  SpecOk P f (fnSpec ps rs os (fun _=>False) F o):=by
 refine⟨⟨fn,hf,hb,hname⟩,fun args co hsp hok=>?_⟩
 unfold fnSpec at hsp
 generalize Nat.beq args.length ps.length=b at hsp
 cases b with
 |false=>cases hsp
 |true =>
  simp only[jE] at hsp
  split at hsp
  ·injection hsp with hsp;subst hsp;exact (hok _ (jQ ..)).elim
  ·cases hsp
theorem xV1 {f:Nat}{ps:List (Nat×Sh)}{rs:Sh}{os:List (Nat×Sh)}{R:Nat→zB7 ps→Prop×rs.den×yA os}(h:∀ k,SpecOk P f (fnSpec ps rs os (fun x=>(R k x).1) (fun x=>(R k x).2.1) (fun x=>(R k x).2.2)))(m:zB7 ps→Nat) :
  SpecOk P f (fnSpec ps rs os (fun x=>(R (m x) x).1) (fun x=>(R (m x) x).2.1) (fun x=>(R (m x) x).2.2)):=by
 refine⟨(h 0).1,fun args co hsp hok=>?_⟩
 unfold fnSpec at hsp
 generalize hb:Nat.beq args.length ps.length=b at hsp
 cases b with
 |false=>cases hsp
 |true =>
  simp only[jE] at hsp
  split at hsp
  ·rename_i x hx
   refine (h (m x)).2 args co ?_ hok
   unfold fnSpec
   rw[hb,jE,hx]
   exact hsp
  ·cases hsp
@[reducible] def vI:Sh:=.val (.int .i64)
@[reducible] def vB:Sh:=.val .bool
@[reducible] def vS:Sh:=.val .str
def ex (k:Nat)(g:Option Bool)(l:List (Nat×Sh))(v:zB7 l):Comp:=⟨k,g,xL9 l v++yU3⟩
@[reducible] def Cx (tys:List (Nat×Ty)) (fns:List (Nat×Spec)) (loops:List (Nat×(St→Option Out))) (gh:List (Nat×List (Nat×Nat×Nat×Nat))) (wrap:Bool) (n:Nat) (keep wr:List Nat):Ctx:=
 {tys,fns,loops,gh,wrap,n,keep,wr }
theorem xX9 (hc:CtxOk P c)(hm:P.follows .mixedOrders=true){body:Code}{sp:St→Option Out}{ly lx:List (Nat×Sh)}{g:zB7 ly→zB7 lx→Bool}{next:zB7 ly→zB7 lx→zB7 lx}{ok:zB7 ly→zB7 lx→Prop}{es:zB7 ly→zB7 lx→List Comp}
  (hs:sp=xP4 ly lx g next ok es) (les:List (List (Nat×Sh))){bs:List Code}(hb:zF6 body=bs) (hL:zS8 P c bs) (hw:zE3 c.keep body=true) (hl:look (fun _=>none) c.loops (zE4 body)=sp)
  (hsum:∀ y x,yL6 c body ly lx les y x=some (ok y x,g y x,y,next y x,es y x)):yU8 P c body:=by
 subst hs
 exact xP7 hc hm hb hL hw hl hsum
def xV2 (fn:Func)(c:Ctx)(ps:List (Nat×Sh))(os:List (Nat×Sh)):Bool:=
 fn.body.isSome&&(!(fn.name=="runtime.NumGoroutine")&&(Nat.beq fn.ntmps c.n&&(zE3 c.keep (fn.body.getD .skip)&&(xS5 0 ps&&xU9 ps c.keep os&&Nat.ble ps.length c.n))))
theorem xY (hc:CtxOk P c)(hm:P.follows .mixedOrders=true){f:Nat}{fn:Func}(hf:P.funcs[f]?=some fn){ps:List (Nat×Sh)}{rs:Sh}{os:List (Nat×Sh)}{ok:zB7 ps→Prop}{F:zB7 ps→rs.den}{o:zB7 ps→yA os}
  (hk:xV2 fn c ps os=true){bs:List Code}(hbs:zF6 (fn.body.getD .skip)=bs) (hL:zS8 P c bs) (hsum:∀ x,xC4 c (fn.body.getD .skip) fn.results.toList ps rs os x=some (ok x,F x,o x)):SpecOk P f (fnSpec ps rs os ok F o):=by
 simp only[xV2,jB,jK,beq_eq_false_iff_ne,ne_eq] at hk
 obtain⟨h1,h2,h3,h4,h5⟩:=hk
 obtain⟨code,hb⟩:=Option.isSome_iff_exists.1 h1
 rw[hb,Option.getD_some] at h4 hbs hsum
 exact xP8 hc hm hf hb h2 (jC h3) hbs hL h4 (by simpa only[jB] using h5) rfl hsum
def xY0 (k:IntKind)(a b:Int):Int:=yB7 k (fun x y=>x &&& y) a b
def ior (k:IntKind)(a b:Int):Int:=yB7 k (fun x y=>x ||| y) a b
def xY1 (a b:Int)(n:Nat):Int:=a.fdiv (2 ^ (min b.toNat n))
def nth {α:Type}(l:List α)(i:Int)(d:α):α:=l.getD i.toNat d
def InB (i n:Int):Prop:=0≤i∧i<n
def len {α:Type}(l:List α):Int:=(l.length:Int)
def xX4 (s:List UInt8)(i:Int):Int:=((s.getD i.toNat 0).toNat:Int)
end Go.Am
namespace Go.Am
open Go Go.RowKit
variable {gtab:GlobTab}{P:Program}
def yX5:List AVal→Option (List Prop×AVal)
 |[.val (.int .u64) x,.val (.int .u64) y,.val (.int .u64) c] =>
  some ([0≤c∧c≤1],.tup (.cons (.val (.int .u64) (((Int.toNat x+Int.toNat y+Int.toNat c) % 18446744073709551616:Nat):Int)) (.cons (.val (.int .u64) (((Int.toNat x+Int.toNat y+Int.toNat c) / 18446744073709551616:Nat):Int)) .nl)))
 |_=>none
def zZ0:List AVal→Option (List Prop×AVal)
 |[.val .str s,.val (.int .u8) c]=>some ([],.val (.int .i64) (Lib.indexByte s (Int.toNat c).toUInt8))
 |_=>none
theorem xP9 {G:Gh}{w:World}{tm:Array Value}{A B:AVal}{vals:List Value}(h:zG (zA G w tm none) [A,B] vals):∃ u v,vals=[u,v]∧zA G w tm none A u∧zA G w tm none B v:=by
 match vals,h with
 |[u,v],h=>simp only[zG] at h;exact⟨u,v,rfl,h.1,h.2.1⟩
 |[],h=>simp[zG] at h
 |[_],h=>simp[zG] at h
 |_::_::_::_,h=>simp[zG] at h
theorem xC5 {G:Gh}{w:World}{tm:Array Value}{A B C:AVal}{vals:List Value}(h:zG (zA G w tm none) [A,B,C] vals):∃ u v x,vals=[u,v,x]∧zA G w tm none A u∧zA G w tm none B v∧zA G w tm none C x:=by
 match vals,h with
 |[u,v,x],h=>simp only[zG] at h;exact⟨u,v,x,rfl,h.1,h.2.1,h.2.2.1⟩
 |[],h=>simp[zG] at h
 |[_],h=>simp[zG] at h
 |[_,_],h=>simp[zG] at h
 |_::_::_::_::_,h=>simp[zG] at h
theorem xQ7 {f:Nat}{fn:Func}(hf:P.funcs[f]?=some fn)(hname:(fn.name=="runtime.NumGoroutine")=false) (hb:fn.body.isNone=true) (hn:(Extern.findNext fn).isNone=true)
  (he:Extern.find fn=some Extern.BytealgIndexByte.indexByte):xG1 P f zZ0:=by
 intro args p A h _ G w tm vals hv
 unfold zZ0 at h
 split at h
 ·simp only[jA,jG] at h
  obtain⟨rfl,rfl⟩:=h
  obtain⟨u,v,rfl,h1,h2⟩:=xP9 hv
  simp only[zA] at h1 h2
  rw[VRep_str] at h1
  rw[VRep_int] at h2
  subst h1;subst h2
  refine⟨_,?_,zC7⟩
  rw[run_callFunc_extern hf hname hb (Option.isNone_iff_eq_none.1 hn) he,Lib.run_indexByteString]
  rfl
 ·cases h
theorem xW4 {f:Nat}{fn:Func}(hf:P.funcs[f]?=some fn)(hname:(fn.name=="runtime.NumGoroutine")=false) (hb:fn.body.isNone=true) (hn:(Extern.findNext fn).isNone=true)
  (he:Extern.find fn=some add64Entry):xG1 P f yX5:=by
 intro args p A h hp G w tm vals hv
 unfold yX5 at h
 split at h
 ·rename_i x y c
  simp only[jA,jG] at h
  obtain⟨rfl,rfl⟩:=h
  have hc:(0:Int)≤c∧(c:Int)≤1:=hp _ (jQ ..)
  obtain⟨u,v,q,rfl,h1,h2,h3⟩:=xC5 hv
  simp only[zA] at h1 h2 h3
  rw[VRep_int] at h1 h2 h3
  subst h1;subst h2;subst h3
  refine⟨Extern.MathBitsCarry.pair ((Int.toNat x+Int.toNat y+Int.toNat c) % Extern.MathBitsCarry.m64) ((Int.toNat x+Int.toNat y+Int.toNat c) / Extern.MathBitsCarry.m64),?_,?_⟩
  ·rw[run_callFunc_extern hf hname hb (Option.isNone_iff_eq_none.1 hn) he]
   have key:∀ k:Nat,k≤1→(add64Entry #[.int .u64 x,.int .u64 y,.int .u64 (k:Int)]).run P w =
     .ok (Extern.MathBitsCarry.pair ((Int.toNat x+Int.toNat y+k) % Extern.MathBitsCarry.m64) ((Int.toNat x+Int.toNat y+k) / Extern.MathBitsCarry.m64)) w:=by
    intro k hk
    have:k=0∨k=1:=by omega
    rcases this with rfl|rfl<;>rfl
   obtain⟨k,hk⟩:=Int.eq_ofNat_of_zero_le hc.1
   have h0:c=((k:Nat):Int):=hk
   have hk1:k≤1:=by
    have h1:=hc.2
    rw[h0] at h1
    exact Int.ofNat_le.1 h1
   rw[h0]
   show ((add64Entry #[.int .u64 x,.int .u64 y,.int .u64 (k:Int)]).run P w).andThen _=_
   rw[key k hk1]
   rfl
  ·simp only[zA,Extern.MathBitsCarry.pair,Extern.MathBitsCarry.m64]
   exact⟨_,[_],rfl,zC7 (s:=none) (tm:=tm),_,[],rfl,zC7 (s:=none) (tm:=tm),rfl⟩
 ·cases h
end Go.Am
namespace Go.Am
open Go
instance (r:Int):Decidable (InR r):=inferInstanceAs (Decidable (_∧_))
instance (i n:Int):Decidable (InB i n):=inferInstanceAs (Decidable (_∧_))
def xK6 {X:Type}(g:X→Bool)(next:X→X)(okb:X→Bool):Nat→X→Bool
 |0,_=>false
 |k+1,x=>okb x&&(bif g x then xK6 g next okb k (next x) else true)
theorem xQ {X:Type}{g:X→Bool}{next:X→X}{ok:X→Prop}{okb:X→Bool}(h:∀ x,okb x=true↔ok x):∀ {F:Nat}{x:X},xK6 g next okb F x=true↔∃ k,k<F∧Runs g next ok k x:=by
 intro F
 induction F with
 |zero=>intro x;simp[xK6]
 |succ F ih =>
  intro x
  simp only[xK6,jB,h]
  cases hg:g x with
  |false =>
   simp only[jD,and_true]
   constructor
   ·intro hx;exact⟨0,by omega,hx,hg⟩
   ·rintro⟨k,_,hr⟩
    cases k with
    |zero=>exact hr.1
    |succ k=>exact hr.1
  |true =>
   simp only[jE,ih]
   constructor
   ·rintro⟨hx,k,hk,hr⟩;exact⟨k+1,by omega,hx,hg,hr⟩
   ·rintro⟨k,hk,hr⟩
    cases k with
    |zero=>rw[hr.2] at hg;cases hg
    |succ k=>exact⟨hr.1,k,by omega,hr.2.2⟩
instance {X:Type}{g:X→Bool}{next:X→X}{ok:X→Prop}[inst:∀ x,Decidable (ok x)] (x:X):Decidable (Am.Ends g next ok x):=
 decidable_of_iff (xK6 g next (fun x=>decide (ok x)) zI1 x=true) (xQ fun x=>by simp)
end Go.Am
namespace Go.Am
open Go Go.RowKit
variable {gtab:GlobTab}{P:Program}{w:World}{χ:Nat→Nat→Nat}
def Ty.deep:Ty→Bool
 |.ptr _=>false|.cons h t=>h.deep&&t.deep|.st f=>f.deep|.arr _ t=>t.deep|.sl t=>Nat.blt 0 t.size&&t.deep|_=>true
def Ty.wf:(τ:Ty)→τ.den→Prop
 |.int k,x=>k.min≤x∧x≤k.max
 |.bool,_=>True
 |.str,s=>List.length (α:=UInt8) s≤maxLen
 |.nl,_=>True
 |.cons h t,x=>h.wf x.1∧t.wf x.2
 |.st f,x=>f.wf x
 |.arr n t,l=>List.length (α:=t.den) l=n∧∀ y∈(l:List t.den),t.wf y
 |.sl t,l=>List.length (α:=t.den) l≤maxLen∧∀ y∈(l:List t.den),t.wf y
 |.ptr t,x=>t.wf x
theorem xC6 {f:Nat→Value}(sz:Nat):∀ n,(List.range n).flatMap (fun i=>(List.range sz).map fun k=>f (i*sz+k))=(List.range (n*sz)).map f:=by
 intro n
 induction n with
 |zero=>simp
 |succ n ih=>rw[List.range_succ,List.flatMap_append,ih,Nat.succ_mul,List.range_add,List.map_append];simp
theorem xK7 {cs:List Value}(sz:Nat):∀ n,(List.range n).flatMap (fun i=>(cs.drop (i*sz)).take sz)=cs.take (n*sz):=by
 intro n
 induction n with
 |zero=>simp
 |succ n ih=>rw[List.range_succ,List.flatMap_append,ih,Nat.succ_mul,List.take_add];simp
theorem zM7 {τ:Ty}{T:Nat}(h:zC0 P τ (.inl T)=true):P.cellsOf T=τ.size:=by
 obtain⟨⟨i,z,hi,hs,_⟩,_⟩:=zF5 h
 simp[Program.cellsOf,hi,hs]
theorem cells?_is {a:Addr}{n:Nat}{cs:List Value}(h:w.cells? 0 a n=some cs):cs=(List.range n).map (fun k=>(w.cell? (a.add k)).getD undef)∧∀ k,k<n→∃ v,w.cell? (a.add k)=some v:=by
 simp only[World.cells?,Nat.zero_le,if_true] at h
 generalize hf:(fun i=>w.cell? (a.add i))=f at h
 have key:∀ (l:List Nat) (cs:List Value),l.mapM f=some cs→cs=l.map (fun k=>(f k).getD undef)∧∀ k∈l,∃ v,f k=some v:=by
  intro l
  induction l with
  |nil=>intro cs h;simp at h;subst h;exact⟨rfl,fun k h=>(by cases h)⟩
  |cons x l ih =>
   intro cs h
   simp only[List.mapM_cons,Option.bind_eq_bind,Option.bind_eq_some_iff,Option.pure_def,jA] at h
   obtain⟨y,hy,ys,hys,rfl⟩:=h
   obtain⟨h1,h2⟩:=ih ys hys
   refine⟨by simp[hy,h1],fun k hk=>?_⟩
   rcases List.mem_cons.1 hk with rfl|hk
   ·exact⟨y,hy⟩
   ·exact h2 k hk
 have:=key _ _ h
 subst hf
 exact⟨this.1,fun k hk=>this.2 k (List.mem_range.2 hk)⟩
theorem xK8 (a:Addr)(m k:Nat):(a.add m).add k=a.add (m+k):=by
 by_cases hm:m=0
 ·subst hm;simp[Addr.add]
 ·by_cases hk:k=0
  ·subst hk;simp[Addr.add]
  ·simp[Addr.add,hm,hk,Nat.add_assoc]
theorem yQ5 {a:Addr}{v:Value}(h:w.cell? a=some v):a.spot=none∧a.block<w.heap.size:=by
 unfold World.cell? at h
 split at h
 ·rename_i c _ _ hb
  split at h
  ·cases h
  ·rename_i hs
   refine⟨by simpa using hs,zE8 hb⟩
 ·cases h
section
variable {H:Type}{enc:TypeId×Value→H}{sp:Nat→Bool}{held:Bool}
end
end Go.Am
namespace Go.Am
open Go Go.RowKit Go.ChangeShapes
variable {gtab:GlobTab}{P:Program}{w:World}
def enumSh:Nat→List Ty→List (Nat×Sh)
 |_,[]=>[]
 |i,τ::r=>(i,.val τ)::enumSh (i+1) r
def mkA:(i:Nat)→(τs:List Ty)→zB7 (enumSh i τs)→List AVal
 |_,[],_=>[]
 |i,τ::r,x=>.val τ x.1::mkA (i+1) r x.2
def wfL:(i:Nat)→(τs:List Ty)→zB7 (enumSh i τs)→Prop
 |_,[],_=>True
 |i,τ::r,x=>τ.wf x.1∧wfL (i+1) r x.2
def zV7 (P:Program):List Ty→List TypeId→Bool
 |[],[]=>true
 |τ::r,T::s=>zC0 P τ (.inl T)&&τ.deep&&zV7 P r s
 |_,_=>false
theorem beq_refl:∀ τ:Ty,Ty.beq τ τ=true:=by
 intro τ
 induction τ with
 |int k=>simp[Ty.beq]
 |cons a b ha hb=>simp[Ty.beq,ha,hb]
 |st f h=>simpa[Ty.beq] using h
 |arr n t h=>simpa[Ty.beq] using h
 |sl t h=>simpa[Ty.beq] using h
 |ptr t h=>simpa[Ty.beq] using h
 |_=>rfl
theorem yQ6 {τ:Ty}{x:τ.den}:Ty.cast τ x=some x:=by
 unfold Ty.cast
 split
 ·rfl
 ·rename_i h;rw[beq_refl] at h;cases h
theorem xK9:∀ {τs:List Ty}{i:Nat}{x:zB7 (enumSh i τs)}{S:St},(∀ k,(mkA i τs x)[k]?=none∨(mkA i τs x)[k]?=some (S.get (i+k)))→(∀ τ∈τs,τ.isL=false)→zC6 (enumSh i τs) S=some x:=by
 intro τs
 induction τs with
 |nil=>intro i x S _ _;rfl
 |cons τ r ih =>
  intro i x S h hl
  simp only[enumSh,zC6]
  have h0:=h 0
  simp only[mkA,List.getElem?_cons_zero,Nat.add_zero] at h0
  rcases h0 with h0|h0
  ·cases h0
  ·injection h0 with h0
   rw[← h0]
   have hx:(Sh.val τ).parse (.val τ x.1)=some x.1:=by
    simp only[Sh.parse,hl τ (jQ ..),jD,AVal.as,AVal.asT,yQ6]
   have hr:=ih (i:=i+1) (x:=x.2) (S:=S) (fun k=>by
    have:=h (k+1)
    simp only[mkA,List.getElem?_cons_succ] at this
    rw[show i+1+k=i+(k+1) by omega];exact this) fun τ hτ=>hl τ (jP _ hτ)
   rw[hx,hr]
   rfl
theorem xC7:∀ {τs:List Ty}{i:Nat}{x:zB7 (enumSh i τs)},(mkA i τs x).length=τs.length∧(enumSh i τs).length=τs.length:=by
 intro τs
 induction τs with
 |nil=>intro i x;exact⟨rfl,rfl⟩
 |cons τ r ih=>intro i x;simp[mkA,enumSh,(ih (i:=i+1) (x:=x.2)).1,(ih (i:=i+1) (x:=x.2)).2]
theorem yU9:∀ {τs:List Ty}{Ts:List TypeId},zV7 P τs Ts=true→∀ τ∈τs,τ.isL=false:=by
 intro τs
 induction τs with
 |nil=>intro Ts _ τ h;cases h
 |cons σ r ih =>
  intro Ts h τ hτ
  cases Ts with
  |nil=>simp[zV7] at h
  |cons T s =>
   simp only[zV7,jB] at h
   rcases List.mem_cons.1 hτ with rfl|hτ
   ·exact zC4 h.1.1
   ·exact ih h.2 τ hτ
section
variable {H:Type}{enc:TypeId×Value→H}
theorem xS7 {τ:Ty}{T:TypeId}{v:Value}(hT:zC0 P τ (.inl T)=true)(ha:τ.isAgg=false)(hd:τ.deep=true){base:Nat}(h:Value.okWide P w .any base T v):∀ cs,v≠.agg cs:=by
 intro cs e
 subst e
 obtain⟨_,hu⟩:=zF5 hT
 unfold Value.okWide at h
 cases τ with
 |st f=>simp[Ty.isAgg] at ha
 |arr n t=>simp[Ty.isAgg] at ha
 |ptr t=>simp[Ty.deep] at hd
 |nl=>simp[zC0] at hT
 |cons a b=>simp[zC0] at hT
 |int k =>
  have hu:P.underlying T=some (.int k):=by
   simp only[zC0,jB] at hT
   cases hu:P.underlying T with
   |none=>simp[hu] at hT
   |some d=>rw[hu] at hT;cases d<;>simp at hT;rw[zH7 hT.1]
  rw[hu] at h
  simp[Cell.okWide,Cell.ok,hu] at h
 |bool =>
  have hu:P.underlying T=some .bool:=by
   simp only[zC0,jB] at hT
   cases hu:P.underlying T with
   |none=>simp[hu] at hT
   |some d=>rw[hu] at hT;cases d<;>simp at hT;rfl
  rw[hu] at h
  simp[Cell.okWide,Cell.ok,hu] at h
 |str =>
  have hu:=zJ3 hT
  rw[hu] at h
  simp[Cell.okWide,Cell.ok,hu] at h
 |sl t =>
  obtain⟨e,hu,_⟩:=zG1 hT
  rw[hu] at h
  simp[Cell.okWide,Cell.ok,hu] at h
theorem xV3 {τ:Ty}{T:TypeId}{v:Value}(hT:zC0 P τ (.inl T)=true)(ha:τ.isAgg=true){base:Nat}(h:Value.okWide P w .any base T v):∃ cs,v=.agg cs:=by
 unfold Value.okWide at h
 cases τ with
 |st f=>obtain⟨fs,hu,_⟩:=zP7 hT;rw[hu] at h;obtain⟨cs,h,_⟩:=h;exact⟨cs,h⟩
 |arr n t=>obtain⟨e,hu,_⟩:=zN hT;rw[hu] at h;obtain⟨cs,h,_⟩:=h;exact⟨cs,h⟩
 |_=>simp[Ty.isAgg] at ha
end
theorem below_trods {H:Type}{enc:TypeId×Value→H}(hl:laidOutB P=true):∀ {Ts:List TypeId}{vs:List Value}{ds:List (DataW H)}{ps:List MemPlace}{W W':World}{sp:Nat→Bool},Ts.all (fun t=>P.readableRec t&&Nat.blt t P.types.size)=true →
  DataW.TrodAll enc P W 0 (fun _=>true) true Ts vs ds ps→Below W.heap.size W W'→(∀ x∈ps,x.block<W.heap.size)→(∀ p∈ps,sp p.block=true)→DataW.TrodAll enc P W' 0 sp true Ts vs ds ps:=by
 intro Ts
 induction Ts with
 |nil=>intro vs ds ps W W' sp _ h _ _ _;cases vs<;>cases ds<;>simp_all [DataW.TrodAll]
 |cons T s ih =>
  intro vs ds ps W W' sp ht h hb hlt hsp
  cases vs with
  |nil=>simp[DataW.TrodAll] at h
  |cons v vs =>
   cases ds with
   |nil=>simp[DataW.TrodAll] at h
   |cons d ds =>
    simp only[List.all_cons,jB] at ht
    simp only[DataW.TrodAll] at h ⊢
    obtain⟨p,q,h1,h2,rfl⟩:=h
    refine⟨p,q,WideElems.Trod_stays hl ht.1.1 (Nat.blt_eq.mp ht.1.2) h1 (fun x hx=>hb.same (hlt x (List.mem_append_left _ hx))) (fun x hx=>hsp x (List.mem_append_left _ hx)),?_,rfl⟩
    exact ih ht.2 h2 hb (fun x hx=>hlt x (List.mem_append_right _ hx)) (fun x hx=>hsp x (List.mem_append_right _ hx))
theorem trod_len3 {H:Type}{enc:TypeId×Value→H}{T0 T1 T2:TypeId}{vs:List Value}{ds:List (DataW H)}{ps:List MemPlace}{sp:Nat→Bool}{hd:Bool}(h:DataW.TrodAll enc P w 0 sp hd [T0,T1,T2] vs ds ps):∃ d0 d1 d2,ds=[d0,d1,d2]:=by
 obtain⟨v,vs1,d,ds1,a,b,rfl,rfl,rfl,h1,h2⟩:=trodAll_cons h
 obtain⟨v,vs1,d',ds1,a,b,rfl,rfl,rfl,h1,h2⟩:=trodAll_cons h2
 obtain⟨v,vs1,d'',ds1,a,b,rfl,rfl,rfl,h1,h2⟩:=trodAll_cons h2
 obtain⟨rfl,rfl,rfl⟩:=trodAll_nil h2
 exact⟨d,d',d'',rfl⟩
theorem post_law {H:Type}{enc:TypeId×Value→H}{f:Func}{s:ChangeSpec}{W W':World}{args:Array Value}{v:Value}{ds gs:List (DataW H)}{before pa pv:List MemPlace}
  (hW:DataW.Whole enc P f.params.toList s.vars false W args.toList ds gs before)
  (hres:∀ (b:Nat) (sp:Nat→Bool) (hd:Bool),DataW.TrodAll enc P W' b sp hd f.resultTypes.toList (v.resultList f.resultTypes.size) (s.fn H (ds++gs)).results [])
  (hargs:∀ sp:Nat→Bool,(∀ p∈before,sp p.block=true)→DataW.TrodAll enc P W' 0 sp true f.params.toList args.toList (s.fn H (ds++gs)).args pa)
  (hvars:∀ sp:Nat→Bool,(∀ p∈before,sp p.block=true)→DataW.TrodVars enc P W' sp s.vars (s.fn H (ds++gs)).vars pv)
  (hps:before=pa++pv) (hk:W.keptBut W' (·∈before)):s.post enc P f false true false false W args v W':=by
 have hold:∀ p∈before,(fun b=>decide (b<W.heap.size)) p.block=true:=fun p hp=>by simpa using hW.lt p hp
 refine⟨ds,gs,before,[],pa,pv,hW,hres _ _ _,hargs _ hold,hvars _ hold,World.keptBut_mono (fun p hp=>⟨hp,?_⟩) hk,fun h=>by cases h⟩
 rw[hps,List.mem_append] at hp
 exact Or.inr hp
def zeroV (P:Program)(T:TypeId):Value:=((P.info? T).bind (·.zero)).getD undef
def xX5:DataW Unit→Value
 |.lit (.int k n)=>.int k n
 |_=>undef
def flat1:DataW Unit→List Value
 |.agg l=>l.map xX5
 |.lit (.int k n)=>[.int k n]
 |_=>[]
def flat2:DataW Unit→List Value
 |.agg l=>l.flatMap flat1
 |_=>[]
def putG (h:Array Obj)(g:Nat)(cs:List Value):Array Obj:=h.modify g fun
 |.cells _ t frozen=>.cells cs.toArray t frozen
 |o=>o
def rangeLen:DataW Unit→Nat
 |.ptr (.agg (.slice l _::_))=>l.length
 |_=>0
def rangeLatin:DataW Unit→Value
 |.ptr (.agg [_,_,d])=>xX5 d
 |_=>undef
def rangeCells:DataW Unit→List Value
 |.ptr (.agg (.slice l _::_))=>l.flatMap flat1
 |_=>[]
end Go.Am
namespace Go.Am
open Go
theorem xQ0 {X:Type}{g:X→Bool}{next:X→X}(inv:X→Prop)(m:X→Nat)(hstep:∀ x,inv x→g x=true→inv (next x)∧m (next x)<m x) :
  ∀ {x:X},inv x→m x<zI1→inv (zC3 g next x)∧g (zC3 g next x)=false:=by
 have key:∀ (F:Nat) (x:X),inv x→m x<F→inv (loopN g next F x)∧g (loopN g next F x)=false:=by
  intro F
  induction F with
  |zero=>intro x _ h;omega
  |succ F ih =>
   intro x hx hm
   simp only[loopN]
   cases hg:g x with
   |false=>simp only[jD];exact⟨hx,hg⟩
   |true =>
    simp only[jE]
    have:=hstep x hx hg
    exact ih _ this.1 (by omega)
 intro x hx hm
 exact key zI1 x hx hm
theorem xQ1 {X:Type}{g:X→Bool}{next:X→X}{ok:X→Prop}(inv:X→Prop)(m:X→Nat)(hok:∀ x,inv x→ok x)(hstep:∀ x,inv x→g x=true→inv (next x)∧m (next x)<m x) :
  ∀ {x:X},inv x→m x<zI1→Am.Ends g next ok x:=by
 have key:∀ (F:Nat) (x:X),inv x→m x<F→∃ k,k<F∧Runs g next ok k x:=by
  intro F
  induction F with
  |zero=>intro x _ h;omega
  |succ F ih =>
   intro x hx hm
   cases hg:g x with
   |false=>exact⟨0,by omega,hok x hx,hg⟩
   |true =>
    have:=hstep x hx hg
    obtain⟨k,hk,hr⟩:=ih _ this.1 (by omega)
    exact⟨k+1,by omega,hok x hx,hg,hr⟩
 intro x hx hm
 exact key zI1 x hx hm
theorem xY2 {g:Int×Unit→Bool}{next:Int×Unit→Int×Unit}{n:Int}{c:Int→Bool}(hn0:0≤n)(hn:n<9223372036854775808)(hg:∀ x,g x=(decide (x.1<n)&&!(c x.1)))(hx:∀ x,next x=(x.1+1,())) :
  ∃ j,0≤j∧j≤n∧zC3 g next (0,())=(j,())∧(∀ k,0≤k→k<j→c k=false)∧(j<n→c j=true):=by
 have h:=xQ0 (g:=g) (next:=next) (fun x=>0≤x.1∧x.1≤n∧∀ k,0≤k→k<x.1→c k=false) (fun x=>(n-x.1).toNat) (fun x hi hgx=>by
  rw[hg] at hgx
  simp only[jB,decide_eq_true_eq,jK] at hgx
  rw[hx]
  refine⟨⟨by omega,by omega,fun k h1 h2=>?_⟩,by simp only;omega⟩
  by_cases e:k=x.1
  ·rw[e];exact hgx.2
  ·exact hi.2.2 k h1 (by simp only at h2;omega)) (x:=(0,())) ⟨by simp,hn0,fun k h1 h2=>by simp only at h2;omega⟩ (by simp only[zI1];omega)
 generalize hj:zC3 g next (0,())=e at h
 obtain⟨⟨h1,h2,h3⟩,h4⟩:=h
 refine⟨e.1,h1,h2,rfl,h3,fun hlt=>?_⟩
 rw[hg] at h4
 simp only[Bool.and_eq_false_iff,decide_eq_false_iff_not,Bool.not_eq_false'] at h4
 rcases h4 with h4|h4
 ·exact absurd hlt h4
 ·exact h4
theorem xV4 {g:Int×Unit→Bool}{next:Int×Unit→Int×Unit}{ok:Int×Unit→Prop}{n:Int}(hn0:0≤n)(hn:n<9223372036854775808)(hg:∀ x,g x=true→x.1<n)(hx:∀ x,next x=(x.1+1,()))
  (hok:∀ x:Int×Unit,0≤x.1→x.1≤n→ok x):Am.Ends g next ok (0,()):=
 xQ1 (fun x=>0≤x.1∧x.1≤n) (fun x=>(n-x.1).toNat) (fun x h=>hok x h.1 h.2) (fun x hi hgx=>by
  have:=hg x hgx
  rw[hx]
  refine⟨⟨by simp only;omega,by simp only;omega⟩,by simp only;omega⟩) ⟨by simp,hn0⟩ (by simp only[zI1];omega)
theorem xT7 {α:Type}(l:List α):0≤len l:=by simp[len]
end Go.Am
namespace Go.Am
open Go Go.RowKit
variable {gtab:GlobTab}{P:Program}
theorem xV5 {f:Nat}{t:Ty}{rs:Sh}{o0:zB7 [(0,Sh.nn true)]→yA []}{o1:zB7 [(0,Sh.nn false)]→yA []}{o2:zB7 [(0,Sh.val (.sl t))]→yA []}{ok0:zB7 [(0,Sh.nn true)]→Prop}{ok1:zB7 [(0,Sh.nn false)]→Prop}{ok2:zB7 [(0,Sh.val (.sl t))]→Prop}
  {F0:zB7 [(0,Sh.nn true)]→rs.den}{F1:zB7 [(0,Sh.nn false)]→rs.den}{F2:zB7 [(0,Sh.val (.sl t))]→rs.den}(h0:SpecOk P f (fnSpec [(0,.nn true)] rs [] ok0 F0 o0)) (h1:SpecOk P f (fnSpec [(0,.nn false)] rs [] ok1 F1 o1))
  (h2:SpecOk P f (fnSpec [(0,.val (.sl t))] rs [] ok2 F2 o2)){F:List t.den→rs.den}{ok:List t.den→Prop}{o:zB7 [(0,Sh.val (.sl t))]→yA []}(hok0:ok0 ((),())) (hok1:ok1 ((),())) (hok2:∀ l:List t.den,ok l→0<l.length→ok2 (l,()))
  (e0:F []=F0 ((),())) (e1:F []=F1 ((),())) (e2:∀ l:List t.den,F l=F2 (l,())) :
  SpecOk P f (fnSpec [(0,.val (.sl t))] rs [] (fun x=>ok x.1) (fun x=>F x.1) o):=by
 refine⟨h0.1,fun args co hsp hok G w vals hlen hglob hreps=>?_⟩
 unfold fnSpec at hsp
 generalize hal:Nat.beq args.length _=b at hsp
 cases b with
 |false=>cases hsp
 |true =>
  simp only[jE] at hsp
  split at hsp
  ·rename_i x hx
   injection hsp with hsp
   subst hsp
   have hl:args.length=1:=jC hal
   obtain⟨A,rfl⟩:∃ A,args=[A]:=by
    match args,hl with
    |[A],_=>exact⟨A,rfl⟩
   obtain⟨v,rfl⟩:∃ v,vals=[v]:=by
    match vals,hlen with
    |[v],_=>exact⟨v,rfl⟩
   obtain⟨l,_⟩:=x
   have hp:(Sh.val (.sl t)).parse A=some l:=by
    simp only[zC6,zT6,St.get] at hx
    split at hx
    ·rename_i y z hy _
     simp only[jA,jG] at hx
     rw[← hx.1]
     simpa using hy
    ·cases hx
   have hokl:ok l:=hok _ (jH.2 rfl)
   have hA:=zE2 hp (hreps 0 A v rfl rfl)
   simp only[Sh.mk,zA] at hA
   rw[zC1 rfl] at hA
   have hC:=hA
   simp only[zB0] at hA
   obtain⟨a,cap,hv,hA⟩:=hA
   injection hv with hv _
   have run:∀ {s:Sh}{y:s.den}{ok':zB7 [(0,s)]→Prop}{F':zB7 [(0,s)]→rs.den}{o':zB7 [(0,s)]→yA []},SpecOk P f (fnSpec [(0,s)] rs [] ok' F' o')→(∀ S:St,s.parse (s.mk y)=some y)→ok' (y,())→F l=F' (y,())→zA G w #[] (some 0) (s.mk y) v →
     Calls P f [v].toArray w fun e w'=>∃ v' G',e=.returned v'∧Frame0 G.χ w G'.χ w'∧zA G' w' #[] none (rs.mk (F l)) v' ∧
      (∀ (i:Nat) k A' u,(i,k)∈mkO [] (o (l,()))→[A][i]?=some A'→[v][i]?=some u→(∀ τ k0,A'=.box τ k0→zA G' w' #[] (some i) (.box τ k) u∧G'.β i=G.β i)∧(zF7 A'=false→zA G' w' #[] none k u)):=by
    intro s y ok' F' o' hs hpar hok' hF' hrep
    have hsp:fnSpec [(0,s)] rs [] ok' F' o' [s.mk y]=some ⟨[ok' (y,())],rs.mk (F' (y,())),mkO [] (o' (y,())),[]⟩:=by
     have:zC6 [(0,s)] (zT6 0 [s.mk y])=some (y,()):=by simp[zC6,zT6,St.get,hpar []]
     unfold fnSpec
     rw[this]
     rfl
    refine (hs.2 _ _ hsp (fun q hq=>by simp only[jH] at hq;subst hq;exact hok') G w [v] rfl hglob (fun i A' v' h1 h2=>?_)).mono ?_
    ·match i,h1,h2 with
     |0,h1,h2=>simp only[List.getElem?_cons_zero,jA] at h1 h2;subst h1;subst h2;exact hrep
     |i+1,h1,_=>simp at h1
    ·rintro e w' ⟨v',G',rfl,q1,q2,_⟩
     exact⟨v',G',rfl,q1,by rw[hF'];exact q2,fun i k A' u h=>by cases h⟩
   rcases hA with hA | ⟨b,o2',us,ha,_⟩
   ·have hl0:l=[]:=hA
    subst hl0
    cases a with
    |none=>exact run (s:=.nn true) (y:=()) h0 (fun _=>rfl) hok0 e0 (by simp only[Sh.mk,zA];exact⟨none,cap,hv,rfl⟩)
    |some ad=>exact run (s:=.nn false) (y:=()) h1 (fun _=>rfl) hok1 e1 (by simp only[Sh.mk,zA];exact⟨some ad,cap,hv,rfl⟩)
   ·have hpos:0<List.length (α:=t.den) l∨l=[]:=by
     cases l with
     |nil=>exact .inr rfl
     |cons _ _=>exact .inl (by simp)
    rcases hpos with hpos|hl0
    ·refine run (s:=.val (.sl t)) (y:=l) h2 (fun _=>?_) (hok2 l hokl hpos) (e2 l) (by simp only[Sh.mk,zA];exact (zC1 rfl).2 hC)
     simp only[Sh.parse,Sh.mk,Ty.isL,jD,AVal.as,AVal.asT]
     exact yQ6
    ·subst hl0
     subst ha
     exact run (s:=.nn false) (y:=()) h1 (fun _=>rfl) hok1 e1 (by simp only[Sh.mk,zA];exact⟨_,cap,hv,rfl⟩)
  ·cases hsp
end Go.Am
namespace Go.Am
open Go Go.RowKit
variable {gtab:GlobTab}{P:Program}{w:World}{χ:Nat→Nat→Nat}
def Ty.bulk:(τ:Ty)→τ.den→Nat
 |.int _,_=>1
 |.bool,_=>1
 |.str,s=>List.length (α:=UInt8) s+1
 |.nl,_=>0
 |.cons h t,x=>h.bulk x.1+t.bulk x.2
 |.st f,x=>f.bulk x+1
 |.arr _ t,l=>(List.map t.bulk l).sum+1
 |.sl t,l=>(List.map t.bulk l).sum+1
 |.ptr _,_=>0
structure BulkFn (H:Type) where
 B:DataW H→Nat
 BA:List (DataW H)→Nat
 str:∀ s,s.length+1≤B (.lit (.string s))
 lit:∀ l,1≤B (.lit l)
 slice:∀ e s,BA e+1≤B (.slice e s)
 agg:∀ p,BA p+1≤B (.agg p)
 nil':1≤B .nil
 cons:∀ d r,B d+BA r≤BA (d::r)
theorem yQ7 {H α γ:Type}{K:BulkFn H}{f:α→Option (DataW H×List MemPlace)}{R:γ→List Value→Prop}{g:α→List Value}{wf:γ→Prop}{bk:γ→Nat}:∀ {l:List α}{ys:List (DataW H×List MemPlace)},l.mapM f=some ys→(∀ x y,x∈l→f x=some y→∃ z,R z (g x)∧wf z∧bk z≤K.B y.1) →
  ∃ zs:List γ,zs.length=l.length∧zJ1 R zs (l.flatMap g)∧(∀ z∈zs,wf z)∧(zs.map bk).sum≤K.BA (ys.map (·.1)):=by
 intro l
 induction l with
 |nil=>intro ys _ _;exact⟨[],rfl,rfl,fun z h=>(by cases h),by simp⟩
 |cons x l ih =>
  intro ys h hf
  simp only[List.mapM_cons,Option.bind_eq_bind,Option.bind_eq_some_iff,Option.pure_def,jA] at h
  obtain⟨y,hy,ys',hys,rfl⟩:=h
  obtain⟨z,h1,h2,h6⟩:=hf x y (jQ ..) hy
  obtain⟨zs,h3,h4,h5,h7⟩:=ih hys fun x y hx=>hf x y (jP _ hx)
  refine⟨z::zs,by simp[h3],⟨g x,l.flatMap g,rfl,h1,h4⟩,fun z' hz=>?_,?_⟩
  ·rcases List.mem_cons.1 hz with rfl|hz
   ·exact h2
   ·exact h5 z' hz
  ·simp only[List.map_cons,List.sum_cons]
   have:=K.cons y.1 (ys'.map (·.1))
   omega
section
variable {H:Type}{enc:TypeId×Value→H}{sp:Nat→Bool}{held:Bool}
theorem xL (K:BulkFn H)(hχ:∀ b o,b<w.heap.size→χ b o=0):∀ τ:Ty,
  (∀ (T zI1:Nat) (cs:List Value) (d:DataW H) (ps:List MemPlace),zC0 P τ (.inl T)=true→τ.deep=true→DataW.trod enc P w 0 sp held zI1 T cs=some (d,ps)→∃ x,zB0 χ w τ x cs∧τ.wf x∧τ.bulk x≤K.B d) ∧
  (∀ (fs:List Field) (o:Nat) (cs:List Value) (zI1:Nat) (xs:List (DataW H×List MemPlace)),zC0 P τ (.inr (fs,o))=true→τ.deep=true→fs.mapM (fun f=>DataW.trod enc P w 0 sp held zI1 f.type ((cs.drop f.offset).take (P.cellsOf f.type)))=some xs→cs.length=o+τ.size →
   ∃ x,zB0 χ w τ x (cs.drop o)∧τ.wf x∧τ.bulk x≤K.BA (xs.map (·.1))):=by
 intro τ
 induction τ with
 |int k =>
  refine⟨fun T zI1 cs d ps hT _ h=>?_,fun fs o cs zI1 xs hT=>by simp[zC0] at hT⟩
  have hu:P.underlying T=some (.int k):=by
   simp only[zC0,jB] at hT
   cases hu:P.underlying T with
   |none=>simp[hu] at hT
   |some d=>rw[hu] at hT;cases d<;>simp at hT;rw[zH7 hT.1]
  cases zI1 with
  |zero=>simp[DataW.trod] at h
  |succ zI1 =>
   unfold DataW.trod at h
   rw[hu] at h
   match cs,h with
   |[.int k' n],h =>
    simp only at h
    split at h
    ·rename_i hc
     obtain⟨rfl,hw⟩:=hc
     simp only[Lit.wf,jB,decide_eq_true_eq] at hw
     simp only[jA,jG] at h
     exact⟨n,by simp only[zB0],hw,by rw[← h.1];exact K.lit _⟩
    ·cases h
 |bool =>
  refine⟨fun T zI1 cs d ps hT _ h=>?_,fun fs o cs zI1 xs hT=>by simp[zC0] at hT⟩
  have hu:P.underlying T=some .bool:=by
   simp only[zC0,jB] at hT
   cases hu:P.underlying T with
   |none=>simp[hu] at hT
   |some d=>rw[hu] at hT;cases d<;>simp at hT;rfl
  cases zI1 with
  |zero=>simp[DataW.trod] at h
  |succ zI1 =>
   unfold DataW.trod at h
   rw[hu] at h
   match cs,h with
   |[.bool b],h =>
    simp only[jA,jG] at h
    exact⟨b,by simp only[zB0],trivial,by rw[← h.1];exact K.lit _⟩
 |str =>
  refine⟨fun T zI1 cs d ps hT _ h=>?_,fun fs o cs zI1 xs hT=>by simp[zC0] at hT⟩
  have hu:=zJ3 hT
  cases zI1 with
  |zero=>simp[DataW.trod] at h
  |succ zI1 =>
   unfold DataW.trod at h
   rw[hu] at h
   match cs,h with
   |[.string b],h =>
    simp only at h
    split at h
    ·rename_i hs
     simp only[jA,jG] at h
     refine⟨b.data.toList,by simp only[zB0],?_,by rw[← h.1];exact K.str _⟩
     show b.data.toList.length≤maxLen
     rw[jN]
     exact hs
    ·cases h
 |nl =>
  refine⟨fun T zI1 cs d ps hT=>by simp[zC0] at hT,fun fs o cs zI1 xs hT _ h hl=>?_⟩
  refine⟨(),?_,trivial,Nat.zero_le _⟩
  simp only[zB0,Ty.size,Nat.add_zero] at hl ⊢
  simp[hl]
 |cons a b iha ihb =>
  refine⟨fun T zI1 cs d ps hT=>by simp[zC0] at hT,fun fs o cs zI1 xs hT hd h hl=>?_⟩
  cases fs with
  |nil=>simp[zC0] at hT
  |cons fd r =>
   simp only[zC0,jB] at hT
   obtain⟨⟨⟨h1,_⟩,h2⟩,h3⟩:=hT
   have ho:=jC h1
   simp only[Ty.deep,jB] at hd
   simp only[Ty.size] at hl
   simp only[List.mapM_cons,Option.bind_eq_bind,Option.bind_eq_some_iff,Option.pure_def,jA] at h
   obtain⟨y,hy,ys,hys,rfl⟩:=h
   obtain⟨x,q1,q2,q5⟩:=iha.1 _ _ _ _ _ h2 hd.1 (show _=some (y.1,y.2) from hy)
   rw[zM7 h2,ho] at q1
   obtain⟨z,q3,q4,q6⟩:=ihb.2 r (o+a.size) cs zI1 ys h3 hd.2 hys (by omega)
   refine⟨(x,z),?_,⟨q2,q4⟩,by simp only[Ty.bulk,List.map_cons];have:=K.cons y.1 (ys.map (·.1));omega⟩
   simp only[zB0]
   refine⟨_,_,?_,q1,q3⟩
   rw[← List.drop_drop,List.take_append_drop]
 |st f ih =>
  refine⟨fun T zI1 cs d ps hT hd h=>?_,fun fs o cs zI1 xs hT=>by simp[zC0] at hT⟩
  obtain⟨fs,hu,hf⟩:=zP7 hT
  have hsz:=zM7 hT
  cases zI1 with
  |zero=>simp[DataW.trod] at h
  |succ zI1 =>
   unfold DataW.trod at h
   rw[hu] at h
   simp only at h
   split at h
   ·rename_i hl
    simp only[Option.map_eq_some_iff] at h
    obtain⟨xs,hxs,he⟩:=h
    obtain⟨x,h1,h2,h3⟩:=ih.2 fs.toList 0 cs zI1 xs hf (by simpa only[Ty.deep] using hd) hxs (by rw[hl,hsz];simp[Ty.size])
    simp only[jG] at he
    exact⟨x,by simpa only[zB0,List.drop_zero] using h1,h2,by rw[← he.1];have:=K.agg (xs.map (·.1));simp only[Ty.bulk];omega⟩
   ·cases h
 |arr n t ih =>
  refine⟨fun T zI1 cs d ps hT hd h=>?_,fun fs o cs zI1 xs hT=>by simp[zC0] at hT⟩
  obtain⟨e,hu,hf⟩:=zN hT
  have hsz:=zM7 hT
  have hse:=zM7 hf
  cases zI1 with
  |zero=>simp[DataW.trod] at h
  |succ zI1 =>
   unfold DataW.trod at h
   rw[hu] at h
   simp only at h
   split at h
   ·rename_i hl
    simp only[Option.map_eq_some_iff] at h
    obtain⟨xs,hxs,he⟩:=h
    obtain⟨zs,h1,h2,h3,h4⟩:=yQ7 (K:=K) (R:=zB0 χ w t) (g:=fun i=>(cs.drop (i*t.size)).take t.size) (wf:=t.wf) (bk:=t.bulk) hxs (fun i y _ hy=>by
     rw[hse] at hy
     exact ih.1 _ _ _ _ _ hf (by simpa only[Ty.deep] using hd) (show _=some (y.1,y.2) from hy))
    rw[xK7] at h2
    simp only[List.length_range] at h1
    rw[List.take_of_length_le (by rw[hl,hsz];simp[Ty.size])] at h2
    simp only[jG] at he
    exact⟨zs,by simp only[zB0];exact⟨h1,h2⟩,⟨h1,h3⟩,by rw[← he.1];have:=K.agg (xs.map (·.1));simp only[Ty.bulk];omega⟩
   ·cases h
 |sl t ih =>
  refine⟨fun T zI1 cs d ps hT hd h=>?_,fun fs o cs zI1 xs hT=>by simp[zC0] at hT⟩
  obtain⟨e,hu,hf⟩:=zG1 hT
  have hse:=zM7 hf
  cases zI1 with
  |zero=>simp[DataW.trod] at h
  |succ zI1 =>
   unfold DataW.trod at h
   rw[hu] at h
   match cs,h with
   |[.slice none 0 0],h =>
    simp only[jA,jG] at h
    exact⟨[],by simp only[zB0];exact⟨none,0,rfl,.inl trivial⟩,by simp[Ty.wf],by rw[← h.1];simpa[Ty.bulk] using K.nil'⟩
   |[.slice (some a) ln cap],h =>
    simp only at h
    split at h
    ·rename_i hc
     simp only[Option.bind_eq_some_iff] at h
     obtain⟨els,hels,hrest⟩:=h
     simp only[Option.map_eq_some_iff] at hrest
     obtain⟨rest,_,he⟩:=hrest
     simp only[jG] at he
     rw[hse] at hels
     obtain⟨zs,h1,h2,h3,hbk⟩:=yQ7 (K:=K) (R:=zB0 χ w t) (g:=fun i=>(List.range t.size).map fun k=>(w.cell? (a.add (i*t.size+k))).getD undef) (wf:=t.wf) (bk:=t.bulk) hels (fun i y _ hy=>by
      simp only[Option.bind_eq_some_iff] at hy
      obtain⟨cs',hcs,hy⟩:=hy
      obtain⟨z,q1,q2,q3⟩:=ih.1 _ _ _ _ _ hf (by simp only[Ty.deep,jB] at hd;exact hd.2) (show _=some (y.1,y.2) from hy)
      refine⟨z,?_,q2,q3⟩
      have:=(cells?_is hcs).1
      rw[this] at q1
      simpa only[xK8] using q1)
     rw[xC6 (f:=fun j=>(w.cell? (a.add j)).getD undef)] at h2
     simp only[List.length_range] at h1
     refine⟨zs,?_,by simp only[Ty.wf];exact⟨by omega,h3⟩,by rw[← he.1];have:=K.slice (els.map (·.1)) (rest.map (·.1));simp only[Ty.bulk];omega⟩
     simp only[zB0]
     refine⟨some a,cap,by rw[h1],?_⟩
     by_cases hz:zs=[]
     ·exact .inl hz
     ·have hcell:∀ j,j<ln*t.size→∃ v,w.cell? (a.add j)=some v:=by
       intro j hj
       have hpos:0<t.size:=by rcases Nat.eq_zero_or_pos t.size with h0|h0;rw[h0] at hj;simp at hj;exact h0
       have hi:j / t.size<ln:=Nat.div_lt_of_lt_mul (by rw[Nat.mul_comm];exact hj)
       have hmem:∀ i,i<ln→∃ y,(w.cells? 0 (a.add (i*t.size)) t.size).bind (DataW.trod enc P w 0 sp held zI1 e)=some y:=by
        intro i hi
        have key:∀ (l:List Nat) els,l.mapM (fun i=>(w.cells? 0 (a.add (i*t.size)) t.size).bind (DataW.trod enc P w 0 sp held zI1 e))=some els→∀ i∈l,∃ y,(w.cells? 0 (a.add (i*t.size)) t.size).bind (DataW.trod enc P w 0 sp held zI1 e)=some y:=by
         intro l
         induction l with
         |nil=>intro els _ i h;cases h
         |cons x l ihl =>
          intro els h i hi
          simp only[List.mapM_cons,Option.bind_eq_bind,Option.bind_eq_some_iff,Option.pure_def,jA] at h
          obtain⟨y,hy,ys,hys,rfl⟩:=h
          rcases List.mem_cons.1 hi with rfl|hi
          ·exact⟨y,by simpa only[Option.bind_eq_some_iff] using hy⟩
          ·exact ihl ys hys i hi
        exact key _ _ hels i (List.mem_range.2 hi)
       obtain⟨y,hy⟩:=hmem _ hi
       simp only[Option.bind_eq_some_iff] at hy
       obtain⟨cs',hcs,_⟩:=hy
       obtain⟨v,hv⟩:=(cells?_is hcs).2 (j % t.size) (Nat.mod_lt _ hpos)
       refine⟨v,?_⟩
       have e1:(a.add (j / t.size*t.size)).add (j % t.size)=a.add j:=by
        rw[xK8,Nat.div_add_mod']
       rwa [e1] at hv
      obtain⟨b,o,s⟩:=a
      simp only[Ty.deep,jB] at hd
      have hs1:0<t.size:=jR hd.1
      by_cases hs0:ln=0
      ·exact .inl (List.length_eq_zero_iff.1 (by omega))
      ·have hpos:0<ln*t.size:=Nat.mul_pos (by omega) (by omega)
       obtain⟨v,hv⟩:=hcell 0 hpos
       have hsp:=(yQ5 hv).1
       have hsp:s=none:=by simpa[Addr.add] using hsp
       subst hsp
       refine .inr ⟨b,o,_,rfl,by omega,h2,fun j v hj=>?_⟩
       rw[List.getElem?_map] at hj
       have hjl:j<ln*t.size:=by
        rcases Nat.lt_or_ge j (ln*t.size) with h' | h'
        ·exact h'
        ·rw[List.getElem?_eq_none (by simpa using h')] at hj;simp at hj
       obtain⟨v',hv'⟩:=hcell j hjl
       rw[List.getElem?_range hjl] at hj
       simp only[Option.map_some,jA] at hj
       rw[hv'] at hj
       simp only[Option.getD_some] at hj
       subst hj
       have e2:(⟨b,o,none⟩:Addr).add j=⟨b,o+j,none⟩:=by
        by_cases hj0:j=0
        ·subst hj0;simp[Addr.add]
        ·simp[Addr.add,hj0]
       rw[e2] at hv'
       exact⟨hv',hχ b (o+j) (yQ5 hv').2⟩
    ·cases h
 |ptr t _=>exact⟨fun T zI1 cs d ps _ hd=>by simp[Ty.deep] at hd,fun fs o cs zI1 xs _ hd=>by simp[Ty.deep] at hd⟩
def xL0:(i:Nat)→(τs:List Ty)→zB7 (enumSh i τs)→Nat
 |_,[],_=>0
 |i,τ::r,x=>τ.bulk x.1+xL0 (i+1) r x.2
theorem xL1 (K:BulkFn H){G:Gh}(hχ:∀ b o,b<w.heap.size→G.χ b o=0):∀ {τs:List Ty}{Ts:List TypeId}{vs:List Value}{ds:List (DataW H)}{ps:List MemPlace}{i base:Nat},zV7 P τs Ts=true →
  DataW.TrodAll enc P w 0 (fun _=>true) true Ts vs ds ps→(∀ (j:Nat) t v,Ts[j]?=some t→vs[j]?=some v→Value.okWide P w .any base t v) →
  ∃ x:zB7 (enumSh i τs),vs.length=τs.length∧wfL i τs x∧xL0 i τs x≤K.BA ds∧∀ (k:Nat) A v,(mkA i τs x)[k]?=some A→vs[k]?=some v→zA G w #[] (some (i+k)) A v:=by
 intro τs
 induction τs with
 |nil =>
  intro Ts vs ds ps i base ht h _
  cases Ts with
  |cons T s=>simp[zV7] at ht
  |nil =>
   cases vs with
   |nil=>exact⟨(),rfl,trivial,by simp[xL0],fun k A v h=>by simp[mkA] at h⟩
   |cons v vs=>cases ds<;>simp[DataW.TrodAll] at h
 |cons τ r ih =>
  intro Ts vs ds ps i base ht h hok
  cases Ts with
  |nil=>simp[zV7] at ht
  |cons T s =>
   cases vs with
   |nil=>simp[DataW.TrodAll] at h
   |cons v vs =>
    cases ds with
    |nil=>simp[DataW.TrodAll] at h
    |cons d ds =>
     simp only[zV7,jB] at ht
     obtain⟨⟨h1,h2⟩,h3⟩:=ht
     simp only[DataW.TrodAll] at h
     obtain⟨p,q,⟨fl,hd⟩,hr,_⟩:=h
     obtain⟨x,hx,hwf,hbk⟩:=(xL K hχ τ).1 T fl _ d p h1 h2 hd
     obtain⟨y,hy1,hy2,hy4,hy3⟩:=ih (i:=i+1) h3 hr fun j t v ht hv=>hok (j+1) t v (by simpa using ht) (by simpa using hv)
     refine⟨(x,y),by simp[hy1],⟨hwf,hy2⟩,by simp only[xL0];have:=K.cons d ds;omega,fun k A u hA hu=>?_⟩
     cases k with
     |zero =>
      simp only[mkA,List.getElem?_cons_zero,jA] at hA hu
      subst hA;subst hu
      simp only[zA]
      refine⟨_,hx,?_⟩
      have hv:=hok 0 T v rfl rfl
      cases ha:τ.isAgg with
      |true =>
       obtain⟨cs,rfl⟩:=xV3 h1 ha hv
       simp[Value.cells]
      |false =>
       have:=xS7 h1 ha h2 hv
       cases v with
       |agg cs=>exact absurd rfl (this cs)
       |_=>rfl
     |succ k =>
      simp only[mkA,List.getElem?_cons_succ] at hA hu
      have:=hy3 k A u hA hu
      rwa [show i+1+k=i+(k+1) by omega] at this
theorem law_callsU (K:BulkFn H){N:Nat}{τs:List Ty}{Ts:List TypeId}{f:Nat}{ok:zB7 (enumSh 0 τs)→Prop}{F:zB7 (enumSh 0 τs)→Bool}{o:zB7 (enumSh 0 τs)→yA []}(hs:SpecOk P f (fnSpec (enumSh 0 τs) (.val .bool) [] ok F o))
  (hty:zV7 P τs Ts=true) (hn:Nat.ble τs.length zA9=true) (hlaw:∀ x,wfL 0 τs x→xL0 0 τs x≤N→ok x∧F x=true){args:Array Value}{ds:List (DataW H)}{ps:List MemPlace}{base:Nat}(hA:DataW.TrodAll enc P w 0 (fun _=>true) true Ts args.toList ds ps)
  (hok:∀ (j:Nat) t v,Ts[j]?=some t→args.toList[j]?=some v→Value.okWide P w .any base t v) (hN:K.BA ds≤N) (hglob:GlobOk (fun b _=>if b<w.heap.size then 0 else 2) w) :
  Calls P f args w fun e w'=>e=.returned (.bool true)∧Below w.heap.size w w':=by
 let G:Gh:=⟨fun b _=>if b<w.heap.size then 0 else 2,fun _=>0,fun _=>0⟩
 have hχ:∀ b o,b<w.heap.size→G.χ b o=0:=fun b o hb=>by simp[G,hb]
 obtain⟨x,h1,h2,h4,h3⟩:=xL1 K (G:=G) hχ (i:=0) hty hA hok
 obtain⟨hokx,hFx⟩:=hlaw x h2 (Nat.le_trans h4 hN)
 have hlen:=xC7 (τs:=τs) (i:=0) (x:=x)
 have hn:τs.length≤zA9:=jR hn
 have hpar:zC6 (enumSh 0 τs) (zT6 0 (mkA 0 τs x))=some x:=xK9 (fun k=>by
  by_cases hk:k<τs.length
  ·right
   have:=yF5 (s:=k) (args:=mkA 0 τs x) (i:=0) (by omega) (by omega) (by omega)
   simp only[Nat.sub_zero] at this
   rw[Nat.zero_add];exact this.symm
  ·left;exact List.getElem?_eq_none (by omega)) (yU9 hty)
 have hsp:fnSpec (enumSh 0 τs) (.val .bool) [] ok F o (mkA 0 τs x)=some ⟨[ok x],.val .bool (F x),[],[]⟩:=by
  unfold fnSpec
  rw[hlen.1,hlen.2,Nat.beq_refl,jE,hpar]
  rfl
 have hcall:=hs.2 _ _ hsp (fun q hq=>by simp only[jH] at hq;subst hq;exact hokx) G w args.toList (by rw[h1,hlen.1]) hglob (fun i A v hA hv=>by
  have:=h3 i A v hA hv
  rwa [Nat.zero_add] at this)
 have:args.toList.toArray=args:=by simp
 rw[this] at hcall
 refine hcall.mono ?_
 rintro e w' ⟨v,G',rfl,hfr,hres,_⟩
 simp only[zA] at hres
 have hv:=(zC1 rfl).1 hres
 simp only[zB0,List.cons.injEq,and_true] at hv
 rw[hv,hFx]
 refine⟨rfl,hfr.os,hfr.tape,hfr.output,hfr.size,fun k hk=>hfr.block k hk fun o=>?_⟩
 rw[hχ k o hk];omega
end
end Go.Am
namespace Go.Am
open Go Go.RowKit
variable {gtab:GlobTab}{P:Program}
theorem yV {χ:Nat→Nat→Nat}{w:World}:Frame0 χ w χ w:=⟨rfl,rfl,rfl,jI _,fun _ _ _=>rfl,fun _ _ _ _=>⟨rfl,rfl⟩⟩
theorem xC8 {f:Nat}{τ:Ty}{rs:Sh}{ok:τ.den→Prop}{F:τ.den→rs.den}{o:zB7 [(0,Sh.val τ)]→yA []}(hfn:∃ fn,P.funcs[f]?=some fn∧fn.body.isSome=true∧fn.name≠"runtime.NumGoroutine")
  (H:∀ x,ok x→∀ (G:Gh) (w:World) (v:Value),GlobOk G.χ w→zP0 G.χ w τ x v→Calls P f #[v] w fun e w'=>∃ u G',e=.returned u∧Frame0 G.χ w G'.χ w'∧zA G' w' #[] none (rs.mk (F x)) u) :
  SpecOk P f (fnSpec [(0,.val τ)] rs [] (fun x=>ok x.1) (fun x=>F x.1) o):=by
 refine⟨hfn,fun args co hsp hok G w vals hlen hglob hreps=>?_⟩
 unfold fnSpec at hsp
 generalize hal:Nat.beq args.length _=b at hsp
 cases b with
 |false=>cases hsp
 |true =>
  simp only[jE] at hsp
  split at hsp
  ·rename_i x hx
   injection hsp with hsp
   subst hsp
   have hl:args.length=1:=jC hal
   obtain⟨A,rfl⟩:∃ A,args=[A]:=by
    match args,hl with
    |[A],_=>exact⟨A,rfl⟩
   obtain⟨v,rfl⟩:∃ v,vals=[v]:=by
    match vals,hlen with
    |[v],_=>exact⟨v,rfl⟩
   obtain⟨l,_⟩:=x
   have hp:(Sh.val τ).parse A=some l:=by
    simp only[zC6,zT6,St.get] at hx
    split at hx
    ·rename_i y z hy _
     simp only[jA,jG] at hx
     rw[← hx.1]
     simpa using hy
    ·cases hx
   have hA:=zE2 hp (hreps 0 A v rfl rfl)
   simp only[Sh.mk,zA] at hA
   refine (H l (hok _ (jH.2 rfl)) G w v hglob hA).mono ?_
   rintro e w' ⟨u,G',rfl,q1,q2⟩
   exact⟨u,G',rfl,q1,q2,fun i k A' u h=>by cases h⟩
  ·cases hsp
theorem xC9 {f:Nat}{τ σ:Ty}{rs:Sh}{ok:τ.den→σ.den→Prop}{F:τ.den→σ.den→rs.den}{o:zB7 [(0,Sh.val τ),(1,Sh.val σ)]→yA []}(hfn:∃ fn,P.funcs[f]?=some fn∧fn.body.isSome=true∧fn.name≠"runtime.NumGoroutine")
  (H:∀ x y,ok x y→∀ (G:Gh) (w:World) (v u:Value),GlobOk G.χ w→zP0 G.χ w τ x v→zP0 G.χ w σ y u→Calls P f #[v,u] w fun e w'=>∃ r G',e=.returned r∧Frame0 G.χ w G'.χ w'∧zA G' w' #[] none (rs.mk (F x y)) r) :
  SpecOk P f (fnSpec [(0,.val τ),(1,.val σ)] rs [] (fun x=>ok x.1 x.2.1) (fun x=>F x.1 x.2.1) o):=by
 refine⟨hfn,fun args co hsp hok G w vals hlen hglob hreps=>?_⟩
 unfold fnSpec at hsp
 generalize hal:Nat.beq args.length _=b at hsp
 cases b with
 |false=>cases hsp
 |true =>
  simp only[jE] at hsp
  split at hsp
  ·rename_i x hx
   injection hsp with hsp
   subst hsp
   have hl:args.length=2:=jC hal
   obtain⟨A,B,rfl⟩:∃ A B,args=[A,B]:=by
    match args,hl with
    |[A,B],_=>exact⟨A,B,rfl⟩
   obtain⟨v,u,rfl⟩:∃ v u,vals=[v,u]:=by
    match vals,hlen with
    |[v,u],_=>exact⟨v,u,rfl⟩
   obtain⟨l,m,_⟩:=x
   have hp:(Sh.val τ).parse A=some l∧(Sh.val σ).parse B=some m:=by
    simp only[zC6,zT6,St.get] at hx
    split at hx
    ·rename_i y z hy hz
     simp only[jA,jG] at hx
     split at hz
     ·rename_i y' z' hy' _
      simp only[jA] at hz
      rw[← hz] at hx
      simp only[jG] at hx
      rw[← hx.1,← hx.2.1]
      exact⟨by simpa using hy,by simpa[Nat.beq,zA9] using hy'⟩
     ·cases hz
    ·cases hx
   have hA:=zE2 hp.1 (hreps 0 A v rfl rfl)
   have hB:=zE2 hp.2 (hreps 1 B u rfl rfl)
   simp only[Sh.mk,zA] at hA hB
   refine (H l m (hok _ (jH.2 rfl)) G w v u hglob hA hB).mono ?_
   rintro e w' ⟨r,G',rfl,q1,q2⟩
   exact⟨r,G',rfl,q1,q2,fun i k A' u h=>by cases h⟩
  ·cases hsp
theorem xV6 {f:Nat}{F:List UInt8→List UInt8→Int}{o:zB7 [(0,Sh.val .str),(1,Sh.val .str)]→yA []}(hfn:∃ fn,P.funcs[f]?=some fn∧fn.body.isSome=true∧fn.name≠"runtime.NumGoroutine")
  (H:∀ (s:ByteArray) (c:UInt8) (w:World),Calls P f #[.string s,.string ⟨#[c]⟩] w fun e w'=>e=.returned (.int .i64 (F s.data.toList [c]))∧w'=w) :
  SpecOk P f (fnSpec [(0,.val .str),(1,.val .str)] (.val (.int .i64)) [] (fun x=>List.length x.2.1=1) (fun x=>F x.1 x.2.1) o):=by
 refine xC9 (τ:=.str) (σ:=.str) (rs:=.val (.int .i64)) (ok:=fun _ y=>List.length y=1) (F:=F) hfn fun x y hy G w v u _ hv hu=>?_
 rw[zC1 rfl] at hv hu
 simp only[zB0] at hv hu
 injection hv with hv _
 injection hu with hu _
 match y,hy with
 |[c],_ =>
  subst hv hu
  refine (H ⟨List.toArray x⟩ c w).mono ?_
  rintro e w' ⟨rfl,rfl⟩
  refine⟨_,G,rfl,yV,?_⟩
  simp only[Sh.mk,zA]
  rw[zC1 rfl]
  simp[zB0]
theorem xL2 {χ:Nat→Nat→Nat}{w:World}:∀ {l:List (List UInt8)},zJ1 (zB0 χ w .str) l (l.map fun x=>Value.string ⟨x.toArray⟩):=by
 intro l
 induction l with
 |nil=>simp[zJ1]
 |cons x l ih=>exact⟨[.string ⟨x.toArray⟩],_,rfl,by simp only[zB0],ih⟩
theorem xL3 {χ:Nat→Nat→Nat}{w:World}{k:IntKind}:∀ {l:List Int}{vs:List Value},zJ1 (zB0 χ w (.int k)) l vs→vs=l.map (Value.int k):=by
 intro l
 induction l with
 |nil=>intro vs h;simpa[zJ1] using h
 |cons x l ih =>
  rintro vs ⟨us,ws,rfl,h1,h2⟩
  simp only[zB0] at h1
  rw[h1,ih h2]
  rfl
theorem xW5 {χ:Nat→Nat→Nat}{w:World}(h:GlobOk χ w){g n:Nat}{k:IntKind}{l:List Int}(hm:(g,(⟨.arr n (.int k),l⟩:(τ:Ty)×τ.den))∈GlobTab.tab)(c:Nat)(hc:c<n):w.cell? ⟨g,c,none⟩=some (.int k (l.getD c 0)):=by
 obtain⟨vs,h1,h2⟩:=h g (.arr n (.int k)) l hm
 unfold zB0 at h1
 obtain⟨h1,h3⟩:=h1
 have e:=xL3 h3
 subst e
 have hlen:List.length (α:=Int) l=n:=h1
 have:=(h2 c (.int k (l.getD c 0)) (by
  rw[List.getElem?_map,jL (by omega),jM,jL (by omega)]
  rfl)).1
 simpa using this
theorem xV7 {f:Nat}{F:List UInt8→List (List UInt8)}{e:TypeId}{ok:List UInt8→Prop}{o:zB7 [(0,Sh.val .str)]→yA []}(hfn:∃ fn,P.funcs[f]?=some fn∧fn.body.isSome=true∧fn.name≠"runtime.NumGoroutine")
  (H:∀ (s:ByteArray) (w:World) (χ:Nat→Nat→Nat),ok s.data.toList→GlobOk χ w→Calls P f #[.string s] w fun e' w'=>e'=.returned (.slice (some ⟨w.heap.size,0,none⟩) (F s.data.toList).length (F s.data.toList).length) ∧
   w'=w.alloc (.cells ((F s.data.toList).map fun l=>Value.string ⟨l.toArray⟩).toArray e)) :
  SpecOk P f (fnSpec [(0,.val .str)] (.val (.sl .str)) [] (fun x=>ok x.1) (fun x=>F x.1) o):=by
 refine xC8 (τ:=.str) (rs:=.val (.sl .str)) (ok:=ok) (F:=F) hfn fun x hx G w v hglob hv=>?_
 rw[zC1 rfl] at hv
 simp only[zB0] at hv
 injection hv with hv _
 subst hv
 refine (H ⟨List.toArray x⟩ w G.χ (by simpa using hx) hglob).mono ?_
 rintro e' w' ⟨rfl,rfl⟩
 let G':Gh:={ G with χ:=fun b o=>if b=w.heap.size then 0 else G.χ b o }
 refine⟨_,G',rfl,⟨rfl,rfl,rfl,by simp,fun b hb _=>Below.heap_alloc _ _ _ hb,fun b o hb _=>⟨if_neg (by omega),World.cell?_alloc_old _ _ _ (by simp only;omega)⟩⟩,?_⟩
 simp only[Sh.mk,zA]
 rw[zC1 rfl]
 unfold zB0
 refine⟨_,_,rfl,.inr ⟨w.heap.size,0,_,rfl,jI _,xL2,fun j v hv=>⟨?_,if_pos rfl⟩⟩⟩
 simp only[World.cell?,World.alloc_heap_new,Nat.zero_add]
 simpa using hv
end Go.Am
namespace Go.Am
open Go Go.RowKit
variable {gtab:GlobTab}{P:Program}{c:Ctx}
def xL4:Code→Option Code
 |.seq a b=>match xL4 a with|some x=>some x|none=>xL4 b
 |.block _ a=>xL4 a
 |.rangeFunc _ _ _ b=>some b
 |_=>none
def xQ8 [GlobTab] (c:Ctx)(code:Code)(S:St):Bool:=match eval c code S with
 |some o=>o.comps.all fun x=>Nat.beq x.kind 0
 |none=>false
def xS8 [GlobTab] (P:Program)(c:Ctx)(code:Code)(ps os:List (Nat×Sh))(ok:zB7 ps→Prop)(o:zB7 ps→yA os):Prop:=
 ∀ x,ok x→∀ (rd:Option Nat) (χ0:Nat→Nat→Nat) (w0:World) (a:Act) (w:World) (G:Gh),Rel c.n χ0 w0 (zC2 ps x) a w G →
  code.wpIn (fz rd) 0 P (fun e a' w'=>e=.normal∧(∀ i∈c.keep,a'.tmps.getD i undef=a.tmps.getD i undef) ∧
   ∃ G' d,Rel c.n χ0 w0 (d++zC2 ps x) a' w' G'∧zZ os (d++zC2 ps x)=some (o x)) a w
theorem xV8 (hc:CtxOk P c)(hm:P.follows .mixedOrders=true){code:Code}{bs:List Code}(hbs:zF6 code=bs)(hL:zS8 P c bs)(hw:zE3 c.keep code=true){ps os:List (Nat×Sh)}{ok:zB7 ps→Prop}{rs:Sh}{F:zB7 ps→rs.den}{o:zB7 ps→yA os}
  (hon:∀ x,xQ8 c code (zC2 ps x)=true) (hsum:∀ x,xC4 c code [] ps rs os x=some (ok x,F x,o x)):xS8 P c code ps os ok o:=by
 intro x hx rd χ0 w0 a w G hR
 have h:=hsum x
 have hon:=hon x
 unfold xC4 at h
 unfold xQ8 at hon
 split at h
 ·cases h
 ·rename_i out ho
  rw[ho] at hon
  simp only at hon
  split at h
  ·cases h
  ·rename_i d hd
   split at h
   ·rename_i r z hr hz
    split at h
    ·rename_i v hv
     simp only[jA,jG] at h
     obtain⟨e1,_,rfl⟩:=h
     refine wpIn_mono (zX2 hc hm (yF6 hbs hL) hw ho (AllP_iff.1 (by rw[e1];exact hx)) rd χ0 w0 (fun i=>a.tmps.getD i undef) a w G hR (fun i _=>rfl)) ?_
     rintro e a' w' ⟨hP,hk⟩
     obtain⟨_,G',hR'⟩:=yX4 hd hP
     refine⟨?_,hk,G',d,hR',hz⟩
     obtain⟨k,cp,G2,h1,h2,_⟩:=hP
     have:=List.all_eq_true.1 hon cp (yQ4 h2)
     rw[zM6 h2] at this
     have:=jC this
     subst this
     cases e with
     |normal=>rfl
     |ret=>simp[zB9] at h1
     |exit id=>simp[zB9] at h1
     |_=>simp[zB9] at h1
    ·cases h
   ·cases h
end Go.Am
namespace Go.Am
open Go Go.RowKit
variable {gtab:GlobTab}{P:Program}{c:Ctx}
def xL5 {α β:Type}(ok:β→α→Prop)(next:β→α→β):List α→β→Prop
 |[],_=>True
 |x::r,l=>ok l x∧xL5 ok next r (next l x)
def xL6 {α β:Type}{ok:β→α→Prop}{next:β→α→β}(h:∀ l x,Decidable (ok l x)):(xs:List α)→(l:β)→Decidable (xL5 ok next xs l)
 |[],_=>isTrue trivial
 |x::r,l=>@instDecidableAnd _ _ (h l x) (xL6 h r (next l x))
theorem xV9 {α β:Type}{ok:β→α→Prop}{next:β→α→β}:∀ {pre:List α}{x:α}{rest:List α}{l:β},xL5 ok next (pre++x::rest) l→ok (pre.foldl next l) x:=by
 intro pre
 induction pre with
 |nil=>intro x rest l h;exact h.1
 |cons y pre ih=>intro x rest l h;exact ih h.2
theorem xL7:∀ (A:AVal) (s:Option Nat),¬ A.names (·=1) (fun _=>False) s:=by
 intro A
 induction A with
 |own t l T m=>intro s;simp only[AVal.names,zB2];omega
 |ownh t l T i U m=>intro s;simp only[AVal.names,zB2];omega
 |opt _ _ _ A ih=>intro s;simp only[AVal.names];exact ih none
 |box τ b ih =>
  intro s
  cases s with
  |none=>simp only[AVal.names];exact ih none
  |some s=>simp only[AVal.names,not_or];exact⟨by simp only[zG8];omega,ih none⟩
 |cons x y ihx ihy=>intro s;simp only[AVal.names,not_or];exact⟨ihx none,ihy none⟩
 |agg f b ih=>intro s;simp only[AVal.names];exact ih none
 |tup b ih=>intro s;simp only[AVal.names];exact ih none
 |fn f b ih=>intro s;simp only[AVal.names];exact ih none
 |raw =>
  intro s
  cases s with
  |none=>simp[AVal.names]
  |some s=>simp only[AVal.names,zG8];omega
 |_=>intro s;simp[AVal.names]
theorem yV0 {G:Gh}{W W':World}{b:Nat}(hχ:∀ o,G.χ b o=1)(h:∀ k,k≠b→W'.heap[k]?=W.heap[k]?)(hs:W.heap.size≤W'.heap.size):Ext (·=1) (fun _=>False) G W G W':=by
 refine⟨fun b' o _ h0=>⟨h0,?_⟩,fun b' _ hn=>⟨h b' ?_,fun _=>rfl⟩,hs,fun _ _=>rfl,fun _ _=>rfl,fun _ h=>h.elim⟩
 ·have hne:b'≠b:=by intro e;subst e;rw[hχ o] at h0;cases h0
  simp only[World.cell?,h b' hne]
 ·intro e;subst e;exact hn 0 (hχ 0)
theorem Frame0.trans {χ0 χ1 χ2:Nat→Nat→Nat}{w0 w1 w2:World}(h:Frame0 χ0 w0 χ1 w1)(k:Frame0 χ1 w1 χ2 w2):Frame0 χ0 w0 χ2 w2:=by
 refine⟨k.os.trans h.os,k.tape.trans h.tape,k.output.trans h.output,Nat.le_trans h.size k.size,fun b hb hc=>?_,fun b o hb hc=>?_⟩
 ·rw[k.block b (Nat.lt_of_lt_of_le hb h.size) (fun o=>by rw[(h.cell b o hb (hc o)).1];exact hc o)]
  exact h.block b hb hc
 ·have h1:=h.cell b o hb hc
  have h2:=k.cell b o (Nat.lt_of_lt_of_le hb h.size) (by rw[h1.1];exact hc)
  exact⟨h2.1.trans h1.1,h2.2.trans h1.2⟩
theorem Frame0.beyond {χ0 χ:Nat→Nat→Nat}{w0 W W':World}{b:Nat}(h:Frame0 χ0 w0 χ W)(hb:w0.heap.size≤b)(hW:∀ k,k≠b→W'.heap[k]?=W.heap[k]?)(hs:W'.heap.size=W.heap.size)(hst:W'.os=W.os∧W'.tape=W.tape∧W'.output=W.output) :
  Frame0 χ0 w0 χ W':=by
 refine⟨hst.1.trans h.os,hst.2.1.trans h.tape,hst.2.2.trans h.output,by rw[hs];exact h.size,fun k hk hc=>?_,fun k o hk hc=>?_⟩
 ·rw[hW k (by omega)];exact h.block k hk hc
 ·have h1:=h.cell k o hk hc
  refine⟨h1.1,?_⟩
  rw[← h1.2]
  simp only[World.cell?,hW k (show k≠b by omega)]
structure JB [GlobTab] (χ0:Nat→Nat→Nat) (w0:World) (lo hi:Nat) (E:List (Nat×Nat×AVal)) (G:Gh) (W:World):Prop where
 frame:Frame0 χ0 w0 G.χ W
 glob:GlobOk G.χ W
 reps:∀ e∈E,zA G W #[] (some e.1) e.2.2 (.pointer (some ⟨e.2.1,0,none⟩))
 own:∀ b,lo≤b→b≤hi→∀ o,G.χ b o=1
 size:hi<W.heap.size
 low:w0.heap.size≤lo
theorem JB.foreign {χ0:Nat→Nat→Nat}{w0:World}{lo hi:Nat}{E:List (Nat×Nat×AVal)}{G:Gh}{W W':World}{b:Nat}(h:JB χ0 w0 lo hi E G W)(hl:lo≤b)(hh:b≤hi)(hW:∀ k,k≠b→W'.heap[k]?=W.heap[k]?)(hs:W'.heap.size=W.heap.size)
  (hst:W'.os=W.os∧W'.tape=W.tape∧W'.output=W.output):JB χ0 w0 lo hi E G W':=by
 have hx:=yV0 (h.own b hl hh) hW (Nat.le_of_eq hs.symm)
 have hlow:=h.low
 refine⟨h.frame.beyond (Nat.le_trans hlow hl) hW hs hst,zG0 hx.prot h.glob,fun e he=>yA4 hx (by decide) _ (xL7 _ _) (h.reps e he),h.own,by rw[hs];exact h.size,hlow⟩
theorem JB.setCell {χ0:Nat→Nat→Nat}{w0:World}{lo hi:Nat}{E:List (Nat×Nat×AVal)}{G:Gh}{W:World}{b:Nat}(h:JB χ0 w0 lo hi E G W)(hl:lo≤b)(hh:b≤hi)(v:Value):JB χ0 w0 lo hi E G (W.setCell ⟨b,0,none⟩ v):=
 h.foreign hl hh (fun k hk=>Below.heap_setCell W ⟨b,0,none⟩ v k hk) (by simp[World.setCell]) ⟨rfl,rfl,rfl⟩
theorem JB.putObj {χ0:Nat→Nat→Nat}{w0:World}{lo hi:Nat}{E:List (Nat×Nat×AVal)}{G:Gh}{W:World}{b:Nat}(h:JB χ0 w0 lo hi E G W)(hl:lo≤b)(hh:b≤hi)(o:Obj):JB χ0 w0 lo hi E G (W.putObj b o):=
 h.foreign hl hh (fun k hk=>World.putObj_heap_other hk) (by simp[World.putObj]) ⟨rfl,rfl,rfl⟩
theorem JB.step {χ0:Nat→Nat→Nat}{w0:World}{lo hi:Nat}{E E':List (Nat×Nat×AVal)}{G G':Gh}{W W':World}(h:JB χ0 w0 lo hi E G W)(hf:Frame0 G.χ W G'.χ W')(hg:GlobOk G'.χ W')(hr:∀ e∈E',zA G' W' #[] (some e.1) e.2.2 (.pointer (some ⟨e.2.1,0,none⟩))) :
  JB χ0 w0 lo hi E' G' W'∧∀ b,lo≤b→b≤hi→W'.heap[b]?=W.heap[b]?:=by
 have hsz:=h.size
 refine⟨⟨h.frame.trans hf,hg,hr,fun b hl hh o=>?_,Nat.lt_of_lt_of_le hsz hf.size,h.low⟩,fun b hl hh=>hf.block b (by omega) (fun o=>by rw[h.own b hl hh o];exact jI _)⟩
 rw[(hf.cell b o (by omega) (by rw[h.own b hl hh o];exact jI _)).1]
 exact h.own b hl hh o
theorem xT8 {f:Nat}{τ σ υ ω:Ty}{rs:Sh}{ok:τ.den→σ.den→υ.den→ω.den→Prop}{F:τ.den→σ.den→υ.den→ω.den→rs.den}{o:zB7 [(0,Sh.val τ),(1,Sh.val σ),(2,Sh.val υ),(3,Sh.val ω)]→yA []}(hfn:∃ fn,P.funcs[f]?=some fn∧fn.body.isSome=true∧fn.name≠"runtime.NumGoroutine")
  (H:∀ x y z u,ok x y z u→∀ (G:Gh) (w:World) (v1 v2 v3 v4:Value),GlobOk G.χ w→zP0 G.χ w τ x v1→zP0 G.χ w σ y v2→zP0 G.χ w υ z v3→zP0 G.χ w ω u v4→Calls P f #[v1,v2,v3,v4] w fun e w'=>∃ r G',e=.returned r∧Frame0 G.χ w G'.χ w'∧zA G' w' #[] none (rs.mk (F x y z u)) r) :
  SpecOk P f (fnSpec [(0,.val τ),(1,.val σ),(2,.val υ),(3,.val ω)] rs [] (fun x=>ok x.1 x.2.1 x.2.2.1 x.2.2.2.1) (fun x=>F x.1 x.2.1 x.2.2.1 x.2.2.2.1) o):=by
 refine⟨hfn,fun args co hsp hok G w vals hlen hglob hreps=>?_⟩
 unfold fnSpec at hsp
 generalize hal:Nat.beq args.length _=b at hsp
 cases b with
 |false=>cases hsp
 |true =>
  simp only[jE] at hsp
  split at hsp
  ·rename_i x hx
   injection hsp with hsp
   subst hsp
   have hl:args.length=4:=jC hal
   obtain⟨A,B,C,D,rfl⟩:∃ A B C D,args=[A,B,C,D]:=by
    match args,hl with
    |[A,B,C,D],_=>exact⟨A,B,C,D,rfl⟩
   obtain⟨v1,v2,v3,v4,rfl⟩:∃ v1 v2 v3 v4,vals=[v1,v2,v3,v4]:=by
    match vals,hlen with
    |[v1,v2,v3,v4],_=>exact⟨v1,v2,v3,v4,rfl⟩
   have hp:∀ (k:Nat) (i:Nat) (s:Sh),[(0,Sh.val τ),(1,Sh.val σ),(2,Sh.val υ),(3,Sh.val ω)][k]?=some (i,s)→∃ y,s.parse (St.get (zT6 0 [A,B,C,D]) i)=some y:=fun k i s h=>yI3 hx h
   obtain⟨x1,x2,x3,x4,_⟩:=x
   simp only[zC6] at hx
   have hg:∀ i,St.get (zT6 0 [A,B,C,D]) i=[A,B,C,D].getD i .junk:=by
    intro i
    simp only[zT6,St.get]
    match i with
    |0=>simp
    |1=>simp[zA9,Nat.beq]
    |2=>simp[zA9,Nat.beq]
    |3=>simp[zA9,Nat.beq]
    |k+4=>simp[zA9,Nat.beq]
   simp only[hg,List.getD_cons_zero,List.getD_cons_succ] at hx
   generalize h1:(Sh.val τ).parse A=o1 at hx
   generalize h2:(Sh.val σ).parse B=o2 at hx
   generalize h3:(Sh.val υ).parse C=o3 at hx
   generalize h4:(Sh.val ω).parse D=o4 at hx
   cases o1<;>cases o2<;>cases o3<;>cases o4<;>simp at hx
   obtain⟨rfl,rfl,rfl,rfl⟩:=hx
   have hA:=zE2 h1 (hreps 0 A v1 rfl rfl)
   have hB:=zE2 h2 (hreps 1 B v2 rfl rfl)
   have hC:=zE2 h3 (hreps 2 C v3 rfl rfl)
   have hD:=zE2 h4 (hreps 3 D v4 rfl rfl)
   simp only[Sh.mk,zA] at hA hB hC hD
   refine (H _ _ _ _ (hok _ (jH.2 rfl)) G w v1 v2 v3 v4 hglob hA hB hC hD).mono ?_
   rintro e w' ⟨r,G',rfl,q1,q2⟩
   exact⟨r,G',rfl,q1,q2,fun i k A' u h=>by cases h⟩
  ·cases hsp
end Go.Am
namespace Go.Am
open Go Go.RowKit
variable {gtab:GlobTab}{P:Program}
end Go.Am
