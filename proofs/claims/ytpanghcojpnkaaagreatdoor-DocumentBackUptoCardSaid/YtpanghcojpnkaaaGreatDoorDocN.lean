/- Split of strings by one byte answers. No condition. -/
import Derived.Test.YtpanghcojpnkaaaGreatDoorDocL
import Derived.Test.YtpanghcojpnkaaaGreatDoorDocA
namespace Go.Proofs.YtpanghcojpnkaaaGreatDoor.Am
open Go Go.Am
theorem uB {x:Int}(h1:-9223372036854775808≤x)(h2:x≤9223372036854775807):InR x:=⟨h1,h2⟩
def prep (w:List UInt8):List (List UInt8)→List (List UInt8)
 |[]=>[w]
 |x::r=>(w++x)::r
theorem sZ3 (c b:UInt8)(l:List UInt8):xZ c (b::l)=if b==c then []::xZ c l else prep [b] (xZ c l):=by
 rw[xZ]
 split
 ·rfl
 ·cases xZ c l<;>rfl
def tot:List (List UInt8)→Nat
 |[]=>0
 |x::r=>x.length+1+tot r
theorem pA4 (w:List UInt8){X:List (List UInt8)}(h:X≠[]):tot (prep w X)=w.length+tot X:=by
 cases X with
 |nil=>exact absurd rfl h
 |cons x r=>simp[prep,tot];omega
theorem tO3 (c:UInt8):∀ l:List UInt8,tot (xZ c l)=l.length+1
 |[]=>rfl
 |b::l=>by
  rw[sZ3]
  have ih:=tO3 c l
  split
  ·simp only[tot,List.length_nil,List.length_cons,ih];omega
  ·rw[pA4 _ (sE c l),ih];simp;omega
theorem tV6:∀ X:List (List UInt8),X.length≤tot X
 |[]=>jI _
 |x::r=>by
  have:=tV6 r
  simp only[List.length_cons,tot];omega
theorem rS8 {c:UInt8}{l:List UInt8}(h:Lib.countByte l c=0):xZ c l=[l]:=by
 refine vI7 c l ?_
 unfold Lib.countByte at h
 induction l with
 |nil=>rfl
 |cons b l ih =>
  rw[List.count_cons] at h
  have h1:(b==c)=false:=by
   cases hb:b==c with
   |false=>rfl
   |true=>rw[hb] at h;simp at h
  rw[h1] at h
  have:=ih (by simpa using h)
  unfold Lib.indexByte
  rw[h1,this]
  simp
theorem rL5 {c:UInt8}:∀ {l:List UInt8}{i:Nat},Lib.indexByte l c=i→Lib.countByte l c=1+Lib.countByte (l.drop (i+1)) c
 |[],i,h=>by simp only[Lib.indexByte] at h;omega
 |b::l,i,h=>by
  unfold Lib.indexByte at h
  unfold Lib.countByte
  rw[List.count_cons]
  by_cases hb:b==c
  ·simp only[hb,if_true] at h ⊢
   have:i=0:=by omega
   subst this
   simp;omega
  ·simp only[hb,if_false,Bool.false_eq_true] at h ⊢
   by_cases hn:Lib.indexByte l c==-1
   ·simp only[hn,if_true] at h;omega
   ·simp only[hn,if_false,Bool.false_eq_true] at h
    have hge:=Lib.indexByte_ge l c
    have hn':Lib.indexByte l c≠-1:=by simpa using hn
    obtain⟨k,hk⟩:∃ k:Nat,Lib.indexByte l c=k:=⟨(Lib.indexByte l c).toNat,by omega⟩
    have ih:=rL5 hk
    have:i=k+1:=by omega
    subst this
    unfold Lib.countByte at ih
    rw[ih];simp
theorem sC5 (c:UInt8)(l:List UInt8):Lib.countByte l c≤l.length:=List.count_le_length
def libI (c:UInt8)(s:List UInt8)(x:List UInt8×List (List UInt8)×Int×Unit):Prop:=
 0≤x.2.2.1∧x.2.2.1≤Lib.countByte s c∧x.2.1.length=Lib.countByte s c+1∧(Lib.countByte x.1 c:Int)=Lib.countByte s c-x.2.2.1∧x.1.length≤s.length∧x.2.1.take x.2.2.1.toNat++xZ c x.1=xZ c s
theorem rL6 {X:List (List UInt8)}{k:Nat}{w:List UInt8}(h:k<X.length):(X.set k w).take (k+1)=X.take k++[w]:=by
 rw[List.take_succ_eq_append_getElem (by simpa using h)]
 simp[List.take_set_of_le]
theorem tO4 {c:UInt8}{s:List UInt8}{k:Int}(hk:k=Lib.countByte s c){x:List UInt8×List (List UInt8)×Int×Unit}(hi:libI c s x)(hg:wE1 ([c],0,k,()) x=true) :
  libI c s (wA4 ([c],0,k,()) x)∧(k-(wA4 ([c],0,k,()) x).2.2.1).toNat<(k-x.2.2.1).toNat:=by
 obtain⟨a0,a9,a10,_⟩:=x
 obtain⟨h1,h2,h3,h4,h5,h6⟩:=hi
 simp only at h1 h2 h3 h4 h5 h6
 simp only[wE1,wZ0,jB,decide_eq_true_eq,jK,decide_eq_false_iff_not] at hg
 obtain⟨hg1,hg2⟩:=hg
 have hg2:¬ Lib.indexByte a0 c<0:=hg2
 obtain⟨i,hii⟩:∃ i:Nat,Lib.indexByte a0 c=i:=⟨(Lib.indexByte a0 c).toNat,by omega⟩
 have hs:=uB0 c a0 i hii
 have hc:=rL5 hii
 have e82:f192 a0 [c]=i:=hii
 simp only[wA4,wZ0,e82]
 have e0:((i:Int)+0).toNat=i:=by omega
 have e1:((i:Int)+len [c]).toNat=i+1:=by show ((i:Int)+1).toNat=_;omega
 have ek:(a10+1).toNat=a10.toNat+1:=by omega
 rw[e0,e1]
 refine⟨⟨(show 0≤a10+1 by omega),(show a10+1≤_ by omega),?_,?_,?_,?_⟩,(show (k-(a10+1)).toNat<(k-a10).toNat by omega)⟩
 ·simpa using h3
 ·show (Lib.countByte (a0.drop (i+1)) c:Int)=Lib.countByte s c-(a10+1)
  omega
 ·show (a0.drop (i+1)).length≤s.length
  rw[List.length_drop];omega
 ·show (a9.set a10.toNat (a0.take i)).take (a10+1).toNat++xZ c (a0.drop (i+1))=xZ c s
  rw[ek,rL6 (by omega),List.append_assoc,← h6,hs.1]
  rfl
theorem uM9 (c:UInt8)(s:List UInt8):libI c s (s,List.replicate (Lib.countByte s c+1) [],0,()):=by
 refine⟨Int.le_refl _,(show (0:Int)≤_ by omega),by simp,(show (Lib.countByte s c:Int)=Lib.countByte s c-0 by omega),jI _,?_⟩
 show (List.replicate (Lib.countByte s c+1) []).take (0:Int).toNat++xZ c s=xZ c s
 rfl
theorem oO3 (c:UInt8)(s:List UInt8):xW9 ((Lib.countByte s c:Int)+1) (len s+1)=(Lib.countByte s c:Int)+1:=by
 have:=sC5 c s
 unfold xW9 len
 split<;>omega
theorem oD7 (c:UInt8)(s:List UInt8)(hs:len s<9223372036854775808):f168 s [c]=xZ c s:=by
 have hcl:=sC5 c s
 have hll:len s=(s.length:Int):=rfl
 have h:=xQ0 (g:=wE1 ([c],0,(Lib.countByte s c:Int),())) (next:=wA4 ([c],0,(Lib.countByte s c:Int),())) (libI c s) (fun x=>((Lib.countByte s c:Int)-x.2.2.1).toNat) (fun x hi hg=>tO4 rfl hi hg) (uM9 c s) (by simp only[zI1];omega)
 have e84:f194 s [c]=(Lib.countByte s c:Int):=rfl
 have eb:([c]==([]:List UInt8))=false:=rfl
 have en:Int.toNat ((Lib.countByte s c:Int)+1)=Lib.countByte s c+1:=by omega
 have em:(Lib.countByte s c:Int)+1-1=(Lib.countByte s c:Int):=by omega
 have e1:((-1:Int)==0)=false:=rfl
 have e2:decide ((-1:Int)<0)=true:=rfl
 simp only[f168,rT7,f183,rT5,wV2,wV3,wV4,e84,eb,e1,e2,jD,jE,oO3,en,em]
 generalize zC3 (wE1 ([c],0,(Lib.countByte s c:Int),())) (wA4 ([c],0,(Lib.countByte s c:Int),())) (s,List.replicate (Lib.countByte s c+1) [],0,())=e at h
 obtain⟨a0,a9,a10,_⟩:=e
 obtain⟨⟨h1,h2,h3,h4,h5,h6⟩,h7⟩:=h
 simp only at h1 h2 h3 h4 h5 h6
 have hone:xZ c a0=[a0]:=by
  simp only[wE1,wZ0,Bool.and_eq_false_iff,decide_eq_false_iff_not,Bool.not_eq_false',decide_eq_true_eq] at h7
  rcases h7 with h7|h7
  ·exact rS8 (by omega)
  ·have h7:Lib.indexByte a0 c<0:=h7
   have:=Lib.indexByte_ge a0 c
   exact vI7 c a0 (by omega)
 show (a9.set a10.toNat a0).take (a10+1).toNat=xZ c s
 have ek:(a10+1).toNat=a10.toNat+1:=by omega
 rw[ek,rL6 (by omega),← hone,h6]
theorem pA5 (c:UInt8)(s:List UInt8)(hs:len s≤4096):vY7 s [c]:=by
 have hcl:=sC5 c s
 have hll:len s=(s.length:Int):=rfl
 have e84:f194 s [c]=(Lib.countByte s c:Int):=rfl
 have eb:([c]==([]:List UInt8))=false:=rfl
 have en:Int.toNat ((Lib.countByte s c:Int)+1)=Lib.countByte s c+1:=by omega
 have em:(Lib.countByte s c:Int)+1-1=(Lib.countByte s c:Int):=by omega
 have e1:((-1:Int)==0)=false:=rfl
 have e2:decide ((-1:Int)<0)=true:=rfl
 have h:=xQ0 (g:=wE1 ([c],0,(Lib.countByte s c:Int),())) (next:=wA4 ([c],0,(Lib.countByte s c:Int),())) (libI c s) (fun x=>((Lib.countByte s c:Int)-x.2.2.1).toNat) (fun x hi hg=>tO4 rfl hi hg) (uM9 c s) (by simp only[zI1];omega)
 have hE:Am.Ends (wE1 ([c],0,(Lib.countByte s c:Int),())) (wA4 ([c],0,(Lib.countByte s c:Int),())) (wZ1 ([c],0,(Lib.countByte s c:Int),())) (s,List.replicate (Lib.countByte s c+1) [],0,()):=by
  refine xQ1 (libI c s) (fun x=>((Lib.countByte s c:Int)-x.2.2.1).toNat) (fun x hi=>?_) (fun x hi hg=>tO4 rfl hi hg) (uM9 c s) (by simp only[zI1];omega)
  obtain⟨a0,a9,a10,_⟩:=x
  obtain⟨h1,h2,h3,h4,h5,h6⟩:=hi
  simp only at h1 h2 h3 h4 h5 h6
  intro hv
  have hv:a10<(Lib.countByte s c:Int):=jF hv
  refine⟨rfl,fun g=>?_⟩
  have g:(!decide (Lib.indexByte a0 c<0))=true:=g
  have g:¬ Lib.indexByte a0 c<0:=by simpa using g
  obtain⟨i,hii⟩:∃ i:Nat,Lib.indexByte a0 c=i:=⟨(Lib.indexByte a0 c).toNat,by omega⟩
  have hs:=uB0 c a0 i hii
  have e82:f192 a0 [c]=i:=hii
  have hla:len a0=(a0.length:Int):=rfl
  have hl9:len a9=(a9.length:Int):=rfl
  have hone:len [c]=1:=rfl
  simp only[e82,hone]
  exact⟨uB (by omega) (by omega),⟨by omega,by omega⟩,⟨by omega,by omega⟩,by omega,uB (by omega) (by omega),⟨by omega,by omega⟩,uB (by omega) (by omega)⟩
 simp only[vY7,rT7,uY2,rT5,wV2,wV3,wV4,e84,eb,e1,e2,jE,oO3,en,em]
 generalize zC3 (wE1 ([c],0,(Lib.countByte s c:Int),())) (wA4 ([c],0,(Lib.countByte s c:Int),())) (s,List.replicate (Lib.countByte s c+1) [],0,())=e at h
 obtain⟨a0,a9,a10,_⟩:=e
 obtain⟨⟨h1,h2,h3,h4,h5,h6⟩,h7⟩:=h
 simp only at h1 h2 h3 h4 h5 h6
 have hl9:len a9=(a9.length:Int):=rfl
 have hset:len (a9.set a10.toNat a0)=(a9.length:Int):=by unfold len;rw[List.length_set]
 refine fun _=>⟨fun g=>absurd g (by simp),fun _=>⟨fun _=>⟨rfl,uB (by omega) (by omega)⟩,uB (by omega) (by omega),⟨by omega,by omega,by omega⟩,uB (by omega) (by omega),hE,?_⟩⟩
 show InB a10 (len a9)∧a10<len a9∧InR (a10+1)∧0≤a10+1∧a10+1≤len (a9.set a10.toNat a0)
 rw[hset]
 exact⟨⟨by omega,by omega⟩,by omega,uB (by omega) (by omega),by omega,by omega⟩
end Go.Proofs.YtpanghcojpnkaaaGreatDoor.Am
