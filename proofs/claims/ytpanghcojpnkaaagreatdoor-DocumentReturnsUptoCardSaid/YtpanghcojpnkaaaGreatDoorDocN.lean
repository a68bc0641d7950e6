/- Split of strings by one byte answers. No condition. -/
import Derived.Test.YtpanghcojpnkaaaGreatDoorDocL
import Derived.Test.YtpanghcojpnkaaaGreatDoorDocA
namespace Go.Proofs.YtpanghcojpnkaaaGreatDoor.Am
open Go Go.Am
theorem uC9 {x:Int}(h1:-9223372036854775808≤x)(h2:x≤9223372036854775807):InR x:=⟨h1,h2⟩
def prep (w:List UInt8):List (List UInt8)→List (List UInt8)
 |[]=>[w]
 |x::r=>(w++x)::r
theorem rH0 (c b:UInt8)(l:List UInt8):xZ2 c (b::l)=if b==c then []::xZ2 c l else prep [b] (xZ2 c l):=by
 rw[xZ2]
 split
 ·rfl
 ·cases xZ2 c l<;>rfl
def tot:List (List UInt8)→Nat
 |[]=>0
 |x::r=>x.length+1+tot r
theorem pR3 (w:List UInt8){X:List (List UInt8)}(h:X≠[]):tot (prep w X)=w.length+tot X:=by
 cases X with
 |nil=>exact absurd rfl h
 |cons x r=>simp[prep,tot];omega
theorem tT1 (c:UInt8):∀ l:List UInt8,tot (xZ2 c l)=l.length+1
 |[]=>rfl
 |b::l=>by
  rw[rH0]
  have ih:=tT1 c l
  split
  ·simp only[tot,List.length_nil,List.length_cons,ih];omega
  ·rw[pR3 _ (sJ6 c l),ih];simp;omega
theorem sB:∀ X:List (List UInt8),X.length≤tot X
 |[]=>Nat.le_refl _
 |x::r=>by
  have:=sB r
  simp only[List.length_cons,tot];omega
theorem qB1 {c:UInt8}{l:List UInt8}(h:Lib.countByte l c=0):xZ2 c l=[l]:=by
 refine vJ c l ?_
 unfold Lib.countByte at h
 induction l with
 |nil=>rfl
 |cons b l ih =>
  rw[List.count_cons] at h
  have h1:(b==c)=false:=by
   cases hb:b==c with
   |false=>rfl
   |true=>rw[hb] at h;simp at h
  rw[h1] at h
  have:=ih (by simpa using h)
  unfold Lib.indexByte
  rw[h1,this]
  simp
theorem rT6 {c:UInt8}:∀ {l:List UInt8}{i:Nat},Lib.indexByte l c=i→Lib.countByte l c=1+Lib.countByte (l.drop (i+1)) c
 |[],i,h=>by simp only[Lib.indexByte] at h;omega
 |b::l,i,h=>by
  unfold Lib.indexByte at h
  unfold Lib.countByte
  rw[List.count_cons]
  by_cases hb:b==c
  ·simp only[hb,if_true] at h ⊢
   have:i=0:=by omega
   subst this
   simp;omega
  ·simp only[hb,if_false,Bool.false_eq_true] at h ⊢
   by_cases hn:Lib.indexByte l c==-1
   ·simp only[hn,if_true] at h;omega
   ·simp only[hn,if_false,Bool.false_eq_true] at h
    have hge:=Lib.indexByte_ge l c
    have hn':Lib.indexByte l c≠-1:=by simpa using hn
    obtain⟨k,hk⟩:∃ k:Nat,Lib.indexByte l c=k:=⟨(Lib.indexByte l c).toNat,by omega⟩
    have ih:=rT6 hk
    have:i=k+1:=by omega
    subst this
    unfold Lib.countByte at ih
    rw[ih];simp
theorem sI2 (c:UInt8)(l:List UInt8):Lib.countByte l c≤l.length:=List.count_le_length
def libI (c:UInt8)(s:List UInt8)(x:List UInt8×List (List UInt8)×Int×Unit):Prop:=
 0≤x.2.2.1∧x.2.2.1≤Lib.countByte s c∧x.2.1.length=Lib.countByte s c+1∧(Lib.countByte x.1 c:Int)=Lib.countByte s c-x.2.2.1∧x.1.length≤s.length∧x.2.1.take x.2.2.1.toNat++xZ2 c x.1=xZ2 c s
theorem rT7 {X:List (List UInt8)}{k:Nat}{w:List UInt8}(h:k<X.length):(X.set k w).take (k+1)=X.take k++[w]:=by
 rw[List.take_succ_eq_append_getElem (by simpa using h)]
 simp[List.take_set_of_le]
theorem tT2 {c:UInt8}{s:List UInt8}{k:Int}(hk:k=Lib.countByte s c){x:List UInt8×List (List UInt8)×Int×Unit}(hi:libI c s x)(hg:wD7 ([c],0,k,()) x=true) :
  libI c s (wA3 ([c],0,k,()) x)∧(k-(wA3 ([c],0,k,()) x).2.2.1).toNat<(k-x.2.2.1).toNat:=by
 obtain⟨a0,a9,a10,_⟩:=x
 obtain⟨h1,h2,h3,h4,h5,h6⟩:=hi
 simp only at h1 h2 h3 h4 h5 h6
 simp only[wD7,wY4,Bool.and_eq_true,decide_eq_true_eq,Bool.not_eq_true',decide_eq_false_iff_not] at hg
 obtain⟨hg1,hg2⟩:=hg
 have hg2:¬ Lib.indexByte a0 c<0:=hg2
 obtain⟨i,hii⟩:∃ i:Nat,Lib.indexByte a0 c=i:=⟨(Lib.indexByte a0 c).toNat,by omega⟩
 have hs:=uD0 c a0 i hii
 have hc:=rT6 hii
 have e82:f192 a0 [c]=i:=hii
 simp only[wA3,wY4,e82]
 have e0:((i:Int)+0).toNat=i:=by omega
 have e1:((i:Int)+len [c]).toNat=i+1:=by show ((i:Int)+1).toNat=_;omega
 have ek:(a10+1).toNat=a10.toNat+1:=by omega
 rw[e0,e1]
 refine⟨⟨(show 0≤a10+1 by omega),(show a10+1≤_ by omega),?_,?_,?_,?_⟩,(show (k-(a10+1)).toNat<(k-a10).toNat by omega)⟩
 ·simpa using h3
 ·show (Lib.countByte (a0.drop (i+1)) c:Int)=Lib.countByte s c-(a10+1)
  omega
 ·show (a0.drop (i+1)).length≤s.length
  rw[List.length_drop];omega
 ·show (a9.set a10.toNat (a0.take i)).take (a10+1).toNat++xZ2 c (a0.drop (i+1))=xZ2 c s
  rw[ek,rT7 (by omega),List.append_assoc,← h6,hs.1]
  rfl
theorem uQ3 (c:UInt8)(s:List UInt8):libI c s (s,List.replicate (Lib.countByte s c+1) [],0,()):=by
 refine⟨Int.le_refl _,(show (0:Int)≤_ by omega),by simp,(show (Lib.countByte s c:Int)=Lib.countByte s c-0 by omega),Nat.le_refl _,?_⟩
 show (List.replicate (Lib.countByte s c+1) []).take (0:Int).toNat++xZ2 c s=xZ2 c s
 rfl
theorem nI5 (c:UInt8)(s:List UInt8):xX0 ((Lib.countByte s c:Int)+1) (len s+1)=(Lib.countByte s c:Int)+1:=by
 have:=sI2 c s
 unfold xX0 len
 split<;>omega
theorem oX2 (c:UInt8)(s:List UInt8)(hs:len s<9223372036854775808):f168 s [c]=xZ2 c s:=by
 have hcl:=sI2 c s
 have hll:len s=(s.length:Int):=rfl
 have h:=xQ1 (g:=wD7 ([c],0,(Lib.countByte s c:Int),())) (next:=wA3 ([c],0,(Lib.countByte s c:Int),())) (libI c s) (fun x=>((Lib.countByte s c:Int)-x.2.2.1).toNat) (fun x hi hg=>tT2 rfl hi hg) (uQ3 c s) (by simp only[zI1];omega)
 have e84:f194 s [c]=(Lib.countByte s c:Int):=rfl
 have eb:([c]==([]:List UInt8))=false:=rfl
 have en:Int.toNat ((Lib.countByte s c:Int)+1)=Lib.countByte s c+1:=by omega
 have em:(Lib.countByte s c:Int)+1-1=(Lib.countByte s c:Int):=by omega
 have e1:((-1:Int)==0)=false:=rfl
 have e2:decide ((-1:Int)<0)=true:=rfl
 simp only[f168,qC,f183,qB8,wV,wV0,wV1,e84,eb,e1,e2,cond_false,cond_true,nI5,en,em]
 generalize zC1 (wD7 ([c],0,(Lib.countByte s c:Int),())) (wA3 ([c],0,(Lib.countByte s c:Int),())) (s,List.replicate (Lib.countByte s c+1) [],0,())=e at h
 obtain⟨a0,a9,a10,_⟩:=e
 obtain⟨⟨h1,h2,h3,h4,h5,h6⟩,h7⟩:=h
 simp only at h1 h2 h3 h4 h5 h6
 have hone:xZ2 c a0=[a0]:=by
  simp only[wD7,wY4,Bool.and_eq_false_iff,decide_eq_false_iff_not,Bool.not_eq_false',decide_eq_true_eq] at h7
  rcases h7 with h7|h7
  ·exact qB1 (by omega)
  ·have h7:Lib.indexByte a0 c<0:=h7
   have:=Lib.indexByte_ge a0 c
   exact vJ c a0 (by omega)
 show (a9.set a10.toNat a0).take (a10+1).toNat=xZ2 c s
 have ek:(a10+1).toNat=a10.toNat+1:=by omega
 rw[ek,rT7 (by omega),← hone,h6]
theorem pR4 (c:UInt8)(s:List UInt8)(hs:len s≤4096):uA0 s [c]:=by
 have hcl:=sI2 c s
 have hll:len s=(s.length:Int):=rfl
 have e84:f194 s [c]=(Lib.countByte s c:Int):=rfl
 have eb:([c]==([]:List UInt8))=false:=rfl
 have en:Int.toNat ((Lib.countByte s c:Int)+1)=Lib.countByte s c+1:=by omega
 have em:(Lib.countByte s c:Int)+1-1=(Lib.countByte s c:Int):=by omega
 have e1:((-1:Int)==0)=false:=rfl
 have e2:decide ((-1:Int)<0)=true:=rfl
 have h:=xQ1 (g:=wD7 ([c],0,(Lib.countByte s c:Int),())) (next:=wA3 ([c],0,(Lib.countByte s c:Int),())) (libI c s) (fun x=>((Lib.countByte s c:Int)-x.2.2.1).toNat) (fun x hi hg=>tT2 rfl hi hg) (uQ3 c s) (by simp only[zI1];omega)
 have hE:Am.Ends (wD7 ([c],0,(Lib.countByte s c:Int),())) (wA3 ([c],0,(Lib.countByte s c:Int),())) (wY5 ([c],0,(Lib.countByte s c:Int),())) (s,List.replicate (Lib.countByte s c+1) [],0,()):=by
  refine xQ2 (libI c s) (fun x=>((Lib.countByte s c:Int)-x.2.2.1).toNat) (fun x hi=>?_) (fun x hi hg=>tT2 rfl hi hg) (uQ3 c s) (by simp only[zI1];omega)
  obtain⟨a0,a9,a10,_⟩:=x
  obtain⟨h1,h2,h3,h4,h5,h6⟩:=hi
  simp only at h1 h2 h3 h4 h5 h6
  intro hv
  have hv:a10<(Lib.countByte s c:Int):=of_decide_eq_true hv
  refine⟨rfl,fun g=>?_⟩
  have g:(!decide (Lib.indexByte a0 c<0))=true:=g
  have g:¬ Lib.indexByte a0 c<0:=by simpa using g
  obtain⟨i,hii⟩:∃ i:Nat,Lib.indexByte a0 c=i:=⟨(Lib.indexByte a0 c).toNat,by omega⟩
  have hs:=uD0 c a0 i hii
  have e82:f192 a0 [c]=i:=hii
  have hla:len a0=(a0.length:Int):=rfl
  have hl9:len a9=(a9.length:Int):=rfl
  have hone:len [c]=1:=rfl
  simp only[e82,hone]
  exact⟨uC9 (by omega) (by omega),⟨by omega,by omega⟩,⟨by omega,by omega⟩,by omega,uC9 (by omega) (by omega),⟨by omega,by omega⟩,uC9 (by omega) (by omega)⟩
 simp only[uA0,qC,tC5,qB8,wV,wV0,wV1,e84,eb,e1,e2,cond_true,nI5,en,em]
 generalize zC1 (wD7 ([c],0,(Lib.countByte s c:Int),())) (wA3 ([c],0,(Lib.countByte s c:Int),())) (s,List.replicate (Lib.countByte s c+1) [],0,())=e at h
 obtain⟨a0,a9,a10,_⟩:=e
 obtain⟨⟨h1,h2,h3,h4,h5,h6⟩,h7⟩:=h
 simp only at h1 h2 h3 h4 h5 h6
 have hl9:len a9=(a9.length:Int):=rfl
 have hset:len (a9.set a10.toNat a0)=(a9.length:Int):=by unfold len;rw[List.length_set]
 refine fun _=>⟨fun g=>absurd g (by simp),fun _=>⟨fun _=>⟨rfl,uC9 (by omega) (by omega)⟩,uC9 (by omega) (by omega),⟨by omega,by omega,by omega⟩,uC9 (by omega) (by omega),hE,?_⟩⟩
 show InB a10 (len a9)∧a10<len a9∧InR (a10+1)∧0≤a10+1∧a10+1≤len (a9.set a10.toNat a0)
 rw[hset]
 exact⟨⟨by omega,by omega⟩,by omega,uC9 (by omega) (by omega),by omega,by omega⟩
end Go.Proofs.YtpanghcojpnkaaaGreatDoor.Am
