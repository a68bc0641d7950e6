/- The checksum of a text: two texts that differ at one byte have different ones. Condition: none. -/
import Derived.Test.YtmbjipigimohbaaGreatDoorNpA
import Derived.Test.YtmbjipigimohbaaGreatDoorDocQ
import Derived.Test.YtmbjipigimohbaaGreatDoorMach5
set_option linter.unusedVariables false
namespace Go.Proofs.YtmbjipigimohbaaGreatDoor.Am
open Go Go.Am Go.Proofs
def tabN:List Nat:=[0,1996959894,3993919788,2567524794,124634137,1886057615,3915621685,2657392035,249268274,2044508324,3772115230,2547177864,162941995,2125561021,3887607047,2428444049,498536548,1789927666,4089016648,2227061214,450548861,1843258603,4107580753,2211677639,325883990,1684777152,4251122042,2321926636,335633487,1661365465,4195302755,2366115317,997073096,1281953886,3579855332,2724688242,1006888145,1258607687,3524101629,2768942443,901097722,1119000684,3686517206,2898065728,853044451,1172266101,3705015759,2882616665,651767980,1373503546,3369554304,3218104598,565507253,1454621731,3485111705,3099436303,671266974,1594198024,3322730930,2970347812,795835527,1483230225,3244367275,3060149565,1994146192,31158534,2563907772,4023717930,1907459465,112637215,2680153253,3904427059,2013776290,251722036,2517215374,3775830040,2137656763,141376813,2439277719,3865271297,1802195444,476864866,2238001368,4066508878,1812370925,453092731,2181625025,4111451223,1706088902,314042704,2344532202,4240017532,1658658271,366619977,2362670323,4224994405,1303535960,984961486,2747007092,3569037538,1256170817,1037604311,2765210733,3554079995,1131014506,879679996,2909243462,3663771856,1141124467,855842277,2852801631,3708648649,1342533948,654459306,3188396048,3373015174,1466479909,544179635,3110523913,3462522015,1591671054,702138776,2966460450,3352799412,1504918807,783551873,3082640443,3233442989,3988292384,2596254646,62317068,1957810842,3939845945,2647816111,81470997,1943803523,3814918930,2489596804,225274430,2053790376,3826175755,2466906013,167816743,2097651377,4027552580,2265490386,503444072,1762050814,4150417245,2154129355,426522225,1852507879,4275313526,2312317920,282753626,1742555852,4189708143,2394877945,397917763,1622183637,3604390888,2714866558,953729732,1340076626,3518719985,2797360999,1068828381,1219638859,3624741850,2936675148,906185462,1090812512,3747672003,2825379669,829329135,1181335161,3412177804,3160834842,628085408,1382605366,3423369109,3138078467,570562233,1426400815,3317316542,2998733608,733239954,1555261956,3268935591,3050360625,752459403,1541320221,2607071920,3965973030,1969922972,40735498,2617837225,3943577151,1913087877,83908371,2512341634,3803740692,2075208622,213261112,2463272603,3855990285,2094854071,198958881,2262029012,4057260610,1759359992,534414190,2176718541,4139329115,1873836001,414664567,2282248934,4279200368,1711684554,285281116,2405801727,4167216745,1634467795,376229701,2685067896,3608007406,1308918612,956543938,2808555105,3495958263,1231636301,1047427035,2932959818,3654703836,1088359270,936918000,2847714899,3736837829,1202900863,817233897,3183342108,3401237130,1404277552,615818150,3134207493,3453421203,1423857449,601450431,3009837614,3294710456,1567103746,711928724,3020668471,3272380065,1510334235,755167117]
def tabI:List Int:=List.map Int.ofNat tabN
theorem qQ:f115=tabI:=by kernel_rfl
theorem qQ0:tP1:=of_decide_eq_true (by kernel_rfl)
theorem pL7:tabN.length=256:=by kernel_rfl
theorem qF9:(tabN.all fun n=>Nat.blt n 4294967296)=true:=by kernel_rfl
theorem rM:((List.range 256).all fun i=>Nat.beq (List.idxOf (tabN.getD i 0 / 16777216) (tabN.map (fun n=>n / 16777216))) i)=true:=by kernel_rfl
theorem qT (i:Nat):tabN.getD i 0<4294967296:=by
 rcases Nat.lt_or_ge i tabN.length with h|h
 ·have:=List.all_eq_true.1 qF9 (tabN[i]) (List.getElem_mem h);rw[List.getD_eq_getElem?_getD,List.getElem?_eq_getElem h];exact Nat.le_of_ble_eq_true this
 ·rw[List.getD_eq_getElem?_getD,List.getElem?_eq_none h];decide
theorem pL8 {i j:Nat}(hi:i<256)(hj:j<256)(h:tabN.getD i 0 / 16777216=tabN.getD j 0 / 16777216):i=j:=by
 have a:=Nat.eq_of_beq_eq_true (List.all_eq_true.1 rM i (List.mem_range.2 hi));have b:=Nat.eq_of_beq_eq_true (List.all_eq_true.1 rM j (List.mem_range.2 hj));rw[h] at a;exact a.symm.trans b
def tU4 (c b:Nat):Nat:=(c / 256) ^^^ tabN.getD ((c % 256) ^^^ b) 0
theorem sP7 {x y k:Nat}(hx:x<2 ^ k)(hy:y<2 ^ k):x ^^^ y<2 ^ k:=Nat.xor_lt_two_pow hx hy
theorem tA8 {c b:Nat}(hc:c<4294967296):tU4 c b<4294967296:=sP7 (k:=32) (by omega) (qT _)
theorem rH7 {x y z:Nat}(h:x ^^^ z=y ^^^ z):x=y:=by
 have:=congrArg (fun q=>q ^^^ z) h;simpa[Nat.xor_assoc] using this
theorem rM0 {c c' b b':Nat}(hc:c<4294967296)(hc':c'<4294967296)(hb:b<256)(hb':b'<256)(h:tU4 c b=tU4 c' b'):(c % 256) ^^^ b=(c' % 256) ^^^ b'∧c / 256=c' / 256:=by
 have top:∀ x t:Nat,x<16777216→(x ^^^ t) / 16777216=t / 16777216:=fun x t hx=>by
  have e:∀ n:Nat,n / 16777216=n >>> 24:=fun n=>by rw[Nat.shiftRight_eq_div_pow]
  rw[e,e,Nat.shiftRight_xor_distrib,← e x,Nat.div_eq_of_lt hx,Nat.zero_xor]
 have h1:=congrArg (fun q=>q / 16777216) h;simp only[tU4] at h1;rw[top _ _ (by omega),top _ _ (by omega)] at h1;have hi:=pL8 (sP7 (k:=8) (by omega) (by omega)) (sP7 (k:=8) (by omega) (by omega)) h1;refine⟨hi,?_⟩;unfold tU4 at h;rw[hi] at h;exact rH7 h
theorem pS {c c' b:Nat}(hc:c<4294967296)(hc':c'<4294967296)(hb:b<256)(h:tU4 c b=tU4 c' b):c=c':=by
 obtain⟨h1,h2⟩:=rM0 hc hc' hb hb h;have:=rH7 h1;omega
theorem pS0 {c b b':Nat}(hc:c<4294967296)(hb:b<256)(hb':b'<256)(h:tU4 c b=tU4 c b'):b=b':=by
 obtain⟨h1,_⟩:=rM0 hc hc hb hb' h;rw[Nat.xor_comm,Nat.xor_comm (c % 256)] at h1;exact rH7 h1
def crcN (c:Nat)(l:List UInt8):Nat:=l.foldl (fun c b=>tU4 c b.toNat) c
theorem sW2:∀ (l:List UInt8) (c:Nat),c<4294967296→crcN c l<4294967296:=by
 intro l
 induction l with
 |nil=>intro c h;exact h
 |cons b l ih=>intro c h;exact ih _ (tA8 h)
theorem qQ1:∀ (l:List UInt8) (c c':Nat),c<4294967296→c'<4294967296→crcN c l=crcN c' l→c=c':=by
 intro l
 induction l with
 |nil=>intro c c' _ _ h;exact h
 |cons b l ih=>intro c c' hc hc' h;exact pS hc hc' (UInt8.toNat_lt b) (ih _ _ (tA8 hc) (tA8 hc') h)
theorem qQ2 (p q:List UInt8)(x y:UInt8)(c:Nat)(hc:c<4294967296)(h:crcN c (p++x::q)=crcN c (p++y::q)):x=y:=by
 simp only[crcN,List.foldl_append,List.foldl_cons] at h;have hp:=sW2 p c hc;have:=qQ1 q _ _ (tA8 hp) (tA8 hp) h;exact UInt8.toNat_inj.1 (pS0 hp (UInt8.toNat_lt x) (UInt8.toNat_lt y) this)
theorem qQ3 (x y:Nat)(hx:x<4294967296)(hy:y<4294967296):wU9 .u32 (x:Int) (y:Int)=((x ^^^ y:Nat):Int):=by
 show IntKind.wrap .u32 ((BitVec.ofInt 32 (x:Int) ^^^ BitVec.ofInt 32 (y:Int)).toNat)=_;have h:=sP7 (k:=32) hx hy;rw[BitVec.toNat_xor,BitVec.ofInt_natCast,BitVec.ofInt_natCast,BitVec.toNat_ofNat,BitVec.toNat_ofNat,Nat.mod_eq_of_lt hx,Nat.mod_eq_of_lt hy,IntKind.wrap_u32];omega
theorem pL9 (x y:Nat)(hx:x<256)(hy:y<256):wU9 .u8 (x:Int) (y:Int)=((x ^^^ y:Nat):Int):=by
 show IntKind.wrap .u8 ((BitVec.ofInt 8 (x:Int) ^^^ BitVec.ofInt 8 (y:Int)).toNat)=_;have h:=sP7 (k:=8) hx hy;rw[BitVec.toNat_xor,BitVec.ofInt_natCast,BitVec.ofInt_natCast,BitVec.toNat_ofNat,BitVec.toNat_ofNat,Nat.mod_eq_of_lt hx,Nat.mod_eq_of_lt hy,IntKind.wrap_u8];omega
theorem tX3 (n k:Nat)(hk:k≤32):wV1 (n:Int) (k:Int) 32=((n / 2 ^ k:Nat):Int):=by
 show ((n:Int)).fdiv (2 ^ (min (k:Int).toNat 32))=_;rw[show (min (k:Int).toNat 32)=k by omega,Int.fdiv_eq_ediv_of_nonneg _ (Int.le_of_lt (Int.pow_pos (by decide)))]
 push_cast
 rfl
set_option maxRecDepth 100000 in
theorem qQ4 (s:List UInt8)(T:List Int)(hT:T=tabI)(c i:Nat)(hc:c<4294967296)(hi:i<s.length)(hs:len s<9000000000000000000):vJ8 (s,T,len s,()) ((c:Int),(i:Int),())=(((tU4 c (s[i]).toNat:Nat):Int),((i+1:Nat):Int),())∧uH3 (s,T,len s,()) ((c:Int),(i:Int),()):=by
 have hb:wT5 s (i:Int)=((s[i]).toNat:Int):=uN1 (List.drop_eq_getElem_cons hi);have hlt:(s[i]).toNat<256:=UInt8.toNat_lt _;have hx:wU9 .u8 (IntKind.wrap .u8 (c:Int)) (wT5 s (i:Int))=(((c % 256) ^^^ (s[i]).toNat:Nat):Int):=by
  rw[hb,IntKind.wrap_u8,show ((c:Int) % 256)=((c % 256:Nat):Int) by omega];exact pL9 _ _ (by omega) hlt
 have hj:=sP7 (k:=8) (show c % 256<2 ^ 8 by omega) hlt;have hn:nth T ((((c % 256) ^^^ (s[i]).toNat:Nat):Int)) 0=((tabN.getD ((c % 256) ^^^ (s[i]).toNat) 0:Nat):Int):=by
  subst hT;have hl:(c % 256) ^^^ (s[i]).toNat<tabN.length:=by rw[pL7];exact hj
  have hl2:(c % 256) ^^^ (s[i]).toNat<tabI.length:=by rw[show tabI.length=tabN.length from List.length_map _];exact hl
  rw[uC9 _ _ hl2];rw[show tabI[(c % 256) ^^^ (s[i]).toNat]=Int.ofNat (tabN[(c % 256) ^^^ (s[i]).toNat]) from List.getElem_map _];rw[List.getD_eq_getElem?_getD,List.getElem?_eq_getElem hl];rfl
 constructor
 ·show (wU9 .u32 (wV1 (c:Int) (8:Int) 32) (nth T (wU9 .u8 (IntKind.wrap .u8 (c:Int)) (wT5 s (i:Int))) 0),(i:Int)+1,())=_;rw[hx,hn,show (8:Int)=((8:Nat):Int) by rfl,tX3 c 8 (by decide),qQ3 _ _ (by omega) (qT _)];rfl
 ·intro _;refine⟨⟨by show (0:Int)≤(i:Int);omega,by show (i:Int)<len s;simp only[len];omega⟩,?_,?_⟩
  ·show InB (wU9 .u8 (IntKind.wrap .u8 (c:Int)) (wT5 s (i:Int))) 256;rw[hx];exact⟨by omega,by omega⟩
  ·exact (show InR ((i:Int)+1) from inR (by omega) (by simp only[len] at hs;omega))
theorem qQ5 (s:List UInt8)(T:List Int)(hT:T=tabI)(hs:len s<9000000000000000000):∀ (n i c:Nat),i+n=s.length→c<4294967296 →
  LT (uZ9 (s,T,len s,())) (vJ8 (s,T,len s,())) (uH3 (s,T,len s,())) n ((c:Int),(i:Int),()) (((crcN c (s.drop i):Nat):Int),(len s),()):=by
 intro n
 induction n with
 |zero =>
  intro i c hi hc;have e:s.drop i=[]:=List.drop_eq_nil_of_le (by omega);rw[e,show (i:Int)=len s by simp only[len];omega];exact .stop (fun h=>by have h:decide (len s<len s)=true:=h;simp at h) (by show decide (len s<len s)=false;simp)
 |succ n ih =>
  intro i c hi hc;have hlt:i<s.length:=by omega
  obtain⟨n1,n2⟩:=qQ4 s T hT c i hc hlt hs;have q:=ih (i+1) (tU4 c (s[i]).toNat) (by omega) (tA8 hc);rw[← n1] at q;rw[List.drop_eq_getElem_cons hlt];exact .step n2 (by show decide ((i:Int)<len s)=true;exact decide_eq_true (by simp only[len];omega)) q
theorem qQ6 (n:Nat)(hn:n<4294967296):wV .u32 (n:Int)=((4294967295-n:Nat):Int):=by
 have e:wV .u32 (n:Int)=IntKind.wrap .u32 ((BitVec.ofInt 32 (IntKind.max .u32) ^^^ BitVec.ofInt 32 (n:Int)).toNat):=rfl;have hm:BitVec.ofInt 32 (IntKind.max .u32)=BitVec.allOnes 32:=by decide
 rw[e,hm,BitVec.allOnes_xor,BitVec.toNat_not,BitVec.ofInt_natCast,BitVec.toNat_ofNat,IntKind.wrap_u32,Nat.mod_eq_of_lt (by omega:n<2 ^ 32)];omega
theorem qG (s:List UInt8)(hs:len s<9000000000000000000):sZ8 s∧f96 s=((4294967295-crcN 4294967295 s:Nat):Int):=by
 have h:=qQ5 s f115 qQ hs s.length 0 4294967295 (by omega) (by decide);simp only[List.drop_zero] at h;have hl:s.length<18446744073709551616:=by simp only[len] at hs;omega
 refine⟨⟨qQ0,h.ends hl⟩,?_⟩;show wV .u32 (zC4 (uZ9 (s,f115,len s,())) (vJ8 (s,f115,len s,())) ((4294967295:Int),(0:Int),())).1=_;rw[show zC4 (uZ9 (s,f115,len s,())) (vJ8 (s,f115,len s,())) ((4294967295:Int),(0:Int),())=_ from h.fix hl];exact qQ6 _ (sW2 _ _ (by decide))
theorem qG0 (s:List UInt8)(hs:len s<9000000000000000000):sH7 s:=(qG s hs).1
theorem tE3 (s:List UInt8):(f67 s).length=4:=rfl
theorem pS1 {v w:Nat}(hv:v<4294967296)(hw:w<4294967296)(h:xC3 [IntKind.wrap .u8 (v:Int),IntKind.wrap .u8 (wV1 (v:Int) (8:Int) 32),IntKind.wrap .u8 (wV1 (v:Int) (16:Int) 32),IntKind.wrap .u8 (wV1 (v:Int) (24:Int) 32)] =
  xC3 [IntKind.wrap .u8 (w:Int),IntKind.wrap .u8 (wV1 (w:Int) (8:Int) 32),IntKind.wrap .u8 (wV1 (w:Int) (16:Int) 32),IntKind.wrap .u8 (wV1 (w:Int) (24:Int) 32)]):v=w:=by
 have k8:∀ n:Nat,wV1 (n:Int) (8:Int) 32=((n / 2 ^ 8:Nat):Int):=fun n=>tX3 n 8 (by decide);have k16:∀ n:Nat,wV1 (n:Int) (16:Int) 32=((n / 2 ^ 16:Nat):Int):=fun n=>tX3 n 16 (by decide);have k24:∀ n:Nat,wV1 (n:Int) (24:Int) 32=((n / 2 ^ 24:Nat):Int):=fun n=>tX3 n 24 (by decide);have b:∀ n m:Nat,UInt8.ofNat (((n:Int) % 256).toNat)=UInt8.ofNat (((m:Int) % 256).toNat)→n % 256=m % 256:=fun n m h=>by
  have:=congrArg UInt8.toNat h;rw[vQ1 (by omega),vQ1 (by omega)] at this;omega
 simp only[xC3,List.map_cons,List.map_nil,List.cons.injEq,IntKind.wrap_u8] at h;rw[k8,k8,k16,k16,k24,k24] at h;have h1:=b _ _ h.1;have h2:=b _ _ h.2.1;have h3:=b _ _ h.2.2.1;have h4:=b _ _ h.2.2.2.1;omega
theorem pM (p q:List UInt8)(x y:UInt8)(hl:len (p++x::q)<9000000000000000000)(h:f67 (p++x::q)=f67 (p++y::q)):x=y:=by
 have e:∀ s,f67 s=xC3 [IntKind.wrap .u8 (f96 s),IntKind.wrap .u8 (wV1 (f96 s) (8:Int) 32),IntKind.wrap .u8 (wV1 (f96 s) (16:Int) 32),IntKind.wrap .u8 (wV1 (f96 s) (24:Int) 32)]:=fun _=>rfl;have hl2:len (p++y::q)<9000000000000000000:=by simp only[len,List.length_append,List.length_cons] at hl ⊢;exact hl
 have a:=sW2 (p++x::q) 4294967295 (by decide);have b:=sW2 (p++y::q) 4294967295 (by decide);rw[e,e,(qG _ hl).2,(qG _ hl2).2] at h;have:=pS1 (by omega) (by omega) h;exact qQ2 p q x y 4294967295 (by decide) (by omega)
end Go.Proofs.YtmbjipigimohbaaGreatDoor.Am
set_option linter.unusedVariables false
namespace Go.Proofs.YtmbjipigimohbaaGreatDoor.Am
open Go Go.Am Go.Proofs
def vB7 (w:List UInt8):List UInt8:=vlq w.length++w
def wY4 (w:List UInt8):List UInt8:=vB7 w++f67 (vB7 w)
theorem tM (w:List UInt8):(wY4 w).length=(vlq w.length).length+w.length+4:=by
 simp only[wY4,vB7,List.length_append,tE3]
theorem qG1 (w:List UInt8)(hw:w.length≤4000000000):vJ4 w∧f34 w=vB7 w:=by
 obtain⟨a,b⟩:=uV2 w hw;refine⟨a,b.trans ?_⟩;unfold sJ6 vB7 wV5;rw[show (len w % 18446744073709551616).toNat=w.length by simp only[len];omega]
theorem qQ7 (w:List UInt8)(hw:len w<9000000000000000000):sZ9 w∧((f25 w).2.1=0→w.length≤1048576∧(f25 w).1=wY4 w):=by
 cases hd:decide ((len w)>1048576) with
 |true =>
  constructor
  ·intro h;rw[hd] at h;cases h
  ·intro h;have h:(bif decide ((len w)>1048576) then (3:Int) else (0:Int))=0:=h;rw[hd] at h;cases h
 |false =>
  have hl:w.length≤1048576:=by have:=of_decide_eq_false hd;simp only[len] at this;omega
  obtain⟨a,b⟩:=qG1 w (by omega);have hv:=tE1 w.length;have hb:len (vB7 w)<9000000000000000000:=by simp only[len,vB7,List.length_append];omega
  constructor
  ·intro _;refine⟨a,?_,?_⟩
   ·show sH7 (f34 w);rw[b];exact qG0 _ hb
   ·show ((List.length (f34 w)+List.length (f67 (f34 w)):Nat):Int)≤9223372036854775807;rw[b,tE3];simp only[vB7,List.length_append];omega
  ·intro _;refine⟨hl,?_⟩;show (bif decide ((len w)>1048576) then ([]:List UInt8) else f34 w++f67 (f34 w))=_;rw[hd,b];rfl
theorem uI1 {w w' more t:List UInt8}(hw:w.length≤1048576)(hw':w'.length≤1048576)(h:vlq w.length++(w++t)=wY4 w'++more):w=w'∧t=f67 (vB7 w')++more:=by
 have h:vlq w.length++(w++t)=vlq w'.length++(w'++(f67 (vB7 w')++more)):=by
  rw[h];simp only[wY4,vB7,List.append_assoc]
 obtain⟨h1,h2⟩:=sW1 (by omega) (by omega) h;exact List.append_inj h2 h1
theorem qG2 (r:List UInt8)(hr:len r<9000000000000000000):rB5 r ∧
  ((∃ w more,w.length≤1048576∧r=wY4 w++more∧f28 r=(w,((wY4 w).length:Int),0,()))∨((∀ w more,w.length≤1048576→r≠wY4 w++more)∧(f28 r).2.2.1≠0)):=by
 obtain⟨t1,t2⟩:=pL6 r 0 1048576 (by omega) (Nat.zero_le _) (by decide);have o0:(qJ1 r).1=rdr r 0 0:=rfl;have c:((1048576:Nat):Int)=(1048576:Int):=rfl;rw[c] at t1 t2;rcases t2 with ⟨w,⟨t,ht⟩,h2,h3,h4,h5⟩ | ⟨h1,h2,q',e,h3,h4,h5⟩
 ·simp only[Nat.zero_add] at h4 h5;rw[List.drop_zero] at ht;generalize hP:(vlq w.length).length+w.length=P at h4 h5;obtain⟨l1,l2,l3⟩:=qF8 r P 0 (by omega) h5;have l2:tC0 (rdr r P 0)=((r.length-P:Nat):Int):=l2;have hlt:r.length=P+t.length:=by rw[ht];simp only[List.length_append];omega
  have e1:uC5 (rdr r P 0)=0:=rfl;have e2:vD9 (rdr r P 0)=(rdr r P 0,()):=rfl;have hlen:len r=(r.length:Int):=rfl;have v25:len r-tC0 (rdr r P 0)=(P:Int):=by rw[l2,hlen];omega
  have hbody:List.take P r=vB7 w:=by
   have e:r=vB7 w++t:=by rw[ht];simp only[vB7,List.append_assoc]
   have hb:(vB7 w).length=P:=by simp only[vB7,List.length_append];exact hP
   rw[e,← hb,List.take_left]
  have hrest:List.drop P r=t:=by
   have e:r=vB7 w++t:=by rw[ht];simp only[vB7,List.append_assoc]
   have hb:(vB7 w).length=P:=by simp only[vB7,List.length_append];exact hP
   rw[e,← hb,List.drop_left]
  have hnb:len (vB7 w)<9000000000000000000:=by have hv:=tE1 w.length;simp only[len,vB7,List.length_append];omega
  have hv33:List.take (Int.toNat (P:Int)) r=vB7 w:=by rw[Int.toNat_natCast];exact hbody
  have hv4:List.drop (Int.toNat (P:Int)) (List.take (Int.toNat ((P:Int)+4)) r)=t.take 4:=by
   rw[Int.toNat_natCast,show ((P:Int)+4).toNat=P+4 by omega,List.drop_take,hrest];congr 1;omega
  by_cases h20:t.length<4
  ·have hd:decide (((r.length-P:Nat):Int)<4)=true:=decide_eq_true (by omega);constructor
   ·refine⟨trivial,t1,trivial,fun _=>?_⟩;rw[o0,h4];refine⟨l1,fun h=>?_⟩;rw[e2,l2,hd] at h;cases h
   ·refine .inr ⟨fun w' more hw' hh=>?_,?_⟩
    ·rw[ht] at hh;obtain⟨_,hh⟩:=uI1 h2 hw' hh;have:=congrArg List.length hh;simp only[List.length_append,tE3] at this;omega
    ·simp only[f28,f28t,o0,h4,e1,e2,l2,hd,bne_self_eq_false,cond_true,cond_false];decide
  ·have hd:decide (((r.length-P:Nat):Int)<4)=false:=decide_eq_false (by omega);have v16:((0:Int)!=0)=false:=rfl;cases hs:(t.take 4==f67 (vB7 w)) with
   |false =>
    constructor
    ·refine⟨trivial,t1,trivial,fun _=>?_⟩;rw[o0,h4];refine⟨l1,fun _=>?_⟩;rw[e2];simp only;rw[l3];simp only;rw[v25,hv33];refine⟨l1,inR (by omega) (by omega),inR (by omega) (by omega),⟨by omega,by omega,by rw[hlen];omega⟩,⟨by omega,by rw[hlen];omega⟩,qG0 _ hnb,fun _=>inR (by omega) (by omega)⟩
    ·refine .inr ⟨fun w' more hw' hh=>?_,?_⟩
     ·rw[ht] at hh;obtain⟨rfl,hh⟩:=uI1 h2 hw' hh;have:t.take 4=f67 (vB7 w):=by rw[hh,← tE3 (vB7 w),List.take_left]
      rw[this] at hs;simp at hs
     ·simp only[f28,f28t,o0,h4,e1,e2,l2,l3,hd,v16,cond_false];rw[show len r-((r.length-P:Nat):Int)=(P:Int) by rw[hlen];omega,hv33,hv4,hs];simp only[Bool.not_false,cond_true];decide
   |true =>
    have hs':t.take 4=f67 (vB7 w):=by simpa using hs
    have hfl:(wY4 w).length=P+4:=by rw[tM,hP]
    constructor
    ·refine⟨trivial,t1,trivial,fun _=>?_⟩;rw[o0,h4];refine⟨l1,fun _=>?_⟩;rw[e2];simp only;rw[l3];simp only;rw[v25,hv33];refine⟨l1,inR (by omega) (by omega),inR (by omega) (by omega),⟨by omega,by omega,by rw[hlen];omega⟩,⟨by omega,by rw[hlen];omega⟩,qG0 _ hnb,fun _=>inR (by omega) (by omega)⟩
    ·refine .inl ⟨w,t.drop 4,h2,?_,?_⟩
     ·rw[wY4,← hs',List.append_assoc,List.take_append_drop,ht];simp only[vB7,List.append_assoc]
     ·simp only[f28,f28t,o0,h3,h4,e1,e2,l2,l3,hd,v16,cond_false];rw[show len r-((r.length-P:Nat):Int)=(P:Int) by rw[hlen];omega,hv33,hv4,hs,hfl];simp only[Bool.not_true,cond_false];rw[show ((P+4:Nat):Int)=(P:Int)+4 by omega]
 ·have hb:(e !=0)=true:=by simpa using h4
  constructor
  ·refine⟨trivial,t1,trivial,fun h=>?_⟩;have h:(!(uC5 (uC6 (rdr r 0 0) 1048576).1 !=0))=true:=h;rw[h3] at h;have h:(!(e !=0))=true:=h;rw[hb] at h;cases h
  ·refine .inr ⟨fun w more hw hh=>h1 w hw ⟨f67 (vB7 w)++more,by rw[List.drop_zero,hh];simp only[wY4,vB7,List.append_assoc]⟩,?_⟩;have e1:uC5 (rdr r q' e)=e:=rfl;simp only[f28,f28t,o0,h3,e1,hb,cond_true];exact h4
end Go.Proofs.YtmbjipigimohbaaGreatDoor.Am
set_option linter.unusedVariables false
namespace Go.Proofs.YtmbjipigimohbaaGreatDoor.Am
open Go Go.Am Go.Proofs
def magicB:List UInt8:=[73,69,68,49]
theorem qT0 (s:List UInt8):sO9 s magicB∧((∃ r,s=magicB++r∧f27 s magicB=(r,true,()))∨((∀ r,s≠magicB++r)∧(f27 s magicB).2.1=false)):=by
 have hm:len magicB=4:=rfl;have h97:f97 s magicB=(bif decide (len s≥4) then (s.take 4==magicB) else false):=rfl;have hv:(f27 s magicB)=((bif !(f97 s magicB) then s else s.drop 4),(bif !(f97 s magicB) then false else true),()):=rfl;have ask:sO9 s magicB:=by
  refine⟨fun h=>⟨by decide,?_⟩,fun h=>⟨by decide,?_⟩⟩
  ·have h:decide (len s≥4)=true:=h;have:=of_decide_eq_true h;show (4:Int)≤len s;omega
  ·have h:(!(!(f97 s magicB)))=true:=h;rw[h97] at h;cases hd:decide (len s≥4) with
   |true=>have:=of_decide_eq_true hd;show (4:Int)≤len s;omega
   |false=>rw[hd] at h;cases h
 refine⟨ask,?_⟩;cases h:f97 s magicB with
 |true =>
  rw[h] at hv;rw[h97] at h;cases hd:decide (len s≥4) with
  |false=>rw[hd] at h;cases h
  |true =>
   rw[hd] at h;have h:s.take 4=magicB:=by simpa using h
   exact .inl ⟨s.drop 4,by rw[← h,List.take_append_drop],hv⟩
 |false =>
  rw[h] at hv;refine .inr ⟨fun r hr=>?_,by rw[hv];rfl⟩;rw[h97] at h;have hl:len s≥4:=by rw[hr];simp only[len,List.length_append];have:magicB.length=4:=rfl;omega
  rw[decide_eq_true hl] at h;have ht:s.take 4=magicB:=by rw[hr];exact List.take_left (l₁:=magicB)
  rw[ht] at h;simp at h
theorem tP7 (s:List UInt8)(hs:len s<9000000000000000000)(h:∀ w,w.length≤1048576→s≠magicB++wY4 w):sJ1 s∧(f8 s).2.1≠0:=by
 obtain⟨c1,c2⟩:=qT0 s;have m0:([73,69,68,49]:List UInt8)=magicB:=rfl;simp only[sJ1,f8,f8t,m0];cases hd:decide (len s>1048576) with
 |true=>exact⟨fun h=>(by cases h),by simp only[cond_true];decide⟩
 |false =>
  simp only[cond_false];rcases c2 with ⟨r,hr,hc⟩ | ⟨_,hc⟩
  ·have hrl:len r<9000000000000000000:=by rw[hr] at hs;simp only[len,List.length_append] at hs ⊢;omega
   obtain⟨o1,o2⟩:=qG2 r hrl;rw[hc];simp only[Bool.not_true,cond_false];rcases o2 with ⟨w,more,hw,hrw,ho⟩ | ⟨_,he⟩
   ·rw[ho];simp only[bne_self_eq_false,cond_false];have hm:more≠[]:=fun e=>h w hw (by rw[hr,hrw,e,List.append_nil]);have hlt:decide (((wY4 w).length:Int)<len r)=true:=decide_eq_true (by
     rw[hrw];simp only[len,List.length_append];have:0<more.length:=List.length_pos_iff.2 hm;omega)
    rw[hlt];simp only[cond_true];exact⟨fun _=>⟨c1,fun _=>⟨o1,fun _ h=>(by cases h)⟩⟩,by decide⟩
   ·have hb:((f28 r).2.2.1 !=0)=true:=by simpa using he
    rw[hb];simp only[cond_true];exact⟨fun _=>⟨c1,fun _=>⟨o1,fun h=>(by cases h)⟩⟩,he⟩
  ·rw[hc];simp only[Bool.not_false,cond_true];exact⟨fun _=>⟨c1,fun h=>(by cases h)⟩,by decide⟩
theorem rH8 (w more:List UInt8)(hw:w.length≤1048576)(hm:more≠[])(hl:len more<8000000000000000000) :
  (f8 (magicB++wY4 w++more)).2.1=(bif decide (len (magicB++wY4 w++more)>1048576) then (3:Int) else 6):=by
 have hv:=tE1 w.length;have hF:=tM w;have hM:magicB.length=4:=rfl;have hs:len (wY4 w++more)<9000000000000000000:=by simp only[len,List.length_append] at hl ⊢;omega
 generalize hS:magicB++wY4 w++more=s;have hS':s=magicB++(wY4 w++more):=by rw[← hS,List.append_assoc]
 obtain⟨c1,c2⟩:=qT0 s;have m0:([73,69,68,49]:List UInt8)=magicB:=rfl;simp only[f8,f8t,m0];cases hd:decide (len s>1048576) with
 |true=>rfl
 |false =>
  simp only[cond_false];rcases c2 with ⟨r,hr,hc⟩ | ⟨hn,_⟩
  ·have hr2:r=wY4 w++more:=List.append_cancel_left (hr.symm.trans hS');subst hr2;obtain⟨o1,o2⟩:=qG2 (wY4 w++more) hs;rw[hc];simp only[Bool.not_true,cond_false];rcases o2 with ⟨w',more',hw',hrw,ho⟩ | ⟨hno,_⟩
   ·have he:w=w'∧f67 (vB7 w)++more=f67 (vB7 w')++more':=uI1 hw hw' (by rw[← hrw];simp only[wY4,vB7,List.append_assoc]);rw[ho];simp only[bne_self_eq_false,cond_false];have hlt:decide (((wY4 w').length:Int)<len (wY4 w++more))=true:=decide_eq_true (by
     rw[← he.1];simp only[len,List.length_append];have:0<more.length:=List.length_pos_iff.2 hm;omega)
    rw[hlt];rfl
   ·exact absurd rfl (hno w more hw)
  ·exact absurd hS' (hn _)
theorem pS2 (p q w w':List UInt8)(x y:UInt8)(hw:w.length≤1048576)(hw':w'.length≤1048576)(h:p++x::q=magicB++wY4 w)(h':p++y::q=magicB++wY4 w'):x=y:=by
 have hM:magicB.length=4:=rfl;have hv:=tE1 w.length;generalize hb:vB7 w=b at *;generalize hb':vB7 w'=b' at *;have hf:wY4 w=b++f67 b:=by rw[← hb];rfl
 have hf':wY4 w'=b'++f67 b':=by rw[← hb'];rfl
 rw[hf,← List.append_assoc] at h;rw[hf',← List.append_assoc] at h';have l:=congrArg List.length h;have l':=congrArg List.length h';simp only[List.length_append,List.length_cons,tE3,hM] at l l';have hlen:b.length=b'.length:=by omega
 have hbl:len b<9000000000000000000:=by rw[← hb];simp only[len,vB7,List.length_append];omega
 rcases Nat.lt_or_ge p.length (4+b.length) with hp|hp
 ·have t1:=congrArg (List.drop (4+b.length)) h;have t2:=congrArg (List.drop (4+b.length)) h';have d1:List.drop (4+b.length) (magicB++b++f67 b)=f67 b:=by rw[← hM,← List.length_append,List.drop_left]
  have d2:List.drop (4+b.length) (magicB++b'++f67 b')=f67 b':=by rw[hlen,← hM,← List.length_append,List.drop_left]
  have dq:∀ z:UInt8,List.drop (4+b.length) (p++z::q)=List.drop (4+b.length-p.length-1) q:=fun z=>by
   rw[List.drop_append,List.drop_eq_nil_of_le (by omega),List.nil_append,show 4+b.length-p.length=(4+b.length-p.length-1)+1 by omega,List.drop_succ_cons];rfl
  rw[d1,dq] at t1;rw[d2,dq] at t2;have hS:f67 b=f67 b':=t1.symm.trans t2;have u1:=congrArg (List.take (4+b.length)) h;have u2:=congrArg (List.take (4+b.length)) h';have e1:List.take (4+b.length) (magicB++b++f67 b)=magicB++b:=by rw[← hM,← List.length_append,List.take_left]
  have e2:List.take (4+b.length) (magicB++b'++f67 b')=magicB++b':=by rw[hlen,← hM,← List.length_append,List.take_left]
  have eq:∀ z:UInt8,List.take (4+b.length) (p++z::q)=p++z::List.take (4+b.length-p.length-1) q:=fun z=>by
   rw[List.take_append,List.take_of_length_le (by omega),show 4+b.length-p.length=(4+b.length-p.length-1)+1 by omega,List.take_succ_cons];rfl
  rw[e1,eq] at u1;rw[e2,eq] at u2;generalize List.take (4+b.length-p.length-1) q=q1 at u1 u2;rcases Nat.lt_or_ge p.length 4 with hp4|hp4
  ·have g1:=congrArg (fun l=>l[p.length]?) u1;have g2:=congrArg (fun l=>l[p.length]?) u2;rw[List.getElem?_append_right (Nat.le_refl _),Nat.sub_self,List.getElem?_append_left (by omega)] at g1 g2;have:=g1.trans g2.symm;simpa using this
  ·have v1:=congrArg (List.drop 4) u1;have v2:=congrArg (List.drop 4) u2;have k:∀ c:List UInt8,List.drop 4 (magicB++c)=c:=fun c=>List.drop_left (l₁:=magicB);rw[k,List.drop_append_of_le_length hp4] at v1 v2;rw[← v1,← v2] at hS;rw[← v1] at hbl;exact pM _ _ _ _ hbl hS
 ·have u1:=congrArg (List.take (4+b.length)) h;have u2:=congrArg (List.take (4+b.length)) h';have e1:List.take (4+b.length) (magicB++b++f67 b)=magicB++b:=by rw[← hM,← List.length_append,List.take_left]
  have e2:List.take (4+b.length) (magicB++b'++f67 b')=magicB++b':=by rw[hlen,← hM,← List.length_append,List.take_left]
  rw[e1,List.take_append_of_le_length hp] at u1;rw[e2,List.take_append_of_le_length hp] at u2;have hbb:b=b':=List.append_cancel_left (u1.symm.trans u2);subst hbb;have:=h.trans h'.symm;have:=List.append_cancel_left this;injection this
theorem qG3 (s more w w':List UInt8)(hw:w.length≤1048576)(hw':w'.length≤1048576)(hm:more≠[])(h:s++more=magicB++wY4 w)(h':s=magicB++wY4 w'):False:=by
 rw[h',List.append_assoc] at h;have h:=List.append_cancel_left h;have e:vlq w.length++(w++f67 (vB7 w))=wY4 w'++more:=by rw[h];simp only[wY4,vB7,List.append_assoc]
 obtain⟨rfl,e2⟩:=uI1 hw hw' e;have:=congrArg List.length e2;simp only[List.length_append,tE3] at this;exact hm (List.length_eq_zero_iff.1 (by omega))
theorem qG4 (d:D28)(hc:tJ6 d)(hp:f24 d=0→tK5 d∧(f26 d).length≤4000000000):rG5 d∧((f6 d).2.1=0→∃ w,w.length≤1048576∧(f6 d).1=magicB++wY4 w):=by
 have m0:([73,69,68,49]:List UInt8)=magicB:=rfl;simp only[rG5,f6,f6t,m0];cases h0:(f24 d !=0) with
 |true =>
  simp only[cond_true];refine⟨⟨hc,fun h=>(by cases h)⟩,fun h=>?_⟩;rw[h] at h0;cases h0
 |false =>
  have hz:f24 d=0:=by simpa using h0
  obtain⟨p1,p2⟩:=hp hz;obtain⟨q1,q2⟩:=qQ7 (f26 d) (by simp only[len];omega);simp only[cond_false];cases h1:((f25 (f26 d)).2.1 !=0) with
  |true =>
   simp only[cond_true];refine⟨⟨hc,fun _=>⟨p1,q1,fun h=>(by cases h)⟩⟩,fun h=>?_⟩;rw[h] at h1;cases h1
  |false =>
   have hz1:(f25 (f26 d)).2.1=0:=by simpa using h1
   obtain⟨r1,r2⟩:=q2 hz1;have hv:=tE1 (f26 d).length;have hF:=tM (f26 d);have hM:magicB.length=4:=rfl;simp only[cond_false,r2];constructor
   ·refine⟨hc,fun _=>⟨p1,q1,fun _=>⟨inR (by simp only[len];omega) (by simp only[len];omega),fun _=>?_⟩⟩⟩;rw[hM,hF];omega
   ·intro h;cases h2:decide (4+len (wY4 (f26 d))>1048576) with
    |true=>rw[h2] at h;cases h
    |false=>exact⟨f26 d,r1,rfl⟩
theorem pM0 (d:D28)(h:D68)(more:List UInt8)(hc:tJ6 d)(hp:f24 d=0→tK5 d∧(f26 d).length≤4000000000)(ha:0≤h.1∧h.1<18446744073709551616)(hB:0≤h.2.1∧h.2.1≤255)(hmore:len more<8000000000000000000):f5_ok d h more∧f5 d h more=true:=by
 obtain⟨e1,e2⟩:=qG4 d hc hp;simp only[f5_ok,f5,f5t];cases h0:((f6 d).2.1 !=0) with
 |true =>
  simp only[cond_true];exact⟨⟨e1,fun _=>trivial,fun h=>(by cases h)⟩,rfl⟩
 |false =>
  obtain⟨w,hw,hs⟩:=e2 (by simpa using h0);generalize (f6 d).1=s at hs;have hv:=tE1 w.length;have hF:=tM w;have hM:magicB.length=4:=rfl;have hsl:s.length=4+(wY4 w).length:=by rw[hs,List.length_append,hM]
  have hlen:len s=(s.length:Int):=rfl;have v27:decide (len s<4)=false:=decide_eq_false (by omega);have v32:IntKind.wrap .u64 (len s)=(s.length:Int):=by rw[IntKind.wrap_u64,hlen];omega
  obtain⟨k,hk⟩:∃ k:Nat,Int.tmod h.1 (s.length:Int)=(k:Int):=⟨(Int.tmod h.1 (s.length:Int)).toNat,by
   rw[Int.tmod_eq_emod_of_nonneg ha.1];have:=Int.emod_nonneg h.1 (show (s.length:Int)≠0 by omega);omega⟩
  have hks:k<s.length:=by
   have:=Int.emod_lt_of_pos h.1 (show (0:Int)<(s.length:Int) by omega);rw[Int.tmod_eq_emod_of_nonneg ha.1] at hk;omega
  have v34:IntKind.wrap .i64 (Int.tmod h.1 (IntKind.wrap .u64 (len s)))=(k:Int):=by rw[v32,hk];exact sK3 (by omega) (by omega)
  have hx:wT5 s (k:Int)=((s[k]).toNat:Int):=uN1 (List.drop_eq_getElem_cons hks);simp only[v27,v34,cond_false,Bool.not_false];have tk:(k:Int).toNat=k:=Int.toNat_natCast k;have tk1:((k:Int)+1).toNat=k+1:=by omega
  simp only[tk,tk1];have hy:xC3 [h.2.1]=[UInt8.ofNat h.2.1.toNat]:=rfl;have hsplit:s=List.take k s++s[k]::List.drop (k+1) s:=by rw[← List.drop_eq_getElem_cons hks,List.take_append_drop]
  have hdam:(List.take k s++xC3 [h.2.1]++List.drop (k+1) s)=List.take k s++UInt8.ofNat h.2.1.toNat::List.drop (k+1) s:=by rw[hy,List.append_assoc];rfl
  have hl1:(List.take k s).length=k:=by rw[List.length_take];omega
  have hl2:(List.drop (k+1) s).length=s.length-(k+1):=List.length_drop;have hv40:(wT5 s (k:Int)!=h.2.1)=true→sJ1 (List.take k s++xC3 [h.2.1]++List.drop (k+1) s)∧(f8 (List.take k s++xC3 [h.2.1]++List.drop (k+1) s)).2.1≠0:=fun hne=>by
   refine tP7 _ ?_ fun w' hw' he=>?_
   ·rw[hdam];simp only[len,List.length_append,List.length_cons,hl1,hl2];omega
   ·rw[hdam] at he;have hxy:=pS2 _ _ w w' _ _ hw hw' (hsplit.symm.trans hs) he;rw[hx] at hne;have:((s[k]).toNat:Int)=h.2.1:=by rw[hxy,vQ1 (by omega)];omega
    rw[this] at hne;simp at hne
  have hcut:=tP7 (List.take k s) (by simp only[len,hl1];omega) fun w' hw' he=>qG3 (List.take k s) (List.drop k s) w w' hw hw' (by rw[List.drop_eq_getElem_cons hks];exact List.cons_ne_nil _ _) (by rw[List.take_append_drop];exact hs) he;have hv68:((f8 (List.take k s)).2.1==0)=false:=by simpa using hcut.2
  have hmo:decide (len more>0)=true→sJ1 (s++more)∧(f8 (s++more)).2.1=(bif decide (len (s++more)>1048576) then (3:Int) else 6):=fun hd=>by
   have hne:more≠[]:=fun e=>by rw[e] at hd;simp[len] at hd
   constructor
   ·refine (tP7 (s++more) (by simp only[len,List.length_append] at hmore ⊢;omega) fun w' hw' he=>?_).1;rw[hs,List.append_assoc] at he;have he:=List.append_cancel_left he;have e3:vlq w'.length++(w'++f67 (vB7 w'))=wY4 w++more:=by rw[he];simp only[wY4,vB7,List.append_assoc]
    obtain⟨rfl,e4⟩:=uI1 hw' hw e3;have:=congrArg List.length e4;simp only[List.length_append,tE3] at this;exact hne (List.length_eq_zero_iff.1 (by omega))
   ·rw[hs];exact rH8 w more hw hne hmore
  have hsum:len (s++more)=len s+len more:=by simp only[len,List.length_append];omega
  rw[hv68];have hv87:decide (len more>0)=true→((f8 (s++more)).2.1 !=(bif decide ((len s+len more)>1048576) then (3:Int) else (6:Int)))=false:=fun hd=>by
   rw[(hmo hd).2,hsum];simp
  have hmi:len more=(more.length:Int):=rfl;constructor
  ·refine⟨e1,fun h=>(by cases h),fun _ _=>⟨by rw[v32];omega,⟨by omega,by rw[hlen];omega⟩,fun hne=>⟨⟨by omega,by rw[hlen];omega⟩,?_,inR (by omega) (by omega),⟨by omega,by rw[hlen];omega⟩,?_,(hv40 hne).1⟩,fun _=>⟨⟨by omega,by rw[hlen];omega⟩,hcut.1,fun _=>⟨fun hd=>⟨inR (by omega) (by omega),?_,(hmo hd).1⟩,fun _=>trivial⟩⟩⟩⟩
   ·rw[hy,hl1];simp only[List.length_cons,List.length_nil];omega
   ·rw[hy,List.length_append,hl1,hl2];simp only[List.length_cons,List.length_nil];omega
   ·omega
  ·have a1:(((f8 (List.take k s++xC3 [h.2.1]++List.drop (k+1) s)).2.1==0)&&(wT5 s (k:Int)!=h.2.1))=false:=by
    cases hne:(wT5 s (k:Int)!=h.2.1) with
    |false=>simp
    |true=>have:=(hv40 hne).2;simpa using this
   have a2:(((f8 (s++more)).2.1 !=(bif decide ((len s+len more)>1048576) then (3:Int) else (6:Int)))&&decide (len more>0))=false:=by
    cases hd:decide (len more>0) with
    |false=>simp
    |true=>rw[hv87 hd];rfl
   rw[a1,a2];rfl
end Go.Proofs.YtmbjipigimohbaaGreatDoor.Am
set_option linter.unusedVariables false
namespace Go.Proofs.YtmbjipigimohbaaGreatDoor.Am
open Go Go.Am Go.Proofs
theorem pM1 {d:D28}(h:Ty.wf T28 d):tJ6 d:=by
 refine pK6 d ⟨⟨uB7 h.2.2.2.1.1,fun n hn=>pQ9 (h.2.2.2.1.2 n hn)⟩,uB7 h.2.2.2.2.2.1.2.2.1.1,fun m hm=>?_,fun m hm=>?_⟩
 ·have:=h.2.2.2.2.2.2.1.2 m hm;exact⟨uB7 this.1,uB7 this.2.1⟩
 ·have:=h.2.2.2.2.2.2.2.1.2 m hm;exact uB7 this.2.2.2.2.1.2.2.1.1
theorem qQ8 (d:D28)(h:f24 d=0):d.2.2.2.1.length≤64∧d.2.2.2.2.2.2.2.1.length≤8:=by
 cases h1:(f60 d !=0) with
 |true =>
  have e:f24 d=f60 d:=by simp only[f24,f24t,h1,cond_true]
  rw[← e,h] at h1;cases h1
 |false =>
  cases h2:(bif (decide ((len d.2.2.2.1)>64)) then true else (decide ((len d.2.2.2.2.2.2.2.1)>8))) with
  |true =>
   have e:f24 d=3:=by simp only[f24,f24t,h1,h2,cond_true,cond_false]
   rw[e] at h;cases h
  |false =>
   cases h3:decide ((len d.2.2.2.1)>64) with
   |true=>rw[h3] at h2;cases h2
   |false =>
    rw[h3] at h2;have h2:decide ((len d.2.2.2.2.2.2.2.1)>8)=false:=h2;have a:=of_decide_eq_false h3;have b:=of_decide_eq_false h2;simp only[len] at a b;omega
def rS8 (m:D80):List UInt8:=f34 m.1++f34 m.2.1
def sW3 (l:D82):List UInt8:=((f33 [l.1]++f34 l.2.1)++f33 [l.2.2.1,l.2.2.2.1])++f22 l.2.2.2.2.1
theorem sJ8 (s:List UInt8):(sJ6 s).length≤11+s.length:=la (wV4 _) (Nat.le_refl _)
theorem ar2 {b A B:Nat}(h:b+(A+B)≤4294967296):((b+A:Nat):Int)≤4294967296∧((b+A+B:Nat):Int)≤4294967296:=by omega
theorem ar4 {b A B C D:Nat}(h:b+(A+B+C+D)≤4294967296):((b+A:Nat):Int)≤4294967296∧((b+A+B:Nat):Int)≤4294967296∧((b+A+B+C:Nat):Int)≤4294967296∧((b+A+B+C+D:Nat):Int)≤4294967296:=by omega
theorem rS9 {a:Nat}(h:a≤4294967296):((a:Nat):Int)≤4294967296:=by omega
theorem rH9 {n i:Nat}(hn:n≤4000000000)(h:i<n):InR ((i:Int)+1):=inR (by omega) (by omega)
theorem pU1 (d:D28)(ns:List D52)(b:List UInt8)(hF:∀ n∈ns,tC n)(hn:ns.length≤4000000000)(hb:b.length+(ns.map fun x=>(f11 x).length).sum≤4294967296) :
  xQ5 (uM8 (d,ns,len ns,())) (vK2 (d,ns,len ns,())) (uH7 (d,ns,len ns,())) (b,0,())∧(zC4 (uM8 (d,ns,len ns,())) (vK2 (d,ns,len ns,())) (b,0,())).1=b++(ns.map f11).flatten:=
 sW0 ns Z52 f11 (fun _ _=>rfl) (fun b i hi=>rfl) (fun b i hbi hv=>by
  have hi:i<ns.length:=rS6 hv;exact⟨tL8 ns i hi,vQ5 (q:=fun n=>tC n) hF i hi Z52,rS9 (hbi hi),rH9 hn hi⟩) b hn hb
theorem rM1 (m:D80):(rS8 m).length=(f34 m.1).length+(f34 m.2.1).length:=List.length_append
theorem pS3 (d:D28)(ms:List D80)(b:List UInt8)(hF:∀ m∈ms,vJ4 m.1∧vJ4 m.2.1)(hn:ms.length≤4000000000)(hb:b.length+(ms.map fun x=>(rS8 x).length).sum≤4294967296) :
  xQ5 (uB (d,ms,len ms,())) (vG3 (d,ms,len ms,())) (vW4 (d,ms,len ms,())) (b,0,())∧(zC4 (uB (d,ms,len ms,())) (vG3 (d,ms,len ms,())) (b,0,())).1=b++(ms.map rS8).flatten:=
 sW0 ms Z80 rS8 (fun _ _=>rfl) (fun b i hi=>by
  show ((b++f34 (nth ms (i:Int) Z80).1)++f34 (nth ms (i:Int) Z80).2.1,(i:Int)+1,())=_;rw[List.append_assoc];rfl) (fun b i hbi hv=>by
  have hi:i<ms.length:=rS6 hv;obtain⟨a1,a2⟩:=vQ5 (q:=fun m=>vJ4 m.1∧vJ4 m.2.1) hF i hi Z80;have hx:=hbi hi;rw[rM1] at hx;have hy:=ar2 hx;refine⟨tL8 ms i hi,a1,hy.1,a2,?_,rH9 hn hi⟩;show (((b++f34 (nth ms (i:Int) Z80).1).length+(f34 (nth ms (i:Int) Z80).2.1).length:Nat):Int)≤4294967296;rw[List.length_append];exact hy.2) b hn hb
theorem rM2 (l:D82):(sW3 l).length=(f33 [l.1]).length+(f34 l.2.1).length+(f33 [l.2.2.1,l.2.2.2.1]).length+(f22 l.2.2.2.2.1).length:=by
 unfold sW3;rw[List.length_append,List.length_append,List.length_append]
theorem qG5 (ls:List D82)(b:List UInt8)(i:Int):vC3 (ls,len ls,()) (b,i,())=((((b++f33 [(nth ls i Z82).1])++f34 (nth ls i Z82).2.1)++f33 [(nth ls i Z82).2.2.1,(nth ls i Z82).2.2.2.1])++f22 (nth ls i Z82).2.2.2.2.1,i+1,()):=by kernel_rfl
theorem rM3 (ls:List D82)(b:List UInt8)(i:Int):vI8 (ls,len ls,()) (b,i,())=(decide (i<len ls)=true→InB i (len ls)∧wY2 [(nth ls i Z82).1]∧((b.length+(f33 [(nth ls i Z82).1]).length:Nat):Int)≤4294967296∧vJ4 (nth ls i Z82).2.1∧(((b++f33 [(nth ls i Z82).1]).length+(f34 (nth ls i Z82).2.1).length:Nat):Int)≤4294967296∧wY2 [(nth ls i Z82).2.2.1,(nth ls i Z82).2.2.2.1] ∧
  ((((b++f33 [(nth ls i Z82).1])++f34 (nth ls i Z82).2.1).length+(f33 [(nth ls i Z82).2.2.1,(nth ls i Z82).2.2.2.1]).length:Nat):Int)≤4294967296∧tB9 (nth ls i Z82).2.2.2.2.1∧(((((b++f33 [(nth ls i Z82).1])++f34 (nth ls i Z82).2.1)++f33 [(nth ls i Z82).2.2.1,(nth ls i Z82).2.2.2.1]).length+(f22 (nth ls i Z82).2.2.2.2.1).length:Nat):Int)≤4294967296∧InR (i+1)):=by kernel_rfl
theorem pS4 (ls:List D82)(b:List UInt8)(i:Int):vS0 (ls,len ls,()) (b,i,())=decide (i<len ls):=by kernel_rfl
theorem pU2 {A B C D E F G H I J:Prop}(a:A)(b:B)(c:C)(d:D)(e:E)(f:F)(g:G)(h:H)(i:I)(j:J):A∧B∧C∧D∧E∧F∧G∧H∧I∧J:=⟨a,b,c,d,e,f,g,h,i,j⟩
theorem ar4b {b x1 x2 x3 x4:List UInt8}(h:b.length+(x1.length+x2.length+x3.length+x4.length)≤4294967296):((b.length+x1.length:Nat):Int)≤4294967296∧(((b++x1).length+x2.length:Nat):Int)≤4294967296∧((((b++x1)++x2).length+x3.length:Nat):Int)≤4294967296∧(((((b++x1)++x2)++x3).length+x4.length:Nat):Int)≤4294967296:=by
 simp only[List.length_append];exact ar4 h
theorem pM2 (ls:List D82)(b:List UInt8)(i:Nat)(hi:i<ls.length)(hn:ls.length≤4000000000)(hF:wY2 [(nth ls (i:Int) Z82).1]∧vJ4 (nth ls (i:Int) Z82).2.1∧wY2 [(nth ls (i:Int) Z82).2.2.1,(nth ls (i:Int) Z82).2.2.2.1]∧tB9 (nth ls (i:Int) Z82).2.2.2.2.1)
  (hx:b.length+(sW3 (nth ls (i:Int) Z82)).length≤4294967296):vI8 (ls,len ls,()) (b,(i:Int),()):=by
 rw[rM2] at hx;have y:=ar4b hx;rw[rM3];exact fun _=>pU2 (tL8 ls i hi) hF.1 y.1 hF.2.1 y.2.1 hF.2.2.1 y.2.2.1 hF.2.2.2 y.2.2.2 (rH9 hn hi)
theorem qG6 (ls:List D82)(b:List UInt8)(i:Int)(h:¬ i<len ls):vI8 (ls,len ls,()) (b,i,()):=by
 rw[rM3];exact fun hv=>absurd (of_decide_eq_true hv) h
theorem pS5 (ls:List D82)(b:List UInt8)(hF:∀ l∈ls,wY2 [l.1]∧vJ4 l.2.1∧wY2 [l.2.2.1,l.2.2.2.1]∧tB9 l.2.2.2.2.1)(hn:ls.length≤4000000000)(hb:b.length+(ls.map fun x=>(sW3 x).length).sum≤4294967296) :
  xQ5 (vS0 (ls,len ls,())) (vC3 (ls,len ls,())) (vI8 (ls,len ls,())) (b,0,())∧(zC4 (vS0 (ls,len ls,())) (vC3 (ls,len ls,())) (b,0,())).1=b++(ls.map sW3).flatten:=
 sW0 ls Z82 sW3 (fun b i=>pS4 ls b i) (fun b i hi=>by
  rw[qG5];simp only[sW3,List.append_assoc]) (fun b i hbi=>by
  rcases Nat.lt_or_ge i ls.length with hi|hi
  ·exact pM2 ls b i hi hn (hF _ (by rw[uC9 ls i hi];exact List.getElem_mem hi)) (hbi hi)
  ·exact qG6 ls b i (by simp only[len];omega)) b hn hb
theorem pS6 (m:D80)(hb:T80.bulk m≤1048576):(vJ4 m.1∧vJ4 m.2.1)∧(rS8 m).length≤22+1*T80.bulk m:=by
 have hL:T80.bulk m=(m.1.length+1+(m.2.1.length+1+0))+1:=rfl;obtain⟨a1,a2⟩:=uV2 m.1 (by omega);obtain⟨b1,b2⟩:=uV2 m.2.1 (by omega);refine⟨⟨a1,b1⟩,?_⟩;rw[rM1,a2,b2];have h1:=sJ8 m.1;have h2:=sJ8 m.2.1;generalize (sJ6 m.1).length=x at h1 ⊢;generalize (sJ6 m.2.1).length=y at h2 ⊢;rw[hL];generalize m.1.length=u at h1 ⊢;generalize m.2.1.length=v at h2 ⊢;omega
theorem pS7 (l:D82)(w:T82.wf l)(hb:T82.bulk l≤1048576):(wY2 [l.1]∧vJ4 l.2.1∧wY2 [l.2.2.1,l.2.2.2.1]∧tB9 l.2.2.2.2.1)∧(sW3 l).length≤4000044+1*T82.bulk l:=by
 have hL:T82.bulk l=(1+(l.2.1.length+1+(1+(1+(T43.bulk l.2.2.2.2.1+0)))))+1:=rfl;have hL':l.2.1.length≤T82.bulk l:=by rw[hL];generalize T43.bulk l.2.2.2.2.1=q;generalize l.2.1.length=r;omega
 obtain⟨x0,x1,x2,x3,⟨_,_,⟨x4,_⟩,_⟩,_⟩:=w;obtain⟨a1,a2⟩:=uV2 l.2.1 (Nat.le_trans hL' (by omega));have hi:len l.2.2.2.2.1.2.2.1<9223372036854775808:=uB7 x4;obtain⟨b1,b2⟩:=uI0 [l.1] (fun v hv=>by rw[List.mem_singleton.1 hv];exact x0) (by simp);obtain⟨c1,c2⟩:=uI0 [l.2.2.1,l.2.2.2.1] (fun v hv=>by
  rcases List.mem_cons.1 hv with rfl|hv
  ·exact x2
  ·rw[List.mem_singleton.1 hv];exact x3) (by simp)
 refine⟨⟨b1,a1,c1,(rH4 _ hi).1⟩,?_⟩;rw[rM2,a2,b2,c2];have q1:(uB8 [l.1]).length≤11:=uV3 [l.1];have q2:(uB8 [l.2.2.1,l.2.2.2.1]).length≤22:=uV3 [l.2.2.1,l.2.2.2.1];have q3:=sJ8 l.2.1;have q4:=rH5 _ hi;generalize (uB8 [l.1]).length=y1 at q1 ⊢;generalize (uB8 [l.2.2.1,l.2.2.2.1]).length=y2 at q2 ⊢;generalize (sJ6 l.2.1).length=y3 at q3 ⊢;generalize (f22 l.2.2.2.2.1).length=y4 at q4 ⊢;generalize T82.bulk l=y5 at hL' ⊢;generalize l.2.1.length=y6 at q3 hL';omega
theorem sums {Sn Sm Sl n m l Bn Bm Bl:Nat}(h1:Sn≤8002000*n+77*Bn)(h2:Sm≤22*m+1*Bm)(h3:Sl≤4000044*l+1*Bl)(hn:n≤64)(hl:l≤8)(hm:m≤Bm)(hb:Bn+(Bm+Bl)≤1048576):Sn≤600000000∧Sm≤30000000∧Sl≤40000000:=by omega
theorem sJ9 {x y:List UInt8}{a b c:Nat}(h1:x.length≤a)(h2:y.length≤b)(h:a+b≤c):(x++y).length≤c:=by rw[List.length_append];omega
theorem tU2 {x y a b:Nat}(h1:x≤a)(h2:y≤b)(h:a+b≤4294967296):x+y≤4294967296:=by omega
theorem qQ9 (dw dh dp dn:Int)(ns:List D52)(sel:D24)(ms:List D80)(ls:List D82)(w0:I64 dw)(w1:I64 dh)(w2:I64 dp)(w4:I64 dn)(w3':∀ n∈ns,T52.wf n)(w5:sel.2.2.1.length≤maxLen)(w7':∀ l∈ls,T82.wf l)
  (k1:ns.length≤64) (k2:ls.length≤8) (hb:(ns.map T52.bulk).sum+((ms.map T80.bulk).sum+(ls.map T82.bulk).sum)≤1048576):tK5 (dw,dh,dp,ns,dn,sel,ms,ls,())∧(f26 (dw,dh,dp,ns,dn,sel,ms,ls,())).length≤4000000000:=by
 have bn:∀ n∈ns,T52.bulk n≤1048576:=fun n h=>Nat.le_trans (rH6 T52.bulk h) (Nat.le_trans (Nat.le_add_right _ _) hb);have bm:∀ m∈ms,T80.bulk m≤1048576:=fun m h=>Nat.le_trans (rH6 T80.bulk h) (Nat.le_trans (Nat.le_add_right _ _) (Nat.le_trans (Nat.le_add_left _ _) hb));have bl:∀ l∈ls,T82.bulk l≤1048576:=fun l h=>Nat.le_trans (rH6 T82.bulk h) (Nat.le_trans (Nat.le_add_left _ _) (Nat.le_trans (Nat.le_add_left _ _) hb));have nodeF:∀ n∈ns,tC n∧(f11 n).length≤8002000+77*T52.bulk n:=fun n h=>qP7 n (w3' n h) (bn n h);have nodeS:=sJ7 (fun n=>(f11 n).length) T52.bulk 8002000 77 ns fun n h=>(nodeF n h).2;have metaS:=sJ7 (fun m=>(rS8 m).length) T80.bulk 22 1 ms fun m h=>(pS6 m (bm m h)).2;have linkS:=sJ7 (fun l=>(sW3 l).length) T82.bulk 4000044 1 ls fun l h=>(pS7 l (w7' l h) (bl l h)).2;have metaN:ms.length≤(ms.map T80.bulk).sum:=vU8 T80.bulk (fun m=>Nat.le_add_left 1 _) ms;obtain⟨S1,S2,S3⟩:=sums nodeS metaS linkS k1 k2 metaN hb;have hmN:ms.length≤4000000000:=Nat.le_trans metaN (Nat.le_trans (Nat.le_trans (Nat.le_add_right _ _) (Nat.le_trans (Nat.le_add_left _ _) hb)) (by decide));have hsel:len sel.2.2.1<9223372036854775808:=uB7 w5;obtain⟨s1,_⟩:=sV4 sel hsel;have s2:=sV5 sel hsel;obtain⟨v1,v2⟩:=uI0 [dw,dh,dp,dn] (fun v hv=>by
  simp only[List.mem_cons,List.not_mem_nil,or_false] at hv;rcases hv with rfl|rfl|rfl|rfl
  ·exact w0
  ·exact w1
  ·exact w2
  ·exact w4) (by simp)
 have v3:(f33 [dw,dh,dp,dn]).length≤44:=by rw[v2];exact uV3 [dw,dh,dp,dn]
 have cnt:∀ v,vD3 v∧(f38 v).length≤11:=fun v=>⟨(vA6 v).1,by rw[(vA6 v).2];exact wV4 v⟩;have lb0:(([]:List UInt8)++f33 [dw,dh,dp,dn]).length≤44:=v3;generalize hd:((dw,dh,dp,ns,dn,sel,ms,ls,()):D28)=d;generalize hb0:([]:List UInt8)++f33 [dw,dh,dp,dn]=b0 at lb0;have lb1:(b0++f38 (len ns)).length≤55:=sJ9 lb0 (cnt (len ns)).2 (by decide);obtain⟨e1,e2⟩:=pU1 d ns (b0++f38 (len ns)) (fun n h=>(nodeF n h).1) (Nat.le_trans k1 (by decide)) (tU2 lb1 S1 (by decide));generalize hb1:b0++f38 (len ns)=b1 at e1 e2 lb1;generalize hq1:(zC4 (uM8 (d,ns,len ns,())) (vK2 (d,ns,len ns,())) (b1,0,())).1=q1 at e2;have lq1:q1.length≤600000100:=by rw[e2];exact sJ9 lb1 (by rw[sW];exact S1) (by decide)
 have lq1s:(q1++f12 sel).length≤605000100:=sJ9 lq1 s2 (by decide);have lb2:(q1++f12 sel++f38 (len ms)).length≤605000200:=sJ9 lq1s (cnt (len ms)).2 (by decide);obtain⟨e3,e4⟩:=pS3 d ms (q1++f12 sel++f38 (len ms)) (fun m h=>(pS6 m (bm m h)).1) hmN (tU2 lb2 S2 (by decide));generalize hb2:q1++f12 sel++f38 (len ms)=b2 at e3 e4 lb2;generalize hq2:(zC4 (uB (d,ms,len ms,())) (vG3 (d,ms,len ms,())) (b2,0,())).1=q2 at e4;have lq2:q2.length≤640000000:=by rw[e4];exact sJ9 lb2 (by rw[sW];exact S2) (by decide)
 have lb3:(q2++f38 (len ls)).length≤640000100:=sJ9 lq2 (cnt (len ls)).2 (by decide);obtain⟨e5,e6⟩:=pS5 ls (q2++f38 (len ls)) (fun l h=>(pS7 l (w7' l h) (bl l h)).1) (Nat.le_trans k2 (by decide)) (tU2 lb3 S3 (by decide));generalize hb3:q2++f38 (len ls)=b3 at e5 e6 lb3;have hval:f26 d=(zC4 (vS0 (ls,len ls,())) (vC3 (ls,len ls,())) (b3,0,())).1:=by
  rw[← hb3,← hq2,← hb2,← hq1,← hb1,← hb0,← hd];rfl
 constructor
 ·have:tK5 d=(wY2 [dw,dh,dp,dn]∧(((List.length ([]:List UInt8)+List.length (f33 [dw,dh,dp,dn]):Nat):Int)≤4294967296∧(vD3 (len ns)∧(((List.length b0+List.length (f38 (len ns)):Nat):Int)≤4294967296∧(xQ5 (uM8 (d,ns,len ns,())) (vK2 (d,ns,len ns,())) (uH7 (d,ns,len ns,())) (b1,0,())∧(sH8 sel∧(((List.length q1+List.length (f12 sel):Nat):Int)≤4294967296∧(vD3 (len ms)∧(((List.length (q1++f12 sel)+List.length (f38 (len ms)):Nat):Int)≤4294967296∧(xQ5 (uB (d,ms,len ms,())) (vG3 (d,ms,len ms,())) (vW4 (d,ms,len ms,())) (b2,0,())∧(vD3 (len ls)∧(((List.length q2+List.length (f38 (len ls)):Nat):Int)≤4294967296∧xQ5 (vS0 (ls,len ls,())) (vC3 (ls,len ls,())) (vI8 (ls,len ls,())) (b3,0,()))))))))))))):=by
   rw[← hb3,← hq2,← hb2,← hq1,← hb1,← hb0,← hd];rfl
  rw[this];exact⟨v1,rS9 (tU2 (Nat.le_refl 0) v3 (by decide)),(cnt _).1,rS9 (tU2 lb0 (cnt _).2 (by decide)),e1,s1,rS9 (tU2 lq1 s2 (by decide)),(cnt _).1,rS9 (tU2 lq1s (cnt _).2 (by decide)),e3,(cnt _).1,rS9 (tU2 lq2 (cnt _).2 (by decide)),e5⟩
 ·rw[hval,e6];exact sJ9 lb3 (by rw[sW];exact S3) (by decide)
theorem pS8 (d:D28)(hw:Ty.wf T28 d)(hb:T28.bulk d≤1048576)(hc:f24 d=0):tK5 d∧(f26 d).length≤4000000000:=by
 obtain⟨k1,k2⟩:=qQ8 d hc;obtain⟨dw,dh,dp,ns,dn,sel,ms,ls,⟨⟩⟩:=d;have hB:T28.bulk (dw,dh,dp,ns,dn,sel,ms,ls,PUnit.unit)=(1+(1+(1+((List.map T52.bulk ns).sum+1+(1+(T24.bulk sel+((List.map T80.bulk ms).sum+1+((List.map T82.bulk ls).sum+1+0))))))))+1:=rfl;rw[hB] at hb;exact qQ9 dw dh dp dn ns sel ms ls hw.1 hw.2.1 hw.2.2.1 hw.2.2.2.2.1 hw.2.2.2.1.2 hw.2.2.2.2.2.1.2.2.1.1 hw.2.2.2.2.2.2.2.1.2 k1 k2 (by omega)
theorem nativeDamages_law:∀ x,wfL 0 [T28,T68,.str] x→wD0 0 [T28,T68,.str] x≤1048576→f5_ok x.1 x.2.1 x.2.2.1∧f5 x.1 x.2.1 x.2.2.1=true:=by
 rintro⟨d,h,s,⟨⟩⟩ ⟨h1,h2,h3,_⟩ hb;have hb:T28.bulk d+(T68.bulk h+(Ty.bulk .str s+0))≤1048576:=hb;have h5:Ty.bulk .str s=s.length+1:=rfl;refine pM0 d h s (pM1 h1) (pS8 d h1 (by omega)) ?_ ?_ ?_
 ·have h4:(0:Int)≤h.1∧h.1≤18446744073709551615:=h2.1;exact⟨h4.1,Int.lt_of_le_of_lt h4.2 (by decide)⟩
 ·have h4:(0:Int)≤h.2.1∧h.2.1≤255:=h2.2.1;exact h4
 ·simp only[len];omega
end Go.Proofs.YtmbjipigimohbaaGreatDoor.Am
