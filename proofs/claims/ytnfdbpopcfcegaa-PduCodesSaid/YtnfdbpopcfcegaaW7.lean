/- Part 7 of the walk and of the plain law of PduCuts. -/
import Derived.Test.YtnfdbpopcfcegaaW6
set_option maxRecDepth 100000
set_option maxHeartbeats 0
set_option linter.unusedVariables false
set_option linter.unusedSimpArgs false
open Go Go.Abs
noncomputable section
namespace Gp
theorem orB (v b:Int)(hv:0≤v)(hv2:v<2^56)(hb:0≤b)(hb2:b<256):ibits .u64 (· ||| ·) (IntKind.u64.wrap (v*2^8)) (IntKind.u64.wrap b)=v*256+b:=by
 have e1:IntKind.u64.wrap (v*2^8)=v*256:=by
  show (v*256) % 18446744073709551616=_
  omega
 have e2:IntKind.u64.wrap b=b:=by
  show b % 18446744073709551616=_
  omega
 rw[e1,e2]
 obtain⟨v',rfl⟩:=Int.eq_ofNat_of_zero_le hv
 obtain⟨b',rfl⟩:=Int.eq_ofNat_of_zero_le hb
 have k1:(BitVec.ofInt 64 ((v':Int)*256)).toNat=v'*256:=by
  rw[BitVec.toNat_ofInt]
  show (((v':Int)*256) % 18446744073709551616).toNat=_
  omega
 have k2:(BitVec.ofInt 64 (b':Int)).toNat=b':=by
  rw[BitVec.toNat_ofInt]
  show ((b':Int) % 18446744073709551616).toNat=_
  omega
 have k3:v'*256|||b'=v'*256+b':=by
  have:=Nat.two_pow_add_eq_or_of_lt (i:=8) (b:=b') (by omega) v'
  rw[Nat.mul_comm v' 256];exact this.symm
 show IntKind.u64.wrap ((BitVec.ofInt 64 ((v':Int)*256)|||BitVec.ofInt 64 (b':Int)).toNat:Int)=_
 rw[BitVec.toNat_or,k1,k2,k3]
 show ((v'*256+b':Nat):Int) % 18446744073709551616=_
 omega
theorem getV4 (a b c d:Int)(r:List Int)(ha:0≤a∧a<256)(hb:0≤b∧b<256)(hc:0≤c∧c<256)(hd:0≤d∧d<256):getV (a::b::c::d::r) 4=((a*256+b)*256+c)*256+d:=by
 show ibits .u64 (· ||| ·) (IntKind.u64.wrap (ibits .u64 (· ||| ·) (IntKind.u64.wrap (ibits .u64 (· ||| ·) (IntKind.u64.wrap (ibits .u64 (· ||| ·) (IntKind.u64.wrap (0*2^8)) (IntKind.u64.wrap a)*2^8)) (IntKind.u64.wrap b)*2^8)) (IntKind.u64.wrap c)*2^8)) (IntKind.u64.wrap d)=_
 rw[orB 0 a (by omega) (by omega) ha.1 ha.2,orB _ b (by omega) (by omega) hb.1 hb.2,orB _ c (by omega) (by omega) hc.1 hc.2,orB _ d (by omega) (by omega) hd.1 hd.2]
 omega
theorem byV_eq (x:Int)(k:Nat)(hk:k<8):byV x k=(x/2^(8*k)) % 256:=by
 unfold byV
 have e1:IntKind.i64.wrap (8*(k:Int))=8*k:=IntWalk.i64_in _ (by omega)
 rw[e1]
 have e2:min (8*(k:Int)).toNat 64=8*k:=by omega
 rw[e2,Int.fdiv_eq_ediv_of_nonneg _ (Int.le_of_lt (Int.pow_pos (by omega)))]
 rfl
theorem num4 (x:Int):num x 4=[(x/2^24) % 256,(x/2^16) % 256,(x/2^8) % 256,x % 256]:=by
 rw[num_eq]
 show [byV x 3,byV x 2,byV x 1,byV x 0]=_
 rw[show byV x 3=_ from byV_eq x 3 (by omega),show byV x 2=_ from byV_eq x 2 (by omega),show byV x 1=_ from byV_eq x 1 (by omega),show byV x 0=_ from byV_eq x 0 (by omega)]
 simp
theorem getV_num4 (x:Int)(r:List Int)(h0:0≤x)(h1:x<2^32):getV (num x 4++r) 4=x:=by
 rw[num4]
 show getV (_::_::_::_::r) 4=x
 rw[getV4 _ _ _ _ r (by omega) (by omega) (by omega) (by omega)]
 omega
end Gp
namespace Gp
theorem getV1 (a:Int)(r:List Int)(ha:0≤a∧a<256):getV (a::r) 1=a:=by
 show ibits .u64 (· ||| ·) (IntKind.u64.wrap (0*2^8)) (IntKind.u64.wrap a)=_
 rw[orB 0 a (by omega) (by omega) ha.1 ha.2];omega
theorem getV2 (a b:Int)(r:List Int)(ha:0≤a∧a<256)(hb:0≤b∧b<256):getV (a::b::r) 2=a*256+b:=by
 show ibits .u64 (· ||| ·) (IntKind.u64.wrap (ibits .u64 (· ||| ·) (IntKind.u64.wrap (0*2^8)) (IntKind.u64.wrap a)*2^8)) (IntKind.u64.wrap b)=_
 rw[orB 0 a (by omega) (by omega) ha.1 ha.2,orB _ b (by omega) (by omega) hb.1 hb.2];omega
theorem getV8 (a b c d e f g h:Int)(r:List Int)(ha:0≤a∧a<256)(hb:0≤b∧b<256)(hc:0≤c∧c<256)(hd:0≤d∧d<256)(he:0≤e∧e<256)(hf:0≤f∧f<256)(hg:0≤g∧g<256)(hh:0≤h∧h<256):
  getV (a::b::c::d::e::f::g::h::r) 8=((((((a*256+b)*256+c)*256+d)*256+e)*256+f)*256+g)*256+h:=by
 show ibits .u64 (· ||| ·) (IntKind.u64.wrap (ibits .u64 (· ||| ·) (IntKind.u64.wrap (ibits .u64 (· ||| ·) (IntKind.u64.wrap (ibits .u64 (· ||| ·) (IntKind.u64.wrap (ibits .u64 (· ||| ·) (IntKind.u64.wrap (ibits .u64 (· ||| ·) (IntKind.u64.wrap (ibits .u64 (· ||| ·) (IntKind.u64.wrap (ibits .u64 (· ||| ·) (IntKind.u64.wrap (0*2^8)) (IntKind.u64.wrap a)*2^8)) (IntKind.u64.wrap b)*2^8)) (IntKind.u64.wrap c)*2^8)) (IntKind.u64.wrap d)*2^8)) (IntKind.u64.wrap e)*2^8)) (IntKind.u64.wrap f)*2^8)) (IntKind.u64.wrap g)*2^8)) (IntKind.u64.wrap h)=_
 rw[orB 0 a (by omega) (by omega) ha.1 ha.2,orB _ b (by omega) (by omega) hb.1 hb.2,orB _ c (by omega) (by omega) hc.1 hc.2,orB _ d (by omega) (by omega) hd.1 hd.2,orB _ e (by omega) (by omega) he.1 he.2,orB _ f (by omega) (by omega) hf.1 hf.2,orB _ g (by omega) (by omega) hg.1 hg.2,orB _ h (by omega) (by omega) hh.1 hh.2]
 omega
theorem num1 (x:Int):num x 1=[x % 256]:=by
 rw[num_eq]
 show [byV x 0]=_
 rw[show byV x 0=_ from byV_eq x 0 (by omega)];simp
theorem num2 (x:Int):num x 2=[(x/2^8) % 256,x % 256]:=by
 rw[num_eq]
 show [byV x 1,byV x 0]=_
 rw[show byV x 1=_ from byV_eq x 1 (by omega),show byV x 0=_ from byV_eq x 0 (by omega)];simp
theorem num8 (x:Int):num x 8=[(x/2^56) % 256,(x/2^48) % 256,(x/2^40) % 256,(x/2^32) % 256,(x/2^24) % 256,(x/2^16) % 256,(x/2^8) % 256,x % 256]:=by
 rw[num_eq]
 show [byV x 7,byV x 6,byV x 5,byV x 4,byV x 3,byV x 2,byV x 1,byV x 0]=_
 rw[show byV x 7=_ from byV_eq x 7 (by omega),show byV x 6=_ from byV_eq x 6 (by omega),show byV x 5=_ from byV_eq x 5 (by omega),show byV x 4=_ from byV_eq x 4 (by omega),show byV x 3=_ from byV_eq x 3 (by omega),show byV x 2=_ from byV_eq x 2 (by omega),show byV x 1=_ from byV_eq x 1 (by omega),show byV x 0=_ from byV_eq x 0 (by omega)]
 simp
theorem w64_id {x:Int}(h:0≤x)(h2:x<2^64):w64 x=x:=by
 show x % 18446744073709551616=x
 omega
theorem inv1 {m:List Int}(hb:byteL m)(hl:1≤m.length):∃a,0≤a∧a<256∧getV m 1=a∧m=a::m.drop 1:=by
 match m,hl with
 |a::r,_=>exact⟨a,(hb a (by simp)).1,(hb a (by simp)).2,getV1 a r (hb a (by simp)),rfl⟩
theorem back1 {m:List Int}(hb:byteL m)(hl:1≤m.length):num (w64 (IntKind.u8.wrap (getV m 1))) 1=m.take 1:=by
 obtain⟨a,h1,h2,h3,h4⟩:=inv1 hb hl
 have e:IntKind.u8.wrap a=a:=by show a % 256=a;omega
 rw[h3,e,w64_id h1 (by omega),num1,h4]
 simp;omega
theorem back1i {m:List Int}(hb:byteL m)(hl:1≤m.length):num (w64 (gi m)) 1=m.take 1:=by
 obtain⟨a,h1,h2,h3,h4⟩:=inv1 hb hl
 have e:IntKind.i64.wrap a=a:=IntWalk.i64_in _ (by omega)
 unfold gi
 rw[h3,e,w64_id h1 (by omega),num1,h4]
 simp;omega
theorem back2 {m:List Int}(hb:byteL m)(hl:2≤m.length):num (w64 (gu16 m)) 2=m.take 2:=by
 match m,hl with
 |a::b::r,_=>
  have ha:=hb a (by simp);have hb':=hb b (by simp)
  unfold gu16
  rw[getV2 a b r ha hb']
  have e:IntKind.u16.wrap (a*256+b)=a*256+b:=by show (a*256+b) % 65536=_;omega
  rw[e,w64_id (by omega) (by omega),num2]
  simp;omega
theorem getV4_lt {m:List Int}(hb:byteL m)(hl:4≤m.length):0≤getV m 4∧getV m 4<2^32∧num (getV m 4) 4=m.take 4:=by
 match m,hl with
 |a::b::c::d::r,_=>
  have ha:=hb a (by simp);have hb':=hb b (by simp);have hc:=hb c (by simp);have hd:=hb d (by simp)
  rw[getV4 a b c d r ha hb' hc hd]
  refine⟨by omega,by omega,?_⟩
  rw[num4]
  simp;omega
theorem back4 {m:List Int}(hb:byteL m)(hl:4≤m.length):num (w64 (gu32 m)) 4=m.take 4:=by
 obtain⟨h1,h2,h3⟩:=getV4_lt hb hl
 have e:IntKind.u32.wrap (getV m 4)=getV m 4:=by show getV m 4 % 4294967296=_;omega
 unfold gu32
 rw[e,w64_id h1 (by omega),h3]
theorem back4' {m:List Int}(hb:byteL m)(hl:4≤m.length):num (getV m 4) 4=m.take 4:=(getV4_lt hb hl).2.2
theorem back8 {m:List Int}(hb:byteL m)(hl:8≤m.length):num (getV m 8) 8=m.take 8:=by
 match m,hl with
 |a::b::c::d::e::f::g::h::r,_=>
  have ha:=hb a (by simp);have hb':=hb b (by simp);have hc:=hb c (by simp);have hd:=hb d (by simp);have he:=hb e (by simp);have hf:=hb f (by simp);have hg:=hb g (by simp);have hh:=hb h (by simp)
  rw[getV8 a b c d e f g h r ha hb' hc hd he hf hg hh,num8]
  simp
  refine⟨?_,?_,?_,?_,?_,?_,?_,?_⟩<;>omega
theorem flag1 {m:List Int}(hb:byteL m)(hl:1≤m.length)(h:getV m 1≤1):flI (decide (getV m 1=1))=m.take 1:=by
 obtain⟨a,h1,h2,h3,h4⟩:=inv1 hb hl
 rw[h3]at h⊢
 unfold flI
 rw[num1,h4]
 have:a=0∨a=1:=by omega
 rcases this with rfl|rfl<;>simp
theorem zero1 {m:List Int}(hb:byteL m)(hl:1≤m.length)(h:getV m 1=0):num 0 1=m.take 1:=by
 obtain⟨a,h1,h2,h3,h4⟩:=inv1 hb hl
 rw[h3]at h;subst h
 rw[num1,h4];simp
theorem bytesL_bstr {t:List Int}(h:byteL t):bytesL (bstr t)=t:=by
 unfold bytesL bstr
 rw[bstr_data]
 simp only[ByteArray.empty,List.map_append,List.map_map]
 show ([]:List Int)++_=t
 rw[List.nil_append]
 refine List.ext_getElem (by simp) fun i h1 h2=>?_
 simp only[List.getElem_map,Function.comp]
 have:=h _ (List.getElem_mem h2)
 rw[UInt8.toNat_ofNat']
 omega
end Gp
namespace Gp
theorem tk (m:List Int)(i j:Nat):m.take i++(m.drop i).take j=m.take (i+j):=List.take_add.symm
theorem tk2 (m:List Int)(i j n:Nat):(m.drop n).take i++(m.drop (n+i)).take j=(m.drop n).take (i+j):=by rw[←List.drop_drop];exact tk _ _ _
theorem bdrop {m:List Int}(h:byteL m)(n:Nat):byteL (m.drop n):=byteL_sub h fun x hx=>List.mem_of_mem_drop hx
theorem tall {m:List Int}{n:Nat}(h:(m.drop n).length=0):m.take n=m:=by rw[List.length_drop]at h;exact List.take_of_length_le (by omega)
theorem tz' {m:List Int}{n:Nat}(h:decide (((m.drop n).length:Int)=0)=true):m.take n=m:=tall (by have:=of_decide_eq_true h;omega)
theorem rs_0 {p:Pdu}(h:p.kind=0∨p.kind=1):rsL p=rs49 p:=by unfold rsL;rw[if_neg (by omega),if_neg (by omega),if_neg (by omega),if_neg (by omega),if_neg (by omega),if_pos h]
theorem rs_4 {p:Pdu}(h:p.kind=4∨p.kind=6):rsL p=rs57 p:=by unfold rsL;rw[if_pos h]
theorem rs_7 {p:Pdu}(h:p.kind=7):rsL p=rs60 p:=by unfold rsL;rw[if_neg (by omega),if_pos h]
theorem rs_9 {p:Pdu}(h:p.kind=9):rsL p=rs64 p:=by unfold rsL;rw[if_neg (by omega),if_neg (by omega),if_pos h]
theorem rs_10 {p:Pdu}(h:p.kind=10):rsL p=rs69 p:=by unfold rsL;rw[if_neg (by omega),if_neg (by omega),if_neg (by omega),if_pos h]
theorem rs_11 {p:Pdu}(h:p.kind=11):rsL p=rs73 p:=by unfold rsL;rw[if_neg (by omega),if_neg (by omega),if_neg (by omega),if_neg (by omega),if_pos h]
theorem rs_2 {p:Pdu}(h:p.kind=2∨p.kind=8∨p.kind=3):rsL p=[]:=by unfold rsL;rw[if_neg (by omega),if_neg (by omega),if_neg (by omega),if_neg (by omega),if_neg (by omega),if_neg (by omega)]
theorem b49 {p:Pdu}{m:List Int}(hb:byteL m)(hs:p.serial=gu32 m)(hl:4≤m.length):rs49 p=m.take 4:=by unfold rs49;rw[hs];exact back4 hb hl
theorem b57 {p:Pdu}{m:List Int}(hb:byteL m)(hk:p.kind=4∨p.kind=6)(hl:oN p.kind≤m.length)(h1:getV m 1≤1)(h2:getV (m.drop 3) 1=0)(ha:p.add=decide (getV m 1=1))(ho:p.origin=oV p.kind m):rs57 p=m.take (oN p.kind):=by
 unfold rs57
 rw[ha]
 have ld:∀n,(m.drop n).length=m.length-n:=fun n=>List.length_drop
 by_cases h6:p.kind=6
 ·rw[ho,h6]
  rw[h6]at hl
  have hl:24≤m.length:=hl
  have e1:=back1i (bdrop hb 1) (by rw[ld];omega)
  have e2:=back1i (bdrop hb 2) (by rw[ld];omega)
  have e3:=zero1 (bdrop hb 3) (by rw[ld];omega) h2
  have e4:=back8 (bdrop hb 4) (by rw[ld];omega)
  have e5:=back8 (bdrop hb 12) (by rw[ld];omega)
  have e6:=back4 (bdrop hb 20) (by rw[ld];omega)
  show flI _++num (w64 (gi (m.drop 1))) 1++num (w64 (gi (m.drop 2))) 1++num 0 1++(num (getV (m.drop 4) 8) 8++num (getV (m.drop 12) 8) 8)++num (w64 (gu32 (m.drop 20))) 4=m.take 24
  rw[flag1 hb (by omega) h1,e1,e2,e3,e4,e5,e6,tk2 m 8 8 4,tk m 1 1,tk m 2 1,tk m 3 1,tk m 4 16,tk m 20 4]
 ·have h4:p.kind=4:=by omega
  rw[ho,h4]
  rw[h4]at hl
  have hl:12≤m.length:=hl
  have e1:=back1i (bdrop hb 1) (by rw[ld];omega)
  have e2:=back1i (bdrop hb 2) (by rw[ld];omega)
  have e3:=zero1 (bdrop hb 3) (by rw[ld];omega) h2
  have e4:=back4' (bdrop hb 4) (by rw[ld];omega)
  have e6:=back4 (bdrop hb 8) (by rw[ld];omega)
  show flI _++num (w64 (gi (m.drop 1))) 1++num (w64 (gi (m.drop 2))) 1++num 0 1++num (getV (m.drop 4) 4) 4++num (w64 (gu32 (m.drop 8))) 4=m.take 12
  rw[flag1 hb (by omega) h1,e1,e2,e3,e4,e6,tk m 1 1,tk m 2 1,tk m 3 1,tk m 4 4,tk m 8 4]
theorem b60 {p:Pdu}{m:List Int}(hb:byteL m)(hl:eN p.version≤m.length)(hs:p.serial=gu32 m)(ht:0<p.version→p.refresh=gu32 (m.drop 4)∧p.retry=gu32 (m.drop 8)∧p.expire=gu32 (m.drop 12)):rs60 p=m.take (eN p.version):=by
 unfold rs60 eN at*
 have ld:∀n,(m.drop n).length=m.length-n:=fun n=>List.length_drop
 by_cases hv:0<p.version
 ·rw[if_pos hv]at hl⊢
  obtain⟨t1,t2,t3⟩:=ht hv
  rw[b49 hb hs (by omega),if_pos hv,t1,t2,t3,back4 (bdrop hb 4) (by rw[ld];omega),back4 (bdrop hb 8) (by rw[ld];omega),back4 (bdrop hb 12) (by rw[ld];omega),tk2 m 4 4 4,tk2 m 8 4 4,tk m 4 12]
 ·rw[if_neg hv]at hl⊢
  rw[b49 hb hs hl,if_neg hv,List.append_nil]
theorem b64 {p:Pdu}{m:List Int}(hb:byteL m)(hl:21≤m.length)(hk:p.key=kR m):rs64 p=m.take 21:=by
 unfold rs64
 have ld:∀n,(m.drop n).length=m.length-n:=fun n=>List.length_drop
 have e:rootL (kR m)=(m.drop 5).take 16:=(take16 (m.drop 5) (by rw[ld];omega)).symm
 rw[hk]
 show num (w64 (gu32 m)) 4++num (w64 (gi (m.drop 4))) 1++rootL (kR m)=_
 rw[e,back4 hb (by omega),back1i (bdrop hb 4) (by rw[ld];omega),tk m 4 1,tk m 5 16]
theorem gn_eq {m:List Int}(hb:byteL m)(hl:4≤m.length):gn m=getV m 4∧num (w64 (gn m)) 4=m.take 4:=by
 obtain⟨h1,h2,h3⟩:=getV4_lt hb hl
 have e:gn m=getV m 4:=IntWalk.i64_in _ (by omega)
 exact⟨e,by rw[e,w64_id h1 (by omega),h3]⟩
theorem b69 {p:Pdu}{m:List Int}(hb:byteL m)(hk:k71 m=true)(hc:p.copy=fCopy m)(ht:p.text=bstr (fText m))(hr:(fRest m).length=0):rs69 p=m:=by
 obtain⟨h1,h2,h3,h4,h5,h6⟩:=k71_t hk
 have hbL:byteL (fL1 m):=bdrop (bdrop hb 4) _
 have hbt:byteL (fText m):=byteL_sub (bdrop hbL 4) fun x hx=>List.mem_of_mem_take hx
 have c1:(p.copy.length:Int)=gn m:=by rw[hc];unfold fCopy;rw[List.length_take,List.length_drop];omega
 have hTx:(fText m).length=(gn (fL1 m)).toNat:=by unfold fText;rw[List.length_take,List.length_drop];omega
 have sz:((bstr (fText m)).size:Int)=gn (fL1 m):=by
  have:(bstr (fText m)).size=(fText m).length:=by
   have e:=congrArg List.length (bytesL_bstr hbt)
   unfold bytesL at e
   rw[List.length_map]at e
   rw[←e];rfl
  rw[this,hTx];omega
 unfold rs69
 rw[c1,ht,sz,bytesL_bstr hbt,(gn_eq hb h1).2,(gn_eq hbL h4).2,hc]
 have e1:(fL1 m).take 4++fText m=fL1 m:=by
  have e2:fText m=(fL1 m).drop 4:=tall hr
  rw[e2,List.take_append_drop]
 show m.take 4++fCopy m++(fL1 m).take 4++fText m=m
 rw[List.append_assoc _ ((fL1 m).take 4),e1]
 show m.take 4++(m.drop 4).take (gn m).toNat++(m.drop 4).drop (gn m).toNat=m
 rw[List.append_assoc,List.take_append_drop,List.take_append_drop]
theorem pv_back {m:List Int}(hb:byteL m):∀n,4*n≤m.length→pvL (pvR m n)=m.take (4*n)
 |0,_=>by simp[pvR,pvL]
 |n+1,h=>by
  have ih:=pv_back hb n (by omega)
  rw[pvR_succ]
  unfold pvL at ih⊢
  rw[List.flatMap_append,ih]
  show m.take (4*n)++(num (w64 (gu32 (m.drop (4*n)))) 4++[])=_
  rw[List.append_nil,back4 (bdrop hb _) (by rw[List.length_drop];omega),tk]
  rfl
theorem bb73 {p:Pdu}{m:List Int}(hb:byteL m)(hl:m.length=4+4*pN m)(hc:p.path.cust=gu32 m)(hp:p.path.provs=pvR (m.drop 4) (pN m)):rs73 p=m:=by
 unfold rs73
 rw[hc,hp,back4 hb (by omega),pv_back (bdrop hb 4) _ (by rw[List.length_drop];omega),tk]
 exact List.take_of_length_le (by omega)
end Gp
namespace Gp
theorem rdS_kv (l:List Int):(rdS l).version=gu8 l∧(rdS l).kind=kR1 l:=by
 unfold rdS tS;repeat' split
 ·exact⟨rfl,rfl⟩
 ·unfold Pdu.withE;split<;>exact⟨rfl,rfl⟩
 ·exact⟨rfl,rfl⟩
 ·exact⟨rfl,rfl⟩
theorem rdV_kv (l:List Int):(rdV l).version=gu8 l∧(rdV l).kind=kR1 l:=by
 unfold rdV;repeat' split
 ·exact⟨rfl,rfl⟩
 ·exact⟨rfl,rfl⟩
 ·exact⟨rfl,rfl⟩
 ·exact rdS_kv l
theorem rdOk_t {l:List Int}(h:rdOk l=true):8≤l.length∧isK (kR1 l)∧kF (kR1 l) (d2 l)=true∧kTT (gu8 l) (kR1 l) (d8 l)=true:=by
 unfold rdOk at h
 simp only[Bool.and_eq_true,decide_eq_true_eq]at h
 exact⟨h.1.1.1,h.1.1.2,h.1.2,h.2⟩
theorem hdL_back {l:List Int}(hb:byteL l)(h:rdOk l=true):hdL (rdV l)=(d2 l).take 2:=by
 obtain⟨h8,hk,hF,_⟩:=rdOk_t h
 have hb2:byteL (d2 l):=bdrop (bdrop hb 1) 1
 have kv:=(rdV_kv l).2
 have ld:((d2 l).drop 1).length=l.length-3:=by rw[List.length_drop,d2_len];omega
 have l2:=d2_len l
 unfold hdL
 rw[kv]
 have add:kR1 l=9∨kR1 l=11→(rdV l).add=decide (getV (d2 l) 1=1):=by
  intro hh
  unfold rdV
  rcases hh with hh|hh
  ·rw[if_pos hh];rfl
  ·rw[if_neg (by omega),if_neg (by omega),if_pos hh];rfl
 by_cases h9:kR1 l=9∨kR1 l=11
 ·rw[if_pos h9]
  unfold kF at hF;rw[if_pos h9]at hF
  obtain⟨f1,f2,f3⟩:=k65_t hF
  unfold hd63
  rw[add h9,flag1 hb2 (by omega) f2,zero1 (bdrop hb2 1) (by omega) f3,tk]
 rw[if_neg h9]
 by_cases h10:kR1 l=10
 ·rw[if_pos h10]
  have e:(rdV l).code=gu16 (d2 l):=by unfold rdV;rw[if_neg (by omega),if_pos h10];rfl
  unfold hd68
  rw[e,back2 hb2 (by omega)]
 rw[if_neg h10]
 by_cases h2:kR1 l=2∨kR1 l=8∨kR1 l=4∨kR1 l=6
 ·rw[if_pos h2]
  unfold kF at hF;rw[if_neg h9,if_pos h2]at hF
  obtain⟨f1,f2,f3⟩:=(of_decide_eq_true hF:2≤(d2 l).length∧getV (d2 l) 1=0∧getV ((d2 l).drop 1) 1=0)
  have z1':=zero1 hb2 (by omega) f2
  have z2':=zero1 (bdrop hb2 1) (by omega) f3
  unfold hd52
  have e:num 0 2=num 0 1++num 0 1:=by rw[num2,num1];rfl
  rw[e]
  exact(congr (congrArg HAppend.hAppend z1') z2').trans (tk (d2 l) 1 1)
 ·rw[if_neg h2]
  have hs:kR1 l=0∨kR1 l=1∨kR1 l=3∨kR1 l=7:=by unfold isK at hk;omega
  have e:(rdV l).session=gu16 (d2 l):=by
   unfold rdV
   rw[if_neg (by omega),if_neg (by omega),if_neg (by omega)]
   have e1:(rdS l).session=(p1 l).session:=by
    unfold rdS tS;repeat' split
    ·rfl
    ·unfold Pdu.withE;split<;>rfl
    ·rfl
    ·rfl
   rw[e1]
   show sF (kR1 l) (d2 l)=_
   unfold sF;rw[if_pos hs]
  unfold hd48
  rw[e,back2 hb2 (by omega)]
theorem rsL_back {l:List Int}(hb:byteL l)(h:rdOk l=true)(hr:rdR l=true):rsL (rdV l)=d8 l:=by
 obtain⟨h8,hk,_,hT⟩:=rdOk_t h
 have hb8:byteL (d8 l):=bdrop (bdrop (bdrop (bdrop hb 1) 1) 2) 4
 have kv:=rdV_kv l
 by_cases h9:kR1 l=9
 ·have e:rdV l=rdK l:=by unfold rdV;rw[if_pos h9]
  unfold kTT at hT;rw[if_pos h9]at hT
  unfold rdR at hr;rw[if_pos h9]at hr
  rw[rs_9 (by rw[kv.2];exact h9),b64 (m:=d8 l) hb8 (k66_t hT) (by rw[e];rfl),tz' hr]
 by_cases h10:kR1 l=10
 ·have e:rdV l=rdE l:=by unfold rdV;rw[if_neg h9,if_pos h10]
  unfold kTT at hT;rw[if_neg h9,if_pos h10]at hT
  unfold rdR at hr;rw[if_neg h9,if_pos h10]at hr
  rw[rs_10 (by rw[kv.2];exact h10)]
  exact b69 hb8 hT (by rw[e];rfl) (by rw[e];rfl) (by have:=of_decide_eq_true hr;omega)
 by_cases h11:kR1 l=11
 ·have e:rdV l=rdP l:=by unfold rdV;rw[if_neg h9,if_neg h10,if_pos h11]
  unfold kTT at hT;rw[if_neg h9,if_neg h10,if_pos h11]at hT
  rw[rs_11 (by rw[kv.2];exact h11)]
  exact bb73 hb8 (k74_t hT) (by rw[e];rfl) (by rw[e];rfl)
 have hS:isS (kR1 l):=by unfold isK at hk;unfold isS;omega
 have e:rdV l=rdS l:=by unfold rdV;rw[if_neg h9,if_neg h10,if_neg h11]
 rw[kT_S hS]at hT
 obtain⟨t1,t2⟩:=kT_t hT
 unfold rdR at hr;rw[if_neg h9,if_neg h10,if_neg h11]at hr
 have htk:=tz' hr
 have hk1:(p1 l).kind=kR1 l:=rfl
 by_cases h4:kR1 l=4∨kR1 l=6
 ·have e2:rdS l=(p1 l).withO (d8 l):=by unfold rdS tS;rw[hk1,if_pos h4]
  have en:tN (gu8 l) (kR1 l)=oN (kR1 l):=by unfold tN;rw[if_pos h4]
  rw[en]at t1 htk
  have ek:(rdV l).kind=kR1 l:=kv.2
  rw[rs_4 (by rw[ek];exact h4),b57 (m:=d8 l) hb8 (by rw[ek];exact h4) (by rw[ek];exact t1) (t2 h4).1 (t2 h4).2 (by rw[e,e2];rfl) (by rw[e,e2];rfl),ek,htk]
 by_cases h7:kR1 l=7
 ·have e2:rdS l=(p1 l).withE (d8 l):=by unfold rdS tS;rw[hk1,if_neg h4,if_pos h7]
  have en:tN (gu8 l) (kR1 l)=eN (gu8 l):=by unfold tN;rw[if_neg h4,if_pos h7]
  rw[en]at t1 htk
  have hs:(rdV l).serial=gu32 (d8 l):=by rw[e,e2];unfold Pdu.withE;split<;>rfl
  have ht:0<(rdV l).version→(rdV l).refresh=gu32 ((d8 l).drop 4)∧(rdV l).retry=gu32 ((d8 l).drop 8)∧(rdV l).expire=gu32 ((d8 l).drop 12):=by
   intro hv
   rw[kv.1]at hv
   rw[e,e2];unfold Pdu.withE
   rw[if_pos (show 0<(p1 l).version from hv)]
   exact⟨rfl,rfl,rfl⟩
  rw[rs_7 (by rw[kv.2];exact h7),b60 (m:=d8 l) hb8 (by rw[kv.1];exact t1) hs ht,kv.1,htk]
 by_cases h0:kR1 l=0∨kR1 l=1
 ·have e2:rdS l=(p1 l).withSerial (gu32 (d8 l)):=by unfold rdS tS;rw[hk1,if_neg h4,if_neg h7,if_pos h0]
  have en:tN (gu8 l) (kR1 l)=4:=by unfold tN;rw[if_neg h4,if_neg h7,if_pos h0]
  rw[en]at t1 htk
  rw[rs_0 (by rw[kv.2];exact h0),b49 (m:=d8 l) hb8 (by rw[e,e2];rfl) t1,htk]
 ·have en:tN (gu8 l) (kR1 l)=0:=by unfold tN;rw[if_neg h4,if_neg h7,if_neg h0]
  rw[en]at htk
  rw[rs_2 (by rw[kv.2];unfold isS at hS;omega),←htk,List.take_zero]
theorem encB_back {l:List Int}(hb:byteL l)(h:rdOk l=true)(hr:rdR l=true)(hN:dN l=l.length)(hl:l.length≤4312):encB (rdV l)=l:=by
 have h8:=(rdOk_t h).1
 have e8:rsL (rdV l)=l.drop 8:=(rsL_back hb h hr).trans (d8_eq l)
 have e2:hdL (rdV l)=(l.drop 2).take 2:=(hdL_back hb h).trans (by rw[d2_eq])
 have kv:=rdV_kv l
 have ev:num (w64 (rdV l).version) 1=l.take 1:=by rw[kv.1];exact back1 hb (by omega)
 have ek:num (w64 (rdV l).kind) 1=(l.drop 1).take 1:=by rw[kv.2];exact back1 (bdrop hb 1) (by rw[List.length_drop];omega)
 have hm:byteL ((l.take 8).drop 4):=bdrop (byteL_sub hb fun x hx=>List.mem_of_mem_take hx) 4
 have hml:((l.take 8).drop 4).length=4:=by rw[List.length_drop,List.length_take];omega
 obtain⟨g1,g2,g3⟩:=getV4_lt hm (by omega)
 have eg:getV ((l.take 8).drop 4) 4=l.length:=by
  have:dN l=getV ((l.take 8).drop 4) 4:=IntWalk.i64_in _ (by omega)
  rw[←this,hN]
 have en:num (w64 (IntKind.i64.wrap (8+((rsL (rdV l)).length:Int)))) 4=(l.drop 4).take 4:=by
  rw[e8,List.length_drop]
  have:(8:Int)+((l.length-8:Nat):Int)=(l.length:Int):=by omega
  rw[this,IntWalk.i64_in _ (by omega),w64_id (by omega) (by omega),←eg,g3]
  rw[List.take_of_length_le (by omega),List.drop_take]
 unfold encB
 rw[en,ev,ek,e2,e8,tk l 1 1,tk l 2 2,tk l 4 4,List.take_append_drop]
end Gp
namespace Gp
def T78 (o:Origin)(f:Int):Tell:=
 Tell.mk (fun x x_1=>false) (fun x x_1=>Orc.no) (fun x=>Tree.fail 1000003 0) (fun x=>0) (fun x=>([],[])) (oget [(2,1,2,Orc.call [encP o.pfx] (i64 (ckP' o.pfx))),(2,1,23,Orc.call [u8 f] (i64 (width f)))]) fun x x_1=>Tree.fail 1000003 0
theorem t78 (o:Origin)(f:Int):levF prog Proofs.Try.f78 [encO o,u8 f] (T78 o f)=
 Tree.need (ILeL [.agg [u8 o.pfx.fam,u64 o.pfx.addr.hi,u64 o.pfx.addr.lo,i64 o.pfx.len]] [encP o.pfx]∧ASpec prog 90 [encP o.pfx] (i64 (ckP' o.pfx))) (.br (decide (ckP' o.pfx=0)) (.br (decide (o.pfx.fam=f)) (.br (decide (o.pfx.len≤o.max)) (.need (ILeL [u8 f] [u8 f]∧ASpec prog 91 [u8 f] (i64 (width f))) (.done Exit.ret (lret (bo (decide (o.max≤width f)))))) (.done Exit.ret (lret (bo false)))) (.done Exit.ret (lret (bo false)))) (.done Exit.ret (lret (bo false)))):=by kernel_rfl
def T79 (p:Pdu):Tell:=
 Tell.mk (fun x x_1=>false) (fun x x_1=>Orc.no) (fun x=>Tree.fail 1000003 0) (fun x=>0) (fun x=>([],[])) (fun x x_1 x_2=>Orc.no) fun x x_1=>Tree.fail 1000003 0
theorem t79 (p:Pdu):levF prog Proofs.Try.f79 [encD p] (T79 p)=
 Tree.br (decide (p.version=0)) (.done Exit.ret (lret (bo true))) (.br (decide (1≤p.refresh)) (.br (decide (1≤p.retry)) (.br (decide (p.expire≤1048576)) (.br (decide (p.refresh≤p.expire)) (.done Exit.ret (lret (bo (decide (p.retry≤p.expire))))) (.done Exit.ret (lret (bo false)))) (.done Exit.ret (lret (bo false)))) (.done Exit.ret (lret (bo false)))) (.done Exit.ret (lret (bo false)))):=by kernel_rfl
def T80 (p:Pdu):Tell:=
 Tell.mk (fun x x_1=>false) (fun x x_1=>Orc.no) (fun x=>Tree.fail 1000003 0) (fun x=>0) (fun x=>([],[])) (oget [(4,2,7,Orc.call [encT p.path] (i64 (ckPr' p.path)))]) fun x x_1=>Tree.fail 1000003 0
theorem t80 (p:Pdu):levF prog Proofs.Try.f80 [encD p] (T80 p)=
 Tree.br p.add (.need (ILeL [.agg [u32 p.path.cust,lu32 p.path.provs]] [encT p.path]∧ASpec prog 92 [encT p.path] (i64 (ckPr' p.path))) (.done Exit.ret (lret (bo (decide (ckPr' p.path=0)))))) (.br (!decide (p.path.cust=0)) (.done Exit.ret (lret (bo (decide ((↑(List.length (List.map u32 p.path.provs)):Int)=0))))) (.done Exit.ret (lret (bo false)))):=by kernel_rfl
def oriF (o:Origin)(f:Int):Bool:=decide (ckP' o.pfx=0)&&(decide (o.pfx.fam=f)&&(decide (o.pfx.len≤o.max)&&decide (o.max≤width f)))
theorem c78 (o:Origin)(f:Int):ASpec prog 78 [encO o,u8 f] (bo (oriF o f)):=by
 refine ASpec.treeW Proofs.Try.f78 (T78 o f) (by kernel_rfl) (by kernel_rfl) (t78 o f) ?_
 refine need_sat ⟨ILeL.refl _,c90 _⟩ ⟨fun h1=>⟨fun h2=>⟨fun h3=>need_sat ⟨ILeL.refl _,c91 _⟩ ⟨_,rfl,?_⟩,fun h3=>⟨_,rfl,?_⟩⟩,fun h2=>⟨_,rfl,?_⟩⟩,fun h1=>⟨_,rfl,?_⟩⟩
 all_goals exact ile_bo (by simp only[oriF, *,Bool.true_and,Bool.false_and])
theorem c79 (p:Pdu):ASpec prog 79 [encD p] (bo (ck59 p)):=by
 refine ASpec.treeW Proofs.Try.f79 (T79 p) (by kernel_rfl) (by kernel_rfl) (t79 p) ?_
 refine⟨fun h1=>⟨_,rfl,?_⟩,fun h1=>⟨fun h2=>⟨fun h3=>⟨fun h4=>⟨fun h5=>⟨_,rfl,?_⟩,fun h5=>⟨_,rfl,?_⟩⟩,fun h4=>⟨_,rfl,?_⟩⟩,fun h3=>⟨_,rfl,?_⟩⟩,fun h2=>⟨_,rfl,?_⟩⟩⟩
 all_goals exact ile_bo (by simp only[ck59, *,Bool.true_and,Bool.false_and,Bool.true_or,Bool.false_or,Bool.and_true])
def pathF (p:Pdu):Bool:=if p.add=true then decide (ckPr' p.path=0)else !decide (p.path.cust=0)&&decide (p.path.provs.length=0)
theorem c80 (p:Pdu):ASpec prog 80 [encD p] (bo (pathF p)):=by
 refine ASpec.treeW Proofs.Try.f80 (T80 p) (by kernel_rfl) (by kernel_rfl) (t80 p) ?_
 refine⟨fun h1=>need_sat ⟨ILeL.refl _,c92 _⟩ ⟨_,rfl,?_⟩,fun h1=>⟨fun h2=>⟨_,rfl,?_⟩,fun h2=>⟨_,rfl,?_⟩⟩⟩
 ·exact ile_bo (by rw[pathF,if_pos h1])
 ·exact ile_bo (by rw[pathF,if_neg (by rw[h1];decide),h2,List.length_map,Bool.true_and];simp)
 ·exact ile_bo (by rw[pathF,if_neg (by rw[h1];decide),h2,Bool.false_and])
def T37 (p:Pdu):Tell:=
 (let q0:=bo (oriF p.origin 4);let q1:=bo (oriF p.origin 6);let q2:=bo (pathF p);let q3:=bo (ck59 p);
 Tell.mk (fun x x_1=>false) (fun x x_1=>Orc.no) (fun x=>Tree.fail 1000003 0) (fun x=>0) (fun x=>([],[])) (oget [(8,9,2,Orc.call [encO p.origin,u8 4] q0),(10,11,2,Orc.call [encO p.origin,u8 6] q1),(12,13,1,Orc.call [encD p] q3),(18,19,5,Orc.call [encD p] q2),(10,9,2,Orc.call [encO p.origin,u8 4] q0),(12,11,2,Orc.call [encO p.origin,u8 6] q1),(14,13,1,Orc.call [encD p] q3),(20,19,5,Orc.call [encD p] q2),(12,9,2,Orc.call [encO p.origin,u8 4] q0),(14,11,2,Orc.call [encO p.origin,u8 6] q1),(16,13,1,Orc.call [encD p] q3),(22,19,5,Orc.call [encD p] q2),(14,9,2,Orc.call [encO p.origin,u8 4]
 q0),(16,11,2,Orc.call [encO p.origin,u8 6] q1),(18,13,1,Orc.call [encD p] q3),(24,19,5,Orc.call [encD p] q2),(16,9,2,Orc.call [encO p.origin,u8 4] q0),(18,11,2,Orc.call [encO p.origin,u8 6] q1),(20,13,1,Orc.call [encD p] q3),(26,19,5,Orc.call [encD p] q2)]) fun x x_1=>Tree.fail 1000003 0)
theorem t37 (p:Pdu):levF prog Proofs.Try.f37 [encD p] (T37 p)=
 (let q0:=bo (oriF p.origin 4);let q1:=bo (oriF p.origin 6);let q2:=bo (pathF p);let q3:=decide (0≤p.key.height);let q4:=decide (p.key.height≤4);let q5:=bo (ck59 p);let q6:=decide (0<p.version);let q7:=decide (p.version=2);let q8:=decide (p.kind=10);let q9:=decide (p.kind=11);let q10:=decide (p.kind=4);let q11:=decide (p.kind=6);let q12:=decide (p.kind=7);let q13:=decide (p.kind=9);let q14:=decide (p.code≤8);
 Tree.br (decide (p.kind=0)) (.br (decide (p.kind=0)) (.done Exit.ret (lret (bo true))) (.br q10 (.need (ILeL [.agg [u32 p.origin.asn,u8 p.origin.pfx.fam,u64 p.origin.pfx.addr.hi,u64 p.origin.pfx.addr.lo,i64 p.origin.pfx.len,i64 p.origin.max],u8 4] [encO p.origin,u8 4]∧ASpec prog 78 [encO p.origin,u8 4] q0) (.done Exit.ret (lret q0))) (.br q11 (.need (ILeL [.agg [u32 p.origin.asn,u8 p.origin.pfx.fam,u64 p.origin.pfx.addr.hi,u64 p.origin.pfx.addr.lo,i64 p.origin.pfx.len,i64 p.origin.max],u8 6] [encO p.origin,u8 6]∧ASpec prog 78 [encO p.origin,u8 6] q1) (.done Exit.ret (lret q1))) (.br q12
 (.need (ILeL [encD p] [encD p]∧ASpec prog 79 [encD p] q5) (.done Exit.ret (lret q5))) (.br q13 (.br q6 (.br q3 (.done Exit.ret (lret (bo q4))) (.done Exit.ret (lret (bo false)))) (.done Exit.ret (lret (bo false)))) (.br q8 (.done Exit.ret (lret (bo q14))) (.br q9 (.br q7 (.need (ILeL [encD p] [encD p]∧ASpec prog 80 [encD p] q2) (.done Exit.ret (lret q2))) (.done Exit.ret (lret (bo false)))) (.done Exit.ret (lret (bo false)))))))))) (.br (decide (p.kind=1)) (.br (decide (p.kind=1)) (.done Exit.ret (lret (bo true))) (.br q10 (.need (ILeL [.agg [u32 p.origin.asn,u8 p.origin.pfx.fam,u64
 p.origin.pfx.addr.hi,u64 p.origin.pfx.addr.lo,i64 p.origin.pfx.len,i64 p.origin.max],u8 4] [encO p.origin,u8 4]∧ASpec prog 78 [encO p.origin,u8 4] q0) (.done Exit.ret (lret q0))) (.br q11 (.need (ILeL [.agg [u32 p.origin.asn,u8 p.origin.pfx.fam,u64 p.origin.pfx.addr.hi,u64 p.origin.pfx.addr.lo,i64 p.origin.pfx.len,i64 p.origin.max],u8 6] [encO p.origin,u8 6]∧ASpec prog 78 [encO p.origin,u8 6] q1) (.done Exit.ret (lret q1))) (.br q12 (.need (ILeL [encD p] [encD p]∧ASpec prog 79 [encD p] q5) (.done Exit.ret (lret q5))) (.br q13 (.br q6 (.br q3 (.done Exit.ret (lret (bo q4))) (.done Exit.ret
 (lret (bo false)))) (.done Exit.ret (lret (bo false)))) (.br q8 (.done Exit.ret (lret (bo q14))) (.br q9 (.br q7 (.need (ILeL [encD p] [encD p]∧ASpec prog 80 [encD p] q2) (.done Exit.ret (lret q2))) (.done Exit.ret (lret (bo false)))) (.done Exit.ret (lret (bo false)))))))))) (.br (decide (p.kind=2)) (.br (decide (p.kind=2)) (.done Exit.ret (lret (bo true))) (.br q10 (.need (ILeL [.agg [u32 p.origin.asn,u8 p.origin.pfx.fam,u64 p.origin.pfx.addr.hi,u64 p.origin.pfx.addr.lo,i64 p.origin.pfx.len,i64 p.origin.max],u8 4] [encO p.origin,u8 4]∧ASpec prog 78 [encO p.origin,u8 4] q0) (.done
 Exit.ret (lret q0))) (.br q11 (.need (ILeL [.agg [u32 p.origin.asn,u8 p.origin.pfx.fam,u64 p.origin.pfx.addr.hi,u64 p.origin.pfx.addr.lo,i64 p.origin.pfx.len,i64 p.origin.max],u8 6] [encO p.origin,u8 6]∧ASpec prog 78 [encO p.origin,u8 6] q1) (.done Exit.ret (lret q1))) (.br q12 (.need (ILeL [encD p] [encD p]∧ASpec prog 79 [encD p] q5) (.done Exit.ret (lret q5))) (.br q13 (.br q6 (.br q3 (.done Exit.ret (lret (bo q4))) (.done Exit.ret (lret (bo false)))) (.done Exit.ret (lret (bo false)))) (.br q8 (.done Exit.ret (lret (bo q14))) (.br q9 (.br q7 (.need (ILeL [encD p] [encD p]∧ASpec prog 80
 [encD p] q2) (.done Exit.ret (lret q2))) (.done Exit.ret (lret (bo false)))) (.done Exit.ret (lret (bo false)))))))))) (.br (decide (p.kind=8)) (.br (decide (p.kind=8)) (.done Exit.ret (lret (bo true))) (.br q10 (.need (ILeL [.agg [u32 p.origin.asn,u8 p.origin.pfx.fam,u64 p.origin.pfx.addr.hi,u64 p.origin.pfx.addr.lo,i64 p.origin.pfx.len,i64 p.origin.max],u8 4] [encO p.origin,u8 4]∧ASpec prog 78 [encO p.origin,u8 4] q0) (.done Exit.ret (lret q0))) (.br q11 (.need (ILeL [.agg [u32 p.origin.asn,u8 p.origin.pfx.fam,u64 p.origin.pfx.addr.hi,u64 p.origin.pfx.addr.lo,i64 p.origin.pfx.len,i64
 p.origin.max],u8 6] [encO p.origin,u8 6]∧ASpec prog 78 [encO p.origin,u8 6] q1) (.done Exit.ret (lret q1))) (.br q12 (.need (ILeL [encD p] [encD p]∧ASpec prog 79 [encD p] q5) (.done Exit.ret (lret q5))) (.br q13 (.br q6 (.br q3 (.done Exit.ret (lret (bo q4))) (.done Exit.ret (lret (bo false)))) (.done Exit.ret (lret (bo false)))) (.br q8 (.done Exit.ret (lret (bo q14))) (.br q9 (.br q7 (.need (ILeL [encD p] [encD p]∧ASpec prog 80 [encD p] q2) (.done Exit.ret (lret q2))) (.done Exit.ret (lret (bo false)))) (.done Exit.ret (lret (bo false)))))))))) (.br (decide (p.kind=3)) (.done Exit.ret
 (lret (bo true))) (.br q10 (.need (ILeL [.agg [u32 p.origin.asn,u8 p.origin.pfx.fam,u64 p.origin.pfx.addr.hi,u64 p.origin.pfx.addr.lo,i64 p.origin.pfx.len,i64 p.origin.max],u8 4] [encO p.origin,u8 4]∧ASpec prog 78 [encO p.origin,u8 4] q0) (.done Exit.ret (lret q0))) (.br q11 (.need (ILeL [.agg [u32 p.origin.asn,u8 p.origin.pfx.fam,u64 p.origin.pfx.addr.hi,u64 p.origin.pfx.addr.lo,i64 p.origin.pfx.len,i64 p.origin.max],u8 6] [encO p.origin,u8 6]∧ASpec prog 78 [encO p.origin,u8 6] q1) (.done Exit.ret (lret q1))) (.br q12 (.need (ILeL [encD p] [encD p]∧ASpec prog 79 [encD p] q5) (.done
 Exit.ret (lret q5))) (.br q13 (.br q6 (.br q3 (.done Exit.ret (lret (bo q4))) (.done Exit.ret (lret (bo false)))) (.done Exit.ret (lret (bo false)))) (.br q8 (.done Exit.ret (lret (bo q14))) (.br q9 (.br q7 (.need (ILeL [encD p] [encD p]∧ASpec prog 80 [encD p] q2) (.done Exit.ret (lret q2))) (.done Exit.ret (lret (bo false)))) (.done Exit.ret (lret (bo false)))))))))))))):=by kernel_rfl
def T38 (p:Pdu):Tell:=
 Tell.mk (fun x x_1=>false) (fun x x_1=>Orc.no) (fun x=>Tree.fail 1000003 0) (fun x=>0) (fun x=>([],[])) (fun x x_1 x_2=>Orc.no) fun x x_1=>Tree.fail 1000003 0
theorem t38 (p:Pdu):levF prog Proofs.Try.f38 [encD p] (T38 p)=
 (let q0:=decide (0<p.version);let q1:=decide (p.kind=10);let q2:=decide (p.kind=11);let q3:=decide (p.kind=4);let q4:=decide (p.kind=7);let q5:=decide (p.kind=9);
 Tree.br (decide (p.kind=0)) (.br (decide (p.kind=0)) (.done Exit.ret (lret (.agg [u8 p.version,u8 p.kind,u16 p.session,u32 p.serial,bo false,u32 0,u8 0,u64 0,u64 0,i64 0,i64 0,u32 0,nS,u32 0,u8 0,u8 0,u8 0,u8 0,u8 0,u8 0,u8 0,u8 0,u8 0,u8 0,u8 0,u8 0,u8 0,u8 0,u8 0,u8 0,i64 0,u32 0,u32 0,u32 0,u16 0,nS,st .empty]))) (.br (decide (p.kind=3)) (.done Exit.ret (lret (.agg [u8 p.version,u8 p.kind,u16 p.session,u32 0,bo false,u32 0,u8 0,u64 0,u64 0,i64 0,i64 0,u32 0,nS,u32 0,u8 0,u8 0,u8 0,u8 0,u8 0,u8 0,u8 0,u8 0,u8 0,u8 0,u8 0,u8 0,u8 0,u8 0,u8 0,u8 0,i64 0,u32 0,u32 0,u32 0,u16 0,nS,st
 .empty]))) (.br q3 (.br q3 (.done Exit.ret (lret (.agg [u8 p.version,u8 p.kind,u16 0,u32 0,bo p.add,u32 p.origin.asn,u8 p.origin.pfx.fam,u64 p.origin.pfx.addr.hi,u64 p.origin.pfx.addr.lo,i64 p.origin.pfx.len,i64 p.origin.max,u32 0,nS,u32 0,u8 0,u8 0,u8 0,u8 0,u8 0,u8 0,u8 0,u8 0,u8 0,u8 0,u8 0,u8 0,u8 0,u8 0,u8 0,u8 0,i64 0,u32 0,u32 0,u32 0,u16 0,nS,st .empty]))) (.br q4 (.br q0 (.done Exit.ret (lret (.agg [u8 p.version,u8 p.kind,u16 p.session,u32 p.serial,bo false,u32 0,u8 0,u64 0,u64 0,i64 0,i64 0,u32 0,nS,u32 0,u8 0,u8 0,u8 0,u8 0,u8 0,u8 0,u8 0,u8 0,u8 0,u8 0,u8 0,u8 0,u8 0,u8 0,u8 0,u8
 0,i64 0,u32 p.refresh,u32 p.retry,u32 p.expire,u16 0,nS,st .empty]))) (.done Exit.ret (lret (.agg [u8 p.version,u8 p.kind,u16 p.session,u32 p.serial,bo false,u32 0,u8 0,u64 0,u64 0,i64 0,i64 0,u32 0,nS,u32 0,u8 0,u8 0,u8 0,u8 0,u8 0,u8 0,u8 0,u8 0,u8 0,u8 0,u8 0,u8 0,u8 0,u8 0,u8 0,u8 0,i64 0,u32 0,u32 0,u32 0,u16 0,nS,st .empty])))) (.br q5 (.done Exit.ret (lret (.agg [u8 p.version,u8 p.kind,u16 0,u32 0,bo p.add,u32 0,u8 0,u64 0,u64 0,i64 0,i64 0,u32 0,nS,u32 p.key.asn,u8 p.key.root[0],u8 p.key.root[1],u8 p.key.root[2],u8 p.key.root[3],u8 p.key.root[4],u8 p.key.root[5],u8 p.key.root[6],u8
 p.key.root[7],u8 p.key.root[8],u8 p.key.root[9],u8 p.key.root[10],u8 p.key.root[11],u8 p.key.root[12],u8 p.key.root[13],u8 p.key.root[14],u8 p.key.root[15],i64 p.key.height,u32 0,u32 0,u32 0,u16 0,nS,st .empty]))) (.br q1 (.done Exit.ret (lret (.agg [u8 p.version,u8 p.kind,u16 0,u32 0,bo false,u32 0,u8 0,u64 0,u64 0,i64 0,i64 0,u32 0,nS,u32 0,u8 0,u8 0,u8 0,u8 0,u8 0,u8 0,u8 0,u8 0,u8 0,u8 0,u8 0,u8 0,u8 0,u8 0,u8 0,u8 0,i64 0,u32 0,u32 0,u32 0,u16 p.code,lu8 p.copy,st p.text]))) (.br q2 (.done Exit.ret (lret (.agg [u8 p.version,u8 p.kind,u16 0,u32 0,bo p.add,u32 0,u8 0,u64 0,u64 0,i64 0,i64
 0,u32 p.path.cust,lu32 p.path.provs,u32 0,u8 0,u8 0,u8 0,u8 0,u8 0,u8 0,u8 0,u8 0,u8 0,u8 0,u8 0,u8 0,u8 0,u8 0,u8 0,u8 0,i64 0,u32 0,u32 0,u32 0,u16 0,nS,st .empty]))) (.done Exit.ret (lret (.agg [u8 p.version,u8 p.kind,u16 0,u32 0,bo false,u32 0,u8 0,u64 0,u64 0,i64 0,i64 0,u32 0,nS,u32 0,u8 0,u8 0,u8 0,u8 0,u8 0,u8 0,u8 0,u8 0,u8 0,u8 0,u8 0,u8 0,u8 0,u8 0,u8 0,u8 0,i64 0,u32 0,u32 0,u32 0,u16 0,nS,st .empty])))))))) (.br (decide (p.kind=6)) (.done Exit.ret (lret (.agg [u8 p.version,u8 p.kind,u16 0,u32 0,bo p.add,u32 p.origin.asn,u8 p.origin.pfx.fam,u64 p.origin.pfx.addr.hi,u64
 p.origin.pfx.addr.lo,i64 p.origin.pfx.len,i64 p.origin.max,u32 0,nS,u32 0,u8 0,u8 0,u8 0,u8 0,u8 0,u8 0,u8 0,u8 0,u8 0,u8 0,u8 0,u8 0,u8 0,u8 0,u8 0,u8 0,i64 0,u32 0,u32 0,u32 0,u16 0,nS,st .empty]))) (.br q4 (.br q0 (.done Exit.ret (lret (.agg [u8 p.version,u8 p.kind,u16 p.session,u32 p.serial,bo false,u32 0,u8 0,u64 0,u64 0,i64 0,i64 0,u32 0,nS,u32 0,u8 0,u8 0,u8 0,u8 0,u8 0,u8 0,u8 0,u8 0,u8 0,u8 0,u8 0,u8 0,u8 0,u8 0,u8 0,u8 0,i64 0,u32 p.refresh,u32 p.retry,u32 p.expire,u16 0,nS,st .empty]))) (.done Exit.ret (lret (.agg [u8 p.version,u8 p.kind,u16 p.session,u32 p.serial,bo false,u32 0,u8
 0,u64 0,u64 0,i64 0,i64 0,u32 0,nS,u32 0,u8 0,u8 0,u8 0,u8 0,u8 0,u8 0,u8 0,u8 0,u8 0,u8 0,u8 0,u8 0,u8 0,u8 0,u8 0,u8 0,i64 0,u32 0,u32 0,u32 0,u16 0,nS,st .empty])))) (.br q5 (.done Exit.ret (lret (.agg [u8 p.version,u8 p.kind,u16 0,u32 0,bo p.add,u32 0,u8 0,u64 0,u64 0,i64 0,i64 0,u32 0,nS,u32 p.key.asn,u8 p.key.root[0],u8 p.key.root[1],u8 p.key.root[2],u8 p.key.root[3],u8 p.key.root[4],u8 p.key.root[5],u8 p.key.root[6],u8 p.key.root[7],u8 p.key.root[8],u8 p.key.root[9],u8 p.key.root[10],u8 p.key.root[11],u8 p.key.root[12],u8 p.key.root[13],u8 p.key.root[14],u8 p.key.root[15],i64
 p.key.height,u32 0,u32 0,u32 0,u16 0,nS,st .empty]))) (.br q1 (.done Exit.ret (lret (.agg [u8 p.version,u8 p.kind,u16 0,u32 0,bo false,u32 0,u8 0,u64 0,u64 0,i64 0,i64 0,u32 0,nS,u32 0,u8 0,u8 0,u8 0,u8 0,u8 0,u8 0,u8 0,u8 0,u8 0,u8 0,u8 0,u8 0,u8 0,u8 0,u8 0,u8 0,i64 0,u32 0,u32 0,u32 0,u16 p.code,lu8 p.copy,st p.text]))) (.br q2 (.done Exit.ret (lret (.agg [u8 p.version,u8 p.kind,u16 0,u32 0,bo p.add,u32 0,u8 0,u64 0,u64 0,i64 0,i64 0,u32 p.path.cust,lu32 p.path.provs,u32 0,u8 0,u8 0,u8 0,u8 0,u8 0,u8 0,u8 0,u8 0,u8 0,u8 0,u8 0,u8 0,u8 0,u8 0,u8 0,u8 0,i64 0,u32 0,u32 0,u32 0,u16 0,nS,st
 .empty]))) (.done Exit.ret (lret (.agg [u8 p.version,u8 p.kind,u16 0,u32 0,bo false,u32 0,u8 0,u64 0,u64 0,i64 0,i64 0,u32 0,nS,u32 0,u8 0,u8 0,u8 0,u8 0,u8 0,u8 0,u8 0,u8 0,u8 0,u8 0,u8 0,u8 0,u8 0,u8 0,u8 0,u8 0,i64 0,u32 0,u32 0,u32 0,u16 0,nS,st .empty]))))))))))) (.br (decide (p.kind=1)) (.done Exit.ret (lret (.agg [u8 p.version,u8 p.kind,u16 p.session,u32 p.serial,bo false,u32 0,u8 0,u64 0,u64 0,i64 0,i64 0,u32 0,nS,u32 0,u8 0,u8 0,u8 0,u8 0,u8 0,u8 0,u8 0,u8 0,u8 0,u8 0,u8 0,u8 0,u8 0,u8 0,u8 0,u8 0,i64 0,u32 0,u32 0,u32 0,u16 0,nS,st .empty]))) (.br (decide (p.kind=3)) (.done
 Exit.ret (lret (.agg [u8 p.version,u8 p.kind,u16 p.session,u32 0,bo false,u32 0,u8 0,u64 0,u64 0,i64 0,i64 0,u32 0,nS,u32 0,u8 0,u8 0,u8 0,u8 0,u8 0,u8 0,u8 0,u8 0,u8 0,u8 0,u8 0,u8 0,u8 0,u8 0,u8 0,u8 0,i64 0,u32 0,u32 0,u32 0,u16 0,nS,st .empty]))) (.br q3 (.br q3 (.done Exit.ret (lret (.agg [u8 p.version,u8 p.kind,u16 0,u32 0,bo p.add,u32 p.origin.asn,u8 p.origin.pfx.fam,u64 p.origin.pfx.addr.hi,u64 p.origin.pfx.addr.lo,i64 p.origin.pfx.len,i64 p.origin.max,u32 0,nS,u32 0,u8 0,u8 0,u8 0,u8 0,u8 0,u8 0,u8 0,u8 0,u8 0,u8 0,u8 0,u8 0,u8 0,u8 0,u8 0,u8 0,i64 0,u32 0,u32 0,u32 0,u16 0,nS,st
 .empty]))) (.br q4 (.br q0 (.done Exit.ret (lret (.agg [u8 p.version,u8 p.kind,u16 p.session,u32 p.serial,bo false,u32 0,u8 0,u64 0,u64 0,i64 0,i64 0,u32 0,nS,u32 0,u8 0,u8 0,u8 0,u8 0,u8 0,u8 0,u8 0,u8 0,u8 0,u8 0,u8 0,u8 0,u8 0,u8 0,u8 0,u8 0,i64 0,u32 p.refresh,u32 p.retry,u32 p.expire,u16 0,nS,st .empty]))) (.done Exit.ret (lret (.agg [u8 p.version,u8 p.kind,u16 p.session,u32 p.serial,bo false,u32 0,u8 0,u64 0,u64 0,i64 0,i64 0,u32 0,nS,u32 0,u8 0,u8 0,u8 0,u8 0,u8 0,u8 0,u8 0,u8 0,u8 0,u8 0,u8 0,u8 0,u8 0,u8 0,u8 0,u8 0,i64 0,u32 0,u32 0,u32 0,u16 0,nS,st .empty])))) (.br q5 (.done
 Exit.ret (lret (.agg [u8 p.version,u8 p.kind,u16 0,u32 0,bo p.add,u32 0,u8 0,u64 0,u64 0,i64 0,i64 0,u32 0,nS,u32 p.key.asn,u8 p.key.root[0],u8 p.key.root[1],u8 p.key.root[2],u8 p.key.root[3],u8 p.key.root[4],u8 p.key.root[5],u8 p.key.root[6],u8 p.key.root[7],u8 p.key.root[8],u8 p.key.root[9],u8 p.key.root[10],u8 p.key.root[11],u8 p.key.root[12],u8 p.key.root[13],u8 p.key.root[14],u8 p.key.root[15],i64 p.key.height,u32 0,u32 0,u32 0,u16 0,nS,st .empty]))) (.br q1 (.done Exit.ret (lret (.agg [u8 p.version,u8 p.kind,u16 0,u32 0,bo false,u32 0,u8 0,u64 0,u64 0,i64 0,i64 0,u32 0,nS,u32 0,u8 0,u8
 0,u8 0,u8 0,u8 0,u8 0,u8 0,u8 0,u8 0,u8 0,u8 0,u8 0,u8 0,u8 0,u8 0,u8 0,i64 0,u32 0,u32 0,u32 0,u16 p.code,lu8 p.copy,st p.text]))) (.br q2 (.done Exit.ret (lret (.agg [u8 p.version,u8 p.kind,u16 0,u32 0,bo p.add,u32 0,u8 0,u64 0,u64 0,i64 0,i64 0,u32 p.path.cust,lu32 p.path.provs,u32 0,u8 0,u8 0,u8 0,u8 0,u8 0,u8 0,u8 0,u8 0,u8 0,u8 0,u8 0,u8 0,u8 0,u8 0,u8 0,u8 0,i64 0,u32 0,u32 0,u32 0,u16 0,nS,st .empty]))) (.done Exit.ret (lret (.agg [u8 p.version,u8 p.kind,u16 0,u32 0,bo false,u32 0,u8 0,u64 0,u64 0,i64 0,i64 0,u32 0,nS,u32 0,u8 0,u8 0,u8 0,u8 0,u8 0,u8 0,u8 0,u8 0,u8 0,u8 0,u8 0,u8 0,u8
 0,u8 0,u8 0,u8 0,i64 0,u32 0,u32 0,u32 0,u16 0,nS,st .empty])))))))) (.br (decide (p.kind=6)) (.done Exit.ret (lret (.agg [u8 p.version,u8 p.kind,u16 0,u32 0,bo p.add,u32 p.origin.asn,u8 p.origin.pfx.fam,u64 p.origin.pfx.addr.hi,u64 p.origin.pfx.addr.lo,i64 p.origin.pfx.len,i64 p.origin.max,u32 0,nS,u32 0,u8 0,u8 0,u8 0,u8 0,u8 0,u8 0,u8 0,u8 0,u8 0,u8 0,u8 0,u8 0,u8 0,u8 0,u8 0,u8 0,i64 0,u32 0,u32 0,u32 0,u16 0,nS,st .empty]))) (.br q4 (.br q0 (.done Exit.ret (lret (.agg [u8 p.version,u8 p.kind,u16 p.session,u32 p.serial,bo false,u32 0,u8 0,u64 0,u64 0,i64 0,i64 0,u32 0,nS,u32 0,u8 0,u8
 0,u8 0,u8 0,u8 0,u8 0,u8 0,u8 0,u8 0,u8 0,u8 0,u8 0,u8 0,u8 0,u8 0,u8 0,i64 0,u32 p.refresh,u32 p.retry,u32 p.expire,u16 0,nS,st .empty]))) (.done Exit.ret (lret (.agg [u8 p.version,u8 p.kind,u16 p.session,u32 p.serial,bo false,u32 0,u8 0,u64 0,u64 0,i64 0,i64 0,u32 0,nS,u32 0,u8 0,u8 0,u8 0,u8 0,u8 0,u8 0,u8 0,u8 0,u8 0,u8 0,u8 0,u8 0,u8 0,u8 0,u8 0,u8 0,i64 0,u32 0,u32 0,u32 0,u16 0,nS,st .empty])))) (.br q5 (.done Exit.ret (lret (.agg [u8 p.version,u8 p.kind,u16 0,u32 0,bo p.add,u32 0,u8 0,u64 0,u64 0,i64 0,i64 0,u32 0,nS,u32 p.key.asn,u8 p.key.root[0],u8 p.key.root[1],u8 p.key.root[2],u8
 p.key.root[3],u8 p.key.root[4],u8 p.key.root[5],u8 p.key.root[6],u8 p.key.root[7],u8 p.key.root[8],u8 p.key.root[9],u8 p.key.root[10],u8 p.key.root[11],u8 p.key.root[12],u8 p.key.root[13],u8 p.key.root[14],u8 p.key.root[15],i64 p.key.height,u32 0,u32 0,u32 0,u16 0,nS,st .empty]))) (.br q1 (.done Exit.ret (lret (.agg [u8 p.version,u8 p.kind,u16 0,u32 0,bo false,u32 0,u8 0,u64 0,u64 0,i64 0,i64 0,u32 0,nS,u32 0,u8 0,u8 0,u8 0,u8 0,u8 0,u8 0,u8 0,u8 0,u8 0,u8 0,u8 0,u8 0,u8 0,u8 0,u8 0,u8 0,i64 0,u32 0,u32 0,u32 0,u16 p.code,lu8 p.copy,st p.text]))) (.br q2 (.done Exit.ret (lret (.agg [u8
 p.version,u8 p.kind,u16 0,u32 0,bo p.add,u32 0,u8 0,u64 0,u64 0,i64 0,i64 0,u32 p.path.cust,lu32 p.path.provs,u32 0,u8 0,u8 0,u8 0,u8 0,u8 0,u8 0,u8 0,u8 0,u8 0,u8 0,u8 0,u8 0,u8 0,u8 0,u8 0,u8 0,i64 0,u32 0,u32 0,u32 0,u16 0,nS,st .empty]))) (.done Exit.ret (lret (.agg [u8 p.version,u8 p.kind,u16 0,u32 0,bo false,u32 0,u8 0,u64 0,u64 0,i64 0,i64 0,u32 0,nS,u32 0,u8 0,u8 0,u8 0,u8 0,u8 0,u8 0,u8 0,u8 0,u8 0,u8 0,u8 0,u8 0,u8 0,u8 0,u8 0,u8 0,i64 0,u32 0,u32 0,u32 0,u16 0,nS,st .empty])))))))))))):=by kernel_rfl
def fldF (p:Pdu):Bool:=if p.kind=0∨p.kind=1∨p.kind=2∨p.kind=8∨p.kind=3 then true else if p.kind=4 then oriF p.origin 4 else if p.kind=6 then oriF p.origin 6 else if p.kind=7 then ck59 p else if p.kind=9 then ck62 p else if p.kind=10 then ck67 p else if p.kind=11 then decide (p.version=2)&&pathF p else false
theorem c37 (p:Pdu):ASpec prog 37 [encD p] (bo (fldF p)):=by
 refine ASpec.treeW Proofs.Try.f37 (T37 p) (by kernel_rfl) (by kernel_rfl) (t37 p) ?_
 refine⟨fun h1=>⟨fun h2=>⟨_,rfl,?_⟩,fun h2=>⟨fun h3=>need_sat ⟨ILeL.refl _,c78 _ _⟩ ⟨_,rfl,?_⟩,fun h3=>⟨fun h4=>need_sat ⟨ILeL.refl _,c78 _ _⟩ ⟨_,rfl,?_⟩,fun h4=>⟨fun h5=>need_sat ⟨ILeL.refl _,c79 _⟩ ⟨_,rfl,?_⟩,fun h5=>⟨fun h6=>⟨fun h7=>⟨fun h8=>⟨_,rfl,?_⟩,fun h8=>⟨_,rfl,?_⟩⟩,fun h7=>⟨_,rfl,?_⟩⟩,fun h6=>⟨fun h7=>⟨_,rfl,?_⟩,fun h7=>⟨fun h8=>⟨fun h9=>need_sat ⟨ILeL.refl _,c80 _⟩ ⟨_,rfl,?_⟩,fun h9=>⟨_,rfl,?_⟩⟩,fun h8=>⟨_,rfl,?_⟩⟩⟩⟩⟩⟩⟩⟩,fun h1=>⟨fun h2=>⟨fun h3=>⟨_,rfl,?_⟩,fun h3=>⟨fun h4=>need_sat ⟨ILeL.refl _,c78 _ _⟩ ⟨_,rfl,?_⟩,fun h4=>⟨fun h5=>need_sat ⟨ILeL.refl _,c78 _ _⟩ ⟨_,rfl,?_⟩,fun h5=>⟨fun h6=>need_sat ⟨ILeL.refl _,c79 _⟩ ⟨_,rfl,?_⟩,fun h6=>⟨fun h7=>⟨fun h8=>⟨fun h9=>⟨_,rfl,?_⟩,fun h9=>⟨_,rfl,?_⟩⟩,fun h8=>⟨_,rfl,?_⟩⟩,fun h7=>⟨fun h8=>⟨_,rfl,?_⟩,fun h8=>⟨fun h9=>⟨fun h10=>need_sat ⟨ILeL.refl _,c80 _⟩ ⟨_,rfl,?_⟩,fun h10=>⟨_,rfl,?_⟩⟩,fun h9=>⟨_,rfl,?_⟩⟩⟩⟩⟩⟩⟩⟩,fun h2=>⟨fun h3=>⟨fun h4=>⟨_,rfl,?_⟩,fun h4=>⟨fun h5=>need_sat ⟨ILeL.refl _,c78 _ _⟩ ⟨_,rfl,?_⟩,fun h5=>⟨fun h6=>need_sat ⟨ILeL.refl _,c78 _ _⟩ ⟨_,rfl,?_⟩,fun h6=>⟨fun h7=>need_sat ⟨ILeL.refl _,c79 _⟩ ⟨_,rfl,?_⟩,fun h7=>⟨fun h8=>⟨fun h9=>⟨fun h10=>⟨_,rfl,?_⟩,fun h10=>⟨_,rfl,?_⟩⟩,fun h9=>⟨_,rfl,?_⟩⟩,fun h8=>⟨fun h9=>⟨_,rfl,?_⟩,fun h9=>⟨fun h10=>⟨fun h11=>need_sat ⟨ILeL.refl _,c80 _⟩ ⟨_,rfl,?_⟩,fun h11=>⟨_,rfl,?_⟩⟩,fun h10=>⟨_,rfl,?_⟩⟩⟩⟩⟩⟩⟩⟩,fun h3=>⟨fun h4=>⟨fun h5=>⟨_,rfl,?_⟩,fun h5=>⟨fun h6=>need_sat ⟨ILeL.refl _,c78 _ _⟩ ⟨_,rfl,?_⟩,fun h6=>⟨fun h7=>need_sat ⟨ILeL.refl _,c78 _ _⟩ ⟨_,rfl,?_⟩,fun h7=>⟨fun h8=>need_sat ⟨ILeL.refl _,c79 _⟩ ⟨_,rfl,?_⟩,fun h8=>⟨fun h9=>⟨fun h10=>⟨fun h11=>⟨_,rfl,?_⟩,fun h11=>⟨_,rfl,?_⟩⟩,fun h10=>⟨_,rfl,?_⟩⟩,fun h9=>⟨fun h10=>⟨_,rfl,?_⟩,fun h10=>⟨fun h11=>⟨fun h12=>need_sat ⟨ILeL.refl _,c80 _⟩ ⟨_,rfl,?_⟩,fun h12=>⟨_,rfl,?_⟩⟩,fun h11=>⟨_,rfl,?_⟩⟩⟩⟩⟩⟩⟩⟩,fun h4=>⟨fun h5=>⟨_,rfl,?_⟩,fun h5=>⟨fun h6=>need_sat ⟨ILeL.refl _,c78 _ _⟩ ⟨_,rfl,?_⟩,fun h6=>⟨fun h7=>need_sat ⟨ILeL.refl _,c78 _ _⟩ ⟨_,rfl,?_⟩,fun h7=>⟨fun h8=>need_sat ⟨ILeL.refl _,c79 _⟩ ⟨_,rfl,?_⟩,fun h8=>⟨fun h9=>⟨fun h10=>⟨fun h11=>⟨_,rfl,?_⟩,fun h11=>⟨_,rfl,?_⟩⟩,fun h10=>⟨_,rfl,?_⟩⟩,fun h9=>⟨fun h10=>⟨_,rfl,?_⟩,fun h10=>⟨fun h11=>⟨fun h12=>need_sat ⟨ILeL.refl _,c80 _⟩ ⟨_,rfl,?_⟩,fun h12=>⟨_,rfl,?_⟩⟩,fun h11=>⟨_,rfl,?_⟩⟩⟩⟩⟩⟩⟩⟩⟩⟩⟩⟩
 all_goals simp only[decide_eq_true_eq,decide_eq_false_iff_not]at*
 all_goals first
  |(exfalso;omega)
  |exact ile_bo (by simp[fldF,ck62,ck67, *])
def bare (p:Pdu):Pdu:=
 if p.kind=0∨p.kind=1 then{z1 p.version p.kind p.session false 0 with serial:=p.serial}else
 if p.kind=3 then z1 p.version p.kind p.session false 0 else
 if p.kind=4∨p.kind=6 then{z1 p.version p.kind 0 p.add 0 with origin:=p.origin}else
 if p.kind=7 then(if 0<p.version then{z1 p.version p.kind p.session false 0 with serial:=p.serial,refresh:=p.refresh,retry:=p.retry,expire:=p.expire}else{z1 p.version p.kind p.session false 0 with serial:=p.serial})else
 if p.kind=9 then{z1 p.version p.kind 0 p.add 0 with key:=p.key}else
 if p.kind=10 then{z1 p.version p.kind 0 false p.code with copy:=p.copy,text:=p.text}else
 if p.kind=11 then{z1 p.version p.kind 0 p.add 0 with path:=p.path}else z1 p.version p.kind 0 false 0
theorem bare0 {p:Pdu}(h:p.kind=0∨p.kind=1):bare p={z1 p.version p.kind p.session false 0 with serial:=p.serial}:=if_pos h
theorem bare3 {p:Pdu}(h:p.kind=3):bare p=z1 p.version p.kind p.session false 0:=by
 rw[bare,if_neg (by omega),if_pos h]
theorem bare4 {p:Pdu}(h:p.kind=4∨p.kind=6):bare p={z1 p.version p.kind 0 p.add 0 with origin:=p.origin}:=by
 rw[bare,if_neg (by omega),if_neg (by omega),if_pos h]
theorem bare7 {p:Pdu}(h:p.kind=7)(hv:0<p.version):bare p={z1 p.version p.kind p.session false 0 with serial:=p.serial,refresh:=p.refresh,retry:=p.retry,expire:=p.expire}:=by
 rw[bare,if_neg (by omega),if_neg (by omega),if_neg (by omega),if_pos h,if_pos hv]
theorem bare7' {p:Pdu}(h:p.kind=7)(hv:¬0<p.version):bare p={z1 p.version p.kind p.session false 0 with serial:=p.serial}:=by
 rw[bare,if_neg (by omega),if_neg (by omega),if_neg (by omega),if_pos h,if_neg hv]
theorem bare9 {p:Pdu}(h:p.kind=9):bare p={z1 p.version p.kind 0 p.add 0 with key:=p.key}:=by
 rw[bare,if_neg (by omega),if_neg (by omega),if_neg (by omega),if_neg (by omega),if_pos h]
theorem bare10 {p:Pdu}(h:p.kind=10):bare p={z1 p.version p.kind 0 false p.code with copy:=p.copy,text:=p.text}:=by
 rw[bare,if_neg (by omega),if_neg (by omega),if_neg (by omega),if_neg (by omega),if_neg (by omega),if_pos h]
theorem bare11 {p:Pdu}(h:p.kind=11):bare p={z1 p.version p.kind 0 p.add 0 with path:=p.path}:=by
 rw[bare,if_neg (by omega),if_neg (by omega),if_neg (by omega),if_neg (by omega),if_neg (by omega),if_neg (by omega),if_pos h]
theorem bareN {p:Pdu}(h:¬(p.kind=0∨p.kind=1∨p.kind=3∨p.kind=4∨p.kind=6∨p.kind=7∨p.kind=9∨p.kind=10∨p.kind=11)):bare p=z1 p.version p.kind 0 false 0:=by
 rw[bare,if_neg (by omega),if_neg (by omega),if_neg (by omega),if_neg (by omega),if_neg (by omega),if_neg (by omega),if_neg (by omega)]
end Gp
namespace Gp
theorem c38 (p:Pdu):ASpec prog 38 [encD p] (encD (bare p)):=by
 refine ASpec.treeW Proofs.Try.f38 (T38 p) (by kernel_rfl) (by kernel_rfl) (t38 p) ?_
 refine⟨fun h1=>⟨fun h2=>⟨_,rfl,?_⟩,fun h2=>⟨fun h3=>⟨_,rfl,?_⟩,fun h3=>⟨fun h4=>⟨fun h5=>⟨_,rfl,?_⟩,fun h5=>⟨fun h6=>⟨fun h7=>⟨_,rfl,?_⟩,fun h7=>⟨_,rfl,?_⟩⟩,fun h6=>⟨fun h7=>⟨_,rfl,?_⟩,fun h7=>⟨fun h8=>⟨_,rfl,?_⟩,fun h8=>⟨fun h9=>⟨_,rfl,?_⟩,fun h9=>⟨_,rfl,?_⟩⟩⟩⟩⟩⟩,fun h4=>⟨fun h5=>⟨_,rfl,?_⟩,fun h5=>⟨fun h6=>⟨fun h7=>⟨_,rfl,?_⟩,fun h7=>⟨_,rfl,?_⟩⟩,fun h6=>⟨fun h7=>⟨_,rfl,?_⟩,fun h7=>⟨fun h8=>⟨_,rfl,?_⟩,fun h8=>⟨fun h9=>⟨_,rfl,?_⟩,fun h9=>⟨_,rfl,?_⟩⟩⟩⟩⟩⟩⟩⟩⟩,fun h1=>⟨fun h2=>⟨_,rfl,?_⟩,fun h2=>⟨fun h3=>⟨_,rfl,?_⟩,fun h3=>⟨fun h4=>⟨fun h5=>⟨_,rfl,?_⟩,fun h5=>⟨fun h6=>⟨fun h7=>⟨_,rfl,?_⟩,fun h7=>⟨_,rfl,?_⟩⟩,fun h6=>⟨fun h7=>⟨_,rfl,?_⟩,fun h7=>⟨fun h8=>⟨_,rfl,?_⟩,fun h8=>⟨fun h9=>⟨_,rfl,?_⟩,fun h9=>⟨_,rfl,?_⟩⟩⟩⟩⟩⟩,fun h4=>⟨fun h5=>⟨_,rfl,?_⟩,fun h5=>⟨fun h6=>⟨fun h7=>⟨_,rfl,?_⟩,fun h7=>⟨_,rfl,?_⟩⟩,fun h6=>⟨fun h7=>⟨_,rfl,?_⟩,fun h7=>⟨fun h8=>⟨_,rfl,?_⟩,fun h8=>⟨fun h9=>⟨_,rfl,?_⟩,fun h9=>⟨_,rfl,?_⟩⟩⟩⟩⟩⟩⟩⟩⟩⟩
 all_goals simp only[decide_eq_true_eq,decide_eq_false_iff_not]at*
 all_goals first
  |(exfalso;omega)
  |(rw[bare0 (p:=p) (by omega)];exact ile_pdu {z1 p.version p.kind p.session false 0 with serial:=p.serial} _ _ (ile_n _ rfl) (ile_n' _ rfl))
  |(rw[bare3 (p:=p) (by omega)];exact ile_pdu (z1 p.version p.kind p.session false 0) _ _ (ile_n _ rfl) (ile_n' _ rfl))
  |(rw[bare4 (p:=p) (by omega)];exact ile_pdu {z1 p.version p.kind 0 p.add 0 with origin:=p.origin} _ _ (ile_n _ rfl) (ile_n' _ rfl))
  |(rw[bare7 (p:=p) (by omega) (by omega)];exact ile_pdu {z1 p.version p.kind p.session false 0 with serial:=p.serial,refresh:=p.refresh,retry:=p.retry,expire:=p.expire} _ _ (ile_n _ rfl) (ile_n' _ rfl))
  |(rw[bare7' (p:=p) (by omega) (by omega)];exact ile_pdu {z1 p.version p.kind p.session false 0 with serial:=p.serial} _ _ (ile_n _ rfl) (ile_n' _ rfl))
  |(rw[bare9 (p:=p) (by omega)];exact ile_pdu {z1 p.version p.kind 0 p.add 0 with key:=p.key} _ _ (ile_n _ rfl) (ile_n' _ rfl))
  |(rw[bare10 (p:=p) (by omega)];exact ile_pdu {z1 p.version p.kind 0 false p.code with copy:=p.copy,text:=p.text} _ _ (ile_n _ rfl) (.refl _))
  |(rw[bare11 (p:=p) (by omega)];exact ile_pdu {z1 p.version p.kind 0 p.add 0 with path:=p.path} _ _ (.refl _) (ile_n' _ rfl))
  |(rw[bareN (p:=p) (by omega)];exact ile_pdu (z1 p.version p.kind 0 false 0) _ _ (ile_n _ rfl) (ile_n' _ rfl))
end Gp
namespace Gp
def Addr.rng (a:Addr):Prop:=(0≤a.hi∧a.hi<2^64)∧(0≤a.lo∧a.lo<2^64)
def Attest.rng (a:Attest):Prop:=0≤a.cust∧∀n∈a.provs,0≤n
theorem anyI_none {p:Nat→Bool}{n:Nat}:anyI p 0 n=false↔∀i,i<n→p i=false:=by
 constructor
 ·intro h i hi
  cases hp:p i with
  |false=>rfl
  |true=>rw[anyI_iff.2 ⟨i,hi,hp⟩]at h;cases h
 ·intro h
  cases hn:anyI p 0 n with
  |false=>rfl
  |true=>obtain⟨i,hi,hp⟩:=anyI_iff.1 hn;rw[h i hi]at hp;cases hp
theorem and64 (a b:Int)(ha:0≤a∧a<2^64)(hb:0≤b∧b<2^64):ibits .u64 (· &&& ·) a b=((a.toNat&&& b.toNat:Nat):Int):=by
 have e:∀x:Int,0≤x∧x<2^64→(BitVec.ofInt 64 x).toNat=x.toNat:=by
  intro x hx
  rw[BitVec.toNat_ofInt,Int.emod_eq_of_lt hx.1 (by simpa using hx.2)]
 unfold ibits
 show IntKind.u64.wrap (((BitVec.ofInt 64 a)&&& (BitVec.ofInt 64 b)).toNat:Int)=_
 rw[BitVec.toNat_and,e a ha,e b hb]
 have:a.toNat&&& b.toNat≤a.toNat:=Nat.and_le_left
 rw[IntWalk.u64_in _ ⟨by omega,by omega⟩]
theorem hole_bit (n m k:Nat)(h:m≤n):(2^n-2^m).testBit k=decide (m≤k∧k<n):=by
 have e:2^n-2^m=(2^(n-m)-1)<<<m:=by
  rw[Nat.shiftLeft_eq,Nat.sub_mul,←Nat.pow_add,Nat.one_mul,Nat.sub_add_cancel h]
 rw[e,Nat.testBit_shiftLeft,Nat.testBit_two_pow_sub_one,Bool.eq_iff_iff]
 simp;omega
theorem and_hole (n m x:Nat)(h:m≤n)(hx:x<2^n):x&&& (2^n-2^m)=x↔∀k,k<m→x.testBit k=false:=by
 constructor
 ·intro e k hk
  have:=congrArg (fun y=>y.testBit k) e
  simp only[Nat.testBit_and,hole_bit n m k h]at this
  rw[←this,show decide (m≤k∧k<n)=false from by simp;omega,Bool.and_false]
 ·intro hz
  refine Nat.eq_of_testBit_eq fun k=>?_
  rw[Nat.testBit_and,hole_bit n m k h]
  rcases Nat.lt_or_ge k m with hk|hk
  ·rw[hz k hk];rfl
  ·rcases Nat.lt_or_ge k n with hn|hn
   ·rw[show decide (m≤k∧k<n)=true from by simp;omega,Bool.and_true]
   ·rw[Nat.testBit_lt_two_pow (Nat.lt_of_lt_of_le hx (Nat.pow_le_pow_right (by decide) hn))];rfl
theorem shl_ones (m:Int)(h0:0≤m)(h:m≤64):shl64 ones m=((2^64-2^m.toNat:Nat):Int):=by
 unfold shl64 ones
 have hm:min m.toNat 64=m.toNat:=by omega
 rw[hm]
 have hp:(2:Nat)^m.toNat≤2^64:=Nat.pow_le_pow_right (by decide) (by omega)
 have hpos:0<(2:Nat)^m.toNat:=Nat.pos_of_ne_zero (by simp)
 generalize hq:(2:Nat)^m.toNat=q at*
 have e:(2:Int)^m.toNat=(q:Int):=by rw[←hq];simp
 rw[e,IntKind.wrap]
 simp[IntKind.bits,IntKind.signed]
 omega
theorem bitV_eq (x k:Int)(hx:0≤x∧x<2^64)(hk:0≤k):bitV x k=if x.toNat.testBit k.toNat=true then 1 else 0:=by
 unfold bitV
 have e:x.tdiv (2^k.toNat)=((x.toNat/2^k.toNat:Nat):Int):=by
  obtain⟨n,rfl⟩:=Int.eq_ofNat_of_zero_le hx.1
  simp[Int.tdiv]
  rfl
 have hle:x.toNat/2^k.toNat≤x.toNat:=Nat.div_le_self _ _
 rw[Nat.testBit_eq_decide_div_mod_eq,e]
 generalize x.toNat/2^k.toNat=q at hle
 rw[IntWalk.u64_in _ ⟨by omega,by omega⟩]
 have e2:(q:Int).tmod 2=((q % 2:Nat):Int):=by simp[Int.tmod]
 rw[e2,IntWalk.i64_in _ ⟨by omega,by omega⟩]
 split
 ·rename_i h;simp at h;omega
 ·rename_i h;simp at h;omega
theorem mask_bits (x m:Int)(hx:0≤x∧x<2^64)(h0:0≤m)(h:m≤64):ibits .u64 (· &&& ·) x (shl64 ones m)=x↔∀k:Nat,(k:Int)<m→bitV x k=0:=by
 rw[shl_ones m h0 h]
 have hp:(2:Nat)^m.toNat≤2^64:=Nat.pow_le_pow_right (by decide) (by omega)
 have hpos:0<(2:Nat)^m.toNat:=Nat.pos_of_ne_zero (by simp)
 rw[and64 x _ hx ⟨by omega,by omega⟩,Int.toNat_natCast]
 have hb:=and_hole 64 m.toNat x.toNat (by omega) (by omega)
 constructor
 ·intro he k hk
  rw[bitV_eq x k hx (by omega),Int.toNat_natCast]
  have h1:x.toNat&&& (2^64-2^m.toNat)=x.toNat:=by omega
  rw[hb.1 h1 k (by omega)];rfl
 ·intro hz
  have h1:x.toNat&&& (2^64-2^m.toNat)=x.toNat:=hb.2 fun k hk=>by
   have:=hz k (by omega)
   rw[bitV_eq x k hx (by omega),Int.toNat_natCast]at this
   cases hc:x.toNat.testBit k with
   |false=>rfl
   |true=>rw[hc]at this;simp at this
  rw[h1];omega
theorem ones_eq :shl64 ones 0=ones:=by decide
theorem zero_bits (x:Int)(hx:0≤x∧x<2^64):x=0↔∀k:Nat,(k:Int)<64→bitV x k=0:=by
 rw[←mask_bits x 64 hx (by omega) (by omega),shl_ones 64 (by omega) (by omega),show ((2^64-2^(64:Int).toNat:Nat):Int)=0 from rfl,and64 x 0 hx ⟨by omega,by omega⟩]
 simp;omega
def lowBit (a:Addr)(k:Nat):Int:=if 63<k then bitV a.hi ((k:Int)-64)else bitV a.lo k
theorem and_ones (x:Int)(hx:0≤x∧x<2^64):ibits .u64 (· &&& ·) x ones=x:=by
 rw[←ones_eq]
 exact(mask_bits x 0 hx (by omega) (by omega)).2 fun k hk=>by omega
theorem and_zero (x:Int)(hx:0≤x∧x<2^64):ibits .u64 (· &&& ·) x 0=0:=by
 rw[and64 x 0 hx ⟨by omega,by omega⟩];simp
theorem mask6 (a:Addr)(n:Int)(ha:a.rng)(h0:0≤n)(h:n≤128):andA a (mask 6 n)=a↔∀k:Nat,(k:Int)<128-n→lowBit a k=0:=by
 have hw:mask 6 n=maskM 6 (128-n):=rfl
 rw[hw,Addr.ext_iff]
 unfold andA maskM
 by_cases h64:64≤128-n
 ·rw[if_pos h64,if_neg (by decide)]
  simp only
  rw[mask_bits a.hi _ ha.1 (by omega) (by omega),and_zero a.lo ha.2,eq_comm,zero_bits a.lo ha.2]
  constructor
  ·rintro⟨h1,h2⟩ k hk
   unfold lowBit
   split
   ·have:=h1 (k-64) (by omega)
    rwa[show ((k-64:Nat):Int)=(k:Int)-64 from by omega]at this
   ·exact h2 k (by omega)
  ·intro hz
   refine⟨fun k hk=>?_,fun k hk=>?_⟩
   ·have:=hz (k+64) (by omega)
    unfold lowBit at this
    rw[if_pos (by omega)]at this
    rwa[show ((k+64:Nat):Int)-64=k from by omega]at this
   ·have:=hz k (by omega)
    unfold lowBit at this
    rwa[if_neg (by omega)]at this
 ·rw[if_neg h64,if_neg (by decide)]
  simp only
  rw[and_ones a.hi ha.1,mask_bits a.lo _ ha.2 (by omega) (by omega)]
  constructor
  ·rintro⟨_,h2⟩ k hk
   unfold lowBit
   rw[if_neg (by omega)];exact h2 k (by omega)
  ·intro hz
   refine⟨rfl,fun k hk=>?_⟩
   have:=hz k (by omega)
   unfold lowBit at this
   rwa[if_neg (by omega)]at this
theorem mask4 (a:Addr)(n:Int)(ha:a.rng)(hh:a.hi=0)(hl:a.lo<2^32)(h0:0≤n)(h:n≤32):andA a (mask 4 n)=a↔∀k:Nat,(k:Int)<32-n→lowBit a k=0:=by
 have hw:mask 4 n=maskM 4 (32-n):=rfl
 rw[hw,Addr.ext_iff]
 unfold andA maskM
 rw[if_neg (by omega),if_pos rfl]
 simp only
 have e0:ibits .u64 (· &&& ·) a.hi 0=a.hi:=by rw[and_zero a.hi ha.1,hh]
 have hp:(2:Nat)^(32-n).toNat≤2^64:=Nat.pow_le_pow_right (by decide) (by omega)
 have hp2:(2:Nat)^(32-n).toNat≤2^32:=Nat.pow_le_pow_right (by decide) (by omega)
 have hpos:0<(2:Nat)^(32-n).toNat:=Nat.pos_of_ne_zero (by simp)
 have e1:ibits .u64 (· &&& ·) (shl64 ones (32-n)) 4294967295=((2^32-2^(32-n).toNat:Nat):Int):=by
  rw[shl_ones _ (by omega) (by omega),and64 _ _ ⟨by omega,by omega⟩ ⟨by omega,by omega⟩]
  congr 1
  refine Nat.eq_of_testBit_eq fun k=>?_
  rw[Int.toNat_natCast,show (4294967295:Int).toNat=2^32-1 from rfl,Nat.testBit_and,hole_bit 64 _ k (by omega),Nat.testBit_two_pow_sub_one,hole_bit 32 _ k (by omega),Bool.eq_iff_iff]
  simp;omega
 rw[e0,e1,and64 a.lo _ ha.2 ⟨by omega,by omega⟩,Int.toNat_natCast]
 have hb:=and_hole 32 (32-n).toNat a.lo.toNat (by omega) (by omega)
 constructor
 ·rintro⟨_,he⟩ k hk
  unfold lowBit
  rw[if_neg (by omega),bitV_eq a.lo k ha.2 (by omega),Int.toNat_natCast]
  have h1:a.lo.toNat&&& (2^32-2^(32-n).toNat)=a.lo.toNat:=by omega
  rw[hb.1 h1 k (by omega)];rfl
 ·intro hz
  have h1:a.lo.toNat&&& (2^32-2^(32-n).toNat)=a.lo.toNat:=hb.2 fun k hk=>by
   have:=hz k (by omega)
   unfold lowBit at this
   rw[if_neg (by omega),bitV_eq a.lo k ha.2 (by omega),Int.toNat_natCast]at this
   cases hc:a.lo.toNat.testBit k with
   |false=>rfl
   |true=>rw[hc]at this;simp at this
  refine⟨rfl,?_⟩
  have:=ha.2.1
  rw[h1];omega
theorem ckP_eq (p:Pfx)(ha:p.addr.rng):ckP p=ckP' p:=by
 unfold ckP ckP'
 by_cases hw:width p.fam=0
 ·rw[if_pos hw,if_pos hw]
 rw[if_neg hw,if_neg hw]
 have key:ckA p.fam p.addr=true→0≤p.len→p.len≤width p.fam→(andA p.addr (mask p.fam p.len)=p.addr↔anyI (P90 p) 0 (width p.fam-p.len).toNat=false):=by
  intro hc h0 hl
  have hfam:p.fam=4∨p.fam=6:=by
   unfold width at hw
   split at hw
   ·left;assumption
   ·split at hw
    ·right;assumption
    ·exact absurd rfl hw
  have hany:anyI (P90 p) 0 (width p.fam-p.len).toNat=false↔∀k:Nat,(k:Int)<width p.fam-p.len→lowBit p.addr k=0:=by
   have hwl:=width_le p.fam
   have hget:∀i:Nat,(i:Int)<width p.fam-p.len→(bitsL p.fam p.addr).getD (p.len+(i:Int)).toNat 0=lowBit p.addr (width p.fam-1-p.len-i).toNat:=by
    intro i hi
    have hlt:(p.len+(i:Int)).toNat<(width p.fam).toNat:=by omega
    have e:(bitsL p.fam p.addr).getD (p.len+(i:Int)).toNat 0=bitF p.fam p.addr (p.len+(i:Int)).toNat:=by
     simp[bitsL,List.getD_eq_getElem?_getD,List.getElem?_eq_getElem,hlt]
    rw[e]
    unfold bitF lowBit
    have e1:width p.fam-1-((p.len+(i:Int)).toNat:Int)=width p.fam-1-p.len-i:=by omega
    rw[e1]
    by_cases h63:63<width p.fam-1-p.len-i
    ·rw[if_pos h63,if_pos (by omega)];congr 1;omega
    ·rw[if_neg h63,if_neg (by omega)];congr 1;omega
   constructor
   ·intro hn k hk
    have h1:P90 p (width p.fam-1-p.len-k).toNat=false:=by
     cases hp:P90 p (width p.fam-1-p.len-k).toNat with
     |false=>rfl
     |true=>rw[anyI_iff.2 ⟨_,by omega,hp⟩]at hn;cases hn
    unfold P90 at h1
    rw[hget _ (by omega)]at h1
    have e2:(width p.fam-1-p.len-((width p.fam-1-p.len-k).toNat:Int)).toNat=k:=by omega
    rw[e2]at h1
    simpa using h1
   ·intro hz
    cases hn:anyI (P90 p) 0 (width p.fam-p.len).toNat with
    |false=>rfl
    |true=>
     obtain⟨i,hi,hp⟩:=anyI_iff.1 hn
     unfold P90 at hp
     rw[hget i (by omega),hz _ (by omega)]at hp
     simp at hp
  rw[hany]
  rcases hfam with h4|h6
  ·rw[h4]at hl hc⊢
   have hw4:width 4=32:=rfl
   rw[hw4]at hl⊢
   simp[ckA]at hc
   exact mask4 p.addr p.len ha hc.1 (by omega) h0 hl
  ·rw[h6]at hl⊢
   have hw6:width 6=128:=rfl
   rw[hw6]at hl⊢
   exact mask6 p.addr p.len ha h0 hl
 by_cases hc:ckA p.fam p.addr=true
 ·by_cases h0:0≤p.len
  ·by_cases hl:p.len≤width p.fam
   ·have:=key hc h0 hl
    by_cases hn:anyI (P90 p) 0 (width p.fam-p.len).toNat=false
    ·rw[if_pos ⟨hc,h0,hl,this.2 hn⟩,if_pos (by simp[hc,h0,hl,hn])]
    ·rw[if_neg (fun h=>hn (this.1 h.2.2.2)),if_neg (by simp only[Bool.not_eq_false]at hn;simp[hn])]
   ·rw[if_neg (fun h=>hl h.2.2.1),if_neg (by simp[hl])]
  ·rw[if_neg (fun h=>h0 h.2.1),if_neg (by simp[h0])]
 ·rw[if_neg (fun h=>hc h.1),if_neg (by simp[hc])]
theorem strict_iff (l:List Int):∀n,strict l n=true↔∀i,i<n→l.getD i 0<l.getD (i+1) 0
 |0=>by simp[strict]
 |n+1=>by
  rw[strict,Bool.and_eq_true,strict_iff l n,decide_eq_true_eq]
  constructor
  ·rintro⟨h1,h2⟩ i hi
   rcases Nat.lt_or_ge i n with h|h
   ·exact h1 i h
   ·obtain rfl:i=n:=by omega
    exact h2
  ·intro h;exact⟨fun i hi=>h i (by omega),h n (by omega)⟩
theorem getD_memI (l:List Int)(i:Nat)(h:i<l.length):l.getD i 0∈l:=by
 simp[List.getD_eq_getElem?_getD,List.getElem?_eq_getElem h]
theorem ckPr_eq (a:Attest)(ha:a.rng):ckPr a=ckPr' a:=by
 unfold ckPr ckPr'
 by_cases h50:50<a.provs.length
 ·rw[if_pos h50,if_pos h50]
 rw[if_neg h50,if_neg h50]
 have hP:anyI (P92 a) 0 a.provs.length=false↔(a.cust∉a.provs∧∀i,i<a.provs.length-1→a.provs.getD i 0<a.provs.getD (i+1) 0):=by
  rw[anyI_none]
  constructor
  ·intro h
   refine⟨fun hm=>?_,fun i hi=>?_⟩
   ·obtain⟨i,hi,hx⟩:=List.mem_iff_getElem.1 hm
    have:=h i hi
    simp[P92,List.getD_eq_getElem?_getD,List.getElem?_eq_getElem hi,hx]at this
   ·have:=h (i+1) (by omega)
    simp only[P92,Bool.or_eq_false_iff,Bool.and_eq_false_imp,decide_eq_true_eq,decide_eq_false_iff_not,Nat.add_sub_cancel]at this
    have:=this.2 (by omega);omega
  ·rintro⟨h1,h2⟩ i hi
   simp only[P92,Bool.or_eq_false_iff,Bool.and_eq_false_imp,decide_eq_true_eq,decide_eq_false_iff_not]
   refine⟨fun he=>h1 (he ▸ getD_memI a.provs i hi),fun h0=>?_⟩
   have:=h2 (i-1) (by omega)
   rw[show i-1+1=i from by omega]at this;omega
 have hs:=strict_iff a.provs (a.provs.length-1)
 by_cases hg:(d89 a&&strict a.provs (a.provs.length-1))=true
 ·rw[if_pos hg]
  simp only[d89,b89,Bool.and_eq_true,Bool.or_eq_true,decide_eq_true_eq,Bool.not_eq_true',decide_eq_false_iff_not]at hg
  obtain⟨⟨⟨⟨g1,g2⟩,g3⟩,g4⟩,g5⟩:=hg
  rw[if_neg]
  rintro(h|h|h|h)
  ·omega
  ·omega
  ·omega
  ·rw[hP.2 ⟨g3,hs.1 g5⟩]at h;cases h
 ·rw[if_neg hg,if_pos]
  refine Classical.byContradiction fun hc=>hg ?_
  simp only[not_or,Bool.not_eq_true]at hc
  obtain⟨h1,h2,h3,h4⟩:=hc
  obtain⟨p1,p2⟩:=hP.1 h4
  have hc0:=ha.1
  have h0:=ha.2 _ (getD_memI a.provs 0 (by omega))
  simp only[d89,b89,Bool.and_eq_true,Bool.or_eq_true,decide_eq_true_eq,Bool.not_eq_true',decide_eq_false_iff_not]
  refine⟨⟨⟨⟨by omega,by omega⟩,p1⟩,?_⟩,hs.2 p2⟩
  rcases Nat.lt_or_ge 1 a.provs.length with h|h
  ·right
   have:¬a.provs.getD 0 0=0:=fun he=>h3 ⟨h,he⟩
   omega
  ·left;omega
structure Pdu.rng (p:Pdu):Prop where
 v:0≤p.version∧p.version<256
 k:0≤p.kind∧p.kind<256
 s:0≤p.session∧p.session<65536
 n:0≤p.serial∧p.serial<4294967296
 oa:0≤p.origin.asn∧p.origin.asn<4294967296
 ad:p.origin.pfx.addr.rng
 c:0≤p.path.cust∧p.path.cust<4294967296
 ps:∀x∈p.path.provs,0≤x∧x<4294967296
 ka:0≤p.key.asn∧p.key.asn<4294967296
 t1:0≤p.refresh∧p.refresh<4294967296
 t2:0≤p.retry∧p.retry<4294967296
 t3:0≤p.expire∧p.expire<4294967296
 co:0≤p.code∧p.code<65536
theorem Pdu.rng.path {p:Pdu}(h:p.rng):p.path.rng:=⟨h.c.1,fun x hx=>(h.ps x hx).1⟩
theorem ckD_eq (p:Pdu)(h:p.rng)(hk:isK p.kind):ckD p=fldF p:=by
 unfold isK at hk
 have hp:=ckP_eq p.origin.pfx h.ad
 have hr:=ckPr_eq p.path h.path
 have hc:=h.c
 unfold ckD fldF
 by_cases h4:p.kind=4
 ·rw[if_pos (.inl h4),if_neg (by omega),if_pos h4]
  unfold ck56 oriF
  rw[if_neg (by omega),hp]
  show _=(decide (ckP' p.origin.pfx=0)&&(decide (p.origin.pfx.fam=4)&&(decide (p.origin.pfx.len≤p.origin.max)&&decide (p.origin.max≤32))))
  simp only[Bool.and_assoc]
 by_cases h6:p.kind=6
 ·rw[if_pos (.inr h6),if_neg (by omega),if_neg h4,if_pos h6]
  unfold ck56 oriF
  rw[if_pos h6,hp]
  show _=(decide (ckP' p.origin.pfx=0)&&(decide (p.origin.pfx.fam=6)&&(decide (p.origin.pfx.len≤p.origin.max)&&decide (p.origin.max≤128))))
  simp only[Bool.and_assoc]
 rw[if_neg (by omega)]
 by_cases h7:p.kind=7
 ·rw[if_pos h7,if_neg (by omega),if_neg h4,if_neg h6,if_pos h7]
 rw[if_neg h7]
 by_cases h9:p.kind=9
 ·rw[if_pos h9,if_neg (by omega),if_neg h4,if_neg h6,if_neg h7,if_pos h9]
 rw[if_neg h9]
 by_cases h10:p.kind=10
 ·rw[if_pos h10,if_neg (by omega),if_neg h4,if_neg h6,if_neg h7,if_neg h9,if_pos h10]
 rw[if_neg h10]
 by_cases h11:p.kind=11
 ·rw[if_pos h11,if_neg (by omega),if_neg h4,if_neg h6,if_neg h7,if_neg h9,if_neg h10,if_pos h11]
  unfold ck72 pathF
  rw[hr]
  have e:decide (0<p.path.cust)=!decide (p.path.cust=0):=by rw[Bool.eq_iff_iff];simp;omega
  split
  ·rfl
  ·rw[e,Bool.and_assoc]
 rw[if_neg h11,if_pos (by omega)]
end Gp
