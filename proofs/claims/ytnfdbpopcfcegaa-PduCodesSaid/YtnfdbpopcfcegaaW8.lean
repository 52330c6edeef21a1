/- Part 8 of the walk and of the plain law of PduCuts. -/
import Derived.Test.YtnfdbpopcfcegaaW7
set_option maxRecDepth 100000
set_option maxHeartbeats 0
set_option linter.unusedVariables false
set_option linter.unusedSimpArgs false
open Go Go.Abs
noncomputable section
namespace Gp
section
variable {H:Type} {enc:TypeId×Value→H} {w:World} {base:Nat} {spare:Nat→Bool} {held:Bool}
theorem is {s:ByteArray}:IRep w (allF w) (st s) (.string s):=by rw[st,IRep];exact⟨rfl,rfl⟩
theorem wf_u8 {n:Int}(h:(Lit.int .u8 n).wf=true):0≤n∧n<256:=by have:=wf_in h;simp[IntKind.min,IntKind.max,IntKind.bits,IntKind.signed]at this;omega
theorem wf_u16 {n:Int}(h:(Lit.int .u16 n).wf=true):0≤n∧n<65536:=by have:=wf_in h;simp[IntKind.min,IntKind.max,IntKind.bits,IntKind.signed]at this;omega
theorem wf_u32 {n:Int}(h:(Lit.int .u32 n).wf=true):0≤n∧n<4294967296:=by have:=wf_in h;simp[IntKind.min,IntKind.max,IntKind.bits,IntKind.signed]at this;omega
theorem wf_u64 {n:Int}(h:(Lit.int .u64 n).wf=true):0≤n∧n<2^64:=by have:=wf_in h;simp[IntKind.min,IntKind.max,IntKind.bits,IntKind.signed]at this;omega
theorem peel {H:Type}{enc:TypeId×Value→H}{w:World}{base:Nat}{spare:Nat→Bool}{held:Bool}{l:Leaf}{ls:List Leaf}{vs:List Value}(h:LeafAll enc prog w base spare held (l::ls) vs):∃v vs',vs=v::vs'∧leafR enc prog w base spare held l v∧LeafAll enc prog w base spare held ls vs':=h
theorem fl5 :flatT prog 5 5=some [.int .u8]:=by kernel_rfl
theorem fl23 :flatT prog 5 23=some [.int .u32]:=by kernel_rfl
theorem un40 :prog.underlying 40=some (.slice 5):=by kernel_rfl
theorem un31 :prog.underlying 31=some (.slice 23):=by kernel_rfl
theorem rd5 {fuel:Nat}{cs:List Value}{x:DataW H×List MemPlace}(_:cs.length=1)(h:DataW.trod enc prog w base spare held fuel 5 cs=some x):∃(n:Int)(v:Value),v.cells.toList=cs∧IRep w (allF w) (u8 n) v∧(0≤n∧n<256):=by
 obtain⟨_,_,rfl,⟨n,rfl,w1⟩,rfl⟩:=flat_read 5 5 _ fuel cs x fl5 h
 refine⟨n,.int .u8 n,rfl,?_,wf_u8 w1⟩
 rw[u8,IRep];exact⟨rfl,rfl⟩
theorem rd40 {fuel:Nat}{v:Value}{x:DataW H×List MemPlace}(h:DataW.trod enc prog w base spare held fuel 40 [v]=some x):∃l:List Int,IRep w (allF w) (lu8 l) v∧byteL l∧l.length≤maxLen:=
 slice_read u8 (fun n=>0≤n∧n<256) un40 (by kernel_rfl) (by decide) (fun _ _ _=>rd5) h
theorem rd23 {fuel:Nat}{cs:List Value}{x:DataW H×List MemPlace}(_:cs.length=1)(h:DataW.trod enc prog w base spare held fuel 23 cs=some x):∃(n:Int)(v:Value),v.cells.toList=cs∧IRep w (allF w) (u32 n) v∧(0≤n∧n<4294967296):=by
 obtain⟨_,_,rfl,⟨n,rfl,w1⟩,rfl⟩:=flat_read 5 23 _ fuel cs x fl23 h
 refine⟨n,.int .u32 n,rfl,?_,wf_u32 w1⟩
 rw[u32,IRep];exact⟨rfl,rfl⟩
theorem rd31 {fuel:Nat}{v:Value}{x:DataW H×List MemPlace}(h:DataW.trod enc prog w base spare held fuel 31 [v]=some x):∃l:List Int,IRep w (allF w) (lu32 l) v∧(∀n∈l,0≤n∧n<4294967296)∧l.length≤maxLen:=
 slice_read u32 (fun n=>0≤n∧n<4294967296) un31 (by kernel_rfl) (by decide) (fun _ _ _=>rd23) h
theorem fl42 :flatT prog 8 42=some [.int .u8,.int .u8,.int .u16,.int .u32,.bool,.int .u32,.int .u8,.int .u64,.int .u64,.int .i64,.int .i64,.int .u32,.sl 31,.int .u32,.int .u8,.int .u8,.int .u8,.int .u8,.int .u8,.int .u8,.int .u8,.int .u8,.int .u8,.int .u8,.int .u8,.int .u8,.int .u8,.int .u8,.int .u8,.int .u8,.int .i64,.int .u32,.int .u32,.int .u32,.int .u16,.sl 40,.str]:=by kernel_rfl
def Pdu.inn (p:Pdu):Prop:=wfB p∧p.copy.length≤2^63-1∧p.path.provs.length≤2^63-1∧p.rng
theorem rd42 {fuel:Nat}{vs:Array Value}{x:DataW H×List MemPlace}(h:DataW.trod enc prog w base spare held fuel 42 (Value.agg vs).cells.toList=some x):∃p:Pdu,IRep w (allF w) (encD p) (.agg vs)∧p.inn:=by
 have hf:=flat_read 8 42 _ fuel _ x fl42 h
 obtain⟨v_nv,s_0,q_0,r_0,hf⟩:=peel hf
 obtain⟨nv,rfl,w_nv⟩:=r_0
 obtain⟨v_nk,s_1,q_1,r_1,hf⟩:=peel hf
 obtain⟨nk,rfl,w_nk⟩:=r_1
 obtain⟨v_ns,s_2,q_2,r_2,hf⟩:=peel hf
 obtain⟨ns,rfl,w_ns⟩:=r_2
 obtain⟨v_nr,s_3,q_3,r_3,hf⟩:=peel hf
 obtain⟨nr,rfl,w_nr⟩:=r_3
 obtain⟨v_na,s_4,q_4,r_4,hf⟩:=peel hf
 obtain⟨na,rfl⟩:=r_4
 obtain⟨v_oa,s_5,q_5,r_5,hf⟩:=peel hf
 obtain⟨oa,rfl,w_oa⟩:=r_5
 obtain⟨v_of,s_6,q_6,r_6,hf⟩:=peel hf
 obtain⟨of,rfl,w_of⟩:=r_6
 obtain⟨v_oh,s_7,q_7,r_7,hf⟩:=peel hf
 obtain⟨oh,rfl,w_oh⟩:=r_7
 obtain⟨v_ol,s_8,q_8,r_8,hf⟩:=peel hf
 obtain⟨ol,rfl,w_ol⟩:=r_8
 obtain⟨v_on,s_9,q_9,r_9,hf⟩:=peel hf
 obtain⟨on,rfl,w_on⟩:=r_9
 obtain⟨v_om,s_10,q_10,r_10,hf⟩:=peel hf
 obtain⟨om,rfl,w_om⟩:=r_10
 obtain⟨v_pc,s_11,q_11,r_11,hf⟩:=peel hf
 obtain⟨pc,rfl,w_pc⟩:=r_11
 obtain⟨v_pp,s_12,q_12,r_12,hf⟩:=peel hf
 obtain⟨f_pp,x_pp,h_pp⟩:=r_12
 obtain⟨v_ka,s_13,q_13,r_13,hf⟩:=peel hf
 obtain⟨ka,rfl,w_ka⟩:=r_13
 obtain⟨v_b0,s_14,q_14,r_14,hf⟩:=peel hf
 obtain⟨b0,rfl,w_b0⟩:=r_14
 obtain⟨v_b1,s_15,q_15,r_15,hf⟩:=peel hf
 obtain⟨b1,rfl,w_b1⟩:=r_15
 obtain⟨v_b2,s_16,q_16,r_16,hf⟩:=peel hf
 obtain⟨b2,rfl,w_b2⟩:=r_16
 obtain⟨v_b3,s_17,q_17,r_17,hf⟩:=peel hf
 obtain⟨b3,rfl,w_b3⟩:=r_17
 obtain⟨v_b4,s_18,q_18,r_18,hf⟩:=peel hf
 obtain⟨b4,rfl,w_b4⟩:=r_18
 obtain⟨v_b5,s_19,q_19,r_19,hf⟩:=peel hf
 obtain⟨b5,rfl,w_b5⟩:=r_19
 obtain⟨v_b6,s_20,q_20,r_20,hf⟩:=peel hf
 obtain⟨b6,rfl,w_b6⟩:=r_20
 obtain⟨v_b7,s_21,q_21,r_21,hf⟩:=peel hf
 obtain⟨b7,rfl,w_b7⟩:=r_21
 obtain⟨v_b8,s_22,q_22,r_22,hf⟩:=peel hf
 obtain⟨b8,rfl,w_b8⟩:=r_22
 obtain⟨v_b9,s_23,q_23,r_23,hf⟩:=peel hf
 obtain⟨b9,rfl,w_b9⟩:=r_23
 obtain⟨v_b10,s_24,q_24,r_24,hf⟩:=peel hf
 obtain⟨b10,rfl,w_b10⟩:=r_24
 obtain⟨v_b11,s_25,q_25,r_25,hf⟩:=peel hf
 obtain⟨b11,rfl,w_b11⟩:=r_25
 obtain⟨v_b12,s_26,q_26,r_26,hf⟩:=peel hf
 obtain⟨b12,rfl,w_b12⟩:=r_26
 obtain⟨v_b13,s_27,q_27,r_27,hf⟩:=peel hf
 obtain⟨b13,rfl,w_b13⟩:=r_27
 obtain⟨v_b14,s_28,q_28,r_28,hf⟩:=peel hf
 obtain⟨b14,rfl,w_b14⟩:=r_28
 obtain⟨v_b15,s_29,q_29,r_29,hf⟩:=peel hf
 obtain⟨b15,rfl,w_b15⟩:=r_29
 obtain⟨v_kh,s_30,q_30,r_30,hf⟩:=peel hf
 obtain⟨kh,rfl,w_kh⟩:=r_30
 obtain⟨v_t1,s_31,q_31,r_31,hf⟩:=peel hf
 obtain⟨t1,rfl,w_t1⟩:=r_31
 obtain⟨v_t2,s_32,q_32,r_32,hf⟩:=peel hf
 obtain⟨t2,rfl,w_t2⟩:=r_32
 obtain⟨v_t3,s_33,q_33,r_33,hf⟩:=peel hf
 obtain⟨t3,rfl,w_t3⟩:=r_33
 obtain⟨v_cd,s_34,q_34,r_34,hf⟩:=peel hf
 obtain⟨cd,rfl,w_cd⟩:=r_34
 obtain⟨v_cp,s_35,q_35,r_35,hf⟩:=peel hf
 obtain⟨f_cp,x_cp,h_cp⟩:=r_35
 obtain⟨v_tx,s_36,q_36,r_36,hf⟩:=peel hf
 obtain⟨tx,rfl,z_tx⟩:=r_36
 obtain⟨cp,g_cp,r_cp,n_cp⟩:=rd40 h_cp
 obtain⟨pp,g_pp,r_pp,n_pp⟩:=rd31 h_pp
 have e2:vs=[Value.int .u8 nv,Value.int .u8 nk,Value.int .u16 ns,Value.int .u32 nr,.bool na,Value.int .u32 oa,Value.int .u8 of,Value.int .u64 oh,Value.int .u64 ol,Value.int .i64 on,Value.int .i64 om,Value.int .u32 pc,v_pp,Value.int .u32 ka,Value.int .u8 b0,Value.int .u8 b1,Value.int .u8 b2,Value.int .u8 b3,Value.int .u8 b4,Value.int .u8 b5,Value.int .u8 b6,Value.int .u8 b7,Value.int .u8 b8,Value.int .u8 b9,Value.int .u8 b10,Value.int .u8 b11,Value.int .u8 b12,Value.int .u8 b13,Value.int .u8 b14,Value.int .u8 b15,Value.int .i64 kh,Value.int .u32 t1,Value.int .u32 t2,Value.int .u32 t3,Value.int .u16 cd,v_cp,.string tx].toArray:=by
  rw[←Array.toList_inj]
  show vs.toList=_
  rw[show vs.toList=_ from q_0,q_1,q_2,q_3,q_4,q_5,q_6,q_7,q_8,q_9,q_10,q_11,q_12,q_13,q_14,q_15,q_16,q_17,q_18,q_19,q_20,q_21,q_22,q_23,q_24,q_25,q_26,q_27,q_28,q_29,q_30,q_31,q_32,q_33,q_34,q_35,q_36,hf]
 rw[e2]
 clear e2 hf q_0 q_1 q_2 q_3 q_4 q_5 q_6 q_7 q_8 q_9 q_10 q_11 q_12 q_13 q_14 q_15 q_16 q_17 q_18 q_19 q_20 q_21 q_22 q_23 q_24 q_25 q_26 q_27 q_28 q_29 q_30 q_31 q_32 q_33 q_34 q_35 q_36
 have hm:maxLen=2^63-1:=rfl
 have hI:IRep w (allF w) (.agg [u8 nv,u8 nk,u16 ns,u32 nr,bo na,u32 oa,u8 of,u64 oh,u64 ol,i64 on,i64 om,u32 pc,lu32 pp,u32 ka,u8 b0,u8 b1,u8 b2,u8 b3,u8 b4,u8 b5,u8 b6,u8 b7,u8 b8,u8 b9,u8 b10,u8 b11,u8 b12,u8 b13,u8 b14,u8 b15,i64 kh,u32 t1,u32 t2,u32 t3,u16 cd,lu8 cp,st tx]) (.agg [Value.int .u8 nv,Value.int .u8 nk,Value.int .u16 ns,Value.int .u32 nr,.bool na,Value.int .u32 oa,Value.int .u8 of,Value.int .u64 oh,Value.int .u64 ol,Value.int .i64 on,Value.int .i64 om,Value.int .u32 pc,v_pp,Value.int .u32 ka,Value.int .u8 b0,Value.int .u8 b1,Value.int .u8 b2,Value.int .u8 b3,Value.int .u8 b4,Value.int .u8 b5,Value.int .u8 b6,Value.int .u8 b7,Value.int .u8 b8,Value.int .u8 b9,Value.int .u8 b10,Value.int .u8 b11,Value.int .u8 b12,Value.int .u8 b13,Value.int .u8 b14,Value.int .u8 b15,Value.int .i64 kh,Value.int .u32 t1,Value.int .u32 t2,Value.int .u32 t3,Value.int .u16 cd,v_cp,.string tx].toArray):=ia (ic iv (ic iv (ic iv (ic iv (ic ib (ic iv (ic iv (ic iv (ic iv (ic iv (ic iv (ic iv (ic g_pp (ic iv (ic iv (ic iv (ic iv (ic iv (ic iv (ic iv (ic iv (ic iv (ic iv (ic iv (ic iv (ic iv (ic iv (ic iv (ic iv (ic iv (ic iv (ic iv (ic iv (ic iv (ic iv (ic g_cp (ic is in0))))))))))))))))))))))))))))))))))))) rfl
 have hE:encD ⟨nv,nk,ns,nr,na,⟨oa,⟨of,⟨oh,ol⟩,on⟩,om⟩,⟨pc,pp⟩,⟨ka,#v[b0,b1,b2,b3,b4,b5,b6,b7,b8,b9,b10,b11,b12,b13,b14,b15],kh⟩,t1,t2,t3,cd,cp,tx⟩=.agg [u8 nv,u8 nk,u16 ns,u32 nr,bo na,u32 oa,u8 of,u64 oh,u64 ol,i64 on,i64 om,u32 pc,lu32 pp,u32 ka,u8 b0,u8 b1,u8 b2,u8 b3,u8 b4,u8 b5,u8 b6,u8 b7,u8 b8,u8 b9,u8 b10,u8 b11,u8 b12,u8 b13,u8 b14,u8 b15,i64 kh,u32 t1,u32 t2,u32 t3,u16 cd,lu8 cp,st tx]:=by kernel_rfl
 refine⟨⟨nv,nk,ns,nr,na,⟨oa,⟨of,⟨oh,ol⟩,on⟩,om⟩,⟨pc,pp⟩,⟨ka,#v[b0,b1,b2,b3,b4,b5,b6,b7,b8,b9,b10,b11,b12,b13,b14,b15],kh⟩,t1,t2,t3,cd,cp,tx⟩,by rw[hE];exact hI,⟨r_cp,?_⟩,hm ▸ n_cp,hm ▸ n_pp,⟨wf_u8 w_nv,wf_u8 w_nk,wf_u16 w_ns,wf_u32 w_nr,wf_u32 w_oa,⟨wf_u64 w_oh,wf_u64 w_ol⟩,wf_u32 w_pc,r_pp,wf_u32 w_ka,wf_u32 w_t1,wf_u32 w_t2,wf_u32 w_t3,wf_u16 w_cd⟩⟩
 clear hI hE
 intro z hz
 have hz:z∈[b0,b1,b2,b3,b4,b5,b6,b7,b8,b9,b10,b11,b12,b13,b14,b15]:=hz
 simp only[List.mem_cons,List.not_mem_nil,or_false]at hz
 rcases hz with rfl|rfl|rfl|rfl|rfl|rfl|rfl|rfl|rfl|rfl|rfl|rfl|rfl|rfl|rfl|rfl
 all_goals(apply wf_u8;assumption)
end
end Gp
namespace Gp
theorem gN1 (x:Int)(r:List Int)(h:0≤x∧x<256):getV (num x 1++r) 1=x:=by
 rw[num1]
 show getV (_::r) 1=x
 rw[getV1 _ r (by omega)];omega
theorem gN2 (x:Int)(r:List Int)(h:0≤x∧x<65536):getV (num x 2++r) 2=x:=by
 rw[num2]
 show getV (_::_::r) 2=x
 rw[getV2 _ _ r (by omega) (by omega)];omega
theorem gN8 (x:Int)(r:List Int)(h:0≤x∧x<2^64):getV (num x 8++r) 8=x:=by
 rw[num8]
 show getV (_::_::_::_::_::_::_::_::r) 8=x
 rw[getV8 _ _ _ _ _ _ _ _ r (by omega) (by omega) (by omega) (by omega) (by omega) (by omega) (by omega) (by omega)];omega
theorem gFl (b:Bool)(r:List Int):getV (flI b++r) 1=if b=true then 1 else 0:=by
 unfold flI
 rw[gN1 _ r (by split<;>omega)]
theorem gFd (b:Bool)(r:List Int):decide (getV (flI b++r) 1=1)=b:=by
 rw[gFl];cases b<;>rfl
theorem gFle (b:Bool)(r:List Int):getV (flI b++r) 1≤1:=by
 rw[gFl];cases b<;>decide
theorem dA (a r:List Int)(k:Nat)(h:a.length=k)(n:Nat):(a++r).drop (k+n)=r.drop n:=by
 subst h;rw[List.drop_append];simp
theorem d1 (x:Int)(r:List Int)(n:Nat):(num x 1++r).drop (1+n)=r.drop n:=dA _ r 1 (num_len _ _) n
theorem dF1 (b:Bool)(r:List Int)(n:Nat):(flI b++r).drop (1+n)=r.drop n:=dA _ r 1 (flI_len _) n
theorem d4 (x:Int)(r:List Int)(n:Nat):(num x 4++r).drop (4+n)=r.drop n:=dA _ r 4 (num_len _ _) n
theorem d8' (x:Int)(r:List Int)(n:Nat):(num x 8++r).drop (8+n)=r.drop n:=dA _ r 8 (num_len _ _) n
theorem u32N (x:Int)(r:List Int)(h:0≤x∧x<4294967296):gu32 (num (w64 x) 4++r)=x:=by
 unfold gu32
 rw[w64_id h.1 (by omega),getV_num4 x r h.1 (by omega)]
 show x % 4294967296=x
 omega
theorem u16N (x:Int)(r:List Int)(h:0≤x∧x<65536):gu16 (num (w64 x) 2++r)=x:=by
 unfold gu16
 rw[w64_id h.1 (by omega),gN2 x r h]
 show x % 65536=x
 omega
theorem u8N (x:Int)(r:List Int)(h:0≤x∧x<256):gu8 (num (w64 x) 1++r)=x:=by
 unfold gu8
 rw[w64_id h.1 (by omega),gN1 x r h]
 show x % 256=x
 omega
theorem giN (x:Int)(r:List Int)(h:0≤x∧x<256):gi (num (w64 x) 1++r)=x:=by
 unfold gi
 rw[w64_id h.1 (by omega),gN1 x r h]
 exact IntWalk.i64_in _ (by omega)
theorem gnN (x:Int)(r:List Int)(h:0≤x∧x<4294967296):gn (num (w64 x) 4++r)=x:=by
 unfold gn
 rw[w64_id h.1 (by omega),getV_num4 x r h.1 (by omega)]
 exact IntWalk.i64_in _ (by omega)
theorem bstr_bytesL (s:ByteArray):bstr (bytesL s)=s:=by
 have e:(bstr (bytesL s)).data.toList=s.data.toList:=by
  unfold bstr bytesL
  rw[bstr_data]
  show ([]:List UInt8)++_=_
  rw[List.nil_append,List.map_map]
  refine List.ext_getElem (by simp) fun i h1 h2=>?_
  simp
 have e2:(bstr (bytesL s)).data=s.data:=Array.ext' e
 cases s with|mk d=>cases hb:bstr (bytesL ⟨d⟩)with|mk d'=>rw[hb]at e2;exact congrArg ByteArray.mk e2
theorem pvL_cons (x:Int)(l:List Int):pvL (x::l)=num (w64 x) 4++pvL l:=rfl
theorem pvL_drop :∀(l:List Int)(i:Nat),(pvL l).drop (4*i)=pvL (l.drop i)
 |_,0=>rfl
 |[],i+1=>by simp[pvL]
 |x::l,i+1=>by
  rw[pvL_cons,show 4*(i+1)=4+4*i from by omega,d4,pvL_drop l i];rfl
theorem pv_fwd (l:List Int)(h:∀x∈l,0≤x∧x<4294967296):pvR (pvL l) l.length=l:=by
 refine List.ext_getElem (pvR_len _ _) fun i h1 h2=>?_
 show (pvR (pvL l) l.length)[i]=l[i]
 simp only[pvR,List.getElem_map,List.getElem_range]
 rw[pvL_drop,List.drop_eq_getElem_cons h2,pvL_cons]
 exact u32N _ _ (h _ (List.getElem_mem h2))
end Gp
namespace Gp
def encR (p:Pdu):List Int:=num (w64 (IntKind.i64.wrap (8+((rsL p).length:Int)))) 4++rsL p
theorem enc_eq (p:Pdu):encB p=num (w64 p.version) 1++(num (w64 p.kind) 1++(hdL p++encR p)):=by unfold encB encR;simp only[List.append_assoc]
theorem fw_v (p:Pdu)(hr:p.rng):gu8 (encB p)=p.version:=by rw[enc_eq];exact u8N _ _ hr.v
theorem fw_1 (p:Pdu):(encB p).drop 1=num (w64 p.kind) 1++(hdL p++encR p):=by rw[enc_eq];exact d1 _ _ 0
theorem fw_k (p:Pdu)(hr:p.rng):kR1 (encB p)=p.kind:=by unfold kR1;rw[fw_1];exact u8N _ _ hr.k
theorem fw_2 (p:Pdu):d2 (encB p)=hdL p++encR p:=by unfold d2;rw[fw_1];exact d1 _ _ 0
theorem fw_8 (p:Pdu):d8 (encB p)=rsL p:=by
 unfold d8;rw[fw_2]
 have e:(hdL p++encR p).drop 2=encR p:=dA _ _ 2 (hdL_len p) 0
 rw[e];exact d4 _ _ 0
theorem rdOk_i {l:List Int}(h8:8≤l.length)(hk:isK (kR1 l))(hF:kF (kR1 l) (d2 l)=true)(hT:kTT (gu8 l) (kR1 l) (d8 l)=true):rdOk l=true:=by
 simp only[rdOk,h8,hk,hF,hT,decide_true,Bool.and_self]
theorem num02 :num 0 2=num 0 1++num 0 1:=by rw[num2,num1];rfl
theorem fw_F (p:Pdu)(hk:isK p.kind):kF p.kind (hdL p++encR p)=true:=by
 have hl:2≤(hdL p++encR p).length:=by rw[List.length_append,hdL_len];omega
 unfold kF
 by_cases h9:p.kind=9∨p.kind=11
 ·rw[if_pos h9]
  have e:hdL p=hd63 p:=if_pos h9
  refine decide_eq_true ⟨hl,?_,?_⟩
  ·rw[e,hd63,List.append_assoc];exact gFle _ _
  ·rw[e,hd63,List.append_assoc]
   have e2:(flI p.add++(num 0 1++encR p)).drop 1=num 0 1++encR p:=dF1 _ _ 0
   rw[e2];exact gN1 _ _ (by omega)
 rw[if_neg h9]
 by_cases h2:p.kind=2∨p.kind=8∨p.kind=4∨p.kind=6
 ·rw[if_pos h2]
  have e:hdL p=hd52 p:=by unfold hdL;rw[if_neg h9,if_neg (by omega),if_pos h2]
  refine decide_eq_true ⟨hl,?_,?_⟩
  ·rw[e,hd52,num02,List.append_assoc];exact gN1 _ _ (by omega)
  ·rw[e,hd52,num02,List.append_assoc]
   have e2:(num 0 1++(num 0 1++encR p)).drop 1=num 0 1++encR p:=d1 _ _ 0
   rw[e2];exact gN1 _ _ (by omega)
 ·rw[if_neg h2];exact decide_eq_true hl
theorem fw_s (p:Pdu)(hr:p.rng)(h:p.kind=0∨p.kind=1∨p.kind=3∨p.kind=7):gu16 (hdL p++encR p)=p.session:=by
 have e:hdL p=hd48 p:=by unfold hdL;rw[if_neg (by omega),if_neg (by omega),if_neg (by omega)]
 rw[e];exact u16N _ _ hr.s
theorem fw_c (p:Pdu)(hr:p.rng)(h:p.kind=10):gu16 (hdL p++encR p)=p.code:=by
 have e:hdL p=hd68 p:=by unfold hdL;rw[if_neg (by omega),if_pos h]
 rw[e];exact u16N _ _ hr.co
theorem fw_a (p:Pdu)(h:p.kind=9∨p.kind=11):decide (getV (hdL p++encR p) 1=1)=p.add:=by
 have e:hdL p=hd63 p:=if_pos h
 rw[e,hd63,List.append_assoc];exact gFd _ _
def fwd (p:Pdu):Prop:=kTT p.version p.kind (rsL p)=true∧rdV (encB p)=bare p∧rdR (encB p)=true
theorem fw_p1 (p:Pdu)(hr:p.rng):p1 (encB p)=z1 p.version p.kind (sF p.kind (hdL p++encR p)) (aF p.kind (hdL p++encR p)) (cF p.kind (hdL p++encR p)):=by
 unfold p1;rw[fw_v p hr,fw_k p hr,fw_2]
theorem fw_S (p:Pdu)(hr:p.rng)(hS:isS p.kind):rdV (encB p)=tS (z1 p.version p.kind (sF p.kind (hdL p++encR p)) false 0) (rsL p):=by
 unfold isS at hS
 unfold rdV rdS
 rw[fw_k p hr,if_neg (by omega),if_neg (by omega),if_neg (by omega),fw_p1 p hr,fw_8]
 have e1:aF p.kind (hdL p++encR p)=false:=by unfold aF;rw[if_neg (by omega)]
 have e2:cF p.kind (hdL p++encR p)=0:=by unfold cF;rw[if_neg (by omega)]
 rw[e1,e2]
theorem fw_R (p:Pdu)(hr:p.rng)(hS:isS p.kind)(h:(rsL p).length=tN p.version p.kind):rdR (encB p)=true:=by
 unfold isS at hS
 unfold rdR
 rw[fw_k p hr,if_neg (by omega),if_neg (by omega),if_neg (by omega),fw_8,fw_v p hr,List.length_drop,h]
 simp
theorem u32e (x:Int)(h:0≤x∧x<4294967296):gu32 (num (w64 x) 4)=x:=by have:=u32N x [] h;rwa[List.append_nil]at this
theorem zS_4 {v k s:Int}{l:List Int}(h:k=4∨k=6):tS (z1 v k s false 0) l=(z1 v k s false 0).withO l:=if_pos h
theorem zS_7 {v k s:Int}{l:List Int}(h:k=7):tS (z1 v k s false 0) l=(z1 v k s false 0).withE l:=(if_neg (show ¬(k=4∨k=6) by omega)).trans (if_pos h)
theorem zS_0 {v k s:Int}{l:List Int}(h:k=0∨k=1):tS (z1 v k s false 0) l=(z1 v k s false 0).withSerial (gu32 l):=(if_neg (show ¬(k=4∨k=6) by omega)).trans ((if_neg (show ¬k=7 by omega)).trans (if_pos h))
theorem zS_n {v k s:Int}{l:List Int}(h:¬(k=4∨k=6∨k=7∨k=0∨k=1)):tS (z1 v k s false 0) l=z1 v k s false 0:=(if_neg (show ¬(k=4∨k=6) by omega)).trans ((if_neg (show ¬k=7 by omega)).trans (if_neg (show ¬(k=0∨k=1) by omega)))
theorem fwd0 (p:Pdu)(hr:p.rng)(h:p.kind=0∨p.kind=1):fwd p:=by
 have hS:isS p.kind:=by unfold isS;omega
 have e:rsL p=num (w64 p.serial) 4:=rs_0 h
 have hl:(rsL p).length=4:=by rw[e,num_len];rfl
 refine⟨?_,?_,fw_R p hr hS ?_⟩
 ·rw[kT_S hS];unfold kT;rw[if_neg (by omega),if_neg (by omega),if_pos h]
  exact decide_eq_true (by omega)
 ·rw[fw_S p hr hS,bare0 h]
  have es:sF p.kind (hdL p++encR p)=p.session:=by unfold sF;rw[if_pos (by omega)];exact fw_s p hr (by omega)
  rw[es,e,zS_0 h,u32e _ hr.n]
  rfl
 ·rw[hl];unfold tN;rw[if_neg (by omega),if_neg (by omega),if_pos h]
theorem fwd2 (p:Pdu)(hr:p.rng)(h:p.kind=2∨p.kind=8∨p.kind=3):fwd p:=by
 have hS:isS p.kind:=by unfold isS;omega
 have e:rsL p=[]:=rs_2 h
 refine⟨?_,?_,fw_R p hr hS ?_⟩
 ·rw[kT_S hS];unfold kT;rw[if_neg (by omega),if_neg (by omega),if_neg (by omega)]
 ·rw[fw_S p hr hS,zS_n (by omega)]
  by_cases h3:p.kind=3
  ·have es:sF p.kind (hdL p++encR p)=p.session:=by unfold sF;rw[if_pos (by omega)];exact fw_s p hr (by omega)
   rw[es,bare3 h3]
  ·have es:sF p.kind (hdL p++encR p)=0:=by unfold sF;rw[if_neg (by omega)]
   rw[es,bareN (by omega)]
 ·rw[e];unfold tN;rw[if_neg (by omega),if_neg (by omega),if_neg (by omega)];rfl
theorem fwd7 (p:Pdu)(hr:p.rng)(h:p.kind=7):fwd p:=by
 have hS:isS p.kind:=by unfold isS;omega
 have e:rsL p=rs60 p:=rs_7 h
 have es:sF p.kind (hdL p++encR p)=p.session:=by unfold sF;rw[if_pos (by omega)];exact fw_s p hr (by omega)
 have hl:(rsL p).length=eN p.version:=by
  rw[e];unfold rs60 rs49 eN
  split<;>simp[num_len]
 refine⟨?_,?_,fw_R p hr hS ?_⟩
 ·rw[kT_S hS];unfold kT;rw[if_neg (by omega),if_pos h]
  exact decide_eq_true (by omega)
 ·rw[fw_S p hr hS,es,e,zS_7 h]
  unfold Pdu.withE rs60 rs49
  by_cases hv:0<p.version
  ·have q0:num (w64 p.serial) 4++(num (w64 p.refresh) 4++num (w64 p.retry) 4++num (w64 p.expire) 4)=num (w64 p.serial) 4++(num (w64 p.refresh) 4++(num (w64 p.retry) 4++num (w64 p.expire) 4)):=by simp only[List.append_assoc]
   have q1:(num (w64 p.serial) 4++(num (w64 p.refresh) 4++(num (w64 p.retry) 4++num (w64 p.expire) 4))).drop 4=num (w64 p.refresh) 4++(num (w64 p.retry) 4++num (w64 p.expire) 4):=d4 _ _ 0
   have q2:(num (w64 p.serial) 4++(num (w64 p.refresh) 4++(num (w64 p.retry) 4++num (w64 p.expire) 4))).drop 8=num (w64 p.retry) 4++num (w64 p.expire) 4:=(d4 _ _ 4).trans (d4 _ _ 0)
   have q3:(num (w64 p.serial) 4++(num (w64 p.refresh) 4++(num (w64 p.retry) 4++num (w64 p.expire) 4))).drop 12=num (w64 p.expire) 4:=(d4 _ _ 8).trans ((d4 _ _ 4).trans (d4 _ _ 0))
   rw[if_pos (show 0<(z1 p.version p.kind p.session false 0).version from hv),if_pos hv,bare7 h hv,q0,q1,q2,q3,u32N _ _ hr.n,u32N _ _ hr.t1,u32N _ _ hr.t2,u32e _ hr.t3]
  ·rw[if_neg (show ¬0<(z1 p.version p.kind p.session false 0).version from hv),if_neg hv,bare7' h hv,List.append_nil,u32e _ hr.n]
 ·rw[hl];unfold tN;rw[if_neg (by omega),if_pos h]
theorem ori_t {o:Origin}{f:Int}(hf:f=4∨f=6)(h:oriF o f=true):o.pfx.fam=f∧(0≤o.pfx.len∧o.pfx.len<256)∧(0≤o.max∧o.max<256)∧ckA f o.pfx.addr=true:=by
 unfold oriF at h
 simp only[Bool.and_eq_true,decide_eq_true_eq]at h
 obtain⟨h1,h2,h3,h4⟩:=h
 have hw:width f≤128:=width_le f
 unfold ckP' at h1
 split at h1
 ·cases h1
 split at h1
 ·rename_i h5
  simp only[Bool.and_eq_true,decide_eq_true_eq]at h5
  rw[h2]at h5
  exact⟨h2,⟨h5.1.1.2,by omega⟩,⟨by omega,by omega⟩,h5.1.1.1⟩
 ·cases h1
theorem fwd4 (p:Pdu)(hr:p.rng)(h:p.kind=4)(hf:oriF p.origin 4=true):fwd p:=by
 have hS:isS p.kind:=by unfold isS;omega
 obtain⟨f1,f2,f3,f4⟩:=ori_t (.inl rfl) hf
 have ha:p.origin.pfx.addr.hi=0∧p.origin.pfx.addr.lo<4294967296:=by
  unfold ckA at f4
  simp only[Bool.or_eq_true,Bool.and_eq_true,decide_eq_true_eq]at f4
  omega
 have e:rsL p=flI p.add++(num (w64 p.origin.pfx.len) 1++(num (w64 p.origin.max) 1++(num 0 1++(num p.origin.pfx.addr.lo 4++num (w64 p.origin.asn) 4)))):=by
  rw[rs_4 (.inl h)];unfold rs57;rw[if_neg (by omega)];simp only[List.append_assoc]
 have hl:(rsL p).length=12:=by rw[e];simp[flI_len,num_len]
 have q1:(rsL p).drop 1=num (w64 p.origin.pfx.len) 1++(num (w64 p.origin.max) 1++(num 0 1++(num p.origin.pfx.addr.lo 4++num (w64 p.origin.asn) 4))):=by rw[e];exact dF1 _ _ 0
 have q2:(rsL p).drop 2=num (w64 p.origin.max) 1++(num 0 1++(num p.origin.pfx.addr.lo 4++num (w64 p.origin.asn) 4)):=by rw[e];exact(dF1 _ _ 1).trans (d1 _ _ 0)
 have q3:(rsL p).drop 3=num 0 1++(num p.origin.pfx.addr.lo 4++num (w64 p.origin.asn) 4):=by rw[e];exact(dF1 _ _ 2).trans ((d1 _ _ 1).trans (d1 _ _ 0))
 have q4:(rsL p).drop 4=num p.origin.pfx.addr.lo 4++num (w64 p.origin.asn) 4:=by rw[e];exact(dF1 _ _ 3).trans ((d1 _ _ 2).trans ((d1 _ _ 1).trans (d1 _ _ 0)))
 have q8:(rsL p).drop 8=num (w64 p.origin.asn) 4:=by rw[e];exact(dF1 _ _ 7).trans ((d1 _ _ 6).trans ((d1 _ _ 5).trans ((d1 _ _ 4).trans (d4 _ _ 0))))
 have a0:getV (rsL p) 1≤1:=by rw[e];exact gFle _ _
 have ad:decide (getV (rsL p) 1=1)=p.add:=by rw[e];exact gFd _ _
 refine⟨?_,?_,fw_R p hr hS ?_⟩
 ·rw[kT_S hS];unfold kT;rw[if_pos (.inl h)]
  refine decide_eq_true ⟨?_,a0,?_⟩
  ·rw[hl];unfold oN;rw[if_neg (by omega)];omega
  ·rw[q3];exact gN1 _ _ (by omega)
 ·rw[fw_S p hr hS,bare4 (.inl h)]
  have es:sF p.kind (hdL p++encR p)=0:=by unfold sF;rw[if_neg (by omega)]
  rw[es,zS_4 (.inl h)]
  unfold Pdu.withO oV
  rw[ad,if_neg (show ¬(z1 p.version p.kind 0 false 0).kind=6 from fun h6=>by have h6:p.kind=6:=h6;omega),q1,q2,q4,q8,giN _ _ f2,giN _ _ f3,getV_num4 _ _ hr.ad.2.1 (by omega)]
  have e5:IntKind.u32.wrap (getV (num (w64 p.origin.asn) 4) 4)=p.origin.asn:=u32e _ hr.oa
  rw[e5,←ha.1,←f1];rfl
 ·rw[hl];unfold tN oN;rw[if_pos (.inl h),if_neg (by omega)]
theorem fwd6 (p:Pdu)(hr:p.rng)(h:p.kind=6)(hf:oriF p.origin 6=true):fwd p:=by
 have hS:isS p.kind:=by unfold isS;omega
 obtain⟨f1,f2,f3,f4⟩:=ori_t (.inr rfl) hf
 have e:rsL p=flI p.add++(num (w64 p.origin.pfx.len) 1++(num (w64 p.origin.max) 1++(num 0 1++(num p.origin.pfx.addr.hi 8++(num p.origin.pfx.addr.lo 8++num (w64 p.origin.asn) 4))))):=by
  rw[rs_4 (.inr h)];unfold rs57;rw[if_pos h];simp only[List.append_assoc]
 have hl:(rsL p).length=24:=by rw[e];simp[flI_len,num_len]
 have q1:(rsL p).drop 1=num (w64 p.origin.pfx.len) 1++(num (w64 p.origin.max) 1++(num 0 1++(num p.origin.pfx.addr.hi 8++(num p.origin.pfx.addr.lo 8++num (w64 p.origin.asn) 4)))):=by rw[e];exact dF1 _ _ 0
 have q2:(rsL p).drop 2=num (w64 p.origin.max) 1++(num 0 1++(num p.origin.pfx.addr.hi 8++(num p.origin.pfx.addr.lo 8++num (w64 p.origin.asn) 4))):=by rw[e];exact(dF1 _ _ 1).trans (d1 _ _ 0)
 have q3:(rsL p).drop 3=num 0 1++(num p.origin.pfx.addr.hi 8++(num p.origin.pfx.addr.lo 8++num (w64 p.origin.asn) 4)):=by rw[e];exact(dF1 _ _ 2).trans ((d1 _ _ 1).trans (d1 _ _ 0))
 have q4:(rsL p).drop 4=num p.origin.pfx.addr.hi 8++(num p.origin.pfx.addr.lo 8++num (w64 p.origin.asn) 4):=by rw[e];exact(dF1 _ _ 3).trans ((d1 _ _ 2).trans ((d1 _ _ 1).trans (d1 _ _ 0)))
 have q12:(rsL p).drop 12=num p.origin.pfx.addr.lo 8++num (w64 p.origin.asn) 4:=by rw[e];exact(dF1 _ _ 11).trans ((d1 _ _ 10).trans ((d1 _ _ 9).trans ((d1 _ _ 8).trans (d8' _ _ 0))))
 have q20:(rsL p).drop 20=num (w64 p.origin.asn) 4:=by rw[e];exact(dF1 _ _ 19).trans ((d1 _ _ 18).trans ((d1 _ _ 17).trans ((d1 _ _ 16).trans ((d8' _ _ 8).trans (d8' _ _ 0)))))
 have a0:getV (rsL p) 1≤1:=by rw[e];exact gFle _ _
 have ad:decide (getV (rsL p) 1=1)=p.add:=by rw[e];exact gFd _ _
 refine⟨?_,?_,fw_R p hr hS ?_⟩
 ·rw[kT_S hS];unfold kT;rw[if_pos (.inr h)]
  refine decide_eq_true ⟨?_,a0,?_⟩
  ·rw[hl];unfold oN;rw[if_pos h];omega
  ·rw[q3];exact gN1 _ _ (by omega)
 ·rw[fw_S p hr hS,bare4 (.inr h)]
  have es:sF p.kind (hdL p++encR p)=0:=by unfold sF;rw[if_neg (by omega)]
  rw[es,zS_4 (.inr h)]
  unfold Pdu.withO oV
  rw[ad,if_pos (show (z1 p.version p.kind 0 false 0).kind=6 from h),q1,q2,q4,q12,q20,giN _ _ f2,giN _ _ f3,gN8 _ _ hr.ad.1,gN8 _ _ hr.ad.2]
  have e5:IntKind.u32.wrap (getV (num (w64 p.origin.asn) 4) 4)=p.origin.asn:=u32e _ hr.oa
  rw[e5,←f1];rfl
 ·rw[hl];unfold tN oN;rw[if_pos (.inr h),if_pos h]
end Gp
namespace Gp
theorem root_eq (v:Vector Int 16):#v[v[0],v[1],v[2],v[3],v[4],v[5],v[6],v[7],v[8],v[9],v[10],v[11],v[12],v[13],v[14],v[15]]=v:=by
 refine Vector.ext fun i hi=>?_
 match i,hi with
 |0,_=>rfl
 |1,_=>rfl
 |2,_=>rfl
 |3,_=>rfl
 |4,_=>rfl
 |5,_=>rfl
 |6,_=>rfl
 |7,_=>rfl
 |8,_=>rfl
 |9,_=>rfl
 |10,_=>rfl
 |11,_=>rfl
 |12,_=>rfl
 |13,_=>rfl
 |14,_=>rfl
 |15,_=>rfl
 |n+16,h=>omega
theorem fwd9 (p:Pdu)(hr:p.rng)(h:p.kind=9)(hf:ck62 p=true):fwd p:=by
 unfold ck62 at hf
 simp only[Bool.and_eq_true,decide_eq_true_eq]at hf
 have e:rsL p=num (w64 p.key.asn) 4++(num (w64 p.key.height) 1++rootL p.key):=by rw[rs_9 h];unfold rs64;rw[List.append_assoc]
 have hl:(rsL p).length=21:=by rw[e];simp[num_len,rootL]
 have q4:(rsL p).drop 4=num (w64 p.key.height) 1++rootL p.key:=by rw[e];exact d4 _ _ 0
 have q5:(rsL p).drop 5=rootL p.key:=by rw[e];exact(d4 _ _ 1).trans (d1 _ _ 0)
 refine⟨?_,?_,?_⟩
 ·unfold kTT;rw[if_pos h];exact decide_eq_true (by omega)
 ·unfold rdV rdK
  rw[fw_k p hr,if_pos h,fw_8,fw_2,fw_v p hr,fw_a p (.inl h),bare9 h]
  unfold kR
  rw[q5,q4,giN _ _ (by omega)]
  have e1:gu32 (rsL p)=p.key.asn:=by rw[e];exact u32N _ _ hr.ka
  rw[e1]
  show zK _ _ _ _ _ ⟨_,#v[p.key.root[0],p.key.root[1],p.key.root[2],p.key.root[3],p.key.root[4],p.key.root[5],p.key.root[6],p.key.root[7],p.key.root[8],p.key.root[9],p.key.root[10],p.key.root[11],p.key.root[12],p.key.root[13],p.key.root[14],p.key.root[15]],_⟩=_
  rw[root_eq];rfl
 ·unfold rdR;rw[fw_k p hr,if_pos h,fw_8,List.length_drop,hl];rfl
theorem fwd10 (p:Pdu)(hr:p.rng)(h:p.kind=10)(hs:small p):fwd p:=by
 unfold small at hs
 have e:rsL p=num (w64 p.copy.length) 4++(p.copy++(num (w64 p.text.size) 4++bytesL p.text)):=by rw[rs_10 h];unfold rs69;simp only[List.append_assoc]
 have hbl:(bytesL p.text).length=p.text.size:=by simp[bytesL]
 have hl:(rsL p).length=8+p.copy.length+p.text.size:=by rw[e];simp[num_len,hbl];omega
 have g1:gn (rsL p)=p.copy.length:=by rw[e];exact gnN _ _ (by omega)
 have q4:(rsL p).drop 4=p.copy++(num (w64 p.text.size) 4++bytesL p.text):=by rw[e];exact d4 _ _ 0
 have f1:fL1 (rsL p)=num (w64 p.text.size) 4++bytesL p.text:=by
  unfold fL1;rw[g1,q4,Int.toNat_natCast];exact dA _ _ _ rfl 0
 have f2:fCopy (rsL p)=p.copy:=by
  unfold fCopy;rw[g1,q4,Int.toNat_natCast];exact List.take_left
 have g2:gn (fL1 (rsL p))=p.text.size:=by rw[f1];exact gnN _ _ (by omega)
 have q5:(fL1 (rsL p)).drop 4=bytesL p.text:=by rw[f1];exact d4 _ _ 0
 have f3:fText (rsL p)=bytesL p.text:=by
  unfold fText;rw[g2,q5,Int.toNat_natCast];exact List.take_of_length_le (by omega)
 have f4:(fRest (rsL p)).length=0:=by
  unfold fRest;rw[g2,q5,Int.toNat_natCast,List.length_drop];omega
 have fl:(fL1 (rsL p)).length=4+p.text.size:=by rw[f1];simp[num_len,hbl]
 refine⟨?_,?_,?_⟩
 ·unfold kTT;rw[if_neg (by omega),if_pos h]
  exact decide_eq_true (by rw[g1,g2,fl,hl];omega)
 ·unfold rdV rdE
  rw[fw_k p hr,if_neg (by omega),if_pos h,fw_8,fw_2,fw_v p hr,fw_c p hr h,bare10 h,f2,f3,bstr_bytesL];rfl
 ·unfold rdR;rw[fw_k p hr,if_neg (by omega),if_pos h,fw_8,f4];rfl
theorem fwd11 (p:Pdu)(hr:p.rng)(h:p.kind=11):fwd p:=by
 have e:rsL p=num (w64 p.path.cust) 4++pvL p.path.provs:=by rw[rs_11 h];rfl
 have hl:(rsL p).length=4+4*p.path.provs.length:=by rw[e];simp[num_len,pvL_len]
 have hN:pN (rsL p)=p.path.provs.length:=by unfold pN;omega
 have q4:(rsL p).drop 4=pvL p.path.provs:=by rw[e];exact d4 _ _ 0
 refine⟨?_,?_,?_⟩
 ·unfold kTT;rw[if_neg (by omega),if_neg (by omega),if_pos h]
  exact decide_eq_true (by omega)
 ·unfold rdV rdP
  rw[fw_k p hr,if_neg (by omega),if_neg (by omega),if_pos h,fw_8,fw_2,fw_v p hr,fw_a p (.inr h),bare11 h,hN,q4,pv_fwd _ hr.ps]
  have e1:gu32 (rsL p)=p.path.cust:=by rw[e];exact u32N _ _ hr.c
  rw[e1];rfl
 ·unfold rdR;rw[fw_k p hr,if_neg (by omega),if_neg (by omega),if_pos h]
theorem fld_k {p:Pdu}(h:fldF p=true):isK p.kind:=by
 unfold fldF at h
 unfold isK
 repeat' split at h
 ·omega
 ·omega
 ·omega
 ·omega
 ·omega
 ·omega
 ·omega
 ·cases h
theorem rd_fwd (p:Pdu)(hr:p.rng)(hs:small p)(hf:fldF p=true):rdF (encB p)=(bare p,true):=by
 have hk:=fld_k hf
 have key:fwd p:=by
  unfold isK at hk
  unfold fldF at hf
  by_cases h0:p.kind=0∨p.kind=1
  ·exact fwd0 p hr h0
  by_cases h2:p.kind=2∨p.kind=8∨p.kind=3
  ·exact fwd2 p hr h2
  rw[if_neg (by omega)]at hf
  by_cases h4:p.kind=4
  ·rw[if_pos h4]at hf;exact fwd4 p hr h4 hf
  rw[if_neg h4]at hf
  by_cases h6:p.kind=6
  ·rw[if_pos h6]at hf;exact fwd6 p hr h6 hf
  rw[if_neg h6]at hf
  by_cases h7:p.kind=7
  ·exact fwd7 p hr h7
  rw[if_neg h7]at hf
  by_cases h9:p.kind=9
  ·rw[if_pos h9]at hf;exact fwd9 p hr h9 hf
  by_cases h10:p.kind=10
  ·exact fwd10 p hr h10 hs
  exact fwd11 p hr (by omega)
 have hok:rdOk (encB p)=true:=by
  refine rdOk_i ?_ ?_ ?_ ?_
  ·rw[encB_len];omega
  ·rw[fw_k p hr];exact hk
  ·rw[fw_k p hr,fw_2];exact fw_F p hk
  ·rw[fw_k p hr,fw_v p hr,fw_8];exact key.1
 rw[rdF_yes hok,key.2.1,key.2.2]
def refC (p:Pdu):Int:=if 4096<p.copy.length∨200<p.text.size∨50<p.path.provs.length then 4 else if 2<p.version∨fldF p=false∨p≠bare p then 8 else 0
theorem chk_ref (p:Pdu)(hr:p.rng):chk p=refC p:=by
 unfold refC
 by_cases hs:small p
 ·rw[if_neg hs]
  by_cases hv:2<p.version
  ·rw[chk_v hs hv,if_pos (.inl hv)]
  by_cases hf:fldF p=true
  ·have hk:=fld_k hf
   rw[chk_p hs hk hv (by rw[ckD_eq p hr hk];exact hf),rd_fwd p hr hs hf]
   by_cases hb:p=bare p
   ·rw[if_pos ⟨rfl,hb⟩,if_neg]
    rintro(h|h|h)
    ·exact hv h
    ·rw[hf]at h;cases h
    ·exact h hb
   ·rw[if_neg (fun h=>hb h.2),if_pos (.inr (.inr hb))]
  ·rw[if_pos (.inr (.inl (by simpa using hf)))]
   by_cases hk:isK p.kind
   ·exact chk_c hs (by rw[ckD_eq p hr hk];simpa using hf)
   ·exact chk_k hs hk
 ·rw[chk_b hs,if_pos (Classical.not_not.1 hs)]
end Gp
namespace Gp
def atF (l:List Int)(i:Nat):Nat→Int
 |0=>0
 |j+1=>if i+j<l.length then IntKind.u64.wrap (IntKind.u64.wrap (atF l i j*256)+IntKind.u64.wrap (l.getD (i+j) 0))else IntKind.u64.wrap (atF l i j*256)
def I45 (l:List Int)(i n j:Nat):LState:={t:=[(8,.imm (i64 (i+j:Nat))),(7,.imm (u64 (atF l i j))),(2,.imm (i64 n)),(1,.imm (i64 i)),(0,.imm (slE 1 u8 l))],s:=[],m:=35,n:=0}
def E45 (l:List Int)(i n:Nat):LState:={t:=[(7,.imm (u64 (atF l i n)))],s:=[],m:=35,n:=0}
def fin45 :Exit→Fin
 |.normal=>⟨[],[8,7,2,1,0],[]⟩
 |_=>⟨[],[7],[]⟩
def T45r (l:List Int)(i n j:Nat):Tell:=
 Tell.mk (fun x x_1=>false) (fun x x_1=>Orc.no) (fun x=>Tree.fail 1000003 0) (fun x=>0) (fun x=>([],[])) (oget [(16,7,3,Orc.elem (u8 (List.getD l (i+j) default)))]) fun x x_1=>Tree.fail 1000003 0
theorem t45r (l:List Int)(i n j:Nat):levL prog Proofs.Try.f45 3 (I45 l i n j) (T45r l i n j) fin45=
 (let q0:=i64 (IntKind.wrap IntKind.i64 ((↑(i+j):Int)+1));let q1:=u64 (IntKind.wrap IntKind.u64 (atF l i j*256));
 Tree.br (decide ((↑(i+j):Int)<IntKind.wrap IntKind.i64 ((↑i:Int)+(↑n:Int)))) (.br true (.br (decide ((↑(i+j):Int)<(↑(List.length (List.map u8 l)):Int))) (.need (0≤(↑(i+j):Int)∧(List.map u8 l)[i+j]?=some (u8 (List.getD l (i+j) 0))) (.done Exit.normal (LState.mk [(8,.imm q0),(7,.imm (u64 (IntKind.wrap IntKind.u64 (IntKind.wrap IntKind.u64 (atF l i j*256)+IntKind.wrap IntKind.u64 (List.getD l (i+j) 0))))),(2,.imm (i64 (↑n:Int))),(1,.imm (i64 (↑i:Int))),(0,.imm (slE 1 u8 l))] [] 35 27 []))) (.done Exit.normal (LState.mk [(8,.imm q0),(7,.imm q1),(2,.imm
 (i64 (↑n:Int))),(1,.imm (i64 (↑i:Int))),(0,.imm (slE 1 u8 l))] [] 35 19 []))) (.done Exit.normal (LState.mk [(8,.imm q0),(7,.imm q1),(2,.imm (i64 (↑n:Int))),(1,.imm (i64 (↑i:Int))),(0,.imm (slE 1 u8 l))] [] 35 19 []))) (.done (Exit.exit 0) (LState.mk [(7,.imm (u64 (atF l i j)))] [] 35 5 []))):=by kernel_rfl
def T45 (l:List Int)(i n:Nat):Tell:=
 Tell.mk (fun x x_1=>false) (fun x x_1=>Orc.no) (fun x=>Tree.done (Exit.exit 0) (E45 l i n)) (fun x=>0) (fun x=>([8,7,2,1,0],[])) (fun x x_1 x_2=>Orc.no) fun x x_1=>Tree.done (Exit.exit 0) (E45 l i n)
theorem t45 (l:List Int)(i n:Nat):levF prog Proofs.Try.f45 [slE 1 u8 l,i64 i,i64 n] (T45 l i n)=
 Tree.loop 3 (LState.mk [(8,.imm (i64 (↑i:Int))),(7,.imm (u64 0)),(2,.imm (i64 (↑n:Int))),(1,.imm (i64 (↑i:Int))),(0,.imm (slE 1 u8 l))] [] 35 4 []) (.done (Exit.exit 0) (E45 l i n)) (.done Exit.ret (lret (u64 (atF l i n)))):=by kernel_rfl
def I82 (x:Int)(n i:Nat):LState:={t:=[(6,.imm (i64 ((n:Int)-1-i))),(5,.own 50 i),(0,.imm (u64 x))],s:=[(50,.row 5 1 ((nbI x n i).map u8))],m:=22,n:=60}
def E82 (x:Int)(n:Nat):LState:={t:=[(5,.own 50 n)],s:=[(50,.row 5 1 ((nbI x n n).map u8))],m:=22,n:=60}
def fin82 :Exit→Nat→Fin
 |.normal,_=>⟨[(50,69)],[6,5,0],[50]⟩
 |_,_=>⟨[],[5],[50]⟩
def T82r (x:Int)(n i:Nat):Tell:=
 Tell.mk (fun x x_1=>false) (fun x x_1=>Orc.no) (fun x=>Tree.fail 1000003 0) (fun x=>0) (fun x=>([],[])) (fun x x_1 x_2=>Orc.no) fun x x_1=>Tree.fail 1000003 0
theorem t82r (x:Int)(n i:Nat):levLN prog Proofs.Try.f82 3 (I82 x n i) (T82r x n i) fin82=
 (let q0:=List.map u8 (nbI x n i);
 Tree.br (decide (0≤(↑n:Int)-1-(↑i:Int))) (.need (0≤IntKind.wrap IntKind.i64 (8*((↑n:Int)-1-(↑i:Int)))) (.need (askA (some (1=1)) (List.length q0=i∧cellsOk q0=true∧true=true∧i+1≤1000000)) (.done Exit.normal (LState.mk [(6,.imm (i64 (IntKind.wrap IntKind.i64 ((↑n:Int)-1-(↑i:Int)-1)))),(5,.own 50 (i+1)),(0,.imm (u64 x))] [(50,Entry.row 5 1 (List.map u8 (nbI x n i)++[u8 (IntKind.wrap IntKind.u8 (Int.fdiv x ((2:Int)^min (Int.toNat (IntKind.wrap IntKind.i64 (8*((↑n:Int)-1-(↑i:Int))))) 64)))]))] 22 74 [])))) (.done (Exit.exit 0)
 (LState.mk [(5,.own 50 i)] [(50,Entry.row 5 1 q0)] 22 62 []))):=by kernel_rfl
def T82 (x:Int)(n:Nat):Tell:=
 Tell.mk (fun x x_1=>false) (fun x x_1=>Orc.no) (fun x_1=>Tree.done (Exit.exit 0) (E82 x n)) (fun x=>0) (fun x=>([6,5,0],[])) (fun x x_1 x_2=>Orc.no) fun x_1 x_2=>Tree.done (Exit.exit 0) (E82 x n)
theorem t82 (x:Int)(n:Nat):levF prog Proofs.Try.f82 [u64 x,i64 n] (T82 x n)=
 Tree.loop 3 (LState.mk [(6,.imm (i64 (IntKind.wrap IntKind.i64 ((↑n:Int)-1)))),(5,.imm nS),(0,.imm (u64 x))] [] 22 5 []) (.done (Exit.exit 0) (E82 x n)) (.need (eqs [(n,List.length (List.map u8 (nbI x n n)))]) (.done Exit.ret (lret (.sl true false 1 (List.map u8 (nbI x n n)))))):=by kernel_rfl
def T82o (x:Int)(n:Nat):Tell:=
 Tell.mk (fun x x_1=>false) (fun x x_1=>Orc.no) (fun x_1=>Tree.done (Exit.exit 0) (E82 x n)) (fun x=>0) (fun x=>([6,5,0],[])) (fun x x_1 x_2=>Orc.no) fun x_1 x_2=>Tree.done (Exit.exit 0) (E82 x n)
theorem t82o (x:Int)(n:Nat):levO prog Proofs.Try.f82 [u64 x,i64 n] (T82o x n)=
 Tree.loop 3 (LState.mk [(6,.imm (i64 (IntKind.wrap IntKind.i64 ((↑n:Int)-1)))),(5,.imm nS),(0,.imm (u64 x))] [] 22 5 []) (.done (Exit.exit 0) (E82 x n)) (.need (List.length (List.map u8 (nbI x n n))=n) (.done Exit.ret (lretO 5 1 (List.map u8 (nbI x n n))))):=by kernel_rfl
def T93 (b:Bool):Tell:=
 Tell.mk (fun x x_1=>false) (fun x x_1=>Orc.no) (fun x=>Tree.fail 1000003 0) (fun x=>0) (fun x=>([],[])) (fun x x_1 x_2=>Orc.no) fun x x_1=>Tree.fail 1000003 0
theorem t93 (b:Bool):levF prog Proofs.Try.f93 [bo b] (T93 b)=
 Tree.br b (.done Exit.ret (lret (u64 1))) (.done Exit.ret (lret (u64 0))):=by kernel_rfl
theorem c93 (b:Bool):ASpec prog 93 [bo b] (u64 (if b=true then 1 else 0)):=by
 refine ASpec.treeW Proofs.Try.f93 (T93 b) (by kernel_rfl) (by kernel_rfl) (t93 b) ?_
 refine⟨fun h1=>⟨_,rfl,?_⟩,fun h1=>⟨_,rfl,?_⟩⟩
 ·exact ile_eq (by subst h1;rfl)
 ·exact ile_eq (by subst h1;rfl)
def T83 (p:Pdu):Tell:=
 Tell.mk (fun x x_1=>false) (fun x x_1=>Orc.no) (fun x=>Tree.fail 1000003 0) (fun x=>0) (fun x=>([],[])) (oget [(8,9,2,Orc.call [bo p.add] (u64 (if p.add=true then 1 else 0))),(10,9,2,Orc.call [bo p.add] (u64 (if p.add=true then 1 else 0))),(12,9,2,Orc.call [bo p.add] (u64 (if p.add=true then 1 else 0))),(14,9,2,Orc.call [bo p.add] (u64 (if p.add=true then 1 else 0))),(16,9,2,Orc.call [bo p.add] (u64 (if p.add=true then 1 else 0)))]) fun x x_1=>Tree.fail 1000003 0
theorem t83 (p:Pdu):levF prog Proofs.Try.f83 [encD p] (T83 p)=
 (let q0:=u64 (IntKind.wrap IntKind.u64 p.code);let q1:=decide (p.kind=10);let q2:=decide (p.kind=9);let q3:=u64 (IntKind.wrap IntKind.u64 p.session);let q4:=decide (p.kind=11);
 Tree.br (decide (p.kind=0)) (.br (decide (p.kind=0)) (.done Exit.ret (lret q3)) (.br q2 (.br q2 (.need (ILeL [bo p.add] [bo p.add]∧ASpec prog 93 [bo p.add] (u64 (if p.add=true then 1 else 0))) (.done Exit.ret (lret (u64 (IntKind.wrap IntKind.u64 (256*if p.add=true then 1 else 0)))))) (.br q1 (.done Exit.ret (lret q0)) (.done Exit.ret (lret (u64 0))))) (.br q4 (.need (ILeL [bo p.add] [bo p.add]∧ASpec prog 93 [bo p.add] (u64 (if p.add=true then 1 else 0))) (.done Exit.ret (lret (u64 (IntKind.wrap IntKind.u64 (256*if p.add=true then 1 else 0)))))) (.br q1 (.done Exit.ret (lret
 q0)) (.done Exit.ret (lret (u64 0))))))) (.br (decide (p.kind=1)) (.br (decide (p.kind=1)) (.done Exit.ret (lret q3)) (.br q2 (.br q2 (.need (ILeL [bo p.add] [bo p.add]∧ASpec prog 93 [bo p.add] (u64 (if p.add=true then 1 else 0))) (.done Exit.ret (lret (u64 (IntKind.wrap IntKind.u64 (256*if p.add=true then 1 else 0)))))) (.br q1 (.done Exit.ret (lret q0)) (.done Exit.ret (lret (u64 0))))) (.br q4 (.need (ILeL [bo p.add] [bo p.add]∧ASpec prog 93 [bo p.add] (u64 (if p.add=true then 1 else 0))) (.done Exit.ret (lret (u64 (IntKind.wrap IntKind.u64 (256*if p.add=true then 1 else
 0)))))) (.br q1 (.done Exit.ret (lret q0)) (.done Exit.ret (lret (u64 0))))))) (.br (decide (p.kind=3)) (.br (decide (p.kind=3)) (.done Exit.ret (lret q3)) (.br q2 (.br q2 (.need (ILeL [bo p.add] [bo p.add]∧ASpec prog 93 [bo p.add] (u64 (if p.add=true then 1 else 0))) (.done Exit.ret (lret (u64 (IntKind.wrap IntKind.u64 (256*if p.add=true then 1 else 0)))))) (.br q1 (.done Exit.ret (lret q0)) (.done Exit.ret (lret (u64 0))))) (.br q4 (.need (ILeL [bo p.add] [bo p.add]∧ASpec prog 93 [bo p.add] (u64 (if p.add=true then 1 else 0))) (.done Exit.ret (lret (u64 (IntKind.wrap
 IntKind.u64 (256*if p.add=true then 1 else 0)))))) (.br q1 (.done Exit.ret (lret q0)) (.done Exit.ret (lret (u64 0))))))) (.br (decide (p.kind=7)) (.done Exit.ret (lret q3)) (.br q2 (.br q2 (.need (ILeL [bo p.add] [bo p.add]∧ASpec prog 93 [bo p.add] (u64 (if p.add=true then 1 else 0))) (.done Exit.ret (lret (u64 (IntKind.wrap IntKind.u64 (256*if p.add=true then 1 else 0)))))) (.br q1 (.done Exit.ret (lret q0)) (.done Exit.ret (lret (u64 0))))) (.br q4 (.need (ILeL [bo p.add] [bo p.add]∧ASpec prog 93 [bo p.add] (u64 (if p.add=true then 1 else 0))) (.done Exit.ret (lret (u64
 (IntKind.wrap IntKind.u64 (256*if p.add=true then 1 else 0)))))) (.br q1 (.done Exit.ret (lret q0)) (.done Exit.ret (lret (u64 0)))))))))):=by kernel_rfl
def T84 (l:List Int)(i n:Int):Tell:=
 Tell.mk (fun r i=>r==3&&i==8) (fun r i=>if(r==3&&i==7)=true then Orc.slc else Orc.no) (fun x=>Tree.fail 1000003 0) (fun x=>0) (fun x=>([],[])) (ogetO (fun r i=>if(r==3&&i==7)=true then Orc.slc else Orc.no) []) fun x x_1=>Tree.fail 1000003 0
theorem t84 (l:List Int)(i n:Int):levF prog Proofs.Try.f84 [slE 1 u8 l,i64 i,u64 n] (T84 l i n)=
 (let q0:=List.take (Int.toNat (IntKind.wrap IntKind.i64 (i+IntKind.wrap IntKind.i64 n))) (List.map u8 l);let q1:=List.length (List.map u8 l);
 Tree.br (decide ((↑q1:Int)<i)) (.done Exit.ret (lret nS)) (.br (decide (IntKind.wrap IntKind.u64 (IntKind.wrap IntKind.i64 ((↑q1:Int)-i))<n)) (.done Exit.ret (lret nS)) (.need (0≤i∧i≤IntKind.wrap IntKind.i64 (i+IntKind.wrap IntKind.i64 n)∧IntKind.wrap IntKind.i64 (i+IntKind.wrap IntKind.i64 n)≤(↑q1:Int)) (.need (askA none (0=0∧true=true∧cellsOk (List.drop (Int.toNat i) q0)=true∧0+List.length (List.drop (Int.toNat i) q0)≤1000000)) (.done Exit.ret (lret (.sl true false 1 ([]++List.drop (Int.toNat i) q0)))))))):=by kernel_rfl
theorem atF_y {l:List Int}{i j:Nat}(h:i+j<l.length):IntKind.u64.wrap (IntKind.u64.wrap (atF l i j*256)+IntKind.u64.wrap (l.getD (i+j) 0))=atF l i (j+1):=(if_pos h).symm
theorem atF_n {l:List Int}{i j:Nat}(h:¬i+j<l.length):IntKind.u64.wrap (atF l i j*256)=atF l i (j+1):=(if_neg h).symm
theorem l45 (l:List Int)(i n:Nat)(hi:i≤2000000)(hn:n≤8)(hl:l.length≤1000000)(σ:LState)(h:LSub σ (I45 l i n 0)):LoopOk prog [] (bodyOf Proofs.Try.f45) 3 σ (.done (.exit 0) (E45 l i n)):=by
 refine LoopOk.count n 0 (I45 l i n) (E45 l i n) (T45r l i n) fin45 (by kernel_rfl) h fun j hj=>?_
 rw[t45r]
 have ew:IntKind.i64.wrap ((i:Int)+(n:Int))=((i+n:Nat):Int):=by rw[IntWalk.i64_in _ (by omega)];omega
 have ej:IntKind.i64.wrap (((i+j:Nat):Int)+1)=((i+(j+1):Nat):Int):=by rw[IntWalk.i64_in _ (by omega)];omega
 rw[ew]
 refine⟨fun h1=>⟨fun _=>⟨fun h2=>need_sat ⟨by omega,?_⟩ ?_,fun h2=>?_⟩,fun h=>by cases h⟩,fun h1=>?_⟩
 ·have h2':i+j<l.length:=by have:=of_decide_eq_true h2;rw[List.length_map]at this;omega
  simp[List.getD_eq_getElem?_getD,List.getElem?_eq_getElem h2']
 ·have h1':j<n:=by have:=of_decide_eq_true h1;omega
  have h2':i+j<l.length:=by have:=of_decide_eq_true h2;rw[List.length_map]at this;omega
  exact⟨h1',⟨congrArg (fun n=>AVal.imm (i64 n)) ej,congrArg (fun n=>AVal.imm (u64 n)) (atF_y h2'),rfl,rfl,rfl,trivial⟩,trivial,rfl,rfl,rfl⟩
 ·have h1':j<n:=by have:=of_decide_eq_true h1;omega
  have h2':¬i+j<l.length:=by have:=of_decide_eq_false h2;rw[List.length_map]at this;omega
  exact⟨h1',⟨congrArg (fun n=>AVal.imm (i64 n)) ej,congrArg (fun n=>AVal.imm (u64 n)) (atF_n h2'),rfl,rfl,rfl,trivial⟩,trivial,rfl,rfl,rfl⟩
 ·have:j=n:=by have:=of_decide_eq_false h1;omega
  subst this
  exact⟨rfl,by omega,⟨rfl,trivial⟩,trivial,rfl,rfl,rfl⟩
theorem c45 (l:List Int)(i n:Int)(hi:0≤i)(hi2:i≤2000000)(hn:0≤n)(hn2:n≤8)(hl:l.length≤1000000):ASpec prog 45 [slE 1 u8 l,i64 i,i64 n] (u64 (atF l i.toNat n.toNat)):=by
 obtain⟨i',rfl⟩:=Int.eq_ofNat_of_zero_le hi
 obtain⟨n',rfl⟩:=Int.eq_ofNat_of_zero_le hn
 rw[Int.toNat_natCast,Int.toNat_natCast]
 refine ASpec.treeW Proofs.Try.f45 (T45 l i' n') (by kernel_rfl) (by kernel_rfl) (t45 l i' n') ?_
 refine⟨l45 l i' n' (by omega) (by omega) hl _ ⟨⟨rfl,rfl,rfl,rfl,rfl,trivial⟩,trivial,rfl,rfl,rfl⟩,⟨_,rfl,.refl _⟩⟩
theorem l82 (x:Int)(n:Nat)(hn:n≤8)(σ:LState)(h:LSub σ (I82 x n 0)):LoopOk prog [] (bodyOf Proofs.Try.f82) 3 σ (.done (.exit 0) (E82 x n)):=by
 refine LoopOk.countN n 0 (I82 x n) (E82 x n) (T82r x n) fin82 (by kernel_rfl) h fun i hi=>?_
 rw[t82r]
 have e1:i<n→IntKind.i64.wrap (8*((n:Int)-1-i))=8*((n:Int)-1-i):=fun h=>IntWalk.i64_in _ (by omega)
 refine⟨fun h1=>need_sat ?_ (need_sat ?_ ?_),fun h1=>?_⟩
 ·(simp only[List.length_map,decide_eq_true_eq,decide_eq_false_iff_not,Int.toNat_natCast]at*<;>omega)
 ·exact⟨⟨by simp[nbI_len],cellsOk_map u8 (fun _=>rfl) _,rfl,by(simp only[List.length_map,decide_eq_true_eq,decide_eq_false_iff_not,Int.toNat_natCast]at*<;>omega)⟩,rfl⟩
 ·have hlt:i<n:=by(simp only[List.length_map,decide_eq_true_eq,decide_eq_false_iff_not,Int.toNat_natCast]at*<;>omega)
  refine⟨hlt,⟨?_,rfl,rfl,trivial⟩,⟨?_,trivial⟩,rfl,rfl,rfl⟩
  ·refine congrArg (fun n=>AVal.imm (i64 n)) ?_
   rw[IntWalk.i64_in _ (by omega)];omega
  ·refine congrArg (fun l=>some (Entry.row 5 1 l)) ?_
   rw[nbI_succ,List.map_append];rfl
 ·have:i=n:=by(simp only[List.length_map,decide_eq_true_eq,decide_eq_false_iff_not,Int.toNat_natCast]at*<;>omega)
  subst this
  exact⟨rfl,by omega,⟨rfl,trivial⟩,⟨rfl,trivial⟩,rfl,rfl,rfl⟩
theorem n82 (x:Int)(n:Nat)(hn:n≤8):LoopOk prog [] (bodyOf Proofs.Try.f82) 3 (LState.mk [(6,AVal.imm (i64 (IntKind.i64.wrap ((n:Int)-1)))),(5,AVal.imm (IVal.v (Value.slice none 0 0))),(0,AVal.imm (u64 x))] [] 22 5 []) (.done (.exit 0) (E82 x n)):=by
 refine .nam (τ:=I82 x n 0) (.temp 5 50 5 1 (show 5≤50 by decide) (.more 60 (show 51≤60 by decide) (.sub ?_))) (l82 x n hn _ ?_)
 ·refine⟨⟨?_,rfl,rfl,trivial⟩,⟨rfl,trivial⟩,rfl,rfl,rfl⟩
  refine congrArg (fun n=>AVal.imm (i64 n)) ?_
  rw[IntWalk.i64_in _ (by omega)];omega
 ·exact⟨⟨rfl,rfl,rfl,trivial⟩,⟨rfl,trivial⟩,rfl,rfl,rfl⟩
theorem c82 (x n:Int)(h0:0≤n)(hn:n≤8):ASpec prog 82 [u64 x,i64 n] (slE 1 u8 (num x n)):=by
 obtain⟨n',rfl⟩:=Int.eq_ofNat_of_zero_le h0
 rw[num_eq,Int.toNat_natCast]
 refine ASpec.treeW Proofs.Try.f82 (T82 x n') (by kernel_rfl) (by kernel_rfl) (t82 x n') ?_
 refine⟨n82 x n' (by omega),need_sat ⟨by rw[List.length_map,nbI_len],trivial⟩ ⟨_,rfl,.sl (fun h=>by cases h) (fun h=>h) (.refl _)⟩⟩
theorem o82 (x n:Int)(h0:0≤n)(hn:n≤8):OSpec prog 82 [u64 x,i64 n] 5 1 ((num x n).map u8):=by
 obtain⟨n',rfl⟩:=Int.eq_ofNat_of_zero_le h0
 rw[num_eq,Int.toNat_natCast]
 refine OSpec.tree Proofs.Try.f82 (T82o x n') (by kernel_rfl) (by kernel_rfl) ?_
 rw[t82o]
 exact⟨n82 x n' (by omega),need_sat (by rw[List.length_map,nbI_len]) (.inl rfl)⟩
def midF (p:Pdu):Int:=if p.kind=0∨p.kind=1∨p.kind=3∨p.kind=7 then w64 p.session else if p.kind=9∨p.kind=11 then w64 (256*if p.add=true then 1 else 0)else if p.kind=10 then w64 p.code else 0
theorem mid_1 {p:Pdu}(h:p.kind=0∨p.kind=1∨p.kind=3∨p.kind=7):midF p=w64 p.session:=if_pos h
theorem mid_2 {p:Pdu}(h:p.kind=9∨p.kind=11):midF p=w64 (256*if p.add=true then 1 else 0):=by unfold midF;rw[if_neg (by omega),if_pos h]
theorem mid_3 {p:Pdu}(h:p.kind=10):midF p=w64 p.code:=by unfold midF;rw[if_neg (by omega),if_neg (by omega),if_pos h]
theorem mid_0 {p:Pdu}(h:¬(p.kind=0∨p.kind=1∨p.kind=3∨p.kind=7∨p.kind=9∨p.kind=11∨p.kind=10)):midF p=0:=by unfold midF;rw[if_neg (by omega),if_neg (by omega),if_neg (by omega)]
theorem c83 (p:Pdu):ASpec prog 83 [encD p] (u64 (midF p)):=by
 refine ASpec.treeW Proofs.Try.f83 (T83 p) (by kernel_rfl) (by kernel_rfl) (t83 p) ?_
 refine⟨fun h1=>⟨fun h2=>⟨_,rfl,?_⟩,fun h2=>⟨fun h3=>⟨fun h4=>need_sat ⟨ILeL.refl _,c93 _⟩ ⟨_,rfl,?_⟩,fun h4=>⟨fun h5=>⟨_,rfl,?_⟩,fun h5=>⟨_,rfl,?_⟩⟩⟩,fun h3=>⟨fun h4=>need_sat ⟨ILeL.refl _,c93 _⟩ ⟨_,rfl,?_⟩,fun h4=>⟨fun h5=>⟨_,rfl,?_⟩,fun h5=>⟨_,rfl,?_⟩⟩⟩⟩⟩,fun h1=>⟨fun h2=>⟨fun h3=>⟨_,rfl,?_⟩,fun h3=>⟨fun h4=>⟨fun h5=>need_sat ⟨ILeL.refl _,c93 _⟩ ⟨_,rfl,?_⟩,fun h5=>⟨fun h6=>⟨_,rfl,?_⟩,fun h6=>⟨_,rfl,?_⟩⟩⟩,fun h4=>⟨fun h5=>need_sat ⟨ILeL.refl _,c93 _⟩ ⟨_,rfl,?_⟩,fun h5=>⟨fun h6=>⟨_,rfl,?_⟩,fun h6=>⟨_,rfl,?_⟩⟩⟩⟩⟩,fun h2=>⟨fun h3=>⟨fun h4=>⟨_,rfl,?_⟩,fun h4=>⟨fun h5=>⟨fun h6=>need_sat ⟨ILeL.refl _,c93 _⟩ ⟨_,rfl,?_⟩,fun h6=>⟨fun h7=>⟨_,rfl,?_⟩,fun h7=>⟨_,rfl,?_⟩⟩⟩,fun h5=>⟨fun h6=>need_sat ⟨ILeL.refl _,c93 _⟩ ⟨_,rfl,?_⟩,fun h6=>⟨fun h7=>⟨_,rfl,?_⟩,fun h7=>⟨_,rfl,?_⟩⟩⟩⟩⟩,fun h3=>⟨fun h4=>⟨_,rfl,?_⟩,fun h4=>⟨fun h5=>⟨fun h6=>need_sat ⟨ILeL.refl _,c93 _⟩ ⟨_,rfl,?_⟩,fun h6=>⟨fun h7=>⟨_,rfl,?_⟩,fun h7=>⟨_,rfl,?_⟩⟩⟩,fun h5=>⟨fun h6=>need_sat ⟨ILeL.refl _,c93 _⟩ ⟨_,rfl,?_⟩,fun h6=>⟨fun h7=>⟨_,rfl,?_⟩,fun h7=>⟨_,rfl,?_⟩⟩⟩⟩⟩⟩⟩⟩
 all_goals simp only[decide_eq_true_eq,decide_eq_false_iff_not]at*
 all_goals first
  |(exfalso;omega)
  |exact ile_eq (congrArg u64 (mid_1 (p:=p) (by omega)).symm)
  |exact ile_eq (congrArg u64 (mid_2 (p:=p) (by omega)).symm)
  |exact ile_eq (congrArg u64 (mid_3 (p:=p) (by omega)).symm)
  |exact ile_eq (congrArg u64 (mid_0 (p:=p) (by omega)).symm)
def partF (l:List Int)(i n:Int):List Int:=if(l.length:Int)<i then[]else if(l.length:Int)-i<n then[]else(l.drop i.toNat).take n.toNat
theorem c84 (l:List Int)(i n:Int)(hi:0≤i)(hi2:i≤2000000)(hn:0≤n)(hl:l.length≤1000000):ASpec prog 84 [slE 1 u8 l,i64 i,u64 n] (slE 1 u8 (partF l i n)):=by
 refine ASpec.treeW Proofs.Try.f84 (T84 l i n) (by kernel_rfl) (by kernel_rfl) (t84 l i n) ?_
 rw[List.length_map]
 unfold partF
 refine⟨fun h1=>⟨_,rfl,?_⟩,fun h1=>?_⟩
 ·rw[if_pos (of_decide_eq_true h1)];exact .nil _ _ _
 have h1':¬(l.length:Int)<i:=of_decide_eq_false h1
 have ew:IntKind.u64.wrap (IntKind.i64.wrap ((l.length:Int)-i))=(l.length:Int)-i:=by
  rw[IntWalk.i64_in _ (by omega),IntWalk.u64_in _ (by omega)]
 rw[ew,if_neg h1']
 refine⟨fun h2=>⟨_,rfl,?_⟩,fun h2=>?_⟩
 ·rw[if_pos (of_decide_eq_true h2)];exact .nil _ _ _
 have h2':¬(l.length:Int)-i<n:=of_decide_eq_false h2
 have e3:IntKind.i64.wrap (i+IntKind.i64.wrap n)=i+n:=by
  rw[IntWalk.i64_in n (by omega),IntWalk.i64_in _ (by omega)]
 rw[e3,if_neg h2']
 refine need_sat ⟨hi,by omega,by omega⟩ (need_sat ?_ ⟨_,rfl,?_⟩)
 ·refine⟨rfl,rfl,?_,?_⟩
  ·rw[←List.map_take,←List.map_drop];exact cellsOk_map u8 (fun _=>rfl) _
  ·simp;omega
 ·refine .sl (fun h=>by cases h) (fun h=>h) ?_
  rw[←List.map_take,←List.map_drop,List.nil_append,List.drop_take]
  have:(i+n).toNat-i.toNat=n.toNat:=by omega
  rw[this];exact .refl _
end Gp
namespace Gp
theorem at_0 (l:List Int)(i:Nat)(h:l.length≤i):∀n,atF l i n=0
 |0=>rfl
 |n+1=>by
  rw[atF,if_neg (by omega),at_0 l i h n];rfl
theorem at_val (l:List Int)(hb:byteL l)(i n:Nat)(h:i+n≤l.length)(hn:n≤8):∀j,j≤n→atF l i j=valB ((l.drop i).take n) j∧0≤atF l i j∧atF l i j<((256^j:Nat):Int)
 |0,_=>⟨rfl,Int.le_refl _,by show (0:Int)<((1:Nat):Int);decide⟩
 |j+1,hj=>by
  obtain⟨e,h0,h1⟩:=at_val l hb i n h hn j (by omega)
  have hq:(256:Nat)^j≤256^7:=Nat.pow_le_pow_right (by decide) (by omega)
  have hs:(256:Nat)^(j+1)=256^j*256:=Nat.pow_succ ..
  have h7:(256:Nat)^7=72057594037927936:=by decide
  rw[h7]at hq
  rw[hs]
  have hx:l.getD (i+j) 0∈l:=by
   rw[List.getD_eq_getElem?_getD,List.getElem?_eq_getElem (show i+j<l.length by omega)]
   exact List.getElem_mem _
  have hbx:=hb _ hx
  have hc:((l.drop i).take n).getD j 0=l.getD (i+j) 0:=by
   simp only[List.getD_eq_getElem?_getD,List.getElem?_take,List.getElem?_drop]
   rw[if_pos (by omega)]
  generalize (256:Nat)^j=q at*
  have ea:atF l i (j+1)=atF l i j*256+l.getD (i+j) 0:=by
   rw[atF,if_pos (by omega)]
   generalize l.getD (i+j) 0=y at*
   generalize atF l i j=x at*
   show (((x*256) % 18446744073709551616)+(y % 18446744073709551616)) % 18446744073709551616=_
   omega
  refine⟨?_,by rw[ea];omega,by rw[ea];omega⟩
  rw[ea,valB,hc,←e]
  exact(orB _ _ h0 (by omega) hbx.1 hbx.2).symm
theorem at_get (l:List Int)(hb:byteL l)(i n:Nat)(h:i+n≤l.length)(hn:n≤8):atF l i n=getV (l.drop i) n:=by
 have e:=(at_val l hb i n h hn n (Nat.le_refl _)).1
 unfold getV
 rw[Int.toNat_natCast]
 have hl:((l.drop i).take n).length=n:=by simp;omega
 rw[hl];exact e
theorem at_g8 (l:List Int)(hb:byteL l)(k n:Nat)(h:8+k+n≤l.length)(hn:n≤8):atF l (8+k) n=getV ((d8 l).drop k) n:=by
 rw[at_get l hb _ n h hn,d8_eq,List.drop_drop]
def pvA (l:List Int)(n:Nat):List Int:=(List.range n).map fun j:Nat=>IntKind.u32.wrap (atF l (12+4*j) 4)
def rrV (l:List Int):Int:=IntKind.u8.wrap (atF l 0 1)
def rrK (l:List Int):Int:=IntKind.u8.wrap (atF l 1 1)
def rrX (l:List Int):Int:=IntKind.u16.wrap (atF l 2 2)
def rrC (l:List Int):List Int:=partF l 12 (atF l 8 4)
def rrT (l:List Int):List Int:=partF l (16+(rrC l).length) (atF l (12+(rrC l).length) 4)
def rrR (l:List Int):RKey:=⟨IntKind.u32.wrap (atF l 8 4),#v[IntKind.u8.wrap (atF l 13 1),IntKind.u8.wrap (atF l 14 1),IntKind.u8.wrap (atF l 15 1),IntKind.u8.wrap (atF l 16 1),IntKind.u8.wrap (atF l 17 1),IntKind.u8.wrap (atF l 18 1),IntKind.u8.wrap (atF l 19 1),IntKind.u8.wrap (atF l 20 1),IntKind.u8.wrap (atF l 21 1),IntKind.u8.wrap (atF l 22 1),IntKind.u8.wrap (atF l 23 1),IntKind.u8.wrap (atF l 24 1),IntKind.u8.wrap (atF l 25 1),IntKind.u8.wrap (atF l 26 1),IntKind.u8.wrap (atF l 27 1),IntKind.u8.wrap (atF l 28 1)],IntKind.i64.wrap (atF l 12 1)⟩
def rr0 (l:List Int):Pdu:={z1 (rrV l) (rrK l) (rrX l) false 0 with serial:=IntKind.u32.wrap (atF l 8 4)}
def rr4 (l:List Int):Pdu:={z1 (rrV l) (rrK l) 0 (decide (atF l 8 1=1)) 0 with origin:=⟨IntKind.u32.wrap (atF l 16 4),⟨4,⟨0,atF l 12 4⟩,IntKind.i64.wrap (atF l 9 1)⟩,IntKind.i64.wrap (atF l 10 1)⟩}
def rr6 (l:List Int):Pdu:={z1 (rrV l) (rrK l) 0 (decide (atF l 8 1=1)) 0 with origin:=⟨IntKind.u32.wrap (atF l 28 4),⟨6,⟨atF l 12 8,atF l 20 8⟩,IntKind.i64.wrap (atF l 9 1)⟩,IntKind.i64.wrap (atF l 10 1)⟩}
def rr7 (l:List Int):Pdu:={z1 (rrV l) (rrK l) (rrX l) false 0 with serial:=IntKind.u32.wrap (atF l 8 4),refresh:=IntKind.u32.wrap (atF l 12 4),retry:=IntKind.u32.wrap (atF l 16 4),expire:=IntKind.u32.wrap (atF l 20 4)}
def rr9 (l:List Int):Pdu:={z1 (rrV l) (rrK l) 0 (decide (atF l 2 1=1)) 0 with key:=rrR l}
def rr10 (l:List Int):Pdu:={z1 (rrV l) (rrK l) 0 false (rrX l)with copy:=rrC l,text:=bstr (rrT l)}
def rr11 (l:List Int):Pdu:={z1 (rrV l) (rrK l) 0 (decide (atF l 2 1=1)) 0 with path:=⟨IntKind.u32.wrap (atF l 8 4),pvA l ((l.length-8)/4-1)⟩}
def rrF (l:List Int):Pdu:=
 if rrK l=0∨rrK l=1 then rr0 l else if rrK l=3 then z1 (rrV l) (rrK l) (rrX l) false 0 else if rrK l=4 then rr4 l else if rrK l=6 then rr6 l else
 if rrK l=7 then rr7 l else if rrK l=9 then rr9 l else if rrK l=10 then rr10 l else if rrK l=11 then rr11 l else z1 (rrV l) (rrK l) 0 false 0
theorem rr_eq (l:List Int)(hb:byteL l)(hok:rdOk l=true)(hr:rdR l=true):rrF l=rdV l:=by
 obtain⟨h8,hk,hF,hT⟩:=rdOk_t hok
 have eV:rrV l=gu8 l:=by unfold rrV gu8;rw[at_get l hb 0 1 (by omega) (by omega)];rfl
 have eK:rrK l=kR1 l:=by unfold rrK kR1 gu8;rw[at_get l hb 1 1 (by omega) (by omega)];rfl
 have eX:rrX l=gu16 (d2 l):=by unfold rrX gu16;rw[at_get l hb 2 2 (by omega) (by omega),d2_eq];rfl
 have eA:atF l 2 1=getV (d2 l) 1:=by rw[at_get l hb 2 1 (by omega) (by omega),d2_eq];rfl
 have l8:=d8_len l
 have q1:∀k:Nat,8+k+1≤l.length→atF l (8+k) 1=getV ((d8 l).drop k) 1:=fun k h=>at_g8 l hb k 1 h (by omega)
 have q4:∀k:Nat,8+k+4≤l.length→atF l (8+k) 4=getV ((d8 l).drop k) 4:=fun k h=>at_g8 l hb k 4 h (by omega)
 have q8:∀k:Nat,8+k+8≤l.length→atF l (8+k) 8=getV ((d8 l).drop k) 8:=fun k h=>at_g8 l hb k 8 h (by omega)
 unfold rrF
 rw[eK]
 by_cases h9:kR1 l=9
 ·rw[if_neg (by omega),if_neg (by omega),if_neg (by omega),if_neg (by omega),if_neg (by omega),if_pos h9]
  unfold kTT at hT;rw[if_pos h9]at hT
  have hl:=k66_t hT
  unfold rdV rr9 rrR;rw[if_pos h9,eV,eK,eA]
  unfold rdK kR gu32 gi
  have u:∀k:Nat,k<16→IntKind.u8.wrap (atF l (13+k) 1)=((d8 l).drop 5).getD k 0:=by
   intro k hk
   rw[show 13+k=8+(5+k) by omega,q1 _ (by omega),←List.drop_drop]
   have hlen:k<((d8 l).drop 5).length:=by rw[List.length_drop];omega
   have hb5:byteL ((d8 l).drop 5):=by rw[d8_eq];exact bdrop (bdrop hb 8) 5
   have hm:=List.getElem_mem hlen
   have hbk:=hb5 _ hm
   rw[List.drop_eq_getElem_cons hlen]
   rw[show getV (((d8 l).drop 5)[k]::((d8 l).drop 5).drop (k+1)) 1=_ from getV1 _ _ hbk,List.getD_eq_getElem?_getD,List.getElem?_eq_getElem hlen]
   show _ % 256=_
   simp only[Option.getD_some];omega
  have e0:=q4 0 (by omega)
  have e4:=q1 4 (by omega)
  rw[List.drop_zero]at e0
  rw[←u 0 (by omega),←u 1 (by omega),←u 2 (by omega),←u 3 (by omega),←u 4 (by omega),←u 5 (by omega),←u 6 (by omega),←u 7 (by omega),←u 8 (by omega),←u 9 (by omega),←u 10 (by omega),←u 11 (by omega),←u 12 (by omega),←u 13 (by omega),←u 14 (by omega),←u 15 (by omega)]
  rw[←e4,←e0]
  rfl
 by_cases h10:kR1 l=10
 ·rw[if_neg (by omega),if_neg (by omega),if_neg (by omega),if_neg (by omega),if_neg (by omega),if_neg h9,if_pos h10]
  unfold kTT at hT;rw[if_neg h9,if_pos h10]at hT
  obtain⟨t1,t2,t3,t4,t5,t6⟩:=k71_t hT
  have hb8:byteL (d8 l):=by rw[d8_eq];exact bdrop hb 8
  have e0:=q4 0 (by omega)
  rw[List.drop_zero]at e0
  have en:gn (d8 l)=getV (d8 l) 4:=(gn_eq hb8 t1).1
  have ec:rrC l=fCopy (d8 l):=by
   unfold rrC partF fCopy
   rw[e0,←en,if_neg (by omega),if_neg (by omega),d8_eq,List.drop_drop];rfl
  have lc:((rrC l).length:Int)=gn (d8 l):=by rw[ec];unfold fCopy;rw[List.length_take,List.length_drop];omega
  have ef:fL1 (d8 l)=l.drop (12+(rrC l).length):=by
   unfold fL1
   rw[←lc,Int.toNat_natCast,d8_eq,List.drop_drop,List.drop_drop]
   congr 1;omega
  have fl:(fL1 (d8 l)).length=l.length-(12+(rrC l).length):=by rw[ef,List.length_drop]
  have hbf:byteL (fL1 (d8 l)):=by rw[ef];exact bdrop hb _
  have e1:atF l (12+(rrC l).length) 4=gn (fL1 (d8 l)):=by
   rw[at_get l hb _ 4 (by omega) (by omega),←ef];exact(gn_eq hbf t4).1.symm
  have et:rrT l=fText (d8 l):=by
   unfold rrT fText partF
   rw[e1,if_neg (by omega),if_neg (by omega),ef,List.drop_drop]
   congr 2;omega
  unfold rdV rr10;rw[if_neg h9,if_pos h10,eV,eK,eX,ec,et]
  rfl
 by_cases h11:kR1 l=11
 ·rw[if_neg (by omega),if_neg (by omega),if_neg (by omega),if_neg (by omega),if_neg (by omega),if_neg h9,if_neg h10,if_pos h11]
  unfold kTT at hT;rw[if_neg h9,if_neg h10,if_pos h11]at hT
  have hl:=k74_t hT
  have e0:=q4 0 (by omega)
  rw[List.drop_zero]at e0
  have ep:pvA l ((l.length-8)/4-1)=pvR ((d8 l).drop 4) (pN (d8 l)):=by
   have:(l.length-8)/4-1=pN (d8 l):=by unfold pN at*;omega
   rw[this]
   unfold pvA pvR
   refine List.map_congr_left fun j hj=>?_
   have hj':j<pN (d8 l):=List.mem_range.1 hj
   unfold gu32
   rw[show 12+4*j=8+(4+4*j) by omega,q4 _ (by omega),←List.drop_drop]
  unfold rdV rr11;rw[if_neg h9,if_neg h10,if_pos h11,eV,eK,eA,ep,e0]
  rfl
 have hS:isS (kR1 l):=by unfold isK at hk;unfold isS;omega
 have e:rdV l=rdS l:=by unfold rdV;rw[if_neg h9,if_neg h10,if_neg h11]
 rw[kT_S hS]at hT
 obtain⟨t1,t2⟩:=kT_t hT
 unfold rdR at hr;rw[if_neg h9,if_neg h10,if_neg h11]at hr
 have hr':((d8 l).drop (tN (gu8 l) (kR1 l))).length=0:=by have:=of_decide_eq_true hr;omega
 rw[List.length_drop]at hr'
 have hk1:(p1 l).kind=kR1 l:=rfl
 have ep:p1 l=z1 (gu8 l) (kR1 l) (if kR1 l=0∨kR1 l=1∨kR1 l=3∨kR1 l=7 then gu16 (d2 l)else 0) false 0:=by
  unfold isS at hS
  unfold p1 sF aF cF;rw[if_neg (show ¬(kR1 l=9∨kR1 l=11) by omega),if_neg h10]
 rw[e]
 unfold rdS
 rw[ep]
 by_cases h0:kR1 l=0∨kR1 l=1
 ·have en:tN (gu8 l) (kR1 l)=4:=by unfold tN;rw[if_neg (by omega),if_neg (by omega),if_pos h0]
  rw[en]at t1
  have e0:=q4 0 (by omega)
  rw[List.drop_zero]at e0
  rw[if_pos h0,if_pos (by omega),zS_0 h0]
  unfold rr0 gu32;rw[eV,eK,eX,e0];rfl
 by_cases h3:kR1 l=3
 ·rw[if_neg h0,if_pos h3,if_pos (by omega),zS_n (by omega),eV,eX]
 by_cases h4:kR1 l=4
 ·have en:tN (gu8 l) (kR1 l)=12:=by unfold tN oN;rw[if_pos (by omega),if_neg (by omega)]
  rw[en]at t1
  have e0:=q1 0 (by omega)
  rw[List.drop_zero]at e0
  rw[if_neg h0,if_neg h3,if_pos h4,if_neg (by omega),zS_4 (.inl h4)]
  unfold Pdu.withO oV rr4 gi
  rw[if_neg (show ¬(z1 (gu8 l) (kR1 l) 0 false 0).kind=6 from fun h6=>by have h6:kR1 l=6:=h6;omega),←q4 8 (by omega),←q4 4 (by omega),←q1 1 (by omega),←q1 2 (by omega),←e0,eV,eK]
  rfl
 by_cases h6:kR1 l=6
 ·have en:tN (gu8 l) (kR1 l)=24:=by unfold tN oN;rw[if_pos (by omega),if_pos h6]
  rw[en]at t1
  have e0:=q1 0 (by omega)
  rw[List.drop_zero]at e0
  rw[if_neg h0,if_neg h3,if_neg h4,if_pos h6,if_neg (by omega),zS_4 (.inr h6)]
  unfold Pdu.withO oV rr6 gi
  rw[if_pos (show (z1 (gu8 l) (kR1 l) 0 false 0).kind=6 from h6),←q4 20 (by omega),←q8 4 (by omega),←q8 12 (by omega),←q1 1 (by omega),←q1 2 (by omega),←e0,eV,eK]
  rfl
 by_cases h7:kR1 l=7
 ·have en:tN (gu8 l) (kR1 l)=eN (gu8 l):=by unfold tN;rw[if_neg (by omega),if_pos h7]
  rw[en]at t1 hr'
  have e0:atF l 8 4=getV (d8 l) 4:=by
   have:=q4 0 (by unfold eN at t1;split at t1<;>omega)
   rwa[List.drop_zero]at this
  rw[if_neg h0,if_neg h3,if_neg h4,if_neg h6,if_pos h7,if_pos (by omega),zS_7 h7]
  unfold Pdu.withE rr7 gu32
  by_cases hv:0<gu8 l
  ·have e16:eN (gu8 l)=16:=if_pos hv
   rw[e16]at t1
   rw[if_pos (show 0<(z1 (gu8 l) (kR1 l) (gu16 (d2 l)) false 0).version from hv),←q4 4 (by omega),←q4 8 (by omega),←q4 12 (by omega),←e0,eV,eK,eX]<;>rfl
  ·have e4:eN (gu8 l)=4:=if_neg hv
   rw[e4]at t1 hr'
   rw[if_neg (show ¬0<(z1 (gu8 l) (kR1 l) (gu16 (d2 l)) false 0).version from hv),at_0 l 12 (by omega),at_0 l 16 (by omega),at_0 l 20 (by omega),←e0,eV,eK,eX]<;>rfl
 ·rw[if_neg h0,if_neg h3,if_neg h4,if_neg h6,if_neg h7,if_neg h9,if_neg h10,if_neg h11,if_neg (by omega),zS_n (by omega),eV]
end Gp
namespace Gp
theorem at_rng (l:List Int)(i:Nat):∀n,0≤atF l i n∧atF l i n<2^64
 |0=>⟨Int.le_refl _,by show (0:Int)<18446744073709551616;decide⟩
 |n+1=>by
  have w:∀x:Int,0≤IntKind.u64.wrap x∧IntKind.u64.wrap x<2^64:=fun x=>by
   show 0≤x % 18446744073709551616∧x % 18446744073709551616<18446744073709551616
   omega
  rw[atF];split<;>exact w _
theorem w8 (x:Int):0≤IntKind.u8.wrap x∧IntKind.u8.wrap x<256:=wrap8 x
theorem w16 (x:Int):0≤IntKind.u16.wrap x∧IntKind.u16.wrap x<65536:=by
 show 0≤x % 65536∧x % 65536<65536
 omega
theorem w32 (x:Int):0≤IntKind.u32.wrap x∧IntKind.u32.wrap x<4294967296:=by
 show 0≤x % 4294967296∧x % 4294967296<4294967296
 omega
theorem z64 :(0:Int)≤0∧(0:Int)<2^64:=by decide
theorem z1_rng {v k s c:Int}{a:Bool}(hv:0≤v∧v<256)(hk:0≤k∧k<256)(hs:0≤s∧s<65536)(hc:0≤c∧c<65536):(z1 v k s a c).rng:=
 have z:(0:Int)≤0∧(0:Int)<4294967296:=by decide
 ⟨hv,hk,hs,z,z,⟨z64,z64⟩,z,fun _ hx=>absurd hx List.not_mem_nil,z,z,z,z,hc⟩
theorem pvA_rng (l:List Int)(n:Nat):∀x∈pvA l n,0≤x∧x<4294967296:=by
 intro x hx
 obtain⟨j,_,rfl⟩:=List.mem_map.1 hx
 exact w32 _
theorem rr_rng (l:List Int):(rrF l).rng:=by
 have hv:=w8 (atF l 0 1)
 have hk:=w8 (atF l 1 1)
 have hx:=w16 (atF l 2 2)
 have z0:(0:Int)≤0∧(0:Int)<65536:=by decide
 have b:=fun s a c hs hc=>z1_rng (v:=rrV l) (k:=rrK l) (s:=s) (a:=a) (c:=c) hv hk hs hc
 unfold rrF
 repeat' split
 ·have q:=b (rrX l) false 0 hx z0
  exact{q with n:=w32 _}
 ·exact b (rrX l) false 0 hx z0
 ·have q:=b 0 (decide (atF l 8 1=1)) 0 z0 z0
  exact{q with oa:=w32 _,ad:=⟨z64,at_rng l 12 4⟩}
 ·have q:=b 0 (decide (atF l 8 1=1)) 0 z0 z0
  exact{q with oa:=w32 _,ad:=⟨at_rng l 12 8,at_rng l 20 8⟩}
 ·have q:=b (rrX l) false 0 hx z0
  exact{q with n:=w32 _,t1:=w32 _,t2:=w32 _,t3:=w32 _}
 ·have q:=b 0 (decide (atF l 2 1=1)) 0 z0 z0
  exact{q with ka:=w32 _}
 ·have q:=b 0 false (rrX l) z0 hx
  exact{q with}
 ·have q:=b 0 (decide (atF l 2 1=1)) 0 z0 z0
  exact{q with c:=w32 _,ps:=pvA_rng l _}
 ·exact b 0 false 0 z0 z0
theorem refC_0 {p:Pdu}(h:refC p=0):small p∧p.version≤2∧fldF p=true∧p=bare p:=by
 unfold refC at h
 split at h
 ·cases h
 split at h
 ·cases h
 rename_i h1 h2
 simp only[not_or]at h2
 exact⟨fun hh=>h1 hh,by omega,by simpa using h2.2.1,Classical.not_not.1 h2.2.2⟩
theorem acc_of {l:List Int}(hb:byteL l)(hN:dN l=l.length)(hl:l.length≤4312)(h:(rdF l).2=true∧chk (rdF l).1=0):refC (rrF l)=0∧encB (rrF l)=l∧(rdF l).1=rrF l:=by
 have hok:rdOk l=true:=by
  cases hk:rdOk l with
  |true=>rfl
  |false=>rw[rdF_no hk]at h;cases h.1
 rw[rdF_yes hok]at h⊢
 have e:=rr_eq l hb hok h.1
 refine⟨?_,?_,e.symm⟩
 ·rw[←chk_ref _ (rr_rng l),e];exact h.2
 ·rw[e];exact encB_back hb hok h.1 hN hl
theorem acc_if {l:List Int}(h1:refC (rrF l)=0)(h2:encB (rrF l)=l):(rdF l).2=true∧chk (rdF l).1=0:=by
 obtain⟨a,_,c,d⟩:=refC_0 h1
 have e:=rd_fwd (rrF l) (rr_rng l) a c
 rw[h2,←d]at e
 rw[e]
 exact⟨rfl,(chk_ref _ (rr_rng l)).trans h1⟩
theorem dN_at {l:List Int}(hb:byteL l)(h:8≤l.length):dN l=atF l 4 4:=by
 have e:getV ((l.take 8).drop 4) 4=getV (l.drop 4) 4:=by
  unfold getV
  rw[List.drop_take]
  simp[List.take_take]
 have h4:=getV4_lt (bdrop hb 4) (by rw[List.length_drop];omega)
 unfold dN
 rw[e,IntWalk.i64_in _ (by omega)]
 exact(at_get l hb 4 4 (by omega) (by omega)).symm
theorem dN_take {l:List Int}(h8:8≤dN l)(hl:dN l≤l.length):dN (l.take (dN l).toNat)=(l.take (dN l).toNat).length:=by
 have:dN (l.take (dN l).toNat)=dN l:=by
  unfold dN
  rw[List.take_take,Nat.min_eq_left]
  unfold dN at h8;omega
 rw[this,List.length_take];omega
def rfB (p:Pdu):List Int:=[p.version,p.kind]++num (midF p) 2++num (w64 (IntKind.i64.wrap (8+((rsL p).length:Int)))) 4++rsL p
theorem hd_mid {p:Pdu}(hk:isK p.kind):hdL p=num (midF p) 2:=by
 unfold isK at hk
 unfold hdL
 by_cases h9:p.kind=9∨p.kind=11
 ·rw[if_pos h9,mid_2 h9]
  unfold hd63 flI
  cases p.add
  ·exact num02.symm
  ·rw[num1,num1,num2];rfl
 rw[if_neg h9]
 by_cases h10:p.kind=10
 ·rw[if_pos h10,mid_3 h10];rfl
 rw[if_neg h10]
 by_cases h2:p.kind=2∨p.kind=8∨p.kind=4∨p.kind=6
 ·rw[if_pos h2,mid_0 (by omega)];rfl
 ·rw[if_neg h2,mid_1 (by omega)];rfl
theorem put_eq {p:Pdu}(hr:p.rng)(hk:isK p.kind):rfB p=encB p:=by
 have v:=hr.v
 have k:=hr.k
 have e1:num (w64 p.version) 1=[p.version]:=by
  rw[w64_id v.1 (by omega),num1,Int.emod_eq_of_lt v.1 v.2]
 have e2:num (w64 p.kind) 1=[p.kind]:=by
  rw[w64_id k.1 (by omega),num1,Int.emod_eq_of_lt k.1 k.2]
 unfold rfB encB
 rw[hd_mid hk,e1,e2];rfl
def rfD (l:List Int):Pdu×Int×Int:=if l.length<8 then(zeroP,0,34)else if atF l 4 4<8∨4312<atF l 4 4 then(zeroP,0,12)else if(l.length:Int)<atF l 4 4 then(zeroP,0,34)else
 if refC (rrF (l.take (atF l 4 4).toNat))=0∧rfB (rrF (l.take (atF l 4 4).toNat))=l.take (atF l 4 4).toNat then(rrF (l.take (atF l 4 4).toNat),atF l 4 4,0)else(zeroP,0,12)
theorem rfD_eq (l:List Int)(hb:byteL l):rfD l=decF l:=by
 unfold rfD
 by_cases h1:l.length<8
 ·rw[if_pos h1,dec_1 h1]
 rw[if_neg h1,←dN_at hb (by omega)]
 by_cases h2:dN l<8∨4312<dN l
 ·rw[if_pos h2,dec_2 h1 h2]
 rw[if_neg h2]
 by_cases h3:(l.length:Int)<dN l
 ·rw[if_pos h3,dec_3 h1 h2 h3]
 rw[if_neg h3]
 have hbt:byteL (l.take (dN l).toNat):=byteL_sub hb fun x hx=>List.mem_of_mem_take hx
 have hN:=dN_take (l:=l) (by omega) (by omega)
 have hl:(l.take (dN l).toNat).length≤4312:=by rw[List.length_take];omega
 by_cases h4:(rdF (l.take (dN l).toNat)).2=true∧chk (rdF (l.take (dN l).toNat)).1=0
 ·obtain⟨a,b,c⟩:=acc_of hbt hN hl h4
  have hk:=fld_k (refC_0 a).2.2.1
  rw[if_pos ⟨a,(put_eq (rr_rng _) hk).trans b⟩,dec_5 h1 h2 h3 h4,c]
 ·rw[if_neg,dec_4 h1 h2 h3 h4]
  rintro⟨a,b⟩
  have hk:=fld_k (refC_0 a).2.2.1
  exact h4 (acc_if a ((put_eq (rr_rng _) hk).symm.trans b))
end Gp
namespace Gp
def T15 (p:Pdu):Tell:=
 Tell.mk (fun x x_1=>false) (fun x x_1=>Orc.no) (fun x=>Tree.fail 1000003 0) (fun x=>0) (fun x=>([],[])) (oget [(19,3,5,Orc.call [encD p] (bo (fldF p))),(19,3,11,Orc.call [encD p] (encD (bare p))),(19,3,12,Orc.call [encD p,encD (bare p)] (bo (decide (p=bare p))))]) fun x x_1=>Tree.fail 1000003 0
theorem t15 (p:Pdu):levF prog Proofs.Try.f15 [encD p] (T15 p)=
 Tree.br (decide (4096<(↑(List.length (List.map u8 p.copy)):Int))) (.done Exit.ret (lret (i64 4))) (.br (decide (200<(↑(ByteArray.size p.text):Int))) (.done Exit.ret (lret (i64 4))) (.br (decide (50<(↑(List.length (List.map u32 p.path.provs)):Int))) (.done Exit.ret (lret (i64 4))) (.br (decide (2<p.version)) (.done Exit.ret (lret (i64 8))) (.need (ILeL [encD p] [encD p]∧ASpec prog 37 [encD p] (bo (fldF p))) (.br (!fldF p) (.done Exit.ret (lret (i64 8))) (.need (ILeL [encD p] [encD p]∧ASpec prog 38 [encD p] (encD (bare p))) (.need (ILeL [encD p,encD (bare p)] [encD p,encD (bare
 p)]∧ASpec prog 17 [encD p,encD (bare p)] (bo (decide (p=bare p)))) (.br (!decide (p=bare p)) (.done Exit.ret (lret (i64 8))) (.done Exit.ret (lret (i64 0))))))))))):=by kernel_rfl
theorem refC_b {p:Pdu}(h:4096<p.copy.length∨200<p.text.size∨50<p.path.provs.length):refC p=4:=if_pos h
theorem refC_8 {p:Pdu}(h:¬(4096<p.copy.length∨200<p.text.size∨50<p.path.provs.length))(h2:2<p.version∨fldF p=false∨p≠bare p):refC p=8:=(if_neg h).trans (if_pos h2)
theorem refC_ok {p:Pdu}(h:¬(4096<p.copy.length∨200<p.text.size∨50<p.path.provs.length))(h1:¬2<p.version)(h2:fldF p=true)(h3:p=bare p):refC p=0:=(if_neg h).trans (if_neg fun hh=>by
 rcases hh with h|h|h
 ·exact h1 h
 ·rw[h2]at h;cases h
 ·exact h h3)
theorem c15 (p:Pdu)(h1c:p.copy.length≤2^62)(h2c:p.path.provs.length≤2^62):ASpec prog 15 [encD p] (i64 (refC p)):=by
 refine ASpec.treeW Proofs.Try.f15 (T15 p) (by kernel_rfl) (by kernel_rfl) (t15 p) ?_
 refine⟨fun h1=>⟨_,rfl,?_⟩,fun h1=>⟨fun h2=>⟨_,rfl,?_⟩,fun h2=>⟨fun h3=>⟨_,rfl,?_⟩,fun h3=>⟨fun h4=>⟨_,rfl,?_⟩,fun h4=>need_sat ⟨ILeL.refl _,c37 _⟩ ⟨fun h5=>⟨_,rfl,?_⟩,fun h5=>need_sat ⟨ILeL.refl _,c38 _⟩ (need_sat ⟨ILeL.refl _,c17 _ _ ?_ ?_⟩ ⟨fun h6=>⟨_,rfl,?_⟩,fun h6=>⟨_,rfl,?_⟩⟩)⟩⟩⟩⟩⟩
 all_goals try simp only[decide_eq_true_eq,decide_eq_false_iff_not,List.length_map,Bool.not_eq_true',Bool.not_eq_false']at*
 all_goals first
  |assumption
  |exact ile_eq (congrArg i64 (refC_b (p:=p) (by omega)).symm)
  |exact ile_eq (congrArg i64 (refC_8 (p:=p) (by omega) (.inl (by assumption))).symm)
  |exact ile_eq (congrArg i64 (refC_8 (p:=p) (by omega) (.inr (.inl (by assumption)))).symm)
  |exact ile_eq (congrArg i64 (refC_8 (p:=p) (by omega) (.inr (.inr (by assumption)))).symm)
  |exact ile_eq (congrArg i64 (refC_ok (p:=p) (by omega) (by assumption) (by assumption) (by assumption)).symm)
end Gp
namespace Gp
def at4 (l:List Int)(i n:Int):Orc:=.call [slE 1 u8 l,i64 i,i64 n] (u64 (atF l i.toNat n.toNat))
def rR (l:List Int)(i j:Nat):Int:=if j<i then IntKind.u8.wrap (atF l (13+j) 1)else 0
def bx9 (l:List Int)(i:Nat):AVal:=.agg [.imm (u8 (IntKind.u8.wrap (atF l 0 1))),.imm (u8 (IntKind.u8.wrap (atF l 1 1))),.imm (u16 0),.imm (u32 0),.imm (bo (decide (atF l 2 1=1))),.imm (u32 0),.imm (u8 0),.imm (u64 0),.imm (u64 0),.imm (i64 0),.imm (i64 0),.imm (u32 0),.imm (.v (.slice none 0 0)),.imm (u32 (IntKind.u32.wrap (atF l 8 4))),.imm (u8 (rR l i 0)),.imm (u8 (rR l i 1)),.imm (u8 (rR l i 2)),.imm (u8 (rR l i 3)),.imm (u8 (rR l i 4)),.imm (u8 (rR l i 5)),.imm (u8 (rR l i 6)),.imm (u8 (rR l i 7)),.imm (u8 (rR l i 8)),.imm (u8 (rR l i 9)),.imm (u8 (rR l i 10)),.imm (u8 (rR l i 11)),.imm (u8 (rR l i 12)),.imm (u8 (rR l i 13)),.imm (u8 (rR l i 14)),.imm (u8 (rR l i 15)),.imm (i64 (IntKind.i64.wrap (atF l 12 1))),.imm (u32 0),.imm (u32 0),.imm (u32 0),.imm (u16 0),.imm (.v (.slice none 0 0)),.imm (st .empty)]
def bx11 (l:List Int)(x:AVal):AVal:=.agg [.imm (u8 (IntKind.u8.wrap (atF l 0 1))),.imm (u8 (IntKind.u8.wrap (atF l 1 1))),.imm (u16 0),.imm (u32 0),.imm (bo (decide (atF l 2 1=1))),.imm (u32 0),.imm (u8 0),.imm (u64 0),.imm (u64 0),.imm (i64 0),.imm (i64 0),.imm (u32 (IntKind.u32.wrap (atF l 8 4))),x,.imm (u32 0),.imm (u8 0),.imm (u8 0),.imm (u8 0),.imm (u8 0),.imm (u8 0),.imm (u8 0),.imm (u8 0),.imm (u8 0),.imm (u8 0),.imm (u8 0),.imm (u8 0),.imm (u8 0),.imm (u8 0),.imm (u8 0),.imm (u8 0),.imm (u8 0),.imm (i64 0),.imm (u32 0),.imm (u32 0),.imm (u32 0),.imm (u16 0),.imm (.v (.slice none 0 0)),.imm (st .empty)]
def I22 (l:List Int)(i:Nat):LState:={t:=[(5,.imm (i64 i)),(3,.ptr 8 0),(2,.ptr 0 0),(0,.imm (slE 1 u8 l))],s:=[(0,.box 42 (.imm z42)),(8,.box 42 (bx9 l i))],m:=178,n:=44}
def E22 (l:List Int):LState:={t:=[(3,.ptr 8 0),(2,.ptr 0 0),(0,.imm (slE 1 u8 l))],s:=[(0,.box 42 (.imm z42)),(8,.box 42 (bx9 l 16))],m:=178,n:=44}
def fin22 :Exit→Fin
 |.normal=>⟨[],[5,3,2,0],[0,8]⟩
 |_=>⟨[],[3,2,0],[0,8]⟩
def T22r0 (l:List Int):Tell:=
 Tell.mk (fun x x_1=>false) (fun r j=>if(r==24&&j==4)=true then at4 l 13 1 else Orc.no) (fun x=>Tree.fail 1000003 0) (fun x=>0) (fun x=>([],[])) (ogetO (fun r j=>if(r==24&&j==4)=true then at4 l 13 1 else Orc.no) []) fun x x_1=>Tree.fail 1000003 0
theorem t22r0 (l:List Int):levL prog Proofs.Try.f46 22 (I22 l 0) (T22r0 l) fin22=
 Tree.br true (.need (ILeL [slE 1 u8 l,i64 13,i64 1] [slE 1 u8 l,i64 13,i64 1]∧ASpec prog 45 [slE 1 u8 l,i64 13,i64 1] (u64 (atF l 13 1))) (.done Exit.normal (LState.mk [(5,.imm (i64 1)),(3,.ptr 8 0),(2,.ptr 0 0),(0,.imm (slE 1 u8 l))] [(0,Entry.box 42 (.imm z42)),(8,Entry.box 42 (.agg [.imm (u8 (IntKind.wrap IntKind.u8 (atF l 0 1))),.imm (u8 (IntKind.wrap IntKind.u8 (atF l 1 1))),.imm (u16 0),.imm (u32 0),.imm (bo (decide (atF l 2 1=1))),.imm (u32 0),.imm (u8 0),.imm (u64 0),.imm (u64 0),.imm (i64 0),.imm (i64 0),.imm (u32 0),.imm nS,.imm (u32 (IntKind.wrap IntKind.u32 (atF l 8 4))),.imm
 (u8 (IntKind.wrap IntKind.u8 (atF l 13 1))),.imm (u8 (rR l 0 1)),.imm (u8 (rR l 0 2)),.imm (u8 (rR l 0 3)),.imm (u8 (rR l 0 4)),.imm (u8 (rR l 0 5)),.imm (u8 (rR l 0 6)),.imm (u8 (rR l 0 7)),.imm (u8 (rR l 0 8)),.imm (u8 (rR l 0 9)),.imm (u8 (rR l 0 10)),.imm (u8 (rR l 0 11)),.imm (u8 (rR l 0 12)),.imm (u8 (rR l 0 13)),.imm (u8 (rR l 0 14)),.imm (u8 (rR l 0 15)),.imm (i64 (IntKind.wrap IntKind.i64 (atF l 12 1))),.imm (u32 0),.imm (u32 0),.imm (u32 0),.imm (u16 0),.imm nS,.imm (st (ByteArray.mk (Array.mk [])))]))] 178 60 []))) (.done (Exit.exit 1) (LState.mk [(3,.ptr 8 0),(2,.ptr 0 0),(0,.imm
 (slE 1 u8 l))] [(0,Entry.box 42 (.imm z42)),(8,Entry.box 42 (bx9 l 0))] 178 46 [])):=by kernel_rfl
def T22r1 (l:List Int):Tell:=
 Tell.mk (fun x x_1=>false) (fun r j=>if(r==24&&j==4)=true then at4 l 14 1 else Orc.no) (fun x=>Tree.fail 1000003 0) (fun x=>0) (fun x=>([],[])) (ogetO (fun r j=>if(r==24&&j==4)=true then at4 l 14 1 else Orc.no) []) fun x x_1=>Tree.fail 1000003 0
theorem t22r1 (l:List Int):levL prog Proofs.Try.f46 22 (I22 l 1) (T22r1 l) fin22=
 Tree.br true (.need (ILeL [slE 1 u8 l,i64 14,i64 1] [slE 1 u8 l,i64 14,i64 1]∧ASpec prog 45 [slE 1 u8 l,i64 14,i64 1] (u64 (atF l 14 1))) (.done Exit.normal (LState.mk [(5,.imm (i64 2)),(3,.ptr 8 0),(2,.ptr 0 0),(0,.imm (slE 1 u8 l))] [(0,Entry.box 42 (.imm z42)),(8,Entry.box 42 (.agg [.imm (u8 (IntKind.wrap IntKind.u8 (atF l 0 1))),.imm (u8 (IntKind.wrap IntKind.u8 (atF l 1 1))),.imm (u16 0),.imm (u32 0),.imm (bo (decide (atF l 2 1=1))),.imm (u32 0),.imm (u8 0),.imm (u64 0),.imm (u64 0),.imm (i64 0),.imm (i64 0),.imm (u32 0),.imm nS,.imm (u32 (IntKind.wrap IntKind.u32 (atF l 8 4))),.imm
 (u8 (rR l 1 0)),.imm (u8 (IntKind.wrap IntKind.u8 (atF l 14 1))),.imm (u8 (rR l 1 2)),.imm (u8 (rR l 1 3)),.imm (u8 (rR l 1 4)),.imm (u8 (rR l 1 5)),.imm (u8 (rR l 1 6)),.imm (u8 (rR l 1 7)),.imm (u8 (rR l 1 8)),.imm (u8 (rR l 1 9)),.imm (u8 (rR l 1 10)),.imm (u8 (rR l 1 11)),.imm (u8 (rR l 1 12)),.imm (u8 (rR l 1 13)),.imm (u8 (rR l 1 14)),.imm (u8 (rR l 1 15)),.imm (i64 (IntKind.wrap IntKind.i64 (atF l 12 1))),.imm (u32 0),.imm (u32 0),.imm (u32 0),.imm (u16 0),.imm nS,.imm (st (ByteArray.mk (Array.mk [])))]))] 178 60 []))) (.done (Exit.exit 1) (LState.mk [(3,.ptr 8 0),(2,.ptr 0 0),(0,.imm
 (slE 1 u8 l))] [(0,Entry.box 42 (.imm z42)),(8,Entry.box 42 (bx9 l 1))] 178 46 [])):=by kernel_rfl
def T22r2 (l:List Int):Tell:=
 Tell.mk (fun x x_1=>false) (fun r j=>if(r==24&&j==4)=true then at4 l 15 1 else Orc.no) (fun x=>Tree.fail 1000003 0) (fun x=>0) (fun x=>([],[])) (ogetO (fun r j=>if(r==24&&j==4)=true then at4 l 15 1 else Orc.no) []) fun x x_1=>Tree.fail 1000003 0
theorem t22r2 (l:List Int):levL prog Proofs.Try.f46 22 (I22 l 2) (T22r2 l) fin22=
 Tree.br true (.need (ILeL [slE 1 u8 l,i64 15,i64 1] [slE 1 u8 l,i64 15,i64 1]∧ASpec prog 45 [slE 1 u8 l,i64 15,i64 1] (u64 (atF l 15 1))) (.done Exit.normal (LState.mk [(5,.imm (i64 3)),(3,.ptr 8 0),(2,.ptr 0 0),(0,.imm (slE 1 u8 l))] [(0,Entry.box 42 (.imm z42)),(8,Entry.box 42 (.agg [.imm (u8 (IntKind.wrap IntKind.u8 (atF l 0 1))),.imm (u8 (IntKind.wrap IntKind.u8 (atF l 1 1))),.imm (u16 0),.imm (u32 0),.imm (bo (decide (atF l 2 1=1))),.imm (u32 0),.imm (u8 0),.imm (u64 0),.imm (u64 0),.imm (i64 0),.imm (i64 0),.imm (u32 0),.imm nS,.imm (u32 (IntKind.wrap IntKind.u32 (atF l 8 4))),.imm
 (u8 (rR l 2 0)),.imm (u8 (rR l 2 1)),.imm (u8 (IntKind.wrap IntKind.u8 (atF l 15 1))),.imm (u8 (rR l 2 3)),.imm (u8 (rR l 2 4)),.imm (u8 (rR l 2 5)),.imm (u8 (rR l 2 6)),.imm (u8 (rR l 2 7)),.imm (u8 (rR l 2 8)),.imm (u8 (rR l 2 9)),.imm (u8 (rR l 2 10)),.imm (u8 (rR l 2 11)),.imm (u8 (rR l 2 12)),.imm (u8 (rR l 2 13)),.imm (u8 (rR l 2 14)),.imm (u8 (rR l 2 15)),.imm (i64 (IntKind.wrap IntKind.i64 (atF l 12 1))),.imm (u32 0),.imm (u32 0),.imm (u32 0),.imm (u16 0),.imm nS,.imm (st (ByteArray.mk (Array.mk [])))]))] 178 60 []))) (.done (Exit.exit 1) (LState.mk [(3,.ptr 8 0),(2,.ptr 0 0),(0,.imm
 (slE 1 u8 l))] [(0,Entry.box 42 (.imm z42)),(8,Entry.box 42 (bx9 l 2))] 178 46 [])):=by kernel_rfl
def T22r3 (l:List Int):Tell:=
 Tell.mk (fun x x_1=>false) (fun r j=>if(r==24&&j==4)=true then at4 l 16 1 else Orc.no) (fun x=>Tree.fail 1000003 0) (fun x=>0) (fun x=>([],[])) (ogetO (fun r j=>if(r==24&&j==4)=true then at4 l 16 1 else Orc.no) []) fun x x_1=>Tree.fail 1000003 0
theorem t22r3 (l:List Int):levL prog Proofs.Try.f46 22 (I22 l 3) (T22r3 l) fin22=
 Tree.br true (.need (ILeL [slE 1 u8 l,i64 16,i64 1] [slE 1 u8 l,i64 16,i64 1]∧ASpec prog 45 [slE 1 u8 l,i64 16,i64 1] (u64 (atF l 16 1))) (.done Exit.normal (LState.mk [(5,.imm (i64 4)),(3,.ptr 8 0),(2,.ptr 0 0),(0,.imm (slE 1 u8 l))] [(0,Entry.box 42 (.imm z42)),(8,Entry.box 42 (.agg [.imm (u8 (IntKind.wrap IntKind.u8 (atF l 0 1))),.imm (u8 (IntKind.wrap IntKind.u8 (atF l 1 1))),.imm (u16 0),.imm (u32 0),.imm (bo (decide (atF l 2 1=1))),.imm (u32 0),.imm (u8 0),.imm (u64 0),.imm (u64 0),.imm (i64 0),.imm (i64 0),.imm (u32 0),.imm nS,.imm (u32 (IntKind.wrap IntKind.u32 (atF l 8 4))),.imm
 (u8 (rR l 3 0)),.imm (u8 (rR l 3 1)),.imm (u8 (rR l 3 2)),.imm (u8 (IntKind.wrap IntKind.u8 (atF l 16 1))),.imm (u8 (rR l 3 4)),.imm (u8 (rR l 3 5)),.imm (u8 (rR l 3 6)),.imm (u8 (rR l 3 7)),.imm (u8 (rR l 3 8)),.imm (u8 (rR l 3 9)),.imm (u8 (rR l 3 10)),.imm (u8 (rR l 3 11)),.imm (u8 (rR l 3 12)),.imm (u8 (rR l 3 13)),.imm (u8 (rR l 3 14)),.imm (u8 (rR l 3 15)),.imm (i64 (IntKind.wrap IntKind.i64 (atF l 12 1))),.imm (u32 0),.imm (u32 0),.imm (u32 0),.imm (u16 0),.imm nS,.imm (st (ByteArray.mk (Array.mk [])))]))] 178 60 []))) (.done (Exit.exit 1) (LState.mk [(3,.ptr 8 0),(2,.ptr 0 0),(0,.imm
 (slE 1 u8 l))] [(0,Entry.box 42 (.imm z42)),(8,Entry.box 42 (bx9 l 3))] 178 46 [])):=by kernel_rfl
def T22r4 (l:List Int):Tell:=
 Tell.mk (fun x x_1=>false) (fun r j=>if(r==24&&j==4)=true then at4 l 17 1 else Orc.no) (fun x=>Tree.fail 1000003 0) (fun x=>0) (fun x=>([],[])) (ogetO (fun r j=>if(r==24&&j==4)=true then at4 l 17 1 else Orc.no) []) fun x x_1=>Tree.fail 1000003 0
theorem t22r4 (l:List Int):levL prog Proofs.Try.f46 22 (I22 l 4) (T22r4 l) fin22=
 Tree.br true (.need (ILeL [slE 1 u8 l,i64 17,i64 1] [slE 1 u8 l,i64 17,i64 1]∧ASpec prog 45 [slE 1 u8 l,i64 17,i64 1] (u64 (atF l 17 1))) (.done Exit.normal (LState.mk [(5,.imm (i64 5)),(3,.ptr 8 0),(2,.ptr 0 0),(0,.imm (slE 1 u8 l))] [(0,Entry.box 42 (.imm z42)),(8,Entry.box 42 (.agg [.imm (u8 (IntKind.wrap IntKind.u8 (atF l 0 1))),.imm (u8 (IntKind.wrap IntKind.u8 (atF l 1 1))),.imm (u16 0),.imm (u32 0),.imm (bo (decide (atF l 2 1=1))),.imm (u32 0),.imm (u8 0),.imm (u64 0),.imm (u64 0),.imm (i64 0),.imm (i64 0),.imm (u32 0),.imm nS,.imm (u32 (IntKind.wrap IntKind.u32 (atF l 8 4))),.imm
 (u8 (rR l 4 0)),.imm (u8 (rR l 4 1)),.imm (u8 (rR l 4 2)),.imm (u8 (rR l 4 3)),.imm (u8 (IntKind.wrap IntKind.u8 (atF l 17 1))),.imm (u8 (rR l 4 5)),.imm (u8 (rR l 4 6)),.imm (u8 (rR l 4 7)),.imm (u8 (rR l 4 8)),.imm (u8 (rR l 4 9)),.imm (u8 (rR l 4 10)),.imm (u8 (rR l 4 11)),.imm (u8 (rR l 4 12)),.imm (u8 (rR l 4 13)),.imm (u8 (rR l 4 14)),.imm (u8 (rR l 4 15)),.imm (i64 (IntKind.wrap IntKind.i64 (atF l 12 1))),.imm (u32 0),.imm (u32 0),.imm (u32 0),.imm (u16 0),.imm nS,.imm (st (ByteArray.mk (Array.mk [])))]))] 178 60 []))) (.done (Exit.exit 1) (LState.mk [(3,.ptr 8 0),(2,.ptr 0 0),(0,.imm
 (slE 1 u8 l))] [(0,Entry.box 42 (.imm z42)),(8,Entry.box 42 (bx9 l 4))] 178 46 [])):=by kernel_rfl
def T22r5 (l:List Int):Tell:=
 Tell.mk (fun x x_1=>false) (fun r j=>if(r==24&&j==4)=true then at4 l 18 1 else Orc.no) (fun x=>Tree.fail 1000003 0) (fun x=>0) (fun x=>([],[])) (ogetO (fun r j=>if(r==24&&j==4)=true then at4 l 18 1 else Orc.no) []) fun x x_1=>Tree.fail 1000003 0
theorem t22r5 (l:List Int):levL prog Proofs.Try.f46 22 (I22 l 5) (T22r5 l) fin22=
 Tree.br true (.need (ILeL [slE 1 u8 l,i64 18,i64 1] [slE 1 u8 l,i64 18,i64 1]∧ASpec prog 45 [slE 1 u8 l,i64 18,i64 1] (u64 (atF l 18 1))) (.done Exit.normal (LState.mk [(5,.imm (i64 6)),(3,.ptr 8 0),(2,.ptr 0 0),(0,.imm (slE 1 u8 l))] [(0,Entry.box 42 (.imm z42)),(8,Entry.box 42 (.agg [.imm (u8 (IntKind.wrap IntKind.u8 (atF l 0 1))),.imm (u8 (IntKind.wrap IntKind.u8 (atF l 1 1))),.imm (u16 0),.imm (u32 0),.imm (bo (decide (atF l 2 1=1))),.imm (u32 0),.imm (u8 0),.imm (u64 0),.imm (u64 0),.imm (i64 0),.imm (i64 0),.imm (u32 0),.imm nS,.imm (u32 (IntKind.wrap IntKind.u32 (atF l 8 4))),.imm
 (u8 (rR l 5 0)),.imm (u8 (rR l 5 1)),.imm (u8 (rR l 5 2)),.imm (u8 (rR l 5 3)),.imm (u8 (rR l 5 4)),.imm (u8 (IntKind.wrap IntKind.u8 (atF l 18 1))),.imm (u8 (rR l 5 6)),.imm (u8 (rR l 5 7)),.imm (u8 (rR l 5 8)),.imm (u8 (rR l 5 9)),.imm (u8 (rR l 5 10)),.imm (u8 (rR l 5 11)),.imm (u8 (rR l 5 12)),.imm (u8 (rR l 5 13)),.imm (u8 (rR l 5 14)),.imm (u8 (rR l 5 15)),.imm (i64 (IntKind.wrap IntKind.i64 (atF l 12 1))),.imm (u32 0),.imm (u32 0),.imm (u32 0),.imm (u16 0),.imm nS,.imm (st (ByteArray.mk (Array.mk [])))]))] 178 60 []))) (.done (Exit.exit 1) (LState.mk [(3,.ptr 8 0),(2,.ptr 0 0),(0,.imm
 (slE 1 u8 l))] [(0,Entry.box 42 (.imm z42)),(8,Entry.box 42 (bx9 l 5))] 178 46 [])):=by kernel_rfl
def T22r6 (l:List Int):Tell:=
 Tell.mk (fun x x_1=>false) (fun r j=>if(r==24&&j==4)=true then at4 l 19 1 else Orc.no) (fun x=>Tree.fail 1000003 0) (fun x=>0) (fun x=>([],[])) (ogetO (fun r j=>if(r==24&&j==4)=true then at4 l 19 1 else Orc.no) []) fun x x_1=>Tree.fail 1000003 0
theorem t22r6 (l:List Int):levL prog Proofs.Try.f46 22 (I22 l 6) (T22r6 l) fin22=
 Tree.br true (.need (ILeL [slE 1 u8 l,i64 19,i64 1] [slE 1 u8 l,i64 19,i64 1]∧ASpec prog 45 [slE 1 u8 l,i64 19,i64 1] (u64 (atF l 19 1))) (.done Exit.normal (LState.mk [(5,.imm (i64 7)),(3,.ptr 8 0),(2,.ptr 0 0),(0,.imm (slE 1 u8 l))] [(0,Entry.box 42 (.imm z42)),(8,Entry.box 42 (.agg [.imm (u8 (IntKind.wrap IntKind.u8 (atF l 0 1))),.imm (u8 (IntKind.wrap IntKind.u8 (atF l 1 1))),.imm (u16 0),.imm (u32 0),.imm (bo (decide (atF l 2 1=1))),.imm (u32 0),.imm (u8 0),.imm (u64 0),.imm (u64 0),.imm (i64 0),.imm (i64 0),.imm (u32 0),.imm nS,.imm (u32 (IntKind.wrap IntKind.u32 (atF l 8 4))),.imm
 (u8 (rR l 6 0)),.imm (u8 (rR l 6 1)),.imm (u8 (rR l 6 2)),.imm (u8 (rR l 6 3)),.imm (u8 (rR l 6 4)),.imm (u8 (rR l 6 5)),.imm (u8 (IntKind.wrap IntKind.u8 (atF l 19 1))),.imm (u8 (rR l 6 7)),.imm (u8 (rR l 6 8)),.imm (u8 (rR l 6 9)),.imm (u8 (rR l 6 10)),.imm (u8 (rR l 6 11)),.imm (u8 (rR l 6 12)),.imm (u8 (rR l 6 13)),.imm (u8 (rR l 6 14)),.imm (u8 (rR l 6 15)),.imm (i64 (IntKind.wrap IntKind.i64 (atF l 12 1))),.imm (u32 0),.imm (u32 0),.imm (u32 0),.imm (u16 0),.imm nS,.imm (st (ByteArray.mk (Array.mk [])))]))] 178 60 []))) (.done (Exit.exit 1) (LState.mk [(3,.ptr 8 0),(2,.ptr 0 0),(0,.imm
 (slE 1 u8 l))] [(0,Entry.box 42 (.imm z42)),(8,Entry.box 42 (bx9 l 6))] 178 46 [])):=by kernel_rfl
def T22r7 (l:List Int):Tell:=
 Tell.mk (fun x x_1=>false) (fun r j=>if(r==24&&j==4)=true then at4 l 20 1 else Orc.no) (fun x=>Tree.fail 1000003 0) (fun x=>0) (fun x=>([],[])) (ogetO (fun r j=>if(r==24&&j==4)=true then at4 l 20 1 else Orc.no) []) fun x x_1=>Tree.fail 1000003 0
theorem t22r7 (l:List Int):levL prog Proofs.Try.f46 22 (I22 l 7) (T22r7 l) fin22=
 Tree.br true (.need (ILeL [slE 1 u8 l,i64 20,i64 1] [slE 1 u8 l,i64 20,i64 1]∧ASpec prog 45 [slE 1 u8 l,i64 20,i64 1] (u64 (atF l 20 1))) (.done Exit.normal (LState.mk [(5,.imm (i64 8)),(3,.ptr 8 0),(2,.ptr 0 0),(0,.imm (slE 1 u8 l))] [(0,Entry.box 42 (.imm z42)),(8,Entry.box 42 (.agg [.imm (u8 (IntKind.wrap IntKind.u8 (atF l 0 1))),.imm (u8 (IntKind.wrap IntKind.u8 (atF l 1 1))),.imm (u16 0),.imm (u32 0),.imm (bo (decide (atF l 2 1=1))),.imm (u32 0),.imm (u8 0),.imm (u64 0),.imm (u64 0),.imm (i64 0),.imm (i64 0),.imm (u32 0),.imm nS,.imm (u32 (IntKind.wrap IntKind.u32 (atF l 8 4))),.imm
 (u8 (rR l 7 0)),.imm (u8 (rR l 7 1)),.imm (u8 (rR l 7 2)),.imm (u8 (rR l 7 3)),.imm (u8 (rR l 7 4)),.imm (u8 (rR l 7 5)),.imm (u8 (rR l 7 6)),.imm (u8 (IntKind.wrap IntKind.u8 (atF l 20 1))),.imm (u8 (rR l 7 8)),.imm (u8 (rR l 7 9)),.imm (u8 (rR l 7 10)),.imm (u8 (rR l 7 11)),.imm (u8 (rR l 7 12)),.imm (u8 (rR l 7 13)),.imm (u8 (rR l 7 14)),.imm (u8 (rR l 7 15)),.imm (i64 (IntKind.wrap IntKind.i64 (atF l 12 1))),.imm (u32 0),.imm (u32 0),.imm (u32 0),.imm (u16 0),.imm nS,.imm (st (ByteArray.mk (Array.mk [])))]))] 178 60 []))) (.done (Exit.exit 1) (LState.mk [(3,.ptr 8 0),(2,.ptr 0 0),(0,.imm
 (slE 1 u8 l))] [(0,Entry.box 42 (.imm z42)),(8,Entry.box 42 (bx9 l 7))] 178 46 [])):=by kernel_rfl
def T22r8 (l:List Int):Tell:=
 Tell.mk (fun x x_1=>false) (fun r j=>if(r==24&&j==4)=true then at4 l 21 1 else Orc.no) (fun x=>Tree.fail 1000003 0) (fun x=>0) (fun x=>([],[])) (ogetO (fun r j=>if(r==24&&j==4)=true then at4 l 21 1 else Orc.no) []) fun x x_1=>Tree.fail 1000003 0
theorem t22r8 (l:List Int):levL prog Proofs.Try.f46 22 (I22 l 8) (T22r8 l) fin22=
 Tree.br true (.need (ILeL [slE 1 u8 l,i64 21,i64 1] [slE 1 u8 l,i64 21,i64 1]∧ASpec prog 45 [slE 1 u8 l,i64 21,i64 1] (u64 (atF l 21 1))) (.done Exit.normal (LState.mk [(5,.imm (i64 9)),(3,.ptr 8 0),(2,.ptr 0 0),(0,.imm (slE 1 u8 l))] [(0,Entry.box 42 (.imm z42)),(8,Entry.box 42 (.agg [.imm (u8 (IntKind.wrap IntKind.u8 (atF l 0 1))),.imm (u8 (IntKind.wrap IntKind.u8 (atF l 1 1))),.imm (u16 0),.imm (u32 0),.imm (bo (decide (atF l 2 1=1))),.imm (u32 0),.imm (u8 0),.imm (u64 0),.imm (u64 0),.imm (i64 0),.imm (i64 0),.imm (u32 0),.imm nS,.imm (u32 (IntKind.wrap IntKind.u32 (atF l 8 4))),.imm
 (u8 (rR l 8 0)),.imm (u8 (rR l 8 1)),.imm (u8 (rR l 8 2)),.imm (u8 (rR l 8 3)),.imm (u8 (rR l 8 4)),.imm (u8 (rR l 8 5)),.imm (u8 (rR l 8 6)),.imm (u8 (rR l 8 7)),.imm (u8 (IntKind.wrap IntKind.u8 (atF l 21 1))),.imm (u8 (rR l 8 9)),.imm (u8 (rR l 8 10)),.imm (u8 (rR l 8 11)),.imm (u8 (rR l 8 12)),.imm (u8 (rR l 8 13)),.imm (u8 (rR l 8 14)),.imm (u8 (rR l 8 15)),.imm (i64 (IntKind.wrap IntKind.i64 (atF l 12 1))),.imm (u32 0),.imm (u32 0),.imm (u32 0),.imm (u16 0),.imm nS,.imm (st (ByteArray.mk (Array.mk [])))]))] 178 60 []))) (.done (Exit.exit 1) (LState.mk [(3,.ptr 8 0),(2,.ptr 0 0),(0,.imm
 (slE 1 u8 l))] [(0,Entry.box 42 (.imm z42)),(8,Entry.box 42 (bx9 l 8))] 178 46 [])):=by kernel_rfl
def T22r9 (l:List Int):Tell:=
 Tell.mk (fun x x_1=>false) (fun r j=>if(r==24&&j==4)=true then at4 l 22 1 else Orc.no) (fun x=>Tree.fail 1000003 0) (fun x=>0) (fun x=>([],[])) (ogetO (fun r j=>if(r==24&&j==4)=true then at4 l 22 1 else Orc.no) []) fun x x_1=>Tree.fail 1000003 0
theorem t22r9 (l:List Int):levL prog Proofs.Try.f46 22 (I22 l 9) (T22r9 l) fin22=
 Tree.br true (.need (ILeL [slE 1 u8 l,i64 22,i64 1] [slE 1 u8 l,i64 22,i64 1]∧ASpec prog 45 [slE 1 u8 l,i64 22,i64 1] (u64 (atF l 22 1))) (.done Exit.normal (LState.mk [(5,.imm (i64 10)),(3,.ptr 8 0),(2,.ptr 0 0),(0,.imm (slE 1 u8 l))] [(0,Entry.box 42 (.imm z42)),(8,Entry.box 42 (.agg [.imm (u8 (IntKind.wrap IntKind.u8 (atF l 0 1))),.imm (u8 (IntKind.wrap IntKind.u8 (atF l 1 1))),.imm (u16 0),.imm (u32 0),.imm (bo (decide (atF l 2 1=1))),.imm (u32 0),.imm (u8 0),.imm (u64 0),.imm (u64 0),.imm (i64 0),.imm (i64 0),.imm (u32 0),.imm nS,.imm (u32 (IntKind.wrap IntKind.u32 (atF l 8 4))),.imm
 (u8 (rR l 9 0)),.imm (u8 (rR l 9 1)),.imm (u8 (rR l 9 2)),.imm (u8 (rR l 9 3)),.imm (u8 (rR l 9 4)),.imm (u8 (rR l 9 5)),.imm (u8 (rR l 9 6)),.imm (u8 (rR l 9 7)),.imm (u8 (rR l 9 8)),.imm (u8 (IntKind.wrap IntKind.u8 (atF l 22 1))),.imm (u8 (rR l 9 10)),.imm (u8 (rR l 9 11)),.imm (u8 (rR l 9 12)),.imm (u8 (rR l 9 13)),.imm (u8 (rR l 9 14)),.imm (u8 (rR l 9 15)),.imm (i64 (IntKind.wrap IntKind.i64 (atF l 12 1))),.imm (u32 0),.imm (u32 0),.imm (u32 0),.imm (u16 0),.imm nS,.imm (st (ByteArray.mk (Array.mk [])))]))] 178 60 []))) (.done (Exit.exit 1) (LState.mk [(3,.ptr 8 0),(2,.ptr 0 0),(0,.imm
 (slE 1 u8 l))] [(0,Entry.box 42 (.imm z42)),(8,Entry.box 42 (bx9 l 9))] 178 46 [])):=by kernel_rfl
def T22r10 (l:List Int):Tell:=
 Tell.mk (fun x x_1=>false) (fun r j=>if(r==24&&j==4)=true then at4 l 23 1 else Orc.no) (fun x=>Tree.fail 1000003 0) (fun x=>0) (fun x=>([],[])) (ogetO (fun r j=>if(r==24&&j==4)=true then at4 l 23 1 else Orc.no) []) fun x x_1=>Tree.fail 1000003 0
theorem t22r10 (l:List Int):levL prog Proofs.Try.f46 22 (I22 l 10) (T22r10 l) fin22=
 Tree.br true (.need (ILeL [slE 1 u8 l,i64 23,i64 1] [slE 1 u8 l,i64 23,i64 1]∧ASpec prog 45 [slE 1 u8 l,i64 23,i64 1] (u64 (atF l 23 1))) (.done Exit.normal (LState.mk [(5,.imm (i64 11)),(3,.ptr 8 0),(2,.ptr 0 0),(0,.imm (slE 1 u8 l))] [(0,Entry.box 42 (.imm z42)),(8,Entry.box 42 (.agg [.imm (u8 (IntKind.wrap IntKind.u8 (atF l 0 1))),.imm (u8 (IntKind.wrap IntKind.u8 (atF l 1 1))),.imm (u16 0),.imm (u32 0),.imm (bo (decide (atF l 2 1=1))),.imm (u32 0),.imm (u8 0),.imm (u64 0),.imm (u64 0),.imm (i64 0),.imm (i64 0),.imm (u32 0),.imm nS,.imm (u32 (IntKind.wrap IntKind.u32 (atF l 8 4))),.imm
 (u8 (rR l 10 0)),.imm (u8 (rR l 10 1)),.imm (u8 (rR l 10 2)),.imm (u8 (rR l 10 3)),.imm (u8 (rR l 10 4)),.imm (u8 (rR l 10 5)),.imm (u8 (rR l 10 6)),.imm (u8 (rR l 10 7)),.imm (u8 (rR l 10 8)),.imm (u8 (rR l 10 9)),.imm (u8 (IntKind.wrap IntKind.u8 (atF l 23 1))),.imm (u8 (rR l 10 11)),.imm (u8 (rR l 10 12)),.imm (u8 (rR l 10 13)),.imm (u8 (rR l 10 14)),.imm (u8 (rR l 10 15)),.imm (i64 (IntKind.wrap IntKind.i64 (atF l 12 1))),.imm (u32 0),.imm (u32 0),.imm (u32 0),.imm (u16 0),.imm nS,.imm (st (ByteArray.mk (Array.mk [])))]))] 178 60 []))) (.done (Exit.exit 1) (LState.mk [(3,.ptr 8 0),(2,.ptr 0
 0),(0,.imm (slE 1 u8 l))] [(0,Entry.box 42 (.imm z42)),(8,Entry.box 42 (bx9 l 10))] 178 46 [])):=by kernel_rfl
def T22r11 (l:List Int):Tell:=
 Tell.mk (fun x x_1=>false) (fun r j=>if(r==24&&j==4)=true then at4 l 24 1 else Orc.no) (fun x=>Tree.fail 1000003 0) (fun x=>0) (fun x=>([],[])) (ogetO (fun r j=>if(r==24&&j==4)=true then at4 l 24 1 else Orc.no) []) fun x x_1=>Tree.fail 1000003 0
theorem t22r11 (l:List Int):levL prog Proofs.Try.f46 22 (I22 l 11) (T22r11 l) fin22=
 Tree.br true (.need (ILeL [slE 1 u8 l,i64 24,i64 1] [slE 1 u8 l,i64 24,i64 1]∧ASpec prog 45 [slE 1 u8 l,i64 24,i64 1] (u64 (atF l 24 1))) (.done Exit.normal (LState.mk [(5,.imm (i64 12)),(3,.ptr 8 0),(2,.ptr 0 0),(0,.imm (slE 1 u8 l))] [(0,Entry.box 42 (.imm z42)),(8,Entry.box 42 (.agg [.imm (u8 (IntKind.wrap IntKind.u8 (atF l 0 1))),.imm (u8 (IntKind.wrap IntKind.u8 (atF l 1 1))),.imm (u16 0),.imm (u32 0),.imm (bo (decide (atF l 2 1=1))),.imm (u32 0),.imm (u8 0),.imm (u64 0),.imm (u64 0),.imm (i64 0),.imm (i64 0),.imm (u32 0),.imm nS,.imm (u32 (IntKind.wrap IntKind.u32 (atF l 8 4))),.imm
 (u8 (rR l 11 0)),.imm (u8 (rR l 11 1)),.imm (u8 (rR l 11 2)),.imm (u8 (rR l 11 3)),.imm (u8 (rR l 11 4)),.imm (u8 (rR l 11 5)),.imm (u8 (rR l 11 6)),.imm (u8 (rR l 11 7)),.imm (u8 (rR l 11 8)),.imm (u8 (rR l 11 9)),.imm (u8 (rR l 11 10)),.imm (u8 (IntKind.wrap IntKind.u8 (atF l 24 1))),.imm (u8 (rR l 11 12)),.imm (u8 (rR l 11 13)),.imm (u8 (rR l 11 14)),.imm (u8 (rR l 11 15)),.imm (i64 (IntKind.wrap IntKind.i64 (atF l 12 1))),.imm (u32 0),.imm (u32 0),.imm (u32 0),.imm (u16 0),.imm nS,.imm (st (ByteArray.mk (Array.mk [])))]))] 178 60 []))) (.done (Exit.exit 1) (LState.mk [(3,.ptr 8 0),(2,.ptr 0
 0),(0,.imm (slE 1 u8 l))] [(0,Entry.box 42 (.imm z42)),(8,Entry.box 42 (bx9 l 11))] 178 46 [])):=by kernel_rfl
def T22r12 (l:List Int):Tell:=
 Tell.mk (fun x x_1=>false) (fun r j=>if(r==24&&j==4)=true then at4 l 25 1 else Orc.no) (fun x=>Tree.fail 1000003 0) (fun x=>0) (fun x=>([],[])) (ogetO (fun r j=>if(r==24&&j==4)=true then at4 l 25 1 else Orc.no) []) fun x x_1=>Tree.fail 1000003 0
theorem t22r12 (l:List Int):levL prog Proofs.Try.f46 22 (I22 l 12) (T22r12 l) fin22=
 Tree.br true (.need (ILeL [slE 1 u8 l,i64 25,i64 1] [slE 1 u8 l,i64 25,i64 1]∧ASpec prog 45 [slE 1 u8 l,i64 25,i64 1] (u64 (atF l 25 1))) (.done Exit.normal (LState.mk [(5,.imm (i64 13)),(3,.ptr 8 0),(2,.ptr 0 0),(0,.imm (slE 1 u8 l))] [(0,Entry.box 42 (.imm z42)),(8,Entry.box 42 (.agg [.imm (u8 (IntKind.wrap IntKind.u8 (atF l 0 1))),.imm (u8 (IntKind.wrap IntKind.u8 (atF l 1 1))),.imm (u16 0),.imm (u32 0),.imm (bo (decide (atF l 2 1=1))),.imm (u32 0),.imm (u8 0),.imm (u64 0),.imm (u64 0),.imm (i64 0),.imm (i64 0),.imm (u32 0),.imm nS,.imm (u32 (IntKind.wrap IntKind.u32 (atF l 8 4))),.imm
 (u8 (rR l 12 0)),.imm (u8 (rR l 12 1)),.imm (u8 (rR l 12 2)),.imm (u8 (rR l 12 3)),.imm (u8 (rR l 12 4)),.imm (u8 (rR l 12 5)),.imm (u8 (rR l 12 6)),.imm (u8 (rR l 12 7)),.imm (u8 (rR l 12 8)),.imm (u8 (rR l 12 9)),.imm (u8 (rR l 12 10)),.imm (u8 (rR l 12 11)),.imm (u8 (IntKind.wrap IntKind.u8 (atF l 25 1))),.imm (u8 (rR l 12 13)),.imm (u8 (rR l 12 14)),.imm (u8 (rR l 12 15)),.imm (i64 (IntKind.wrap IntKind.i64 (atF l 12 1))),.imm (u32 0),.imm (u32 0),.imm (u32 0),.imm (u16 0),.imm nS,.imm (st (ByteArray.mk (Array.mk [])))]))] 178 60 []))) (.done (Exit.exit 1) (LState.mk [(3,.ptr 8 0),(2,.ptr 0
 0),(0,.imm (slE 1 u8 l))] [(0,Entry.box 42 (.imm z42)),(8,Entry.box 42 (bx9 l 12))] 178 46 [])):=by kernel_rfl
def T22r13 (l:List Int):Tell:=
 Tell.mk (fun x x_1=>false) (fun r j=>if(r==24&&j==4)=true then at4 l 26 1 else Orc.no) (fun x=>Tree.fail 1000003 0) (fun x=>0) (fun x=>([],[])) (ogetO (fun r j=>if(r==24&&j==4)=true then at4 l 26 1 else Orc.no) []) fun x x_1=>Tree.fail 1000003 0
theorem t22r13 (l:List Int):levL prog Proofs.Try.f46 22 (I22 l 13) (T22r13 l) fin22=
 Tree.br true (.need (ILeL [slE 1 u8 l,i64 26,i64 1] [slE 1 u8 l,i64 26,i64 1]∧ASpec prog 45 [slE 1 u8 l,i64 26,i64 1] (u64 (atF l 26 1))) (.done Exit.normal (LState.mk [(5,.imm (i64 14)),(3,.ptr 8 0),(2,.ptr 0 0),(0,.imm (slE 1 u8 l))] [(0,Entry.box 42 (.imm z42)),(8,Entry.box 42 (.agg [.imm (u8 (IntKind.wrap IntKind.u8 (atF l 0 1))),.imm (u8 (IntKind.wrap IntKind.u8 (atF l 1 1))),.imm (u16 0),.imm (u32 0),.imm (bo (decide (atF l 2 1=1))),.imm (u32 0),.imm (u8 0),.imm (u64 0),.imm (u64 0),.imm (i64 0),.imm (i64 0),.imm (u32 0),.imm nS,.imm (u32 (IntKind.wrap IntKind.u32 (atF l 8 4))),.imm
 (u8 (rR l 13 0)),.imm (u8 (rR l 13 1)),.imm (u8 (rR l 13 2)),.imm (u8 (rR l 13 3)),.imm (u8 (rR l 13 4)),.imm (u8 (rR l 13 5)),.imm (u8 (rR l 13 6)),.imm (u8 (rR l 13 7)),.imm (u8 (rR l 13 8)),.imm (u8 (rR l 13 9)),.imm (u8 (rR l 13 10)),.imm (u8 (rR l 13 11)),.imm (u8 (rR l 13 12)),.imm (u8 (IntKind.wrap IntKind.u8 (atF l 26 1))),.imm (u8 (rR l 13 14)),.imm (u8 (rR l 13 15)),.imm (i64 (IntKind.wrap IntKind.i64 (atF l 12 1))),.imm (u32 0),.imm (u32 0),.imm (u32 0),.imm (u16 0),.imm nS,.imm (st (ByteArray.mk (Array.mk [])))]))] 178 60 []))) (.done (Exit.exit 1) (LState.mk [(3,.ptr 8 0),(2,.ptr 0
 0),(0,.imm (slE 1 u8 l))] [(0,Entry.box 42 (.imm z42)),(8,Entry.box 42 (bx9 l 13))] 178 46 [])):=by kernel_rfl
def T22r14 (l:List Int):Tell:=
 Tell.mk (fun x x_1=>false) (fun r j=>if(r==24&&j==4)=true then at4 l 27 1 else Orc.no) (fun x=>Tree.fail 1000003 0) (fun x=>0) (fun x=>([],[])) (ogetO (fun r j=>if(r==24&&j==4)=true then at4 l 27 1 else Orc.no) []) fun x x_1=>Tree.fail 1000003 0
theorem t22r14 (l:List Int):levL prog Proofs.Try.f46 22 (I22 l 14) (T22r14 l) fin22=
 Tree.br true (.need (ILeL [slE 1 u8 l,i64 27,i64 1] [slE 1 u8 l,i64 27,i64 1]∧ASpec prog 45 [slE 1 u8 l,i64 27,i64 1] (u64 (atF l 27 1))) (.done Exit.normal (LState.mk [(5,.imm (i64 15)),(3,.ptr 8 0),(2,.ptr 0 0),(0,.imm (slE 1 u8 l))] [(0,Entry.box 42 (.imm z42)),(8,Entry.box 42 (.agg [.imm (u8 (IntKind.wrap IntKind.u8 (atF l 0 1))),.imm (u8 (IntKind.wrap IntKind.u8 (atF l 1 1))),.imm (u16 0),.imm (u32 0),.imm (bo (decide (atF l 2 1=1))),.imm (u32 0),.imm (u8 0),.imm (u64 0),.imm (u64 0),.imm (i64 0),.imm (i64 0),.imm (u32 0),.imm nS,.imm (u32 (IntKind.wrap IntKind.u32 (atF l 8 4))),.imm
 (u8 (rR l 14 0)),.imm (u8 (rR l 14 1)),.imm (u8 (rR l 14 2)),.imm (u8 (rR l 14 3)),.imm (u8 (rR l 14 4)),.imm (u8 (rR l 14 5)),.imm (u8 (rR l 14 6)),.imm (u8 (rR l 14 7)),.imm (u8 (rR l 14 8)),.imm (u8 (rR l 14 9)),.imm (u8 (rR l 14 10)),.imm (u8 (rR l 14 11)),.imm (u8 (rR l 14 12)),.imm (u8 (rR l 14 13)),.imm (u8 (IntKind.wrap IntKind.u8 (atF l 27 1))),.imm (u8 (rR l 14 15)),.imm (i64 (IntKind.wrap IntKind.i64 (atF l 12 1))),.imm (u32 0),.imm (u32 0),.imm (u32 0),.imm (u16 0),.imm nS,.imm (st (ByteArray.mk (Array.mk [])))]))] 178 60 []))) (.done (Exit.exit 1) (LState.mk [(3,.ptr 8 0),(2,.ptr 0
 0),(0,.imm (slE 1 u8 l))] [(0,Entry.box 42 (.imm z42)),(8,Entry.box 42 (bx9 l 14))] 178 46 [])):=by kernel_rfl
def T22r15 (l:List Int):Tell:=
 Tell.mk (fun x x_1=>false) (fun r j=>if(r==24&&j==4)=true then at4 l 28 1 else Orc.no) (fun x=>Tree.fail 1000003 0) (fun x=>0) (fun x=>([],[])) (ogetO (fun r j=>if(r==24&&j==4)=true then at4 l 28 1 else Orc.no) []) fun x x_1=>Tree.fail 1000003 0
theorem t22r15 (l:List Int):levL prog Proofs.Try.f46 22 (I22 l 15) (T22r15 l) fin22=
 Tree.br true (.need (ILeL [slE 1 u8 l,i64 28,i64 1] [slE 1 u8 l,i64 28,i64 1]∧ASpec prog 45 [slE 1 u8 l,i64 28,i64 1] (u64 (atF l 28 1))) (.done Exit.normal (LState.mk [(5,.imm (i64 16)),(3,.ptr 8 0),(2,.ptr 0 0),(0,.imm (slE 1 u8 l))] [(0,Entry.box 42 (.imm z42)),(8,Entry.box 42 (.agg [.imm (u8 (IntKind.wrap IntKind.u8 (atF l 0 1))),.imm (u8 (IntKind.wrap IntKind.u8 (atF l 1 1))),.imm (u16 0),.imm (u32 0),.imm (bo (decide (atF l 2 1=1))),.imm (u32 0),.imm (u8 0),.imm (u64 0),.imm (u64 0),.imm (i64 0),.imm (i64 0),.imm (u32 0),.imm nS,.imm (u32 (IntKind.wrap IntKind.u32 (atF l 8 4))),.imm
 (u8 (rR l 15 0)),.imm (u8 (rR l 15 1)),.imm (u8 (rR l 15 2)),.imm (u8 (rR l 15 3)),.imm (u8 (rR l 15 4)),.imm (u8 (rR l 15 5)),.imm (u8 (rR l 15 6)),.imm (u8 (rR l 15 7)),.imm (u8 (rR l 15 8)),.imm (u8 (rR l 15 9)),.imm (u8 (rR l 15 10)),.imm (u8 (rR l 15 11)),.imm (u8 (rR l 15 12)),.imm (u8 (rR l 15 13)),.imm (u8 (rR l 15 14)),.imm (u8 (IntKind.wrap IntKind.u8 (atF l 28 1))),.imm (i64 (IntKind.wrap IntKind.i64 (atF l 12 1))),.imm (u32 0),.imm (u32 0),.imm (u32 0),.imm (u16 0),.imm nS,.imm (st (ByteArray.mk (Array.mk [])))]))] 178 60 []))) (.done (Exit.exit 1) (LState.mk [(3,.ptr 8 0),(2,.ptr 0
 0),(0,.imm (slE 1 u8 l))] [(0,Entry.box 42 (.imm z42)),(8,Entry.box 42 (bx9 l 15))] 178 46 [])):=by kernel_rfl
def T22r16 (l:List Int):Tell:=
 Tell.mk (fun x x_1=>false) (fun x x_1=>Orc.no) (fun x=>Tree.fail 1000003 0) (fun x=>0) (fun x=>([],[])) (fun x x_1 x_2=>Orc.no) fun x x_1=>Tree.fail 1000003 0
theorem t22r16 (l:List Int):levL prog Proofs.Try.f46 22 (I22 l 16) (T22r16 l) fin22=
 Tree.br false (.stop (LState.mk [(118,.imm (i64 29)),(117,.imm (i64 16)),(116,.imm (slE 1 u8 l)),(115,.imm (i64 16)),(112,.imm (bo false)),(111,.imm (i64 16)),(5,.imm (i64 16)),(3,.ptr 8 0),(2,.ptr 0 0),(0,.imm (slE 1 u8 l))] [(0,Entry.box 42 (.imm z42)),(8,Entry.box 42 (bx9 l 16))] 178 46 []) 24 4 (Op.call (Call.mk (Callee.value (Operand.func 45)) (Array.mk [Operand.tmp 116,Operand.tmp 118,Operand.const (Value.int IntKind.i64 1)]) (Array.mk [40,3,3])))) (.done (Exit.exit 1) (LState.mk [(3,.ptr 8 0),(2,.ptr 0 0),(0,.imm (slE 1 u8 l))] [(0,Entry.box 42 (.imm z42)),(8,Entry.box 42 (bx9 l 16))]
 178 46 [])):=by kernel_rfl
noncomputable def U22 (l:List Int):Nat→Tell
 |0=>T22r0 l
 |1=>T22r1 l
 |2=>T22r2 l
 |3=>T22r3 l
 |4=>T22r4 l
 |5=>T22r5 l
 |6=>T22r6 l
 |7=>T22r7 l
 |8=>T22r8 l
 |9=>T22r9 l
 |10=>T22r10 l
 |11=>T22r11 l
 |12=>T22r12 l
 |13=>T22r13 l
 |14=>T22r14 l
 |15=>T22r15 l
 |_=>T22r16 l
def I33 (l:List Int)(i:Nat):LState:={t:=[(6,.imm (i64 (12+4*i:Nat))),(3,.ptr 8 0),(2,.ptr 0 0),(0,.imm (slE 1 u8 l))],s:=[(0,.box 42 (.imm z42)),(8,.box 42 (bx11 l (.own 50 i))),(50,.row 23 1 ((pvA l i).map u32))],m:=178,n:=60}
def E33 (l:List Int)(n:Nat):LState:={t:=[(3,.ptr 8 0),(2,.ptr 0 0),(0,.imm (slE 1 u8 l))],s:=[(0,.box 42 (.imm z42)),(8,.box 42 (bx11 l (.own 50 n))),(50,.row 23 1 ((pvA l n).map u32))],m:=178,n:=60}
def fin33 :Exit→Nat→Fin
 |.normal,_=>⟨[(50,73)],[6,3,2,0],[0,8,50]⟩
 |_,_=>⟨[],[3,2,0],[0,8,50]⟩
def T33r (l:List Int)(i:Nat):Tell:=
 Tell.mk (fun x x_1=>false) (fun r j=>if(r==35&&j==5)=true then at4 l (↑(12+4*i):Int) 4 else Orc.no) (fun x=>Tree.fail 1000003 0) (fun x=>0) (fun x=>([],[])) (ogetO (fun r j=>if(r==35&&j==5)=true then at4 l (↑(12+4*i):Int) 4 else Orc.no) []) fun x x_1=>Tree.fail 1000003 0
theorem t33r (l:List Int)(i:Nat):levLN prog Proofs.Try.f46 33 (I33 l i) (T33r l i) fin33=
 (let q0:=List.map u32 (pvA l i);
 Tree.br (decide (IntKind.wrap IntKind.i64 ((↑(12+4*i):Int)+4)≤(↑(List.length (List.map u8 l)):Int))) (.need (ILeL [slE 1 u8 l,i64 (↑(12+4*i):Int),i64 4] [slE 1 u8 l,i64 (↑(12+4*i):Int),i64 4]∧ASpec prog 45 [slE 1 u8 l,i64 (↑(12+4*i):Int),i64 4] (u64 (atF l (12+4*i) 4))) (.need (askA (some (1=1)) (List.length q0=i∧cellsOk q0=true∧true=true∧i+1≤1000000)) (.done Exit.normal (LState.mk [(6,.imm (i64 (IntKind.wrap IntKind.i64 ((↑(12+4*i):Int)+4)))),(3,.ptr 8 0),(2,.ptr 0 0),(0,.imm (slE 1 u8 l))] [(0,Entry.box 42 (.imm z42)),(8,Entry.box
 42 (.agg [.imm (u8 (IntKind.wrap IntKind.u8 (atF l 0 1))),.imm (u8 (IntKind.wrap IntKind.u8 (atF l 1 1))),.imm (u16 0),.imm (u32 0),.imm (bo (decide (atF l 2 1=1))),.imm (u32 0),.imm (u8 0),.imm (u64 0),.imm (u64 0),.imm (i64 0),.imm (i64 0),.imm (u32 (IntKind.wrap IntKind.u32 (atF l 8 4))),.own 50 (i+1),.imm (u32 0),.imm (u8 0),.imm (u8 0),.imm (u8 0),.imm (u8 0),.imm (u8 0),.imm (u8 0),.imm (u8 0),.imm (u8 0),.imm (u8 0),.imm (u8 0),.imm (u8 0),.imm (u8 0),.imm (u8 0),.imm (u8 0),.imm (u8 0),.imm (u8 0),.imm (i64 0),.imm (u32 0),.imm (u32 0),.imm (u32 0),.imm (u16 0),.imm nS,.imm (st
 (ByteArray.mk (Array.mk [])))])),(50,Entry.row 23 1 (List.map u32 (pvA l i)++[u32 (IntKind.wrap IntKind.u32 (atF l (12+4*i) 4))]))] 178 80 [])))) (.done (Exit.exit 3) (LState.mk [(3,.ptr 8 0),(2,.ptr 0 0),(0,.imm (slE 1 u8 l))] [(0,Entry.box 42 (.imm z42)),(8,Entry.box 42 (bx11 l (.own 50 i))),(50,Entry.row 23 1 q0)] 178 65 []))):=by kernel_rfl
theorem l22 (l:List Int)(hl:l.length≤1000000)(σ:LState)(h:LSub σ (I22 l 0)):LoopOk prog [] (bodyOf Proofs.Try.f46) 22 σ (.done (.exit 1) (E22 l)):=by
 refine LoopOk.count 16 1 (I22 l) (E22 l) (U22 l) fin22 (by kernel_rfl) h fun i hi=>?_
 match i,hi with
 |0,_=>
  show (levL prog Proofs.Try.f46 22 (I22 l 0) (T22r0 l) fin22).sat _ _
  rw[t22r0]
  exact⟨fun _=>need_sat ⟨ILeL.refl _,c45 l 13 1 (by decide) (by decide) (by decide) (by decide) hl⟩ ⟨by decide,⟨rfl,rfl,rfl,rfl,trivial⟩,⟨rfl,rfl,trivial⟩,rfl,rfl,rfl⟩,fun h=>(by cases h)⟩
 |1,_=>
  show (levL prog Proofs.Try.f46 22 (I22 l 1) (T22r1 l) fin22).sat _ _
  rw[t22r1]
  exact⟨fun _=>need_sat ⟨ILeL.refl _,c45 l 14 1 (by decide) (by decide) (by decide) (by decide) hl⟩ ⟨by decide,⟨rfl,rfl,rfl,rfl,trivial⟩,⟨rfl,rfl,trivial⟩,rfl,rfl,rfl⟩,fun h=>(by cases h)⟩
 |2,_=>
  show (levL prog Proofs.Try.f46 22 (I22 l 2) (T22r2 l) fin22).sat _ _
  rw[t22r2]
  exact⟨fun _=>need_sat ⟨ILeL.refl _,c45 l 15 1 (by decide) (by decide) (by decide) (by decide) hl⟩ ⟨by decide,⟨rfl,rfl,rfl,rfl,trivial⟩,⟨rfl,rfl,trivial⟩,rfl,rfl,rfl⟩,fun h=>(by cases h)⟩
 |3,_=>
  show (levL prog Proofs.Try.f46 22 (I22 l 3) (T22r3 l) fin22).sat _ _
  rw[t22r3]
  exact⟨fun _=>need_sat ⟨ILeL.refl _,c45 l 16 1 (by decide) (by decide) (by decide) (by decide) hl⟩ ⟨by decide,⟨rfl,rfl,rfl,rfl,trivial⟩,⟨rfl,rfl,trivial⟩,rfl,rfl,rfl⟩,fun h=>(by cases h)⟩
 |4,_=>
  show (levL prog Proofs.Try.f46 22 (I22 l 4) (T22r4 l) fin22).sat _ _
  rw[t22r4]
  exact⟨fun _=>need_sat ⟨ILeL.refl _,c45 l 17 1 (by decide) (by decide) (by decide) (by decide) hl⟩ ⟨by decide,⟨rfl,rfl,rfl,rfl,trivial⟩,⟨rfl,rfl,trivial⟩,rfl,rfl,rfl⟩,fun h=>(by cases h)⟩
 |5,_=>
  show (levL prog Proofs.Try.f46 22 (I22 l 5) (T22r5 l) fin22).sat _ _
  rw[t22r5]
  exact⟨fun _=>need_sat ⟨ILeL.refl _,c45 l 18 1 (by decide) (by decide) (by decide) (by decide) hl⟩ ⟨by decide,⟨rfl,rfl,rfl,rfl,trivial⟩,⟨rfl,rfl,trivial⟩,rfl,rfl,rfl⟩,fun h=>(by cases h)⟩
 |6,_=>
  show (levL prog Proofs.Try.f46 22 (I22 l 6) (T22r6 l) fin22).sat _ _
  rw[t22r6]
  exact⟨fun _=>need_sat ⟨ILeL.refl _,c45 l 19 1 (by decide) (by decide) (by decide) (by decide) hl⟩ ⟨by decide,⟨rfl,rfl,rfl,rfl,trivial⟩,⟨rfl,rfl,trivial⟩,rfl,rfl,rfl⟩,fun h=>(by cases h)⟩
 |7,_=>
  show (levL prog Proofs.Try.f46 22 (I22 l 7) (T22r7 l) fin22).sat _ _
  rw[t22r7]
  exact⟨fun _=>need_sat ⟨ILeL.refl _,c45 l 20 1 (by decide) (by decide) (by decide) (by decide) hl⟩ ⟨by decide,⟨rfl,rfl,rfl,rfl,trivial⟩,⟨rfl,rfl,trivial⟩,rfl,rfl,rfl⟩,fun h=>(by cases h)⟩
 |8,_=>
  show (levL prog Proofs.Try.f46 22 (I22 l 8) (T22r8 l) fin22).sat _ _
  rw[t22r8]
  exact⟨fun _=>need_sat ⟨ILeL.refl _,c45 l 21 1 (by decide) (by decide) (by decide) (by decide) hl⟩ ⟨by decide,⟨rfl,rfl,rfl,rfl,trivial⟩,⟨rfl,rfl,trivial⟩,rfl,rfl,rfl⟩,fun h=>(by cases h)⟩
 |9,_=>
  show (levL prog Proofs.Try.f46 22 (I22 l 9) (T22r9 l) fin22).sat _ _
  rw[t22r9]
  exact⟨fun _=>need_sat ⟨ILeL.refl _,c45 l 22 1 (by decide) (by decide) (by decide) (by decide) hl⟩ ⟨by decide,⟨rfl,rfl,rfl,rfl,trivial⟩,⟨rfl,rfl,trivial⟩,rfl,rfl,rfl⟩,fun h=>(by cases h)⟩
 |10,_=>
  show (levL prog Proofs.Try.f46 22 (I22 l 10) (T22r10 l) fin22).sat _ _
  rw[t22r10]
  exact⟨fun _=>need_sat ⟨ILeL.refl _,c45 l 23 1 (by decide) (by decide) (by decide) (by decide) hl⟩ ⟨by decide,⟨rfl,rfl,rfl,rfl,trivial⟩,⟨rfl,rfl,trivial⟩,rfl,rfl,rfl⟩,fun h=>(by cases h)⟩
 |11,_=>
  show (levL prog Proofs.Try.f46 22 (I22 l 11) (T22r11 l) fin22).sat _ _
  rw[t22r11]
  exact⟨fun _=>need_sat ⟨ILeL.refl _,c45 l 24 1 (by decide) (by decide) (by decide) (by decide) hl⟩ ⟨by decide,⟨rfl,rfl,rfl,rfl,trivial⟩,⟨rfl,rfl,trivial⟩,rfl,rfl,rfl⟩,fun h=>(by cases h)⟩
 |12,_=>
  show (levL prog Proofs.Try.f46 22 (I22 l 12) (T22r12 l) fin22).sat _ _
  rw[t22r12]
  exact⟨fun _=>need_sat ⟨ILeL.refl _,c45 l 25 1 (by decide) (by decide) (by decide) (by decide) hl⟩ ⟨by decide,⟨rfl,rfl,rfl,rfl,trivial⟩,⟨rfl,rfl,trivial⟩,rfl,rfl,rfl⟩,fun h=>(by cases h)⟩
 |13,_=>
  show (levL prog Proofs.Try.f46 22 (I22 l 13) (T22r13 l) fin22).sat _ _
  rw[t22r13]
  exact⟨fun _=>need_sat ⟨ILeL.refl _,c45 l 26 1 (by decide) (by decide) (by decide) (by decide) hl⟩ ⟨by decide,⟨rfl,rfl,rfl,rfl,trivial⟩,⟨rfl,rfl,trivial⟩,rfl,rfl,rfl⟩,fun h=>(by cases h)⟩
 |14,_=>
  show (levL prog Proofs.Try.f46 22 (I22 l 14) (T22r14 l) fin22).sat _ _
  rw[t22r14]
  exact⟨fun _=>need_sat ⟨ILeL.refl _,c45 l 27 1 (by decide) (by decide) (by decide) (by decide) hl⟩ ⟨by decide,⟨rfl,rfl,rfl,rfl,trivial⟩,⟨rfl,rfl,trivial⟩,rfl,rfl,rfl⟩,fun h=>(by cases h)⟩
 |15,_=>
  show (levL prog Proofs.Try.f46 22 (I22 l 15) (T22r15 l) fin22).sat _ _
  rw[t22r15]
  exact⟨fun _=>need_sat ⟨ILeL.refl _,c45 l 28 1 (by decide) (by decide) (by decide) (by decide) hl⟩ ⟨by decide,⟨rfl,rfl,rfl,rfl,trivial⟩,⟨rfl,rfl,trivial⟩,rfl,rfl,rfl⟩,fun h=>(by cases h)⟩
 |16,_=>
  show (levL prog Proofs.Try.f46 22 (I22 l 16) (T22r16 l) fin22).sat _ _
  rw[t22r16]
  exact⟨fun h=>(by cases h),fun _=>⟨rfl,by decide,⟨rfl,rfl,rfl,trivial⟩,⟨rfl,rfl,trivial⟩,rfl,rfl,rfl⟩⟩
 |n+17,h=>omega
theorem pvA_succ (l:List Int)(n:Nat):pvA l (n+1)=pvA l n++[IntKind.u32.wrap (atF l (12+4*n) 4)]:=by simp[pvA,List.range_succ]
theorem pvA_len (l:List Int)(n:Nat):(pvA l n).length=n:=by simp[pvA]
theorem l33 (l:List Int)(n:Nat)(hl:l.length≤1000000)(h8:8≤l.length)(hn:n=(l.length-8)/4-1)(σ:LState)(h:LSub σ (I33 l 0)):LoopOk prog [] (bodyOf Proofs.Try.f46) 33 σ (.done (.exit 3) (E33 l n)):=by
 refine LoopOk.countN n 3 (I33 l) (E33 l n) (T33r l) fin33 (by kernel_rfl) h fun i hi=>?_
 rw[t33r]
 have ew:IntKind.i64.wrap (((12+4*i:Nat):Int)+4)=((12+4*(i+1):Nat):Int):=by rw[IntWalk.i64_in _ (by omega)];omega
 rw[ew,List.length_map]
 refine⟨fun h1=>need_sat ⟨ILeL.refl _,?_⟩ (need_sat ⟨⟨by rw[List.length_map,pvA_len],cellsOk_map u32 (fun _=>rfl) _,rfl,by omega⟩,rfl⟩ ?_),fun h1=>?_⟩
 ·have:=of_decide_eq_true h1
  exact c45 l _ 4 (by omega) (by omega) (by decide) (by decide) hl
 ·have h1':=of_decide_eq_true h1
  refine⟨by omega,⟨rfl,rfl,rfl,rfl,trivial⟩,⟨rfl,rfl,?_,trivial⟩,rfl,rfl,rfl⟩
  rw[pvA_succ,List.map_append];rfl
 ·have h1':=of_decide_eq_false h1
  have:i=n:=by omega
  subst this
  exact⟨rfl,by omega,⟨rfl,rfl,rfl,trivial⟩,⟨rfl,rfl,rfl,trivial⟩,rfl,rfl,rfl⟩
end Gp
