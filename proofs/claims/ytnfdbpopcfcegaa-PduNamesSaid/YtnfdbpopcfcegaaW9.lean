/- PROVED HERE: the statement PduNamesSaid: whatever comes in, the law returns true and each argument reads as before. No condition. -/
import Derived.Test.YtnfdbpopcfcegaaW8
set_option maxRecDepth 100000
set_option maxHeartbeats 0
set_option linter.unusedVariables false
set_option linter.unusedSimpArgs false
open Go Go.Abs
noncomputable section
namespace Gp
theorem gN1 (x : Int) (r : List Int) (h : 0 ≤ x ∧ x < 256) : getV (num x 1 ++ r) 1 = x := by
  rw [num1]
  show getV (_ :: r) 1 = x
  rw [getV1 _ r (by omega)]; omega
theorem gN2 (x : Int) (r : List Int) (h : 0 ≤ x ∧ x < 65536) : getV (num x 2 ++ r) 2 = x := by
  rw [num2]
  show getV (_ :: _ :: r) 2 = x
  rw [getV2 _ _ r (by omega) (by omega)]; omega
theorem gN8 (x : Int) (r : List Int) (h : 0 ≤ x ∧ x < 2 ^ 64) : getV (num x 8 ++ r) 8 = x := by
  rw [num8]
  show getV (_ :: _ :: _ :: _ :: _ :: _ :: _ :: _ :: r) 8 = x
  rw [getV8 _ _ _ _ _ _ _ _ r (by omega) (by omega) (by omega) (by omega) (by omega) (by omega) (by omega) (by omega)]; omega
theorem gFl (b : Bool) (r : List Int) : getV (flI b ++ r) 1 = if b = true then 1 else 0 := by
  unfold flI
  rw [gN1 _ r (by split <;> omega)]
theorem gFd (b : Bool) (r : List Int) : decide (getV (flI b ++ r) 1 = 1) = b := by
  rw [gFl]; cases b <;> rfl
theorem gFle (b : Bool) (r : List Int) : getV (flI b ++ r) 1 ≤ 1 := by
  rw [gFl]; cases b <;> decide
theorem dA (a r : List Int) (k : Nat) (h : a.length = k) (n : Nat) : (a ++ r).drop (k + n) = r.drop n := by
  subst h; rw [List.drop_append]; simp
theorem d1 (x : Int) (r : List Int) (n : Nat) : (num x 1 ++ r).drop (1 + n) = r.drop n := dA _ r 1 (num_len _ _) n
theorem dF1 (b : Bool) (r : List Int) (n : Nat) : (flI b ++ r).drop (1 + n) = r.drop n := dA _ r 1 (flI_len _) n
theorem d4 (x : Int) (r : List Int) (n : Nat) : (num x 4 ++ r).drop (4 + n) = r.drop n := dA _ r 4 (num_len _ _) n
theorem d8' (x : Int) (r : List Int) (n : Nat) : (num x 8 ++ r).drop (8 + n) = r.drop n := dA _ r 8 (num_len _ _) n
theorem u32N (x : Int) (r : List Int) (h : 0 ≤ x ∧ x < 4294967296) : gu32 (num (w64 x) 4 ++ r) = x := by
  unfold gu32
  rw [w64_id h.1 (by omega), getV_num4 x r h.1 (by omega)]
  show x % 4294967296 = x
  omega
theorem u16N (x : Int) (r : List Int) (h : 0 ≤ x ∧ x < 65536) : gu16 (num (w64 x) 2 ++ r) = x := by
  unfold gu16
  rw [w64_id h.1 (by omega), gN2 x r h]
  show x % 65536 = x
  omega
theorem u8N (x : Int) (r : List Int) (h : 0 ≤ x ∧ x < 256) : gu8 (num (w64 x) 1 ++ r) = x := by
  unfold gu8
  rw [w64_id h.1 (by omega), gN1 x r h]
  show x % 256 = x
  omega
theorem giN (x : Int) (r : List Int) (h : 0 ≤ x ∧ x < 256) : gi (num (w64 x) 1 ++ r) = x := by
  unfold gi
  rw [w64_id h.1 (by omega), gN1 x r h]
  exact IntWalk.i64_in _ (by omega)
theorem gnN (x : Int) (r : List Int) (h : 0 ≤ x ∧ x < 4294967296) : gn (num (w64 x) 4 ++ r) = x := by
  unfold gn
  rw [w64_id h.1 (by omega), getV_num4 x r h.1 (by omega)]
  exact IntWalk.i64_in _ (by omega)
theorem bstr_bytesL (s : ByteArray) : bstr (bytesL s) = s := by
  have e : (bstr (bytesL s)).data.toList = s.data.toList := by
    unfold bstr bytesL
    rw [bstr_data]
    show ([] : List UInt8) ++ _ = _
    rw [List.nil_append, List.map_map]
    refine List.ext_getElem (by simp) fun i h1 h2 => ?_
    simp
  have e2 : (bstr (bytesL s)).data = s.data := Array.ext' e
  cases s with | mk d => cases hb : bstr (bytesL ⟨d⟩) with | mk d' => rw [hb] at e2; exact congrArg ByteArray.mk e2
theorem pvL_cons (x : Int) (l : List Int) : pvL (x :: l) = num (w64 x) 4 ++ pvL l := rfl
theorem pvL_drop : ∀ (l : List Int) (i : Nat), (pvL l).drop (4 * i) = pvL (l.drop i)
  | _, 0 => rfl
  | [], i + 1 => by simp [pvL]
  | x :: l, i + 1 => by
    rw [pvL_cons, show 4 * (i + 1) = 4 + 4 * i from by omega, d4, pvL_drop l i]; rfl
theorem pv_fwd (l : List Int) (h : ∀ x ∈ l, 0 ≤ x ∧ x < 4294967296) : pvR (pvL l) l.length = l := by
  refine List.ext_getElem (pvR_len _ _) fun i h1 h2 => ?_
  show (pvR (pvL l) l.length)[i] = l[i]
  simp only [pvR, List.getElem_map, List.getElem_range]
  rw [pvL_drop, List.drop_eq_getElem_cons h2, pvL_cons]
  exact u32N _ _ (h _ (List.getElem_mem h2))
end Gp
namespace Gp
def encR (p : Pdu) : List Int := num (w64 (IntKind.i64.wrap (8 + ((rsL p).length : Int)))) 4 ++ rsL p
theorem enc_eq (p : Pdu) : encB p = num (w64 p.version) 1 ++ (num (w64 p.kind) 1 ++ (hdL p ++ encR p)) := by unfold encB encR; simp only [List.append_assoc]
theorem fw_v (p : Pdu) (hr : p.rng) : gu8 (encB p) = p.version := by rw [enc_eq]; exact u8N _ _ hr.v
theorem fw_1 (p : Pdu) : (encB p).drop 1 = num (w64 p.kind) 1 ++ (hdL p ++ encR p) := by rw [enc_eq]; exact d1 _ _ 0
theorem fw_k (p : Pdu) (hr : p.rng) : kR1 (encB p) = p.kind := by unfold kR1; rw [fw_1]; exact u8N _ _ hr.k
theorem fw_2 (p : Pdu) : d2 (encB p) = hdL p ++ encR p := by unfold d2; rw [fw_1]; exact d1 _ _ 0
theorem fw_8 (p : Pdu) : d8 (encB p) = rsL p := by
  unfold d8; rw [fw_2]
  have e : (hdL p ++ encR p).drop 2 = encR p := dA _ _ 2 (hdL_len p) 0
  rw [e]; exact d4 _ _ 0
theorem rdOk_i {l : List Int} (h8 : 8 ≤ l.length) (hk : isK (kR1 l)) (hF : kF (kR1 l) (d2 l) = true) (hT : kTT (gu8 l) (kR1 l) (d8 l) = true) : rdOk l = true := by
  simp only [rdOk, h8, hk, hF, hT, decide_true, Bool.and_self]
theorem num02 : num 0 2 = num 0 1 ++ num 0 1 := by rw [num2, num1]; rfl
theorem fw_F (p : Pdu) (hk : isK p.kind) : kF p.kind (hdL p ++ encR p) = true := by
  have hl : 2 ≤ (hdL p ++ encR p).length := by rw [List.length_append, hdL_len]; omega
  unfold kF
  by_cases h9 : p.kind = 9 ∨ p.kind = 11
  · rw [if_pos h9]
    have e : hdL p = hd63 p := if_pos h9
    refine decide_eq_true ⟨hl, ?_, ?_⟩
    · rw [e, hd63, List.append_assoc]; exact gFle _ _
    · rw [e, hd63, List.append_assoc]
      have e2 : (flI p.add ++ (num 0 1 ++ encR p)).drop 1 = num 0 1 ++ encR p := dF1 _ _ 0
      rw [e2]; exact gN1 _ _ (by omega)
  rw [if_neg h9]
  by_cases h2 : p.kind = 2 ∨ p.kind = 8 ∨ p.kind = 4 ∨ p.kind = 6
  · rw [if_pos h2]
    have e : hdL p = hd52 p := by unfold hdL; rw [if_neg h9, if_neg (by omega), if_pos h2]
    refine decide_eq_true ⟨hl, ?_, ?_⟩
    · rw [e, hd52, num02, List.append_assoc]; exact gN1 _ _ (by omega)
    · rw [e, hd52, num02, List.append_assoc]
      have e2 : (num 0 1 ++ (num 0 1 ++ encR p)).drop 1 = num 0 1 ++ encR p := d1 _ _ 0
      rw [e2]; exact gN1 _ _ (by omega)
  · rw [if_neg h2]; exact decide_eq_true hl
theorem fw_s (p : Pdu) (hr : p.rng) (h : p.kind = 0 ∨ p.kind = 1 ∨ p.kind = 3 ∨ p.kind = 7) : gu16 (hdL p ++ encR p) = p.session := by
  have e : hdL p = hd48 p := by unfold hdL; rw [if_neg (by omega), if_neg (by omega), if_neg (by omega)]
  rw [e]; exact u16N _ _ hr.s
theorem fw_c (p : Pdu) (hr : p.rng) (h : p.kind = 10) : gu16 (hdL p ++ encR p) = p.code := by
  have e : hdL p = hd68 p := by unfold hdL; rw [if_neg (by omega), if_pos h]
  rw [e]; exact u16N _ _ hr.co
theorem fw_a (p : Pdu) (h : p.kind = 9 ∨ p.kind = 11) : decide (getV (hdL p ++ encR p) 1 = 1) = p.add := by
  have e : hdL p = hd63 p := if_pos h
  rw [e, hd63, List.append_assoc]; exact gFd _ _
def fwd (p : Pdu) : Prop := kTT p.version p.kind (rsL p) = true ∧ rdV (encB p) = bare p ∧ rdR (encB p) = true
theorem fw_p1 (p : Pdu) (hr : p.rng) : p1 (encB p) = z1 p.version p.kind (sF p.kind (hdL p ++ encR p)) (aF p.kind (hdL p ++ encR p)) (cF p.kind (hdL p ++ encR p)) := by
  unfold p1; rw [fw_v p hr, fw_k p hr, fw_2]
theorem fw_S (p : Pdu) (hr : p.rng) (hS : isS p.kind) : rdV (encB p) = tS (z1 p.version p.kind (sF p.kind (hdL p ++ encR p)) false 0) (rsL p) := by
  unfold isS at hS
  unfold rdV rdS
  rw [fw_k p hr, if_neg (by omega), if_neg (by omega), if_neg (by omega), fw_p1 p hr, fw_8]
  have e1 : aF p.kind (hdL p ++ encR p) = false := by unfold aF; rw [if_neg (by omega)]
  have e2 : cF p.kind (hdL p ++ encR p) = 0 := by unfold cF; rw [if_neg (by omega)]
  rw [e1, e2]
theorem fw_R (p : Pdu) (hr : p.rng) (hS : isS p.kind) (h : (rsL p).length = tN p.version p.kind) : rdR (encB p) = true := by
  unfold isS at hS
  unfold rdR
  rw [fw_k p hr, if_neg (by omega), if_neg (by omega), if_neg (by omega), fw_8, fw_v p hr, List.length_drop, h]
  simp
theorem u32e (x : Int) (h : 0 ≤ x ∧ x < 4294967296) : gu32 (num (w64 x) 4) = x := by have := u32N x [] h; rwa [List.append_nil] at this
theorem zS_4 {v k s : Int} {l : List Int} (h : k = 4 ∨ k = 6) : tS (z1 v k s false 0) l = (z1 v k s false 0).withO l := if_pos h
theorem zS_7 {v k s : Int} {l : List Int} (h : k = 7) : tS (z1 v k s false 0) l = (z1 v k s false 0).withE l := (if_neg (show ¬ (k = 4 ∨ k = 6) by omega)).trans (if_pos h)
theorem zS_0 {v k s : Int} {l : List Int} (h : k = 0 ∨ k = 1) : tS (z1 v k s false 0) l = (z1 v k s false 0).withSerial (gu32 l) := (if_neg (show ¬ (k = 4 ∨ k = 6) by omega)).trans ((if_neg (show ¬ k = 7 by omega)).trans (if_pos h))
theorem zS_n {v k s : Int} {l : List Int} (h : ¬ (k = 4 ∨ k = 6 ∨ k = 7 ∨ k = 0 ∨ k = 1)) : tS (z1 v k s false 0) l = z1 v k s false 0 := (if_neg (show ¬ (k = 4 ∨ k = 6) by omega)).trans ((if_neg (show ¬ k = 7 by omega)).trans (if_neg (show ¬ (k = 0 ∨ k = 1) by omega)))
theorem fwd0 (p : Pdu) (hr : p.rng) (h : p.kind = 0 ∨ p.kind = 1) : fwd p := by
  have hS : isS p.kind := by unfold isS; omega
  have e : rsL p = num (w64 p.serial) 4 := rs_0 h
  have hl : (rsL p).length = 4 := by rw [e, num_len]; rfl
  refine ⟨?_, ?_, fw_R p hr hS ?_⟩
  · rw [kT_S hS]; unfold kT; rw [if_neg (by omega), if_neg (by omega), if_pos h]
    exact decide_eq_true (by omega)
  · rw [fw_S p hr hS, bare0 h]
    have es : sF p.kind (hdL p ++ encR p) = p.session := by unfold sF; rw [if_pos (by omega)]; exact fw_s p hr (by omega)
    rw [es, e, zS_0 h, u32e _ hr.n]
    rfl
  · rw [hl]; unfold tN; rw [if_neg (by omega), if_neg (by omega), if_pos h]
theorem fwd2 (p : Pdu) (hr : p.rng) (h : p.kind = 2 ∨ p.kind = 8 ∨ p.kind = 3) : fwd p := by
  have hS : isS p.kind := by unfold isS; omega
  have e : rsL p = [] := rs_2 h
  refine ⟨?_, ?_, fw_R p hr hS ?_⟩
  · rw [kT_S hS]; unfold kT; rw [if_neg (by omega), if_neg (by omega), if_neg (by omega)]
  · rw [fw_S p hr hS, zS_n (by omega)]
    by_cases h3 : p.kind = 3
    · have es : sF p.kind (hdL p ++ encR p) = p.session := by unfold sF; rw [if_pos (by omega)]; exact fw_s p hr (by omega)
      rw [es, bare3 h3]
    · have es : sF p.kind (hdL p ++ encR p) = 0 := by unfold sF; rw [if_neg (by omega)]
      rw [es, bareN (by omega)]
  · rw [e]; unfold tN; rw [if_neg (by omega), if_neg (by omega), if_neg (by omega)]; rfl
theorem fwd7 (p : Pdu) (hr : p.rng) (h : p.kind = 7) : fwd p := by
  have hS : isS p.kind := by unfold isS; omega
  have e : rsL p = rs60 p := rs_7 h
  have es : sF p.kind (hdL p ++ encR p) = p.session := by unfold sF; rw [if_pos (by omega)]; exact fw_s p hr (by omega)
  have hl : (rsL p).length = eN p.version := by
    rw [e]; unfold rs60 rs49 eN
    split <;> simp [num_len]
  refine ⟨?_, ?_, fw_R p hr hS ?_⟩
  · rw [kT_S hS]; unfold kT; rw [if_neg (by omega), if_pos h]
    exact decide_eq_true (by omega)
  · rw [fw_S p hr hS, es, e, zS_7 h]
    unfold Pdu.withE rs60 rs49
    by_cases hv : 0 < p.version
    · have q0 : num (w64 p.serial) 4 ++ (num (w64 p.refresh) 4 ++ num (w64 p.retry) 4 ++ num (w64 p.expire) 4) = num (w64 p.serial) 4 ++ (num (w64 p.refresh) 4 ++ (num (w64 p.retry) 4 ++ num (w64 p.expire) 4)) := by simp only [List.append_assoc]
      have q1 : (num (w64 p.serial) 4 ++ (num (w64 p.refresh) 4 ++ (num (w64 p.retry) 4 ++ num (w64 p.expire) 4))).drop 4 = num (w64 p.refresh) 4 ++ (num (w64 p.retry) 4 ++ num (w64 p.expire) 4) := d4 _ _ 0
      have q2 : (num (w64 p.serial) 4 ++ (num (w64 p.refresh) 4 ++ (num (w64 p.retry) 4 ++ num (w64 p.expire) 4))).drop 8 = num (w64 p.retry) 4 ++ num (w64 p.expire) 4 := (d4 _ _ 4).trans (d4 _ _ 0)
      have q3 : (num (w64 p.serial) 4 ++ (num (w64 p.refresh) 4 ++ (num (w64 p.retry) 4 ++ num (w64 p.expire) 4))).drop 12 = num (w64 p.expire) 4 := (d4 _ _ 8).trans ((d4 _ _ 4).trans (d4 _ _ 0))
      rw [if_pos (show 0 < (z1 p.version p.kind p.session false 0).version from hv), if_pos hv, bare7 h hv, q0, q1, q2, q3, u32N _ _ hr.n, u32N _ _ hr.t1, u32N _ _ hr.t2, u32e _ hr.t3]
    · rw [if_neg (show ¬ 0 < (z1 p.version p.kind p.session false 0).version from hv), if_neg hv, bare7' h hv, List.append_nil, u32e _ hr.n]
  · rw [hl]; unfold tN; rw [if_neg (by omega), if_pos h]
theorem ori_t {o : Origin} {f : Int} (hf : f = 4 ∨ f = 6) (h : oriF o f = true) : o.pfx.fam = f ∧ (0 ≤ o.pfx.len ∧ o.pfx.len < 256) ∧ (0 ≤ o.max ∧ o.max < 256) ∧ ckA f o.pfx.addr = true := by
  unfold oriF at h
  simp only [Bool.and_eq_true, decide_eq_true_eq] at h
  obtain ⟨h1, h2, h3, h4⟩ := h
  have hw : width f ≤ 128 := width_le f
  unfold ckP' at h1
  split at h1
  · cases h1
  split at h1
  · rename_i h5
    simp only [Bool.and_eq_true, decide_eq_true_eq] at h5
    rw [h2] at h5
    exact ⟨h2, ⟨h5.1.1.2, by omega⟩, ⟨by omega, by omega⟩, h5.1.1.1⟩
  · cases h1
theorem fwd4 (p : Pdu) (hr : p.rng) (h : p.kind = 4) (hf : oriF p.origin 4 = true) : fwd p := by
  have hS : isS p.kind := by unfold isS; omega
  obtain ⟨f1, f2, f3, f4⟩ := ori_t (.inl rfl) hf
  have ha : p.origin.pfx.addr.hi = 0 ∧ p.origin.pfx.addr.lo < 4294967296 := by
    unfold ckA at f4
    simp only [Bool.or_eq_true, Bool.and_eq_true, decide_eq_true_eq] at f4
    omega
  have e : rsL p = flI p.add ++ (num (w64 p.origin.pfx.len) 1 ++ (num (w64 p.origin.max) 1 ++ (num 0 1 ++ (num p.origin.pfx.addr.lo 4 ++ num (w64 p.origin.asn) 4)))) := by
    rw [rs_4 (.inl h)]; unfold rs57; rw [if_neg (by omega)]; simp only [List.append_assoc]
  have hl : (rsL p).length = 12 := by rw [e]; simp [flI_len, num_len]
  have q1 : (rsL p).drop 1 = num (w64 p.origin.pfx.len) 1 ++ (num (w64 p.origin.max) 1 ++ (num 0 1 ++ (num p.origin.pfx.addr.lo 4 ++ num (w64 p.origin.asn) 4))) := by rw [e]; exact dF1 _ _ 0
  have q2 : (rsL p).drop 2 = num (w64 p.origin.max) 1 ++ (num 0 1 ++ (num p.origin.pfx.addr.lo 4 ++ num (w64 p.origin.asn) 4)) := by rw [e]; exact (dF1 _ _ 1).trans (d1 _ _ 0)
  have q3 : (rsL p).drop 3 = num 0 1 ++ (num p.origin.pfx.addr.lo 4 ++ num (w64 p.origin.asn) 4) := by rw [e]; exact (dF1 _ _ 2).trans ((d1 _ _ 1).trans (d1 _ _ 0))
  have q4 : (rsL p).drop 4 = num p.origin.pfx.addr.lo 4 ++ num (w64 p.origin.asn) 4 := by rw [e]; exact (dF1 _ _ 3).trans ((d1 _ _ 2).trans ((d1 _ _ 1).trans (d1 _ _ 0)))
  have q8 : (rsL p).drop 8 = num (w64 p.origin.asn) 4 := by rw [e]; exact (dF1 _ _ 7).trans ((d1 _ _ 6).trans ((d1 _ _ 5).trans ((d1 _ _ 4).trans (d4 _ _ 0))))
  have a0 : getV (rsL p) 1 ≤ 1 := by rw [e]; exact gFle _ _
  have ad : decide (getV (rsL p) 1 = 1) = p.add := by rw [e]; exact gFd _ _
  refine ⟨?_, ?_, fw_R p hr hS ?_⟩
  · rw [kT_S hS]; unfold kT; rw [if_pos (.inl h)]
    refine decide_eq_true ⟨?_, a0, ?_⟩
    · rw [hl]; unfold oN; rw [if_neg (by omega)]; omega
    · rw [q3]; exact gN1 _ _ (by omega)
  · rw [fw_S p hr hS, bare4 (.inl h)]
    have es : sF p.kind (hdL p ++ encR p) = 0 := by unfold sF; rw [if_neg (by omega)]
    rw [es, zS_4 (.inl h)]
    unfold Pdu.withO oV
    rw [ad, if_neg (show ¬ (z1 p.version p.kind 0 false 0).kind = 6 from fun h6 => by have h6 : p.kind = 6 := h6; omega), q1, q2, q4, q8, giN _ _ f2, giN _ _ f3, getV_num4 _ _ hr.ad.2.1 (by omega)]
    have e5 : IntKind.u32.wrap (getV (num (w64 p.origin.asn) 4) 4) = p.origin.asn := u32e _ hr.oa
    rw [e5, ← ha.1, ← f1]; rfl
  · rw [hl]; unfold tN oN; rw [if_pos (.inl h), if_neg (by omega)]
theorem fwd6 (p : Pdu) (hr : p.rng) (h : p.kind = 6) (hf : oriF p.origin 6 = true) : fwd p := by
  have hS : isS p.kind := by unfold isS; omega
  obtain ⟨f1, f2, f3, f4⟩ := ori_t (.inr rfl) hf
  have e : rsL p = flI p.add ++ (num (w64 p.origin.pfx.len) 1 ++ (num (w64 p.origin.max) 1 ++ (num 0 1 ++ (num p.origin.pfx.addr.hi 8 ++ (num p.origin.pfx.addr.lo 8 ++ num (w64 p.origin.asn) 4))))) := by
    rw [rs_4 (.inr h)]; unfold rs57; rw [if_pos h]; simp only [List.append_assoc]
  have hl : (rsL p).length = 24 := by rw [e]; simp [flI_len, num_len]
  have q1 : (rsL p).drop 1 = num (w64 p.origin.pfx.len) 1 ++ (num (w64 p.origin.max) 1 ++ (num 0 1 ++ (num p.origin.pfx.addr.hi 8 ++ (num p.origin.pfx.addr.lo 8 ++ num (w64 p.origin.asn) 4)))) := by rw [e]; exact dF1 _ _ 0
  have q2 : (rsL p).drop 2 = num (w64 p.origin.max) 1 ++ (num 0 1 ++ (num p.origin.pfx.addr.hi 8 ++ (num p.origin.pfx.addr.lo 8 ++ num (w64 p.origin.asn) 4))) := by rw [e]; exact (dF1 _ _ 1).trans (d1 _ _ 0)
  have q3 : (rsL p).drop 3 = num 0 1 ++ (num p.origin.pfx.addr.hi 8 ++ (num p.origin.pfx.addr.lo 8 ++ num (w64 p.origin.asn) 4)) := by rw [e]; exact (dF1 _ _ 2).trans ((d1 _ _ 1).trans (d1 _ _ 0))
  have q4 : (rsL p).drop 4 = num p.origin.pfx.addr.hi 8 ++ (num p.origin.pfx.addr.lo 8 ++ num (w64 p.origin.asn) 4) := by rw [e]; exact (dF1 _ _ 3).trans ((d1 _ _ 2).trans ((d1 _ _ 1).trans (d1 _ _ 0)))
  have q12 : (rsL p).drop 12 = num p.origin.pfx.addr.lo 8 ++ num (w64 p.origin.asn) 4 := by rw [e]; exact (dF1 _ _ 11).trans ((d1 _ _ 10).trans ((d1 _ _ 9).trans ((d1 _ _ 8).trans (d8' _ _ 0))))
  have q20 : (rsL p).drop 20 = num (w64 p.origin.asn) 4 := by rw [e]; exact (dF1 _ _ 19).trans ((d1 _ _ 18).trans ((d1 _ _ 17).trans ((d1 _ _ 16).trans ((d8' _ _ 8).trans (d8' _ _ 0)))))
  have a0 : getV (rsL p) 1 ≤ 1 := by rw [e]; exact gFle _ _
  have ad : decide (getV (rsL p) 1 = 1) = p.add := by rw [e]; exact gFd _ _
  refine ⟨?_, ?_, fw_R p hr hS ?_⟩
  · rw [kT_S hS]; unfold kT; rw [if_pos (.inr h)]
    refine decide_eq_true ⟨?_, a0, ?_⟩
    · rw [hl]; unfold oN; rw [if_pos h]; omega
    · rw [q3]; exact gN1 _ _ (by omega)
  · rw [fw_S p hr hS, bare4 (.inr h)]
    have es : sF p.kind (hdL p ++ encR p) = 0 := by unfold sF; rw [if_neg (by omega)]
    rw [es, zS_4 (.inr h)]
    unfold Pdu.withO oV
    rw [ad, if_pos (show (z1 p.version p.kind 0 false 0).kind = 6 from h), q1, q2, q4, q12, q20, giN _ _ f2, giN _ _ f3, gN8 _ _ hr.ad.1, gN8 _ _ hr.ad.2]
    have e5 : IntKind.u32.wrap (getV (num (w64 p.origin.asn) 4) 4) = p.origin.asn := u32e _ hr.oa
    rw [e5, ← f1]; rfl
  · rw [hl]; unfold tN oN; rw [if_pos (.inr h), if_pos h]
end Gp
namespace Gp
theorem root_eq (v : Vector Int 16) : #v[v[0], v[1], v[2], v[3], v[4], v[5], v[6], v[7], v[8], v[9], v[10], v[11], v[12], v[13], v[14], v[15]] = v := by
  refine Vector.ext fun i hi => ?_
  match i, hi with
  | 0, _ => rfl
  | 1, _ => rfl
  | 2, _ => rfl
  | 3, _ => rfl
  | 4, _ => rfl
  | 5, _ => rfl
  | 6, _ => rfl
  | 7, _ => rfl
  | 8, _ => rfl
  | 9, _ => rfl
  | 10, _ => rfl
  | 11, _ => rfl
  | 12, _ => rfl
  | 13, _ => rfl
  | 14, _ => rfl
  | 15, _ => rfl
  | n + 16, h => omega
theorem fwd9 (p : Pdu) (hr : p.rng) (h : p.kind = 9) (hf : ck62 p = true) : fwd p := by
  unfold ck62 at hf
  simp only [Bool.and_eq_true, decide_eq_true_eq] at hf
  have e : rsL p = num (w64 p.key.asn) 4 ++ (num (w64 p.key.height) 1 ++ rootL p.key) := by rw [rs_9 h]; unfold rs64; rw [List.append_assoc]
  have hl : (rsL p).length = 21 := by rw [e]; simp [num_len, rootL]
  have q4 : (rsL p).drop 4 = num (w64 p.key.height) 1 ++ rootL p.key := by rw [e]; exact d4 _ _ 0
  have q5 : (rsL p).drop 5 = rootL p.key := by rw [e]; exact (d4 _ _ 1).trans (d1 _ _ 0)
  refine ⟨?_, ?_, ?_⟩
  · unfold kTT; rw [if_pos h]; exact decide_eq_true (by omega)
  · unfold rdV rdK
    rw [fw_k p hr, if_pos h, fw_8, fw_2, fw_v p hr, fw_a p (.inl h), bare9 h]
    unfold kR
    rw [q5, q4, giN _ _ (by omega)]
    have e1 : gu32 (rsL p) = p.key.asn := by rw [e]; exact u32N _ _ hr.ka
    rw [e1]
    show zK _ _ _ _ _ ⟨_, #v[p.key.root[0], p.key.root[1], p.key.root[2], p.key.root[3], p.key.root[4], p.key.root[5], p.key.root[6], p.key.root[7], p.key.root[8], p.key.root[9], p.key.root[10], p.key.root[11], p.key.root[12], p.key.root[13], p.key.root[14], p.key.root[15]], _⟩ = _
    rw [root_eq]; rfl
  · unfold rdR; rw [fw_k p hr, if_pos h, fw_8, List.length_drop, hl]; rfl
theorem fwd10 (p : Pdu) (hr : p.rng) (h : p.kind = 10) (hs : small p) : fwd p := by
  unfold small at hs
  have e : rsL p = num (w64 p.copy.length) 4 ++ (p.copy ++ (num (w64 p.text.size) 4 ++ bytesL p.text)) := by rw [rs_10 h]; unfold rs69; simp only [List.append_assoc]
  have hbl : (bytesL p.text).length = p.text.size := by simp [bytesL]
  have hl : (rsL p).length = 8 + p.copy.length + p.text.size := by rw [e]; simp [num_len, hbl]; omega
  have g1 : gn (rsL p) = p.copy.length := by rw [e]; exact gnN _ _ (by omega)
  have q4 : (rsL p).drop 4 = p.copy ++ (num (w64 p.text.size) 4 ++ bytesL p.text) := by rw [e]; exact d4 _ _ 0
  have f1 : fL1 (rsL p) = num (w64 p.text.size) 4 ++ bytesL p.text := by
    unfold fL1; rw [g1, q4, Int.toNat_natCast]; exact dA _ _ _ rfl 0
  have f2 : fCopy (rsL p) = p.copy := by
    unfold fCopy; rw [g1, q4, Int.toNat_natCast]; exact List.take_left
  have g2 : gn (fL1 (rsL p)) = p.text.size := by rw [f1]; exact gnN _ _ (by omega)
  have q5 : (fL1 (rsL p)).drop 4 = bytesL p.text := by rw [f1]; exact d4 _ _ 0
  have f3 : fText (rsL p) = bytesL p.text := by
    unfold fText; rw [g2, q5, Int.toNat_natCast]; exact List.take_of_length_le (by omega)
  have f4 : (fRest (rsL p)).length = 0 := by
    unfold fRest; rw [g2, q5, Int.toNat_natCast, List.length_drop]; omega
  have fl : (fL1 (rsL p)).length = 4 + p.text.size := by rw [f1]; simp [num_len, hbl]
  refine ⟨?_, ?_, ?_⟩
  · unfold kTT; rw [if_neg (by omega), if_pos h]
    exact decide_eq_true (by rw [g1, g2, fl, hl]; omega)
  · unfold rdV rdE
    rw [fw_k p hr, if_neg (by omega), if_pos h, fw_8, fw_2, fw_v p hr, fw_c p hr h, bare10 h, f2, f3, bstr_bytesL]; rfl
  · unfold rdR; rw [fw_k p hr, if_neg (by omega), if_pos h, fw_8, f4]; rfl
theorem fwd11 (p : Pdu) (hr : p.rng) (h : p.kind = 11) : fwd p := by
  have e : rsL p = num (w64 p.path.cust) 4 ++ pvL p.path.provs := by rw [rs_11 h]; rfl
  have hl : (rsL p).length = 4 + 4 * p.path.provs.length := by rw [e]; simp [num_len, pvL_len]
  have hN : pN (rsL p) = p.path.provs.length := by unfold pN; omega
  have q4 : (rsL p).drop 4 = pvL p.path.provs := by rw [e]; exact d4 _ _ 0
  refine ⟨?_, ?_, ?_⟩
  · unfold kTT; rw [if_neg (by omega), if_neg (by omega), if_pos h]
    exact decide_eq_true (by omega)
  · unfold rdV rdP
    rw [fw_k p hr, if_neg (by omega), if_neg (by omega), if_pos h, fw_8, fw_2, fw_v p hr, fw_a p (.inr h), bare11 h, hN, q4, pv_fwd _ hr.ps]
    have e1 : gu32 (rsL p) = p.path.cust := by rw [e]; exact u32N _ _ hr.c
    rw [e1]; rfl
  · unfold rdR; rw [fw_k p hr, if_neg (by omega), if_neg (by omega), if_pos h]
theorem fld_k {p : Pdu} (h : fldF p = true) : isK p.kind := by
  unfold fldF at h
  unfold isK
  repeat' split at h
  · omega
  · omega
  · omega
  · omega
  · omega
  · omega
  · omega
  · cases h
theorem rd_fwd (p : Pdu) (hr : p.rng) (hs : small p) (hf : fldF p = true) : rdF (encB p) = (bare p, true) := by
  have hk := fld_k hf
  have key : fwd p := by
    unfold isK at hk
    unfold fldF at hf
    by_cases h0 : p.kind = 0 ∨ p.kind = 1
    · exact fwd0 p hr h0
    by_cases h2 : p.kind = 2 ∨ p.kind = 8 ∨ p.kind = 3
    · exact fwd2 p hr h2
    rw [if_neg (by omega)] at hf
    by_cases h4 : p.kind = 4
    · rw [if_pos h4] at hf; exact fwd4 p hr h4 hf
    rw [if_neg h4] at hf
    by_cases h6 : p.kind = 6
    · rw [if_pos h6] at hf; exact fwd6 p hr h6 hf
    rw [if_neg h6] at hf
    by_cases h7 : p.kind = 7
    · exact fwd7 p hr h7
    rw [if_neg h7] at hf
    by_cases h9 : p.kind = 9
    · rw [if_pos h9] at hf; exact fwd9 p hr h9 hf
    by_cases h10 : p.kind = 10
    · exact fwd10 p hr h10 hs
    exact fwd11 p hr (by omega)
  have hok : rdOk (encB p) = true := by
    refine rdOk_i ?_ ?_ ?_ ?_
    · rw [encB_len]; omega
    · rw [fw_k p hr]; exact hk
    · rw [fw_k p hr, fw_2]; exact fw_F p hk
    · rw [fw_k p hr, fw_v p hr, fw_8]; exact key.1
  rw [rdF_yes hok, key.2.1, key.2.2]
def refC (p : Pdu) : Int := if 4096 < p.copy.length ∨ 200 < p.text.size ∨ 50 < p.path.provs.length then 4 else if 2 < p.version ∨ fldF p = false ∨ p ≠ bare p then 8 else 0
theorem chk_ref (p : Pdu) (hr : p.rng) : chk p = refC p := by
  unfold refC
  by_cases hs : small p
  · rw [if_neg hs]
    by_cases hv : 2 < p.version
    · rw [chk_v hs hv, if_pos (.inl hv)]
    by_cases hf : fldF p = true
    · have hk := fld_k hf
      rw [chk_p hs hk hv (by rw [ckD_eq p hr hk]; exact hf), rd_fwd p hr hs hf]
      by_cases hb : p = bare p
      · rw [if_pos ⟨rfl, hb⟩, if_neg]
        rintro (h | h | h)
        · exact hv h
        · rw [hf] at h; cases h
        · exact h hb
      · rw [if_neg (fun h => hb h.2), if_pos (.inr (.inr hb))]
    · rw [if_pos (.inr (.inl (by simpa using hf)))]
      by_cases hk : isK p.kind
      · exact chk_c hs (by rw [ckD_eq p hr hk]; simpa using hf)
      · exact chk_k hs hk
  · rw [chk_b hs, if_pos (Classical.not_not.1 hs)]
end Gp
namespace Gp
theorem c17_2 (m : Pdu) (h1c : m.copy.length ≤ 2 ^ 62) (h2c : m.path.provs.length ≤ 2 ^ 62) : ASpec prog 17 [encD m, encD zeroP] (bo (decide (m = zeroP))) := c17 m zeroP h1c h2c
def T23 (e : Int) (l : List Int) : Tell :=
  Tell.mk (fun x x_1 => false) (fun x x_1 => Orc.no) (fun x => Tree.fail 1000003 0) (fun x => 0) (fun x => ([],[])) (oget [(1,1,1,Orc.call [slE 1 u8 l] (decT (decF l))),(11,2,10,Orc.call [encD (decF l).fst,encD zeroP] (bo (decide ((decF l).fst = zeroP))))]) fun x x_1 => Tree.fail 1000003 0
theorem t23 (e : Int) (l : List Int) : levF prog Proofs.Try.f23 [i64 e, slE 1 u8 l] (T23 e l) =
  Tree.need (ILeL [slE 1 u8 l] [slE 1 u8 l] ∧ ASpec prog 22 [slE 1 u8 l] (decT (decF l))) (.br (decide ((decF l).snd.snd = e)) (.br (decide ((decF l).snd.fst = 0)) (.need (ILeL [encD (decF l).fst,.agg [u8 0,u8 0,u16 0,u32 0,bo false,u32 0,u8 0,u64 0,u64 0,i64 0,i64 0,u32 0,nS,u32 0,u8 0,u8 0,u8 0,u8 0,u8 0,u8 0,u8 0,u8 0,u8 0,u8 0,u8 0,u8 0,u8 0,u8 0,u8 0,u8 0,i64 0,u32 0,u32 0,u32 0,u16 0,nS,st .empty]] [encD (decF l).fst,encD zeroP] ∧ ASpec prog 17 [encD (decF l).fst,encD zeroP] (bo (decide ((decF l).fst = zeroP)))) (.done Exit.ret (lret (bo (decide ((decF l).fst = zeroP)))))) (.done Exit.ret
  (lret (bo false)))) (.done Exit.ret (lret (bo false)))) := by kernel_rfl
def failF (e : Int) (l : List Int) : Bool := decide ((decF l).2.2 = e) && (decide ((decF l).2.1 = 0) && decide ((decF l).1 = zeroP))
def rngB (p : Pdu) : Bool := decide (0 ≤ p.version ∧ p.version < 256) && (decide (0 ≤ p.kind ∧ p.kind < 256) && (decide (0 ≤ p.session ∧ p.session < 65536) && (decide (0 ≤ p.serial ∧ p.serial < 4294967296) && (decide (0 ≤ p.origin.asn ∧ p.origin.asn < 4294967296) && (decide ((0 ≤ p.origin.pfx.addr.hi ∧ p.origin.pfx.addr.hi < 2 ^ 64) ∧ (0 ≤ p.origin.pfx.addr.lo ∧ p.origin.pfx.addr.lo < 2 ^ 64)) && (decide (0 ≤ p.path.cust ∧ p.path.cust < 4294967296) && (p.path.provs.all (fun x => decide (0 ≤ x ∧ x < 4294967296)) && (decide (0 ≤ p.key.asn ∧ p.key.asn < 4294967296) && (decide (0 ≤ p.refresh ∧ p.refresh < 4294967296) && (decide (0 ≤ p.retry ∧ p.retry < 4294967296) && (decide (0 ≤ p.expire ∧ p.expire < 4294967296) && decide (0 ≤ p.code ∧ p.code < 65536))))))))))))
theorem rng_of {p : Pdu} (h : rngB p = true) : p.rng := by
  unfold rngB at h
  simp only [Bool.and_eq_true] at h
  obtain ⟨a1, a2, a3, a4, a5, a6, a7, a8, a9, b1, b2, b3, b4⟩ := h
  have q6 := of_decide_eq_true a6
  exact ⟨of_decide_eq_true a1, of_decide_eq_true a2, of_decide_eq_true a3, of_decide_eq_true a4, of_decide_eq_true a5, q6, of_decide_eq_true a7, fun x hx => of_decide_eq_true (List.all_eq_true.1 a8 x hx), of_decide_eq_true a9, of_decide_eq_true b1, of_decide_eq_true b2, of_decide_eq_true b3, of_decide_eq_true b4⟩
def byB (l : List Int) : Bool := l.all fun x => decide (0 ≤ x ∧ x < 256)
def wfC (p : Pdu) : Bool := byB p.copy && byB (rootL p.key)
theorem wf_of {p : Pdu} (h : wfC p = true) : wfB p := by
  unfold wfC at h
  rw [Bool.and_eq_true] at h
  exact ⟨byte_dec h.1, byte_dec h.2⟩
def numC (x n : Int) : List Int := nbI x n.toNat n.toNat
def encC (p : Pdu) : List Int :=
  let fl := numC (if p.add then 1 else 0) 1
  let r := if p.kind = 4 ∨ p.kind = 6 then fl ++ numC (w64 p.origin.pfx.len) 1 ++ numC (w64 p.origin.max) 1 ++ numC 0 1 ++ (if p.kind = 6 then numC p.origin.pfx.addr.hi 8 ++ numC p.origin.pfx.addr.lo 8 else numC p.origin.pfx.addr.lo 4) ++ numC (w64 p.origin.asn) 4 else
    if p.kind = 7 then numC (w64 p.serial) 4 ++ (if 0 < p.version then numC (w64 p.refresh) 4 ++ numC (w64 p.retry) 4 ++ numC (w64 p.expire) 4 else []) else
    if p.kind = 9 then numC (w64 p.key.asn) 4 ++ numC (w64 p.key.height) 1 ++ rootL p.key else
    if p.kind = 10 then numC (w64 p.copy.length) 4 ++ p.copy ++ numC (w64 p.text.size) 4 ++ bytesL p.text else
    if p.kind = 11 then numC (w64 p.path.cust) 4 ++ p.path.provs.flatMap (fun x => numC (w64 x) 4) else
    if p.kind = 0 ∨ p.kind = 1 then numC (w64 p.serial) 4 else []
  let h := if p.kind = 9 ∨ p.kind = 11 then fl ++ numC 0 1 else if p.kind = 10 then numC (w64 p.code) 2 else if p.kind = 2 ∨ p.kind = 8 ∨ p.kind = 4 ∨ p.kind = 6 then numC 0 2 else numC (w64 p.session) 2
  numC (w64 p.version) 1 ++ numC (w64 p.kind) 1 ++ h ++ numC (w64 (IntKind.i64.wrap (8 + (r.length : Int)))) 4 ++ r
theorem enc_C (p : Pdu) : encB p = encC p := by
  have e : num = numC := by
    funext x n; rw [num_eq]; rfl
  unfold encB hdL rsL hd48 hd52 hd63 hd68 rs57 rs60 rs49 rs64 rs69 rs73 pvL flI
  rw [e]
  rfl
def codC (p : Pdu) (w : List Int) : Bool := rngB p && (wfC p && (byB w && (decide (w.length ≤ 5000) && (decide (p.copy.length ≤ 100 ∧ p.path.provs.length ≤ 100) && (decide (refC p = 0) && decide (encC p = w))))))
theorem cod1 {p : Pdu} {w : List Int} (h : codC p w = true) : ASpec prog 19 [encD p, .sl false true 1 (w.map u8)] (bo true) := by
  unfold codC at h
  simp only [Bool.and_eq_true, decide_eq_true_eq] at h
  obtain ⟨h1, h2, h3, h4, h5, h6, h7⟩ := h
  have q := c19 p w (wf_of h2) (byte_dec h3) h4 (by omega) (by omega)
  have e : codF p w = true := codF_t p w ((chk_ref p (rng_of h1)).trans h6) ((enc_C p).trans h7)
  rwa [e] at q
theorem chk1 {p : Pdu} {e : Int} (h : (rngB p && (wfC p && decide (refC p = e))) = true) : ASpec prog 14 [encD p] (i64 e) := by
  simp only [Bool.and_eq_true, decide_eq_true_eq] at h
  have q := c14 p (wf_of h.2.1)
  rwa [chk_ref p (rng_of h.1), h.2.2] at q
theorem small_z : small zeroP := by
  unfold small
  show ¬ (4096 < 0 ∨ 200 < 0 ∨ 50 < 0)
  omega
theorem dec_sm (l : List Int) : small (decF l).1 := by
  by_cases h1 : l.length < 8
  · rw [dec_1 h1]; exact small_z
  by_cases h2 : dN l < 8 ∨ 4312 < dN l
  · rw [dec_2 h1 h2]; exact small_z
  by_cases h3 : (l.length : Int) < dN l
  · rw [dec_3 h1 h2 h3]; exact small_z
  by_cases h4 : (rdF (l.take (dN l).toNat)).2 = true ∧ chk (rdF (l.take (dN l).toNat)).1 = 0
  · rw [dec_5 h1 h2 h3 h4]; exact (chk_0 h4.2).1
  · rw [dec_4 h1 h2 h3 h4]; exact small_z
theorem c23 (e : Int) (l : List Int) (hb : byteL l) (hl : l.length ≤ 10000) : ASpec prog 23 [i64 e, slE 1 u8 l] (bo (failF e l)) := by
  refine ASpec.treeW Proofs.Try.f23 (T23 e l) (by kernel_rfl) (by kernel_rfl) (t23 e l) ?_
  have hc := dec_sm l
  unfold small at hc
  refine need_sat ⟨ILeL.refl _, c22 _ hb (by omega)⟩ ⟨fun h1 => ⟨fun h2 => need_sat ⟨.cons (.refl _) (.cons (ile_pdu zeroP _ _ (ile_n _ rfl) (ile_n' _ rfl)) (.refl _)), c17_2 _ ?_ ?_⟩ ⟨_, rfl, ?_⟩, fun h2 => ⟨_, rfl, ?_⟩⟩, fun h1 => ⟨_, rfl, ?_⟩⟩
  · omega
  · omega
  all_goals exact ile_bo (by simp only [failF, *, Bool.true_and, Bool.false_and])
theorem fail1 {e : Int} {l : List Int} (hb : byB l = true) (hl : l.length ≤ 10000) (h : decF l = (zeroP, 0, e)) : ASpec prog 23 [i64 e, slE 1 u8 l] (bo true) := by
  have q := c23 e l (byte_dec hb) hl
  have e1 : failF e l = true := by unfold failF; rw [h]; simp
  rwa [e1] at q
end Gp
namespace Gp
def nm0 : Pdu := ⟨0, 2, 0, 0, false, ⟨0, ⟨0, ⟨0, 0⟩, 0⟩, 0⟩, ⟨0, []⟩, kz, 0, 0, 0, 0, [], .empty⟩
def nw0 : List Int := [0, 2, 0, 0, 0, 0, 0, 8]
theorem cd0 : ASpec prog 19 [encD nm0, .sl false true 1 (nw0.map u8)] (bo true) := cod1 (by kernel_rfl)
def nm1 : Pdu := ⟨2, 8, 0, 0, false, ⟨0, ⟨0, ⟨0, 0⟩, 0⟩, 0⟩, ⟨0, []⟩, kz, 0, 0, 0, 0, [], .empty⟩
def nw1 : List Int := [2, 8, 0, 0, 0, 0, 0, 8]
theorem cd1 : ASpec prog 19 [encD nm1, .sl false true 1 (nw1.map u8)] (bo true) := cod1 (by kernel_rfl)
def nm2 : Pdu := ⟨1, 3, 258, 0, false, ⟨0, ⟨0, ⟨0, 0⟩, 0⟩, 0⟩, ⟨0, []⟩, kz, 0, 0, 0, 0, [], .empty⟩
def nw2 : List Int := [1, 3, 1, 2, 0, 0, 0, 8]
theorem cd2 : ASpec prog 19 [encD nm2, .sl false true 1 (nw2.map u8)] (bo true) := cod1 (by kernel_rfl)
def nm3 : Pdu := ⟨0, 0, 0, 4294967295, false, ⟨0, ⟨0, ⟨0, 0⟩, 0⟩, 0⟩, ⟨0, []⟩, kz, 0, 0, 0, 0, [], .empty⟩
def nw3 : List Int := [0, 0, 0, 0, 0, 0, 0, 12, 255, 255, 255, 255]
theorem cd3 : ASpec prog 19 [encD nm3, .sl false true 1 (nw3.map u8)] (bo true) := cod1 (by kernel_rfl)
def nm4 : Pdu := ⟨2, 6, 0, 0, false, ⟨1, ⟨6, ⟨9223372036854775808, 0⟩, 1⟩, 128⟩, ⟨0, []⟩, kz, 0, 0, 0, 0, [], .empty⟩
def nw4 : List Int := [2, 6, 0, 0, 0, 0, 0, 32, 0, 1, 128, 0, 128, 0, 0, 0, 0, 0, 0, 0, 0, 0, 0, 0, 0, 0, 0, 0, 0, 0, 0, 1]
theorem cd4 : ASpec prog 19 [encD nm4, .sl false true 1 (nw4.map u8)] (bo true) := cod1 (by kernel_rfl)
def nm5 : Pdu := ⟨0, 7, 1, 2, false, ⟨0, ⟨0, ⟨0, 0⟩, 0⟩, 0⟩, ⟨0, []⟩, kz, 0, 0, 0, 0, [], .empty⟩
def nw5 : List Int := [0, 7, 0, 1, 0, 0, 0, 12, 0, 0, 0, 2]
theorem cd5 : ASpec prog 19 [encD nm5, .sl false true 1 (nw5.map u8)] (bo true) := cod1 (by kernel_rfl)
def nm6 : Pdu := ⟨1, 7, 1, 2, false, ⟨0, ⟨0, ⟨0, 0⟩, 0⟩, 0⟩, ⟨0, []⟩, kz, 3, 1, 256, 0, [], .empty⟩
def nw6 : List Int := [1, 7, 0, 1, 0, 0, 0, 24, 0, 0, 0, 2, 0, 0, 0, 3, 0, 0, 0, 1, 0, 0, 1, 0]
theorem cd6 : ASpec prog 19 [encD nm6, .sl false true 1 (nw6.map u8)] (bo true) := cod1 (by kernel_rfl)
def nm7 : Pdu := ⟨1, 9, 0, 0, true, ⟨0, ⟨0, ⟨0, 0⟩, 0⟩, 0⟩, ⟨0, []⟩, ⟨5, #v[9, 0, 0, 0, 0, 0, 0, 0, 0, 0, 0, 0, 0, 0, 0, 0], 4⟩, 0, 0, 0, 0, [], .empty⟩
def nw7 : List Int := [1, 9, 1, 0, 0, 0, 0, 29, 0, 0, 0, 5, 4, 9, 0, 0, 0, 0, 0, 0, 0, 0, 0, 0, 0, 0, 0, 0, 0]
theorem cd7 : ASpec prog 19 [encD nm7, .sl false true 1 (nw7.map u8)] (bo true) := cod1 (by kernel_rfl)
def nm8 : Pdu := ⟨0, 10, 0, 0, false, ⟨0, ⟨0, ⟨0, 0⟩, 0⟩, 0⟩, ⟨0, []⟩, kz, 0, 0, 0, 2, [7], ⟨#[110, 111]⟩⟩
def nw8 : List Int := [0, 10, 0, 2, 0, 0, 0, 19, 0, 0, 0, 1, 7, 0, 0, 0, 2, 110, 111]
theorem cd8 : ASpec prog 19 [encD nm8, .sl false true 1 (nw8.map u8)] (bo true) := cod1 (by kernel_rfl)
def nm9 : Pdu := ⟨2, 11, 0, 0, true, ⟨0, ⟨0, ⟨0, 0⟩, 0⟩, 0⟩, ⟨5, [1, 256]⟩, kz, 0, 0, 0, 0, [], .empty⟩
def nw9 : List Int := [2, 11, 1, 0, 0, 0, 0, 20, 0, 0, 0, 5, 0, 0, 0, 1, 0, 0, 1, 0]
theorem cd9 : ASpec prog 19 [encD nm9, .sl false true 1 (nw9.map u8)] (bo true) := cod1 (by kernel_rfl)
def nm10 : Pdu := ⟨2, 11, 0, 0, false, ⟨0, ⟨0, ⟨0, 0⟩, 0⟩, 0⟩, ⟨5, []⟩, kz, 0, 0, 0, 0, [], .empty⟩
def nw10 : List Int := [2, 11, 0, 0, 0, 0, 0, 12, 0, 0, 0, 5]
theorem cd10 : ASpec prog 19 [encD nm10, .sl false true 1 (nw10.map u8)] (bo true) := cod1 (by kernel_rfl)
def key5 : RKey := ⟨0, Vector.replicate 16 0, 5⟩
def nbads : List Pdu := [⟨3, 0, 0, 0, false, ⟨0, ⟨0, ⟨0, 0⟩, 0⟩, 0⟩, ⟨0, []⟩, kz, 0, 0, 0, 0, [], .empty⟩, ⟨0, 5, 0, 0, false, ⟨0, ⟨0, ⟨0, 0⟩, 0⟩, 0⟩, ⟨0, []⟩, kz, 0, 0, 0, 0, [], .empty⟩, ⟨0, 12, 0, 0, false, ⟨0, ⟨0, ⟨0, 0⟩, 0⟩, 0⟩, ⟨0, []⟩, kz, 0, 0, 0, 0, [], .empty⟩, ⟨0, 2, 1, 0, false, ⟨0, ⟨0, ⟨0, 0⟩, 0⟩, 0⟩, ⟨0, []⟩, kz, 0, 0, 0, 0, [], .empty⟩, ⟨0, 2, 0, 0, true, ⟨0, ⟨0, ⟨0, 0⟩, 0⟩, 0⟩, ⟨0, []⟩, kz, 0, 0, 0, 0, [], .empty⟩, ⟨0, 3, 0, 1, false, ⟨0, ⟨0, ⟨0, 0⟩, 0⟩, 0⟩, ⟨0, []⟩, kz, 0, 0, 0, 0, [], .empty⟩, ⟨0, 0, 0, 0, false, ⟨0, ⟨0, ⟨0, 0⟩, 0⟩, 0⟩, ⟨0, []⟩, kz, 0, 0, 0, 1, [], .empty⟩, ⟨0, 4, 0, 0, false, ⟨0, ⟨0, ⟨0, 0⟩, 0⟩, 0⟩, ⟨0, []⟩, kz, 0, 0, 0, 0, [], .empty⟩, ⟨0, 9, 0, 0, false, ⟨0, ⟨0, ⟨0, 0⟩, 0⟩, 0⟩, ⟨0, []⟩, kz, 0, 0, 0, 0, [], .empty⟩, ⟨1, 9, 0, 0, false, ⟨0, ⟨0, ⟨0, 0⟩, 0⟩, 0⟩, ⟨0, []⟩, key5, 0, 0, 0, 0, [], .empty⟩, ⟨0, 10, 0, 0, false, ⟨0, ⟨0, ⟨0, 0⟩, 0⟩, 0⟩, ⟨0, []⟩, kz, 0, 0, 0, 9, [], .empty⟩, ⟨0, 10, 1, 0, false, ⟨0, ⟨0, ⟨0, 0⟩, 0⟩, 0⟩, ⟨0, []⟩, kz, 0, 0, 0, 0, [], .empty⟩, ⟨1, 11, 0, 0, false, ⟨0, ⟨0, ⟨0, 0⟩, 0⟩, 0⟩, ⟨5, []⟩, kz, 0, 0, 0, 0, [], .empty⟩, ⟨2, 11, 0, 0, false, ⟨0, ⟨0, ⟨0, 0⟩, 0⟩, 0⟩, ⟨0, []⟩, kz, 0, 0, 0, 0, [], .empty⟩, ⟨2, 11, 0, 0, true, ⟨0, ⟨0, ⟨0, 0⟩, 0⟩, 0⟩, ⟨5, []⟩, kz, 0, 0, 0, 0, [], .empty⟩, ⟨2, 11, 0, 0, false, ⟨0, ⟨0, ⟨0, 0⟩, 0⟩, 0⟩, ⟨5, [1]⟩, kz, 0, 0, 0, 0, [], .empty⟩, ⟨2, 11, 0, 0, true, ⟨0, ⟨0, ⟨0, 0⟩, 0⟩, 0⟩, ⟨5, [5]⟩, kz, 0, 0, 0, 0, [], .empty⟩, ⟨0, 7, 0, 0, false, ⟨0, ⟨0, ⟨0, 0⟩, 0⟩, 0⟩, ⟨0, []⟩, kz, 1, 0, 0, 0, [], .empty⟩, ⟨1, 7, 0, 0, false, ⟨0, ⟨0, ⟨0, 0⟩, 0⟩, 0⟩, ⟨0, []⟩, kz, 1, 1, 0, 0, [], .empty⟩, ⟨1, 7, 0, 0, false, ⟨0, ⟨0, ⟨0, 0⟩, 0⟩, 0⟩, ⟨0, []⟩, kz, 2, 1, 1, 0, [], .empty⟩, ⟨1, 7, 0, 0, false, ⟨0, ⟨0, ⟨0, 0⟩, 0⟩, 0⟩, ⟨0, []⟩, kz, 0, 1, 1, 0, [], .empty⟩, ⟨1, 7, 0, 0, false, ⟨0, ⟨0, ⟨0, 0⟩, 0⟩, 0⟩, ⟨0, []⟩, kz, 1, 1, 1048577, 0, [], .empty⟩]
theorem bads_all : (nbads.all fun p => rngB p && (wfC p && decide (refC p = 8))) = true := by kernel_rfl
def nilOr : List IVal → IVal
  | [] => .v (.slice none 0 0)
  | x :: l => .sl true true 1 (x :: l)
theorem ile_nil : ∀ l, ILe (nilOr l) (sl1 l)
  | [] => .nil _ _ _
  | _ :: _ => .sl (fun h => by cases h) (fun h => by cases h) (.refl _)
def encN (p : Pdu) : IVal := .agg [u8 p.version, u8 p.kind, u16 p.session, u32 p.serial, bo p.add, u32 p.origin.asn, u8 p.origin.pfx.fam, u64 p.origin.pfx.addr.hi, u64 p.origin.pfx.addr.lo, i64 p.origin.pfx.len, i64 p.origin.max, u32 p.path.cust, nilOr (p.path.provs.map u32),
  u32 p.key.asn, u8 p.key.root[0], u8 p.key.root[1], u8 p.key.root[2], u8 p.key.root[3], u8 p.key.root[4], u8 p.key.root[5], u8 p.key.root[6], u8 p.key.root[7], u8 p.key.root[8], u8 p.key.root[9], u8 p.key.root[10], u8 p.key.root[11], u8 p.key.root[12], u8 p.key.root[13], u8 p.key.root[14], u8 p.key.root[15], i64 p.key.height,
  u32 p.refresh, u32 p.retry, u32 p.expire, u16 p.code, nilOr (p.copy.map u8), st p.text]
theorem ile_N (p : Pdu) : ILe (encN p) (encD p) := ile_pdu p _ _ (ile_nil _) (ile_nil _)
theorem ilc {x : IVal} {p : Pdu} {w : List Int} (h : ILe x (encD p)) : ILeL [x, .sl true true 1 (w.map u8)] [encD p, .sl false true 1 (w.map u8)] := .cons h (.cons (.sl (fun h => by cases h) (fun h => h) (.refl _)) (.refl _))
theorem ilf {e : Int} {w : List Int} : ILeL [i64 e, .sl true true 1 (w.map u8)] [i64 e, slE 1 u8 w] := .cons (.refl _) (.cons (.sl (fun h => by cases h) (fun h => by cases h) (.refl _)) (.refl _))
theorem bad1 (i : Nat) (h : i < 22) : ASpec prog 14 [encD (nbads.getD i default)] (i64 8) :=
  chk1 (List.all_eq_true.1 bads_all _ (by
    have e : nbads.length = 22 := by rfl
    have h2 : i < nbads.length := by omega
    rw [List.getD_eq_getElem?_getD, List.getElem?_eq_getElem h2]
    exact List.getElem_mem h2))
def nfour : Pdu := { ann with kind := 6 }
def nlong : Pdu := { ann with origin := { ann.origin with max := 33 } }
theorem four1 : ASpec prog 14 [encD nfour] (i64 8) := chk1 (by kernel_rfl)
theorem long1 : ASpec prog 14 [encD nlong] (i64 8) := chk1 (by kernel_rfl)
def zs (n : Nat) : List Int := List.replicate n 0
def nmost0 : Pdu := ⟨0, 10, 0, 0, false, ⟨0, ⟨0, ⟨0, 0⟩, 0⟩, 0⟩, ⟨0, []⟩, kz, 0, 0, 0, 0, zs 4096, bstr (zs 200)⟩
noncomputable def nmostO : { p : Pdu // p = nmost0 } := Classical.choice ⟨⟨nmost0, rfl⟩⟩
noncomputable def nmost : Pdu := nmostO.1
theorem nmost_eq : nmost = nmost0 := nmostO.2
def nmore : Pdu := { nmost0 with copy := zs 4097 }
def nwide : Pdu := ⟨0, 10, 0, 0, false, ⟨0, ⟨0, ⟨0, 0⟩, 0⟩, 0⟩, ⟨0, []⟩, kz, 0, 0, 0, 0, [], bstr (zs 201)⟩
def nmany : Pdu := ⟨0, 99, 0, 0, false, ⟨0, ⟨0, ⟨0, 0⟩, 0⟩, 0⟩, ⟨0, zs 51⟩, kz, 0, 0, 0, 0, [], .empty⟩
def nf0 : List Int := []
theorem nfl0 : ASpec prog 23 [i64 34, slE 1 u8 nf0] (bo true) := fail1 (by kernel_rfl) (by decide) (by kernel_rfl)
def nf1 : List Int := [0, 2, 0, 0, 0, 0, 0]
theorem nfl1 : ASpec prog 23 [i64 34, slE 1 u8 nf1] (bo true) := fail1 (by kernel_rfl) (by decide) (by kernel_rfl)
def nf2 : List Int := [9, 9, 9, 9, 0, 0, 0, 9]
theorem nfl2 : ASpec prog 23 [i64 34, slE 1 u8 nf2] (bo true) := fail1 (by kernel_rfl) (by decide) (by kernel_rfl)
def nf3 : List Int := [0, 2, 0, 0, 0, 0, 0, 7]
theorem nfl3 : ASpec prog 23 [i64 12, slE 1 u8 nf3] (bo true) := fail1 (by kernel_rfl) (by decide) (by kernel_rfl)
def nf4 : List Int := [0, 2, 0, 0, 0, 0, 16, 217]
theorem nfl4 : ASpec prog 23 [i64 12, slE 1 u8 nf4] (bo true) := fail1 (by kernel_rfl) (by decide) (by kernel_rfl)
def nf5 : List Int := [0, 2, 0, 0, 0, 0, 16, 216]
theorem nfl5 : ASpec prog 23 [i64 34, slE 1 u8 nf5] (bo true) := fail1 (by kernel_rfl) (by decide) (by kernel_rfl)
def nf6 : List Int := [0, 2, 0, 0, 255, 255, 255, 255]
theorem nfl6 : ASpec prog 23 [i64 12, slE 1 u8 nf6] (bo true) := fail1 (by kernel_rfl) (by decide) (by kernel_rfl)
def nf7 : List Int := [0, 2, 0, 1, 0, 0, 0, 8]
theorem nfl7 : ASpec prog 23 [i64 12, slE 1 u8 nf7] (bo true) := fail1 (by kernel_rfl) (by decide) (by kernel_rfl)
def nf8 : List Int := [0, 2, 0, 0, 0, 0, 0, 9, 0]
theorem nfl8 : ASpec prog 23 [i64 12, slE 1 u8 nf8] (bo true) := fail1 (by kernel_rfl) (by decide) (by kernel_rfl)
def nf9 : List Int := [0, 4, 0, 0, 0, 0, 0, 20, 2, 8, 24, 0, 10, 0, 0, 0, 0, 0, 251, 244]
theorem nfl9 : ASpec prog 23 [i64 12, slE 1 u8 nf9] (bo true) := fail1 (by kernel_rfl) (by decide) (by kernel_rfl)
def nf10 : List Int := [0, 4, 0, 0, 0, 0, 0, 20, 1, 8, 24, 0, 10, 1, 0, 0, 0, 0, 251, 244]
theorem nfl10 : ASpec prog 23 [i64 12, slE 1 u8 nf10] (bo true) := by
  refine fail1 (by kernel_rfl) (by decide) ?_
  refine dec_4 (by decide) (of_decide_eq_false (by kernel_rfl)) (of_decide_eq_false (by kernel_rfl)) fun h => ?_
  have q := h.2
  rw [chk_ref _ (rng_of (by kernel_rfl))] at q
  exact absurd q (of_decide_eq_false (by kernel_rfl))
def nf11 : List Int := [0, 10, 0, 2, 0, 0, 0, 16, 255, 255, 255, 255, 0, 0, 0, 0]
theorem nfl11 : ASpec prog 23 [i64 12, slE 1 u8 nf11] (bo true) := fail1 (by kernel_rfl) (by decide) (by kernel_rfl)
def nf12 : List Int := [2, 11, 0, 1, 0, 0, 0, 12, 0, 0, 0, 5]
theorem nfl12 : ASpec prog 23 [i64 12, slE 1 u8 nf12] (bo true) := fail1 (by kernel_rfl) (by decide) (by kernel_rfl)
def nf13 : List Int := [2, 11, 1, 0, 0, 0, 0, 18, 0, 0, 0, 5, 0, 0, 0, 1, 0, 0]
theorem nfl13 : ASpec prog 23 [i64 12, slE 1 u8 nf13] (bo true) := fail1 (by kernel_rfl) (by decide) (by kernel_rfl)
theorem bstr_size {t : List Int} (h : byteL t) : (bstr t).size = t.length := by
  have e := congrArg List.length (bytesL_bstr h)
  unfold bytesL at e
  rw [List.length_map] at e
  rw [← e]; rfl
theorem zs_byte (n : Nat) : byteL (zs n) := fun x hx => by
  have := List.eq_of_mem_replicate hx
  omega
theorem zs_len (n : Nat) : (zs n).length = n := List.length_replicate
theorem zs_map (n : Nat) (f : Int → IVal) : (zs n).map f = List.replicate n (f 0) := List.map_replicate
theorem ilz (n : Nat) : ILeL (List.replicate n (u8 0)) ((zs n).map u8) := by rw [zs_map]; exact .refl _
theorem ilz32 (n : Nat) : ILeL (List.replicate n (u32 0)) ((zs n).map u32) := by rw [zs_map]; exact .refl _
theorem most_small : small nmost := by
  rw [nmost_eq]
  unfold small
  show ¬ (4096 < (zs 4096).length ∨ 200 < (bstr (zs 200)).size ∨ 50 < 0)
  rw [bstr_size (zs_byte _), zs_len, zs_len]; omega
theorem most_rng : nmost.rng := by rw [nmost_eq]; exact rng_of (by kernel_rfl)
theorem most_wf : wfB nmost := by rw [nmost_eq]; exact ⟨zs_byte _, wf_kz⟩
theorem most_chk : chk nmost = 0 := by
  rw [chk_ref _ most_rng]
  unfold refC
  rw [if_neg most_small, if_neg]
  rw [nmost_eq]
  rintro (h | h | h)
  · exact absurd h (by decide)
  · exact absurd h (by decide)
  · exact h ((bare10 (p := nmost0) rfl).trans (show _ = nmost0 from rfl)).symm
theorem most_len : (encB nmost).length = 4312 := by
  rw [nmost_eq, encB_len, rs_10 rfl, rs69]
  show 8 + (num _ 4 ++ zs 4096 ++ num _ 4 ++ bytesL (bstr (zs 200))).length = 4312
  rw [bytesL_bstr (zs_byte _)]
  simp [num_len, zs_len]
theorem most_e : ASpec prog 21 [encD nmost] (.tup [slE 1 u8 (encB nmost), i64 0]) := by
  have q := c21 nmost most_wf
  rwa [most_chk, show eO nmost = encB nmost from if_pos most_chk] at q
theorem most_d : ASpec prog 22 [slE 1 u8 (encB nmost)] (.tup [encD nmost, i64 4312, i64 0]) := by
  have q := c22 (encB nmost) (encB_byte _ most_wf) (by rw [most_len]; decide)
  have e := dec_enc nmost most_chk []
  rw [List.append_nil, most_len] at e
  rw [e] at q
  exact q
theorem great1 {p : Pdu} (hw : wfB p) (h : ¬ small p) : ASpec prog 14 [encD p] (i64 4) := by
  have q := c14 p hw
  rwa [chk_b h] at q
theorem more1 : ASpec prog 14 [encD nmore] (i64 4) := great1 ⟨zs_byte _, wf_kz⟩ fun h => h (.inl (by show 4096 < (zs 4097).length; rw [zs_len]; omega))
theorem wide1 : ASpec prog 14 [encD nwide] (i64 4) := great1 ⟨byteL_nil, wf_kz⟩ fun h => h (.inr (.inl (by show 200 < (bstr (zs 201)).size; rw [bstr_size (zs_byte _), zs_len]; omega)))
theorem many1 : ASpec prog 14 [encD nmany] (i64 4) := great1 ⟨byteL_nil, wf_kz⟩ fun h => h (.inr (.inr (by show 50 < (zs 51).length; rw [zs_len]; omega)))
end Gp
namespace Gp
noncomputable def O4 : Nat → Nat → Orc
  | 2, 2 => .call [encD nm0, .sl false true 1 (nw0.map u8)] (bo true)
  | 2, 6 => .call [encD nm1, .sl false true 1 (nw1.map u8)] (bo true)
  | 2, 11 => .call [encD nm2, .sl false true 1 (nw2.map u8)] (bo true)
  | 2, 16 => .call [encD nm3, .sl false true 1 (nw3.map u8)] (bo true)
  | 2, 21 => .call [encD nm4, .sl false true 1 (nw4.map u8)] (bo true)
  | 3, 4 => .call [encD nm5, .sl false true 1 (nw5.map u8)] (bo true)
  | 3, 9 => .call [encD nm6, .sl false true 1 (nw6.map u8)] (bo true)
  | 3, 17 => .call [encD nm7, .sl false true 1 (nw7.map u8)] (bo true)
  | 4, 5 => .call [encD nm8, .sl false true 1 (nw8.map u8)] (bo true)
  | 4, 12 => .call [encD nm9, .sl false true 1 (nw9.map u8)] (bo true)
  | 4, 18 => .call [encD nm10, .sl false true 1 (nw10.map u8)] (bo true)
  | 21, 0 => .call [i64 34, slE 1 u8 nf0] (bo true)
  | 21, 3 => .call [i64 34, slE 1 u8 nf1] (bo true)
  | 21, 7 => .call [i64 34, slE 1 u8 nf2] (bo true)
  | 21, 11 => .call [i64 12, slE 1 u8 nf3] (bo true)
  | 21, 15 => .call [i64 12, slE 1 u8 nf4] (bo true)
  | 21, 19 => .call [i64 34, slE 1 u8 nf5] (bo true)
  | 21, 23 => .call [i64 12, slE 1 u8 nf6] (bo true)
  | 22, 1 => .call [i64 12, slE 1 u8 nf7] (bo true)
  | 22, 4 => .call [i64 12, slE 1 u8 nf8] (bo true)
  | 22, 8 => .call [i64 12, slE 1 u8 nf9] (bo true)
  | 22, 12 => .call [i64 12, slE 1 u8 nf10] (bo true)
  | 22, 16 => .call [i64 12, slE 1 u8 nf11] (bo true)
  | 22, 20 => .call [i64 12, slE 1 u8 nf12] (bo true)
  | 22, 24 => .call [i64 12, slE 1 u8 nf13] (bo true)
  | 14, 2 => .tos (zs 200)
  | 15, 1 => .call [encD nmost] (.tup [slE 1 u8 (encB nmost), i64 0])
  | 16, 1 => .call [slE 1 u8 (encB nmost)] (.tup [encD nmost, i64 4312, i64 0])
  | 18, 1 => .tos (zs 201)
  | 20, 1 => .call [encD nfour] (i64 8)
  | 20, 5 => .call [encD nlong] (i64 8)
  | 20, 33 => .call [encD nmore] (i64 4)
  | 20, 38 => .call [encD nwide] (i64 4)
  | 20, 43 => .call [encD nmany] (i64 4)
  | 20, 2 => .look .any true
  | 20, 6 => .look .any true
  | 20, 10 => .look .any true
  | 20, 19 => .look .any true
  | 20, 23 => .look .any true
  | 20, 34 => .look .any true
  | 20, 39 => .look .any true
  | 20, 44 => .look .any true
  | _, _ => .no
def I4 (i : Nat) : LState := { t := [(4, .imm (i64 i)), (3, .imm (.sl true true 37 (nbads.map encN))), (2, .imm (bo true))], s := [], m := 267, n := 105 }
def E4 : LState := { t := [(2, .imm (bo true))], s := [], m := 267, n := 105 }
def fin4 : Exit → Fin
  | .normal => ⟨[], [4, 3, 2], []⟩
  | _ => ⟨[], [2], []⟩
def T4r (i : Nat) : Tell :=
  (let q0 := List.getD nbads i default;
  Tell.mk (fun x x_1 => false) (fun r j => if (r == 9 && j == 2) = true then Orc.elem (encN q0) else if (r == 9 && j == 4) = true then Orc.call [encD q0] (i64 8) else if (r == 9 && j == 5) = true then Orc.look AVal.any false else Orc.no) (fun x => Tree.fail 1000003 0) (fun x => 0) (fun x => ([],[])) (ogetO (fun r j => if (r == 9 && j == 2) = true then Orc.elem (encN q0) else if (r == 9 && j == 4) = true then Orc.call [encD q0] (i64 8) else if (r == 9 && j == 5) = true then Orc.look AVal.any false else Orc.no) []) fun x x_1 => Tree.fail 1000003 0)
theorem t4r (i : Nat) : levL prog Proofs.Try.f4 7 (I4 i) (T4r i) fin4 =
  (let q0 := Origin.mk 0 (Pfx.mk 0 (Addr.mk 0 0) 0) 0; let q1 := List.getD nbads i default;
  Tree.br (decide ((↑i : Int) < 22)) (.need (0 ≤ (↑i : Int) ∧ [encN (Pdu.mk 3 0 0 0 false q0 (Attest.mk 0 []) kz 0 0 0 0 [] (ByteArray.mk (Array.mk []))),encN (Pdu.mk 0 5 0 0 false q0 (Attest.mk 0 []) kz 0 0 0 0 [] (ByteArray.mk (Array.mk []))),encN (Pdu.mk 0 12 0 0 false q0 (Attest.mk 0 []) kz 0 0 0 0 [] (ByteArray.mk (Array.mk []))),encN (Pdu.mk 0 2 1 0 false q0 (Attest.mk 0 []) kz 0 0 0 0 [] (ByteArray.mk (Array.mk []))),encN (Pdu.mk 0 2 0 0 true q0 (Attest.mk 0 []) kz 0 0 0 0 [] (ByteArray.mk (Array.mk []))),encN (Pdu.mk 0 3 0 1 false q0 (Attest.mk 0 []) kz 0 0 0 0 [] (ByteArray.mk (Array.mk
  []))),encN (Pdu.mk 0 0 0 0 false q0 (Attest.mk 0 []) kz 0 0 0 1 [] (ByteArray.mk (Array.mk []))),encN (Pdu.mk 0 4 0 0 false q0 (Attest.mk 0 []) kz 0 0 0 0 [] (ByteArray.mk (Array.mk []))),encN (Pdu.mk 0 9 0 0 false q0 (Attest.mk 0 []) kz 0 0 0 0 [] (ByteArray.mk (Array.mk []))),encN (Pdu.mk 1 9 0 0 false q0 (Attest.mk 0 []) key5 0 0 0 0 [] (ByteArray.mk (Array.mk []))),encN (Pdu.mk 0 10 0 0 false q0 (Attest.mk 0 []) kz 0 0 0 9 [] (ByteArray.mk (Array.mk []))),encN (Pdu.mk 0 10 1 0 false q0 (Attest.mk 0 []) kz 0 0 0 0 [] (ByteArray.mk (Array.mk []))),encN (Pdu.mk 1 11 0 0 false q0 (Attest.mk 5
  []) kz 0 0 0 0 [] (ByteArray.mk (Array.mk []))),encN (Pdu.mk 2 11 0 0 false q0 (Attest.mk 0 []) kz 0 0 0 0 [] (ByteArray.mk (Array.mk []))),encN (Pdu.mk 2 11 0 0 true q0 (Attest.mk 5 []) kz 0 0 0 0 [] (ByteArray.mk (Array.mk []))),encN (Pdu.mk 2 11 0 0 false q0 (Attest.mk 5 [1]) kz 0 0 0 0 [] (ByteArray.mk (Array.mk []))),encN (Pdu.mk 2 11 0 0 true q0 (Attest.mk 5 [5]) kz 0 0 0 0 [] (ByteArray.mk (Array.mk []))),encN (Pdu.mk 0 7 0 0 false q0 (Attest.mk 0 []) kz 1 0 0 0 [] (ByteArray.mk (Array.mk []))),encN (Pdu.mk 1 7 0 0 false q0 (Attest.mk 0 []) kz 1 1 0 0 [] (ByteArray.mk (Array.mk
  []))),encN (Pdu.mk 1 7 0 0 false q0 (Attest.mk 0 []) kz 2 1 1 0 [] (ByteArray.mk (Array.mk []))),encN (Pdu.mk 1 7 0 0 false q0 (Attest.mk 0 []) kz 0 1 1 0 [] (ByteArray.mk (Array.mk []))),encN (Pdu.mk 1 7 0 0 false q0 (Attest.mk 0 []) kz 1 1 1048577 0 [] (ByteArray.mk (Array.mk [])))][i]? = some (encN q1)) (.need (ILeL [encN q1] [encD q1] ∧ ASpec prog 14 [encD q1] (i64 8)) (.done Exit.normal (LState.mk [(4,.imm (i64 (IntKind.wrap IntKind.i64 ((↑i : Int) + 1)))),(3,.imm (.sl true true 37 [encN (Pdu.mk 3 0 0 0 false q0 (Attest.mk 0 []) kz 0 0 0 0 [] (ByteArray.mk (Array.mk []))),encN (Pdu.mk 0 5
  0 0 false q0 (Attest.mk 0 []) kz 0 0 0 0 [] (ByteArray.mk (Array.mk []))),encN (Pdu.mk 0 12 0 0 false q0 (Attest.mk 0 []) kz 0 0 0 0 [] (ByteArray.mk (Array.mk []))),encN (Pdu.mk 0 2 1 0 false q0 (Attest.mk 0 []) kz 0 0 0 0 [] (ByteArray.mk (Array.mk []))),encN (Pdu.mk 0 2 0 0 true q0 (Attest.mk 0 []) kz 0 0 0 0 [] (ByteArray.mk (Array.mk []))),encN (Pdu.mk 0 3 0 1 false q0 (Attest.mk 0 []) kz 0 0 0 0 [] (ByteArray.mk (Array.mk []))),encN (Pdu.mk 0 0 0 0 false q0 (Attest.mk 0 []) kz 0 0 0 1 [] (ByteArray.mk (Array.mk []))),encN (Pdu.mk 0 4 0 0 false q0 (Attest.mk 0 []) kz 0 0 0 0 []
  (ByteArray.mk (Array.mk []))),encN (Pdu.mk 0 9 0 0 false q0 (Attest.mk 0 []) kz 0 0 0 0 [] (ByteArray.mk (Array.mk []))),encN (Pdu.mk 1 9 0 0 false q0 (Attest.mk 0 []) key5 0 0 0 0 [] (ByteArray.mk (Array.mk []))),encN (Pdu.mk 0 10 0 0 false q0 (Attest.mk 0 []) kz 0 0 0 9 [] (ByteArray.mk (Array.mk []))),encN (Pdu.mk 0 10 1 0 false q0 (Attest.mk 0 []) kz 0 0 0 0 [] (ByteArray.mk (Array.mk []))),encN (Pdu.mk 1 11 0 0 false q0 (Attest.mk 5 []) kz 0 0 0 0 [] (ByteArray.mk (Array.mk []))),encN (Pdu.mk 2 11 0 0 false q0 (Attest.mk 0 []) kz 0 0 0 0 [] (ByteArray.mk (Array.mk []))),encN (Pdu.mk 2 11 0
  0 true q0 (Attest.mk 5 []) kz 0 0 0 0 [] (ByteArray.mk (Array.mk []))),encN (Pdu.mk 2 11 0 0 false q0 (Attest.mk 5 [1]) kz 0 0 0 0 [] (ByteArray.mk (Array.mk []))),encN (Pdu.mk 2 11 0 0 true q0 (Attest.mk 5 [5]) kz 0 0 0 0 [] (ByteArray.mk (Array.mk []))),encN (Pdu.mk 0 7 0 0 false q0 (Attest.mk 0 []) kz 1 0 0 0 [] (ByteArray.mk (Array.mk []))),encN (Pdu.mk 1 7 0 0 false q0 (Attest.mk 0 []) kz 1 1 0 0 [] (ByteArray.mk (Array.mk []))),encN (Pdu.mk 1 7 0 0 false q0 (Attest.mk 0 []) kz 2 1 1 0 [] (ByteArray.mk (Array.mk []))),encN (Pdu.mk 1 7 0 0 false q0 (Attest.mk 0 []) kz 0 1 1 0 []
  (ByteArray.mk (Array.mk []))),encN (Pdu.mk 1 7 0 0 false q0 (Attest.mk 0 []) kz 1 1 1048577 0 [] (ByteArray.mk (Array.mk [])))])),(2,.imm (bo true))] [] 267 118 [])))) (.done (Exit.exit 0) (LState.mk [(2,.imm (bo true))] [] 267 109 []))) := by kernel_rfl
def T4 : Tell :=
  Tell.mk (fun x x_1 => true) O4 (fun x => Tree.done (Exit.exit 0) E4) (fun x => 0) (fun x => ([4,3,2],[])) (ogetO O4 [(105,11,0,Orc.call [] (encD ann)),(105,11,1,Orc.call [] (encD ann)),(252,23,1,Orc.call [] (bo true))]) fun x x_1 => Tree.done (Exit.exit 0) E4
theorem t4 : levF prog Proofs.Try.f4 [] T4 =
  (let q0 := encB nmost;
  Tree.need (ILeL [.agg [u8 0,u8 2,u16 0,u32 0,bo false,u32 0,u8 0,u64 0,u64 0,i64 0,i64 0,u32 0,nS,u32 0,u8 0,u8 0,u8 0,u8 0,u8 0,u8 0,u8 0,u8 0,u8 0,u8 0,u8 0,u8 0,u8 0,u8 0,u8 0,u8 0,i64 0,u32 0,u32 0,u32 0,u16 0,nS,st .empty],.sl true true 1 [u8 0,u8 2,u8 0,u8 0,u8 0,u8 0,u8 0,u8 8]] [encD nm0,.sl false true 1 [u8 0,u8 2,u8 0,u8 0,u8 0,u8 0,u8 0,u8 8]] ∧ ASpec prog 19 [encD nm0,.sl false true 1 [u8 0,u8 2,u8 0,u8 0,u8 0,u8 0,u8 0,u8 8]] (bo true)) (.need (ILeL [.agg [u8 2,u8 8,u16 0,u32 0,bo false,u32 0,u8 0,u64 0,u64 0,i64 0,i64 0,u32 0,nS,u32 0,u8 0,u8 0,u8 0,u8 0,u8 0,u8 0,u8 0,u8 0,u8
  0,u8 0,u8 0,u8 0,u8 0,u8 0,u8 0,u8 0,i64 0,u32 0,u32 0,u32 0,u16 0,nS,st .empty],.sl true true 1 [u8 2,u8 8,u8 0,u8 0,u8 0,u8 0,u8 0,u8 8]] [encD nm1,.sl false true 1 [u8 2,u8 8,u8 0,u8 0,u8 0,u8 0,u8 0,u8 8]] ∧ ASpec prog 19 [encD nm1,.sl false true 1 [u8 2,u8 8,u8 0,u8 0,u8 0,u8 0,u8 0,u8 8]] (bo true)) (.need (ILeL [.agg [u8 1,u8 3,u16 258,u32 0,bo false,u32 0,u8 0,u64 0,u64 0,i64 0,i64 0,u32 0,nS,u32 0,u8 0,u8 0,u8 0,u8 0,u8 0,u8 0,u8 0,u8 0,u8 0,u8 0,u8 0,u8 0,u8 0,u8 0,u8 0,u8 0,i64 0,u32 0,u32 0,u32 0,u16 0,nS,st .empty],.sl true true 1 [u8 1,u8 3,u8 1,u8 2,u8 0,u8 0,u8 0,u8 8]] [encD
  nm2,.sl false true 1 [u8 1,u8 3,u8 1,u8 2,u8 0,u8 0,u8 0,u8 8]] ∧ ASpec prog 19 [encD nm2,.sl false true 1 [u8 1,u8 3,u8 1,u8 2,u8 0,u8 0,u8 0,u8 8]] (bo true)) (.need (ILeL [.agg [u8 0,u8 0,u16 0,u32 4294967295,bo false,u32 0,u8 0,u64 0,u64 0,i64 0,i64 0,u32 0,nS,u32 0,u8 0,u8 0,u8 0,u8 0,u8 0,u8 0,u8 0,u8 0,u8 0,u8 0,u8 0,u8 0,u8 0,u8 0,u8 0,u8 0,i64 0,u32 0,u32 0,u32 0,u16 0,nS,st .empty],.sl true true 1 [u8 0,u8 0,u8 0,u8 0,u8 0,u8 0,u8 0,u8 12,u8 255,u8 255,u8 255,u8 255]] [encD nm3,.sl false true 1 [u8 0,u8 0,u8 0,u8 0,u8 0,u8 0,u8 0,u8 12,u8 255,u8 255,u8 255,u8 255]] ∧ ASpec prog 19
  [encD nm3,.sl false true 1 [u8 0,u8 0,u8 0,u8 0,u8 0,u8 0,u8 0,u8 12,u8 255,u8 255,u8 255,u8 255]] (bo true)) (.need (ILeL [.agg [u8 2,u8 6,u16 0,u32 0,bo false,u32 1,u8 6,u64 9223372036854775808,u64 0,i64 1,i64 128,u32 0,nS,u32 0,u8 0,u8 0,u8 0,u8 0,u8 0,u8 0,u8 0,u8 0,u8 0,u8 0,u8 0,u8 0,u8 0,u8 0,u8 0,u8 0,i64 0,u32 0,u32 0,u32 0,u16 0,nS,st .empty],.sl true true 1 [u8 2,u8 6,u8 0,u8 0,u8 0,u8 0,u8 0,u8 32,u8 0,u8 1,u8 128,u8 0,u8 128,u8 0,u8 0,u8 0,u8 0,u8 0,u8 0,u8 0,u8 0,u8 0,u8 0,u8 0,u8 0,u8 0,u8 0,u8 0,u8 0,u8 0,u8 0,u8 1]] [encD nm4,.sl false true 1 [u8 2,u8 6,u8 0,u8 0,u8 0,u8 0,u8
  0,u8 32,u8 0,u8 1,u8 128,u8 0,u8 128,u8 0,u8 0,u8 0,u8 0,u8 0,u8 0,u8 0,u8 0,u8 0,u8 0,u8 0,u8 0,u8 0,u8 0,u8 0,u8 0,u8 0,u8 0,u8 1]] ∧ ASpec prog 19 [encD nm4,.sl false true 1 [u8 2,u8 6,u8 0,u8 0,u8 0,u8 0,u8 0,u8 32,u8 0,u8 1,u8 128,u8 0,u8 128,u8 0,u8 0,u8 0,u8 0,u8 0,u8 0,u8 0,u8 0,u8 0,u8 0,u8 0,u8 0,u8 0,u8 0,u8 0,u8 0,u8 0,u8 0,u8 1]] (bo true)) (.need (ILeL [.agg [u8 0,u8 7,u16 1,u32 2,bo false,u32 0,u8 0,u64 0,u64 0,i64 0,i64 0,u32 0,nS,u32 0,u8 0,u8 0,u8 0,u8 0,u8 0,u8 0,u8 0,u8 0,u8 0,u8 0,u8 0,u8 0,u8 0,u8 0,u8 0,u8 0,i64 0,u32 0,u32 0,u32 0,u16 0,nS,st .empty],.sl true true 1 [u8
  0,u8 7,u8 0,u8 1,u8 0,u8 0,u8 0,u8 12,u8 0,u8 0,u8 0,u8 2]] [encD nm5,.sl false true 1 [u8 0,u8 7,u8 0,u8 1,u8 0,u8 0,u8 0,u8 12,u8 0,u8 0,u8 0,u8 2]] ∧ ASpec prog 19 [encD nm5,.sl false true 1 [u8 0,u8 7,u8 0,u8 1,u8 0,u8 0,u8 0,u8 12,u8 0,u8 0,u8 0,u8 2]] (bo true)) (.need (ILeL [.agg [u8 1,u8 7,u16 1,u32 2,bo false,u32 0,u8 0,u64 0,u64 0,i64 0,i64 0,u32 0,nS,u32 0,u8 0,u8 0,u8 0,u8 0,u8 0,u8 0,u8 0,u8 0,u8 0,u8 0,u8 0,u8 0,u8 0,u8 0,u8 0,u8 0,i64 0,u32 3,u32 1,u32 256,u16 0,nS,st .empty],.sl true true 1 [u8 1,u8 7,u8 0,u8 1,u8 0,u8 0,u8 0,u8 24,u8 0,u8 0,u8 0,u8 2,u8 0,u8 0,u8 0,u8 3,u8 0,u8
  0,u8 0,u8 1,u8 0,u8 0,u8 1,u8 0]] [encD nm6,.sl false true 1 [u8 1,u8 7,u8 0,u8 1,u8 0,u8 0,u8 0,u8 24,u8 0,u8 0,u8 0,u8 2,u8 0,u8 0,u8 0,u8 3,u8 0,u8 0,u8 0,u8 1,u8 0,u8 0,u8 1,u8 0]] ∧ ASpec prog 19 [encD nm6,.sl false true 1 [u8 1,u8 7,u8 0,u8 1,u8 0,u8 0,u8 0,u8 24,u8 0,u8 0,u8 0,u8 2,u8 0,u8 0,u8 0,u8 3,u8 0,u8 0,u8 0,u8 1,u8 0,u8 0,u8 1,u8 0]] (bo true)) (.need (ILeL [.agg [u8 1,u8 9,u16 0,u32 0,bo true,u32 0,u8 0,u64 0,u64 0,i64 0,i64 0,u32 0,nS,u32 5,u8 9,u8 0,u8 0,u8 0,u8 0,u8 0,u8 0,u8 0,u8 0,u8 0,u8 0,u8 0,u8 0,u8 0,u8 0,u8 0,i64 4,u32 0,u32 0,u32 0,u16 0,nS,st .empty],.sl true true
  1 [u8 1,u8 9,u8 1,u8 0,u8 0,u8 0,u8 0,u8 29,u8 0,u8 0,u8 0,u8 5,u8 4,u8 9,u8 0,u8 0,u8 0,u8 0,u8 0,u8 0,u8 0,u8 0,u8 0,u8 0,u8 0,u8 0,u8 0,u8 0,u8 0]] [encD nm7,.sl false true 1 [u8 1,u8 9,u8 1,u8 0,u8 0,u8 0,u8 0,u8 29,u8 0,u8 0,u8 0,u8 5,u8 4,u8 9,u8 0,u8 0,u8 0,u8 0,u8 0,u8 0,u8 0,u8 0,u8 0,u8 0,u8 0,u8 0,u8 0,u8 0,u8 0]] ∧ ASpec prog 19 [encD nm7,.sl false true 1 [u8 1,u8 9,u8 1,u8 0,u8 0,u8 0,u8 0,u8 29,u8 0,u8 0,u8 0,u8 5,u8 4,u8 9,u8 0,u8 0,u8 0,u8 0,u8 0,u8 0,u8 0,u8 0,u8 0,u8 0,u8 0,u8 0,u8 0,u8 0,u8 0]] (bo true)) (.need (ILeL [.agg [u8 0,u8 10,u16 0,u32 0,bo false,u32 0,u8 0,u64
  0,u64 0,i64 0,i64 0,u32 0,nS,u32 0,u8 0,u8 0,u8 0,u8 0,u8 0,u8 0,u8 0,u8 0,u8 0,u8 0,u8 0,u8 0,u8 0,u8 0,u8 0,u8 0,i64 0,u32 0,u32 0,u32 0,u16 2,.sl true true 1 [u8 7],.v (Value.string (ByteArray.mk (Array.mk [UInt8.ofNat 110,UInt8.ofNat 111])))],.sl true true 1 [u8 0,u8 10,u8 0,u8 2,u8 0,u8 0,u8 0,u8 19,u8 0,u8 0,u8 0,u8 1,u8 7,u8 0,u8 0,u8 0,u8 2,u8 110,u8 111]] [encD nm8,.sl false true 1 [u8 0,u8 10,u8 0,u8 2,u8 0,u8 0,u8 0,u8 19,u8 0,u8 0,u8 0,u8 1,u8 7,u8 0,u8 0,u8 0,u8 2,u8 110,u8 111]] ∧ ASpec prog 19 [encD nm8,.sl false true 1
  [u8 0,u8 10,u8 0,u8 2,u8 0,u8 0,u8 0,u8 19,u8 0,u8 0,u8 0,u8 1,u8 7,u8 0,u8 0,u8 0,u8 2,u8 110,u8 111]] (bo true)) (.need (ILeL [.agg [u8 2,u8 11,u16 0,u32 0,bo true,u32 0,u8 0,u64 0,u64 0,i64 0,i64 0,u32 5,.sl true true 1 [u32 1,u32 256],u32 0,u8 0,u8 0,u8 0,u8 0,u8 0,u8 0,u8 0,u8 0,u8 0,u8 0,u8 0,u8 0,u8 0,u8 0,u8 0,u8 0,i64 0,u32 0,u32 0,u32 0,u16 0,nS,st .empty],.sl true true 1 [u8 2,u8 11,u8 1,u8 0,u8 0,u8 0,u8 0,u8 20,u8 0,u8 0,u8 0,u8 5,u8 0,u8 0,u8 0,u8 1,u8 0,u8 0,u8 1,u8 0]] [encD nm9,.sl false true 1 [u8 2,u8 11,u8 1,u8 0,u8 0,u8 0,u8 0,u8 20,u8 0,u8 0,u8 0,u8 5,u8 0,u8 0,u8 0,u8
  1,u8 0,u8 0,u8 1,u8 0]] ∧ ASpec prog 19 [encD nm9,.sl false true 1 [u8 2,u8 11,u8 1,u8 0,u8 0,u8 0,u8 0,u8 20,u8 0,u8 0,u8 0,u8 5,u8 0,u8 0,u8 0,u8 1,u8 0,u8 0,u8 1,u8 0]] (bo true)) (.need (ILeL [.agg [u8 2,u8 11,u16 0,u32 0,bo false,u32 0,u8 0,u64 0,u64 0,i64 0,i64 0,u32 5,nS,u32 0,u8 0,u8 0,u8 0,u8 0,u8 0,u8 0,u8 0,u8 0,u8 0,u8 0,u8 0,u8 0,u8 0,u8 0,u8 0,u8 0,i64 0,u32 0,u32 0,u32 0,u16 0,nS,st .empty],.sl true true 1 [u8 2,u8 11,u8 0,u8 0,u8 0,u8 0,u8 0,u8 12,u8 0,u8 0,u8 0,u8 5]] [encD nm10,.sl false true 1 [u8 2,u8 11,u8 0,u8 0,u8 0,u8 0,u8 0,u8 12,u8 0,u8 0,u8 0,u8 5]] ∧ ASpec prog 19
  [encD nm10,.sl false true 1 [u8 2,u8 11,u8 0,u8 0,u8 0,u8 0,u8 0,u8 12,u8 0,u8 0,u8 0,u8 5]] (bo true)) (.loop 7 (LState.mk [(4,.imm (i64 0)),(3,.imm (.sl true true 37 [.agg [u8 3,u8 0,u16 0,u32 0,bo false,u32 0,u8 0,u64 0,u64 0,i64 0,i64 0,u32 0,nS,u32 0,u8 0,u8 0,u8 0,u8 0,u8 0,u8 0,u8 0,u8 0,u8 0,u8 0,u8 0,u8 0,u8 0,u8 0,u8 0,u8 0,i64 0,u32 0,u32 0,u32 0,u16 0,nS,st .empty],.agg [u8 0,u8 5,u16 0,u32 0,bo false,u32 0,u8 0,u64 0,u64 0,i64 0,i64 0,u32 0,nS,u32 0,u8 0,u8 0,u8 0,u8 0,u8 0,u8 0,u8 0,u8 0,u8 0,u8 0,u8 0,u8 0,u8 0,u8 0,u8 0,u8 0,i64 0,u32 0,u32 0,u32 0,u16 0,nS,st .empty],.agg [u8
  0,u8 12,u16 0,u32 0,bo false,u32 0,u8 0,u64 0,u64 0,i64 0,i64 0,u32 0,nS,u32 0,u8 0,u8 0,u8 0,u8 0,u8 0,u8 0,u8 0,u8 0,u8 0,u8 0,u8 0,u8 0,u8 0,u8 0,u8 0,u8 0,i64 0,u32 0,u32 0,u32 0,u16 0,nS,st .empty],.agg [u8 0,u8 2,u16 1,u32 0,bo false,u32 0,u8 0,u64 0,u64 0,i64 0,i64 0,u32 0,nS,u32 0,u8 0,u8 0,u8 0,u8 0,u8 0,u8 0,u8 0,u8 0,u8 0,u8 0,u8 0,u8 0,u8 0,u8 0,u8 0,u8 0,i64 0,u32 0,u32 0,u32 0,u16 0,nS,st .empty],.agg [u8 0,u8 2,u16 0,u32 0,bo true,u32 0,u8 0,u64 0,u64 0,i64 0,i64 0,u32 0,nS,u32 0,u8 0,u8 0,u8 0,u8 0,u8 0,u8 0,u8 0,u8 0,u8 0,u8 0,u8 0,u8 0,u8 0,u8 0,u8 0,u8 0,i64 0,u32 0,u32 0,u32
  0,u16 0,nS,st .empty],.agg [u8 0,u8 3,u16 0,u32 1,bo false,u32 0,u8 0,u64 0,u64 0,i64 0,i64 0,u32 0,nS,u32 0,u8 0,u8 0,u8 0,u8 0,u8 0,u8 0,u8 0,u8 0,u8 0,u8 0,u8 0,u8 0,u8 0,u8 0,u8 0,u8 0,i64 0,u32 0,u32 0,u32 0,u16 0,nS,st .empty],.agg [u8 0,u8 0,u16 0,u32 0,bo false,u32 0,u8 0,u64 0,u64 0,i64 0,i64 0,u32 0,nS,u32 0,u8 0,u8 0,u8 0,u8 0,u8 0,u8 0,u8 0,u8 0,u8 0,u8 0,u8 0,u8 0,u8 0,u8 0,u8 0,u8 0,i64 0,u32 0,u32 0,u32 0,u16 1,nS,st .empty],.agg [u8 0,u8 4,u16 0,u32 0,bo false,u32 0,u8 0,u64 0,u64 0,i64 0,i64 0,u32 0,nS,u32 0,u8 0,u8 0,u8 0,u8 0,u8 0,u8 0,u8 0,u8 0,u8 0,u8 0,u8 0,u8 0,u8 0,u8
  0,u8 0,u8 0,i64 0,u32 0,u32 0,u32 0,u16 0,nS,st .empty],.agg [u8 0,u8 9,u16 0,u32 0,bo false,u32 0,u8 0,u64 0,u64 0,i64 0,i64 0,u32 0,nS,u32 0,u8 0,u8 0,u8 0,u8 0,u8 0,u8 0,u8 0,u8 0,u8 0,u8 0,u8 0,u8 0,u8 0,u8 0,u8 0,u8 0,i64 0,u32 0,u32 0,u32 0,u16 0,nS,st .empty],.agg [u8 1,u8 9,u16 0,u32 0,bo false,u32 0,u8 0,u64 0,u64 0,i64 0,i64 0,u32 0,nS,u32 0,u8 0,u8 0,u8 0,u8 0,u8 0,u8 0,u8 0,u8 0,u8 0,u8 0,u8 0,u8 0,u8 0,u8 0,u8 0,u8 0,i64 5,u32 0,u32 0,u32 0,u16 0,nS,st .empty],.agg [u8 0,u8 10,u16 0,u32 0,bo false,u32 0,u8 0,u64 0,u64 0,i64 0,i64 0,u32 0,nS,u32 0,u8 0,u8 0,u8 0,u8 0,u8 0,u8 0,u8
  0,u8 0,u8 0,u8 0,u8 0,u8 0,u8 0,u8 0,u8 0,u8 0,i64 0,u32 0,u32 0,u32 0,u16 9,nS,st .empty],.agg [u8 0,u8 10,u16 1,u32 0,bo false,u32 0,u8 0,u64 0,u64 0,i64 0,i64 0,u32 0,nS,u32 0,u8 0,u8 0,u8 0,u8 0,u8 0,u8 0,u8 0,u8 0,u8 0,u8 0,u8 0,u8 0,u8 0,u8 0,u8 0,u8 0,i64 0,u32 0,u32 0,u32 0,u16 0,nS,st .empty],.agg [u8 1,u8 11,u16 0,u32 0,bo false,u32 0,u8 0,u64 0,u64 0,i64 0,i64 0,u32 5,nS,u32 0,u8 0,u8 0,u8 0,u8 0,u8 0,u8 0,u8 0,u8 0,u8 0,u8 0,u8 0,u8 0,u8 0,u8 0,u8 0,u8 0,i64 0,u32 0,u32 0,u32 0,u16 0,nS,st .empty],.agg [u8 2,u8 11,u16 0,u32 0,bo false,u32 0,u8 0,u64 0,u64 0,i64 0,i64 0,u32 0,nS,u32
  0,u8 0,u8 0,u8 0,u8 0,u8 0,u8 0,u8 0,u8 0,u8 0,u8 0,u8 0,u8 0,u8 0,u8 0,u8 0,u8 0,i64 0,u32 0,u32 0,u32 0,u16 0,nS,st .empty],.agg [u8 2,u8 11,u16 0,u32 0,bo true,u32 0,u8 0,u64 0,u64 0,i64 0,i64 0,u32 5,nS,u32 0,u8 0,u8 0,u8 0,u8 0,u8 0,u8 0,u8 0,u8 0,u8 0,u8 0,u8 0,u8 0,u8 0,u8 0,u8 0,u8 0,i64 0,u32 0,u32 0,u32 0,u16 0,nS,st .empty],.agg [u8 2,u8 11,u16 0,u32 0,bo false,u32 0,u8 0,u64 0,u64 0,i64 0,i64 0,u32 5,.sl true true 1 [u32 1],u32 0,u8 0,u8 0,u8 0,u8 0,u8 0,u8 0,u8 0,u8 0,u8 0,u8 0,u8 0,u8 0,u8 0,u8 0,u8 0,u8 0,i64 0,u32 0,u32 0,u32 0,u16 0,nS,st .empty],.agg [u8 2,u8 11,u16 0,u32 0,bo
  true,u32 0,u8 0,u64 0,u64 0,i64 0,i64 0,u32 5,.sl true true 1 [u32 5],u32 0,u8 0,u8 0,u8 0,u8 0,u8 0,u8 0,u8 0,u8 0,u8 0,u8 0,u8 0,u8 0,u8 0,u8 0,u8 0,u8 0,i64 0,u32 0,u32 0,u32 0,u16 0,nS,st .empty],.agg [u8 0,u8 7,u16 0,u32 0,bo false,u32 0,u8 0,u64 0,u64 0,i64 0,i64 0,u32 0,nS,u32 0,u8 0,u8 0,u8 0,u8 0,u8 0,u8 0,u8 0,u8 0,u8 0,u8 0,u8 0,u8 0,u8 0,u8 0,u8 0,u8 0,i64 0,u32 1,u32 0,u32 0,u16 0,nS,st .empty],.agg [u8 1,u8 7,u16 0,u32 0,bo false,u32 0,u8 0,u64 0,u64 0,i64 0,i64 0,u32 0,nS,u32 0,u8 0,u8 0,u8 0,u8 0,u8 0,u8 0,u8 0,u8 0,u8 0,u8 0,u8 0,u8 0,u8 0,u8 0,u8 0,u8 0,i64 0,u32 1,u32 1,u32
  0,u16 0,nS,st .empty],.agg [u8 1,u8 7,u16 0,u32 0,bo false,u32 0,u8 0,u64 0,u64 0,i64 0,i64 0,u32 0,nS,u32 0,u8 0,u8 0,u8 0,u8 0,u8 0,u8 0,u8 0,u8 0,u8 0,u8 0,u8 0,u8 0,u8 0,u8 0,u8 0,u8 0,i64 0,u32 2,u32 1,u32 1,u16 0,nS,st .empty],.agg [u8 1,u8 7,u16 0,u32 0,bo false,u32 0,u8 0,u64 0,u64 0,i64 0,i64 0,u32 0,nS,u32 0,u8 0,u8 0,u8 0,u8 0,u8 0,u8 0,u8 0,u8 0,u8 0,u8 0,u8 0,u8 0,u8 0,u8 0,u8 0,u8 0,i64 0,u32 0,u32 1,u32 1,u16 0,nS,st .empty],.agg [u8 1,u8 7,u16 0,u32 0,bo false,u32 0,u8 0,u64 0,u64 0,i64 0,i64 0,u32 0,nS,u32 0,u8 0,u8 0,u8 0,u8 0,u8 0,u8 0,u8 0,u8 0,u8 0,u8 0,u8 0,u8 0,u8 0,u8
  0,u8 0,u8 0,i64 0,u32 1,u32 1,u32 1048577,u16 0,nS,st .empty]])),(2,.imm (bo true))] [] 267 105 []) (.done (Exit.exit 0) E4) (.need (ILeL [] [] ∧ ASpec prog 20 [] (encD ann)) (.need (ILeL [] [] ∧ ASpec prog 20 [] (encD ann)) (.need (List.replicate 200 (u8 0) = [u8 0,u8 0,u8 0,u8 0,u8 0,u8 0,u8 0,u8 0,u8 0,u8 0,u8 0,u8 0,u8 0,u8 0,u8 0,u8 0,u8 0,u8 0,u8 0,u8 0,u8 0,u8 0,u8 0,u8 0,u8 0,u8 0,u8 0,u8 0,u8 0,u8 0,u8 0,u8 0,u8 0,u8 0,u8 0,u8 0,u8 0,u8 0,u8 0,u8 0,u8 0,u8 0,u8 0,u8 0,u8 0,u8 0,u8 0,u8 0,u8 0,u8 0,u8 0,u8 0,u8 0,u8 0,u8 0,u8 0,u8 0,u8 0,u8 0,u8 0,u8 0,u8 0,u8 0,u8 0,u8 0,u8 0,u8 0,u8
  0,u8 0,u8 0,u8 0,u8 0,u8 0,u8 0,u8 0,u8 0,u8 0,u8 0,u8 0,u8 0,u8 0,u8 0,u8 0,u8 0,u8 0,u8 0,u8 0,u8 0,u8 0,u8 0,u8 0,u8 0,u8 0,u8 0,u8 0,u8 0,u8 0,u8 0,u8 0,u8 0,u8 0,u8 0,u8 0,u8 0,u8 0,u8 0,u8 0,u8 0,u8 0,u8 0,u8 0,u8 0,u8 0,u8 0,u8 0,u8 0,u8 0,u8 0,u8 0,u8 0,u8 0,u8 0,u8 0,u8 0,u8 0,u8 0,u8 0,u8 0,u8 0,u8 0,u8 0,u8 0,u8 0,u8 0,u8 0,u8 0,u8 0,u8 0,u8 0,u8 0,u8 0,u8 0,u8 0,u8 0,u8 0,u8 0,u8 0,u8 0,u8 0,u8 0,u8 0,u8 0,u8 0,u8 0,u8 0,u8 0,u8 0,u8 0,u8 0,u8 0,u8 0,u8 0,u8 0,u8 0,u8 0,u8 0,u8 0,u8 0,u8 0,u8 0,u8 0,u8 0,u8 0,u8 0,u8 0,u8 0,u8 0,u8 0,u8 0,u8 0,u8 0,u8 0,u8 0,u8 0,u8 0,u8 0,u8 0,u8
  0,u8 0,u8 0,u8 0,u8 0,u8 0,u8 0,u8 0,u8 0,u8 0,u8 0,u8 0,u8 0]) (.need (ILeL [.agg [u8 0,u8 10,u16 0,u32 0,bo false,u32 0,u8 0,u64 0,u64 0,i64 0,i64 0,u32 0,nS,u32 0,u8 0,u8 0,u8 0,u8 0,u8 0,u8 0,u8 0,u8 0,u8 0,u8 0,u8 0,u8 0,u8 0,u8 0,u8 0,u8 0,i64 0,u32 0,u32 0,u32 0,u16 0,.sl true false 1 (List.replicate 4096 (u8 0)),.v (Value.string (bstr (zs 200)))]] [encD nmost] ∧ ASpec prog 21 [encD nmost] (.tup [slE 1 u8 q0,i64 0])) (.need (ILeL [slE 1 u8 q0] [slE 1 u8 q0] ∧ ASpec prog 22 [slE 1 u8 q0] (.tup [encD nmost,i64 4312,i64 0])) (.need (List.replicate 201 (u8 0) = [u8 0,u8 0,u8 0,u8 0,u8 0,u8
  0,u8 0,u8 0,u8 0,u8 0,u8 0,u8 0,u8 0,u8 0,u8 0,u8 0,u8 0,u8 0,u8 0,u8 0,u8 0,u8 0,u8 0,u8 0,u8 0,u8 0,u8 0,u8 0,u8 0,u8 0,u8 0,u8 0,u8 0,u8 0,u8 0,u8 0,u8 0,u8 0,u8 0,u8 0,u8 0,u8 0,u8 0,u8 0,u8 0,u8 0,u8 0,u8 0,u8 0,u8 0,u8 0,u8 0,u8 0,u8 0,u8 0,u8 0,u8 0,u8 0,u8 0,u8 0,u8 0,u8 0,u8 0,u8 0,u8 0,u8 0,u8 0,u8 0,u8 0,u8 0,u8 0,u8 0,u8 0,u8 0,u8 0,u8 0,u8 0,u8 0,u8 0,u8 0,u8 0,u8 0,u8 0,u8 0,u8 0,u8 0,u8 0,u8 0,u8 0,u8 0,u8 0,u8 0,u8 0,u8 0,u8 0,u8 0,u8 0,u8 0,u8 0,u8 0,u8 0,u8 0,u8 0,u8 0,u8 0,u8 0,u8 0,u8 0,u8 0,u8 0,u8 0,u8 0,u8 0,u8 0,u8 0,u8 0,u8 0,u8 0,u8 0,u8 0,u8 0,u8 0,u8 0,u8 0,u8 0,u8
  0,u8 0,u8 0,u8 0,u8 0,u8 0,u8 0,u8 0,u8 0,u8 0,u8 0,u8 0,u8 0,u8 0,u8 0,u8 0,u8 0,u8 0,u8 0,u8 0,u8 0,u8 0,u8 0,u8 0,u8 0,u8 0,u8 0,u8 0,u8 0,u8 0,u8 0,u8 0,u8 0,u8 0,u8 0,u8 0,u8 0,u8 0,u8 0,u8 0,u8 0,u8 0,u8 0,u8 0,u8 0,u8 0,u8 0,u8 0,u8 0,u8 0,u8 0,u8 0,u8 0,u8 0,u8 0,u8 0,u8 0,u8 0,u8 0,u8 0,u8 0,u8 0,u8 0,u8 0,u8 0,u8 0,u8 0,u8 0,u8 0,u8 0,u8 0,u8 0,u8 0,u8 0,u8 0,u8 0]) (.need (ILeL [.agg [u8 ann.version,u8 6,u16 ann.session,u32 ann.serial,bo ann.add,u32 ann.origin.asn,u8 ann.origin.pfx.fam,u64 ann.origin.pfx.addr.hi,u64 ann.origin.pfx.addr.lo,i64 ann.origin.pfx.len,i64 ann.origin.max,u32
  ann.path.cust,lu32 ann.path.provs,u32 ann.key.asn,u8 0,u8 0,u8 0,u8 0,u8 0,u8 0,u8 0,u8 0,u8 0,u8 0,u8 0,u8 0,u8 0,u8 0,u8 0,u8 0,i64 ann.key.height,u32 ann.refresh,u32 ann.retry,u32 ann.expire,u16 ann.code,lu8 ann.copy,st ann.text]] [encD nfour] ∧ ASpec prog 14 [encD nfour] (i64 8)) (.need (ILeL [.agg [u8 ann.version,u8 ann.kind,u16 ann.session,u32 ann.serial,bo ann.add,u32 ann.origin.asn,u8 ann.origin.pfx.fam,u64 ann.origin.pfx.addr.hi,u64 ann.origin.pfx.addr.lo,i64 ann.origin.pfx.len,i64 33,u32 ann.path.cust,lu32 ann.path.provs,u32 ann.key.asn,u8 0,u8 0,u8 0,u8 0,u8 0,u8 0,u8 0,u8 0,u8 0,u8
  0,u8 0,u8 0,u8 0,u8 0,u8 0,u8 0,i64 ann.key.height,u32 ann.refresh,u32 ann.retry,u32 ann.expire,u16 ann.code,lu8 ann.copy,st ann.text]] [encD nlong] ∧ ASpec prog 14 [encD nlong] (i64 8)) (.br (decide ((↑(List.length (List.map u8 q0)) : Int) = 4312)) (.br (decide ((↑(List.length (List.map u8 nmost.copy)) : Int) = 4096)) (.need (ILeL [.agg [u8 0,u8 10,u16 0,u32 0,bo false,u32 0,u8 0,u64 0,u64 0,i64 0,i64 0,u32 0,nS,u32 0,u8 0,u8 0,u8 0,u8 0,u8 0,u8 0,u8 0,u8 0,u8 0,u8 0,u8 0,u8 0,u8 0,u8 0,u8 0,u8 0,i64 0,u32 0,u32 0,u32 0,u16 0,.sl true false 1 (List.replicate 4097 (u8 0)),.v (Value.string (bstr
  (zs 200)))]] [encD nmore] ∧ ASpec prog 14 [encD nmore] (i64 4)) (.need (ILeL [.agg [u8 0,u8 10,u16 0,u32 0,bo false,u32 0,u8 0,u64 0,u64 0,i64 0,i64 0,u32 0,nS,u32 0,u8 0,u8 0,u8 0,u8 0,u8 0,u8 0,u8 0,u8 0,u8 0,u8 0,u8 0,u8 0,u8 0,u8 0,u8 0,u8 0,i64 0,u32 0,u32 0,u32 0,u16 0,nS,.v (Value.string (bstr (zs 201)))]] [encD nwide] ∧ ASpec prog 14 [encD nwide] (i64 4)) (.need (ILeL [.agg [u8 0,u8 99,u16 0,u32 0,bo false,u32 0,u8 0,u64 0,u64 0,i64 0,i64 0,u32 0,.sl true false 1 (List.replicate 51 (u32 0)),u32 0,u8 0,u8 0,u8 0,u8 0,u8 0,u8 0,u8 0,u8 0,u8 0,u8 0,u8 0,u8 0,u8 0,u8 0,u8 0,u8 0,i64 0,u32
  0,u32 0,u32 0,u16 0,nS,st .empty]] [encD nmany] ∧ ASpec prog 14 [encD nmany] (i64 4)) (.need (ILeL [i64 34,nS] [i64 34,slE 1 u8 nf0] ∧ ASpec prog 23 [i64 34,slE 1 u8 nf0] (bo true)) (.need (ILeL [i64 34,.sl true true 1 [u8 0,u8 2,u8 0,u8 0,u8 0,u8 0,u8 0]] [i64 34,slE 1 u8 nf1] ∧ ASpec prog 23 [i64 34,slE 1 u8 nf1] (bo true)) (.need (ILeL [i64 34,.sl true true 1 [u8 9,u8 9,u8 9,u8 9,u8 0,u8 0,u8 0,u8 9]] [i64 34,slE 1 u8 nf2] ∧ ASpec prog 23 [i64 34,slE 1 u8 nf2] (bo true)) (.need (ILeL [i64 12,.sl true true 1 [u8 0,u8 2,u8 0,u8 0,u8 0,u8 0,u8 0,u8 7]] [i64 12,slE 1 u8 nf3] ∧ ASpec prog 23 [i64
  12,slE 1 u8 nf3] (bo true)) (.need (ILeL [i64 12,.sl true true 1 [u8 0,u8 2,u8 0,u8 0,u8 0,u8 0,u8 16,u8 217]] [i64 12,slE 1 u8 nf4] ∧ ASpec prog 23 [i64 12,slE 1 u8 nf4] (bo true)) (.need (ILeL [i64 34,.sl true true 1 [u8 0,u8 2,u8 0,u8 0,u8 0,u8 0,u8 16,u8 216]] [i64 34,slE 1 u8 nf5] ∧ ASpec prog 23 [i64 34,slE 1 u8 nf5] (bo true)) (.need (ILeL [i64 12,.sl true true 1 [u8 0,u8 2,u8 0,u8 0,u8 255,u8 255,u8 255,u8 255]] [i64 12,slE 1 u8 nf6] ∧ ASpec prog 23 [i64 12,slE 1 u8 nf6] (bo true)) (.need (ILeL [i64 12,.sl true true 1 [u8 0,u8 2,u8 0,u8 1,u8 0,u8 0,u8 0,u8 8]] [i64 12,slE 1 u8 nf7] ∧
  ASpec prog 23 [i64 12,slE 1 u8 nf7] (bo true)) (.need (ILeL [i64 12,.sl true true 1 [u8 0,u8 2,u8 0,u8 0,u8 0,u8 0,u8 0,u8 9,u8 0]] [i64 12,slE 1 u8 nf8] ∧ ASpec prog 23 [i64 12,slE 1 u8 nf8] (bo true)) (.need (ILeL [i64 12,.sl true true 1 [u8 0,u8 4,u8 0,u8 0,u8 0,u8 0,u8 0,u8 20,u8 2,u8 8,u8 24,u8 0,u8 10,u8 0,u8 0,u8 0,u8 0,u8 0,u8 251,u8 244]] [i64 12,slE 1 u8 nf9] ∧ ASpec prog 23 [i64 12,slE 1 u8 nf9] (bo true)) (.need (ILeL [i64 12,.sl true true 1 [u8 0,u8 4,u8 0,u8 0,u8 0,u8 0,u8 0,u8 20,u8 1,u8 8,u8 24,u8 0,u8 10,u8 1,u8 0,u8 0,u8 0,u8 0,u8 251,u8 244]] [i64 12,slE 1 u8 nf10] ∧ ASpec
  prog 23 [i64 12,slE 1 u8 nf10] (bo true)) (.need (ILeL [i64 12,.sl true true 1 [u8 0,u8 10,u8 0,u8 2,u8 0,u8 0,u8 0,u8 16,u8 255,u8 255,u8 255,u8 255,u8 0,u8 0,u8 0,u8 0]] [i64 12,slE 1 u8 nf11] ∧ ASpec prog 23 [i64 12,slE 1 u8 nf11] (bo true)) (.need (ILeL [i64 12,.sl true true 1 [u8 2,u8 11,u8 0,u8 1,u8 0,u8 0,u8 0,u8 12,u8 0,u8 0,u8 0,u8 5]] [i64 12,slE 1 u8 nf12] ∧ ASpec prog 23 [i64 12,slE 1 u8 nf12] (bo true)) (.need (ILeL [i64 12,.sl true true 1 [u8 2,u8 11,u8 1,u8 0,u8 0,u8 0,u8 0,u8 18,u8 0,u8 0,u8 0,u8 5,u8 0,u8 0,u8 0,u8 1,u8 0,u8 0]] [i64 12,slE 1 u8 nf13] ∧ ASpec prog 23 [i64
  12,slE 1 u8 nf13] (bo true)) (.need (ILeL [] [] ∧ ASpec prog 24 [] (bo true)) (.br true (.done Exit.ret (lret (bo true))) (.done Exit.ret (lret (bo false)))))))))))))))))))))) (.need (ILeL [i64 34,nS] [i64 34,slE 1 u8 nf0] ∧ ASpec prog 23 [i64 34,slE 1 u8 nf0] (bo true)) (.need (ILeL [i64 34,.sl true true 1 [u8 0,u8 2,u8 0,u8 0,u8 0,u8 0,u8 0]] [i64 34,slE 1 u8 nf1] ∧ ASpec prog 23 [i64 34,slE 1 u8 nf1] (bo true)) (.need (ILeL [i64 34,.sl true true 1 [u8 9,u8 9,u8 9,u8 9,u8 0,u8 0,u8 0,u8 9]] [i64 34,slE 1 u8 nf2] ∧ ASpec prog 23 [i64 34,slE 1 u8 nf2] (bo true)) (.need (ILeL [i64 12,.sl true
  true 1 [u8 0,u8 2,u8 0,u8 0,u8 0,u8 0,u8 0,u8 7]] [i64 12,slE 1 u8 nf3] ∧ ASpec prog 23 [i64 12,slE 1 u8 nf3] (bo true)) (.need (ILeL [i64 12,.sl true true 1 [u8 0,u8 2,u8 0,u8 0,u8 0,u8 0,u8 16,u8 217]] [i64 12,slE 1 u8 nf4] ∧ ASpec prog 23 [i64 12,slE 1 u8 nf4] (bo true)) (.need (ILeL [i64 34,.sl true true 1 [u8 0,u8 2,u8 0,u8 0,u8 0,u8 0,u8 16,u8 216]] [i64 34,slE 1 u8 nf5] ∧ ASpec prog 23 [i64 34,slE 1 u8 nf5] (bo true)) (.need (ILeL [i64 12,.sl true true 1 [u8 0,u8 2,u8 0,u8 0,u8 255,u8 255,u8 255,u8 255]] [i64 12,slE 1 u8 nf6] ∧ ASpec prog 23 [i64 12,slE 1 u8 nf6] (bo true)) (.need (ILeL
  [i64 12,.sl true true 1 [u8 0,u8 2,u8 0,u8 1,u8 0,u8 0,u8 0,u8 8]] [i64 12,slE 1 u8 nf7] ∧ ASpec prog 23 [i64 12,slE 1 u8 nf7] (bo true)) (.need (ILeL [i64 12,.sl true true 1 [u8 0,u8 2,u8 0,u8 0,u8 0,u8 0,u8 0,u8 9,u8 0]] [i64 12,slE 1 u8 nf8] ∧ ASpec prog 23 [i64 12,slE 1 u8 nf8] (bo true)) (.need (ILeL [i64 12,.sl true true 1 [u8 0,u8 4,u8 0,u8 0,u8 0,u8 0,u8 0,u8 20,u8 2,u8 8,u8 24,u8 0,u8 10,u8 0,u8 0,u8 0,u8 0,u8 0,u8 251,u8 244]] [i64 12,slE 1 u8 nf9] ∧ ASpec prog 23 [i64 12,slE 1 u8 nf9] (bo true)) (.need (ILeL [i64 12,.sl true true 1 [u8 0,u8 4,u8 0,u8 0,u8 0,u8 0,u8 0,u8 20,u8 1,u8
  8,u8 24,u8 0,u8 10,u8 1,u8 0,u8 0,u8 0,u8 0,u8 251,u8 244]] [i64 12,slE 1 u8 nf10] ∧ ASpec prog 23 [i64 12,slE 1 u8 nf10] (bo true)) (.need (ILeL [i64 12,.sl true true 1 [u8 0,u8 10,u8 0,u8 2,u8 0,u8 0,u8 0,u8 16,u8 255,u8 255,u8 255,u8 255,u8 0,u8 0,u8 0,u8 0]] [i64 12,slE 1 u8 nf11] ∧ ASpec prog 23 [i64 12,slE 1 u8 nf11] (bo true)) (.need (ILeL [i64 12,.sl true true 1 [u8 2,u8 11,u8 0,u8 1,u8 0,u8 0,u8 0,u8 12,u8 0,u8 0,u8 0,u8 5]] [i64 12,slE 1 u8 nf12] ∧ ASpec prog 23 [i64 12,slE 1 u8 nf12] (bo true)) (.need (ILeL [i64 12,.sl true true 1 [u8 2,u8 11,u8 1,u8 0,u8 0,u8 0,u8 0,u8 18,u8 0,u8
  0,u8 0,u8 5,u8 0,u8 0,u8 0,u8 1,u8 0,u8 0]] [i64 12,slE 1 u8 nf13] ∧ ASpec prog 23 [i64 12,slE 1 u8 nf13] (bo true)) (.need (ILeL [] [] ∧ ASpec prog 24 [] (bo true)) (.br true (.done Exit.ret (lret (bo false))) (.done Exit.ret (lret (bo false)))))))))))))))))))) (.need (ILeL [i64 34,nS] [i64 34,slE 1 u8 nf0] ∧ ASpec prog 23 [i64 34,slE 1 u8 nf0] (bo true)) (.need (ILeL [i64 34,.sl true true 1 [u8 0,u8 2,u8 0,u8 0,u8 0,u8 0,u8 0]] [i64 34,slE 1 u8 nf1] ∧ ASpec prog 23 [i64 34,slE 1 u8 nf1] (bo true)) (.need (ILeL [i64 34,.sl true true 1 [u8 9,u8 9,u8 9,u8 9,u8 0,u8 0,u8 0,u8 9]] [i64 34,slE 1 u8
  nf2] ∧ ASpec prog 23 [i64 34,slE 1 u8 nf2] (bo true)) (.need (ILeL [i64 12,.sl true true 1 [u8 0,u8 2,u8 0,u8 0,u8 0,u8 0,u8 0,u8 7]] [i64 12,slE 1 u8 nf3] ∧ ASpec prog 23 [i64 12,slE 1 u8 nf3] (bo true)) (.need (ILeL [i64 12,.sl true true 1 [u8 0,u8 2,u8 0,u8 0,u8 0,u8 0,u8 16,u8 217]] [i64 12,slE 1 u8 nf4] ∧ ASpec prog 23 [i64 12,slE 1 u8 nf4] (bo true)) (.need (ILeL [i64 34,.sl true true 1 [u8 0,u8 2,u8 0,u8 0,u8 0,u8 0,u8 16,u8 216]] [i64 34,slE 1 u8 nf5] ∧ ASpec prog 23 [i64 34,slE 1 u8 nf5] (bo true)) (.need (ILeL [i64 12,.sl true true 1 [u8 0,u8 2,u8 0,u8 0,u8 255,u8 255,u8 255,u8 255]]
  [i64 12,slE 1 u8 nf6] ∧ ASpec prog 23 [i64 12,slE 1 u8 nf6] (bo true)) (.need (ILeL [i64 12,.sl true true 1 [u8 0,u8 2,u8 0,u8 1,u8 0,u8 0,u8 0,u8 8]] [i64 12,slE 1 u8 nf7] ∧ ASpec prog 23 [i64 12,slE 1 u8 nf7] (bo true)) (.need (ILeL [i64 12,.sl true true 1 [u8 0,u8 2,u8 0,u8 0,u8 0,u8 0,u8 0,u8 9,u8 0]] [i64 12,slE 1 u8 nf8] ∧ ASpec prog 23 [i64 12,slE 1 u8 nf8] (bo true)) (.need (ILeL [i64 12,.sl true true 1 [u8 0,u8 4,u8 0,u8 0,u8 0,u8 0,u8 0,u8 20,u8 2,u8 8,u8 24,u8 0,u8 10,u8 0,u8 0,u8 0,u8 0,u8 0,u8 251,u8 244]] [i64 12,slE 1 u8 nf9] ∧ ASpec prog 23 [i64 12,slE 1 u8 nf9] (bo true))
  (.need (ILeL [i64 12,.sl true true 1 [u8 0,u8 4,u8 0,u8 0,u8 0,u8 0,u8 0,u8 20,u8 1,u8 8,u8 24,u8 0,u8 10,u8 1,u8 0,u8 0,u8 0,u8 0,u8 251,u8 244]] [i64 12,slE 1 u8 nf10] ∧ ASpec prog 23 [i64 12,slE 1 u8 nf10] (bo true)) (.need (ILeL [i64 12,.sl true true 1 [u8 0,u8 10,u8 0,u8 2,u8 0,u8 0,u8 0,u8 16,u8 255,u8 255,u8 255,u8 255,u8 0,u8 0,u8 0,u8 0]] [i64 12,slE 1 u8 nf11] ∧ ASpec prog 23 [i64 12,slE 1 u8 nf11] (bo true)) (.need (ILeL [i64 12,.sl true true 1 [u8 2,u8 11,u8 0,u8 1,u8 0,u8 0,u8 0,u8 12,u8 0,u8 0,u8 0,u8 5]] [i64 12,slE 1 u8 nf12] ∧ ASpec prog 23 [i64 12,slE 1 u8 nf12] (bo true))
  (.need (ILeL [i64 12,.sl true true 1 [u8 2,u8 11,u8 1,u8 0,u8 0,u8 0,u8 0,u8 18,u8 0,u8 0,u8 0,u8 5,u8 0,u8 0,u8 0,u8 1,u8 0,u8 0]] [i64 12,slE 1 u8 nf13] ∧ ASpec prog 23 [i64 12,slE 1 u8 nf13] (bo true)) (.need (ILeL [] [] ∧ ASpec prog 24 [] (bo true)) (.br true (.done Exit.ret (lret (bo false))) (.done Exit.ret (lret (bo false)))))))))))))))))))))))))))))))))))))))) := by kernel_rfl
end Gp
namespace Gp
theorem l4 (σ : LState) (h : LSub σ (I4 0)) : LoopOk prog [] (bodyOf Proofs.Try.f4) 7 σ (.done (.exit 0) E4) := by
  refine LoopOk.count 22 0 I4 E4 T4r fin4 (by kernel_rfl) h fun i hi => ?_
  rw [t4r]
  refine ⟨fun h1 => need_sat ⟨by omega, ?_⟩ (need_sat ⟨.cons (ile_N _) (.refl _), bad1 i (by have := of_decide_eq_true h1; omega)⟩ ?_), fun h1 => ?_⟩
  · have h1' := of_decide_eq_true h1
    have h2 : i < (nbads.map encN).length := by
      have e : (nbads.map encN).length = 22 := by rfl
      omega
    show (nbads.map encN)[i]? = some (encN (nbads.getD i default))
    rw [List.length_map] at h2
    rw [List.getElem?_map, List.getElem?_eq_getElem h2, List.getD_eq_getElem?_getD, List.getElem?_eq_getElem h2]; rfl
  · have h1' := of_decide_eq_true h1
    refine ⟨by omega, ⟨?_, rfl, rfl, trivial⟩, trivial, rfl, rfl, rfl⟩
    refine congrArg (fun n => AVal.imm (i64 n)) ?_
    rw [IntWalk.i64_in _ (by omega)]; omega
  · have h1' := of_decide_eq_false h1
    exact ⟨rfl, by omega, ⟨rfl, trivial⟩, trivial, rfl, rfl, rfl⟩
theorem imost : ILe (.agg [u8 0, u8 10, u16 0, u32 0, bo false, u32 0, u8 0, u64 0, u64 0, i64 0, i64 0, u32 0, .v (.slice none 0 0), u32 0, u8 0, u8 0, u8 0, u8 0, u8 0, u8 0, u8 0, u8 0, u8 0, u8 0, u8 0, u8 0, u8 0, u8 0, u8 0, u8 0, i64 0, u32 0, u32 0, u32 0, u16 0, .sl true false 1 (List.replicate 4096 (u8 0)), st (bstr (zs 200))]) (encD nmost) := by
  rw [nmost_eq]
  exact ile_pdu nmost0 _ _ (ile_n _ rfl) (.sl (fun h => by cases h) (fun h => by cases h) (ilz 4096))
theorem c4 : ASpec prog 4 [] (bo true) := by
  refine ASpec.treeW Proofs.Try.f4 T4 (by kernel_rfl) (by kernel_rfl) t4 ?_
  refine need_sat ⟨ilc (w := nw0) (ile_N nm0), cd0⟩ ?_
  refine need_sat ⟨ilc (w := nw1) (ile_N nm1), cd1⟩ ?_
  refine need_sat ⟨ilc (w := nw2) (ile_N nm2), cd2⟩ ?_
  refine need_sat ⟨ilc (w := nw3) (ile_N nm3), cd3⟩ ?_
  refine need_sat ⟨ilc (w := nw4) (ile_N nm4), cd4⟩ ?_
  refine need_sat ⟨ilc (w := nw5) (ile_N nm5), cd5⟩ ?_
  refine need_sat ⟨ilc (w := nw6) (ile_N nm6), cd6⟩ ?_
  refine need_sat ⟨ilc (w := nw7) (ile_N nm7), cd7⟩ ?_
  refine need_sat ⟨ilc (w := nw8) (ile_N nm8), cd8⟩ ?_
  refine need_sat ⟨ilc (w := nw9) (ile_N nm9), cd9⟩ ?_
  refine need_sat ⟨ilc (w := nw10) (ile_N nm10), cd10⟩ ?_
  refine ⟨l4 _ ⟨⟨rfl, by kernel_rfl, rfl, trivial⟩, trivial, rfl, rfl, rfl⟩, ?_⟩
  refine need_sat ⟨ILeL.refl _, c20⟩ (need_sat ⟨ILeL.refl _, c20⟩ ?_)
  refine need_sat (zs_map 200 byI).symm ?_
  refine need_sat ⟨.cons imost (.refl _), most_e⟩ ?_
  refine need_sat ⟨ILeL.refl _, most_d⟩ ?_
  refine need_sat (zs_map 201 byI).symm ?_
  refine need_sat ⟨ILeL.refl _, four1⟩ (need_sat ⟨ILeL.refl _, long1⟩ ?_)
  refine ⟨fun _ => ⟨fun _ => ?_, fun h1 => ?_⟩, fun h1 => ?_⟩
  · refine need_sat ⟨.cons (ile_pdu nmore _ _ (ile_n _ rfl) (.sl (fun h => by cases h) (fun h => by cases h) (ilz 4097))) (.refl _), more1⟩ ?_
    refine need_sat ⟨.cons (ile_pdu nwide _ _ (ile_n _ rfl) (ile_n' _ rfl)) (.refl _), wide1⟩ ?_
    refine need_sat ⟨.cons (ile_pdu nmany _ _ (.sl (fun h => by cases h) (fun h => by cases h) (ilz32 51)) (ile_n' _ rfl)) (.refl _), many1⟩ ?_
    refine need_sat ⟨.cons (.refl _) (.cons (.nil _ _ _) (.refl _)), nfl0⟩ ?_
    refine need_sat ⟨ilf (w := nf1), nfl1⟩ ?_
    refine need_sat ⟨ilf (w := nf2), nfl2⟩ ?_
    refine need_sat ⟨ilf (w := nf3), nfl3⟩ ?_
    refine need_sat ⟨ilf (w := nf4), nfl4⟩ ?_
    refine need_sat ⟨ilf (w := nf5), nfl5⟩ ?_
    refine need_sat ⟨ilf (w := nf6), nfl6⟩ ?_
    refine need_sat ⟨ilf (w := nf7), nfl7⟩ ?_
    refine need_sat ⟨ilf (w := nf8), nfl8⟩ ?_
    refine need_sat ⟨ilf (w := nf9), nfl9⟩ ?_
    refine need_sat ⟨ilf (w := nf10), nfl10⟩ ?_
    refine need_sat ⟨ilf (w := nf11), nfl11⟩ ?_
    refine need_sat ⟨ilf (w := nf12), nfl12⟩ ?_
    refine need_sat ⟨ilf (w := nf13), nfl13⟩ ?_
    refine need_sat ⟨ILeL.refl _, c24⟩ ⟨fun _ => ⟨_, rfl, .refl _⟩, fun h => (by cases h)⟩
  · exfalso
    refine of_decide_eq_false h1 ?_
    rw [List.length_map, nmost_eq]
    show ((zs 4096).length : Int) = 4096
    rw [zs_len]; rfl
  · exfalso
    refine of_decide_eq_false h1 ?_
    rw [List.length_map, most_len]; rfl
end Gp
namespace Gp
open Go.ChangeShapes Go.WideShapes Go.ChangeAt Go.RowKit
open Go.Proofs Go.Proofs.Ytnfdbpopcfcegaa
theorem own : ownKnob prog.godebug = none := by kernel_rfl
theorem ubool : prog.underlying 4 = some .bool := by kernel_rfl
theorem paramsL : Proofs.Try.f4.params.toList = [] := by kernel_rfl
set_option maxRecDepth 100000 in
theorem walk (W : World) :
    Calls prog 4 #[] W fun e W' => e = .returned (.bool true) ∧ Below W.heap.size W W' := by
  have hm : maxLen = 2 ^ 63 - 1 := rfl
  refine ((c4).2 W (allF W) #[] (fun c b h => h.2) (fun b h => by cases h.1) in0).mono ?_
  rintro e W' ⟨v, F', rfl, hb, _, _, _, _, hv⟩
  rw [bo, IRep] at hv
  rw [hv.1]
  exact ⟨rfl, hb⟩
set_option maxRecDepth 100000 in
theorem lifted (os : Os) (started : os.Started) (H : Type) (enc : TypeId × Value → H) :
    ReturnsInHanded {} Proofs.Try.checked os 4 .any (Rows.pduNamesSpec.pre6 enc prog Proofs.Try.f4 Rows.pduNamesRow.domain false) (Rows.pduNamesSpec.post enc prog Proofs.Try.f4 false true false false) := by
  refine returnsInHanded_of_change (C := Proofs.Try.checked) own started (by kernel_rfl) (show prog.funcs[4]? = some Proofs.Try.f4 by kernel_rfl)
    (ChangeSpec.witness6 (enc := enc) (C := Proofs.Try.checked) false ⟨#[], #[], []⟩ 8 (by kernel_rfl) (by kernel_rfl) (by kernel_rfl) (by kernel_rfl)) ?_
  intro W base args ds gs before hval0 hW hcnd _
  have hval : ∀ (j : Nat) t v, Proofs.Try.f4.params[j]? = some t → args[j]? = some v → Value.okWide prog W .any base t v := hval0
  have hW' := hW
  obtain ⟨p, q, hA0, hV, rfl, hfz, hnd⟩ := hW
  have hA : DataW.TrodAll enc prog W 0 (fun _ => true) true Proofs.Try.f4.params.toList args.toList ds p := hA0
  rw [paramsL] at hA
  obtain ⟨hargs, rfl, rfl⟩ := trodAll_nil hA
  obtain rfl : args = #[] := by cases args; simp_all
  obtain ⟨rfl, rfl⟩ := trodVars_none hV
  clear hA0 hval0
  refine (walk W).mono fun e W' ⟨he, bel⟩ => ?_
  subst he
  exact ⟨_, rfl, _, _, _, [], _, [], hW', trodAll_mk1 (shut_bool ubool _),
    trodAll_mk0, rfl, bel.frame _, fun h => by cases h⟩
theorem over : Rows.pduNamesRow.holds Ytnfdbpopcfcegaa.Try.pinned (OpenSpec.ofChange Rows.pduNamesSpec) :=
  OpenClaim.holds_of_wide 4 Proofs.Try.f4 rfl rfl rfl rfl rfl rfl rfl ⟨rfl, rfl, rfl, rfl, rfl⟩ rfl rfl rfl rfl rfl (by kernel_rfl) (show prog.funcs[4]? = some Proofs.Try.f4 by kernel_rfl) (by kernel_rfl)
    (of_decide_eq_true (by kernel_rfl)) (by unfold Func.isWrapper; first | (rw [if_pos (by decide +kernel)]; kernel_rfl) | (rw [if_neg (by decide +kernel)]; exact ⟨rfl, rfl⟩))
    (fun os started H enc _ => lifted os started H enc)
theorem proved : Rows.PduNamesSaid := over
end Gp
namespace Go.Proofs.Ytnfdbpopcfcegaa
theorem pduNames_holds : Rows.PduNamesSaid := Gp.proved
#print axioms pduNames_holds
end Go.Proofs.Ytnfdbpopcfcegaa
