/- PROVED HERE: the statement PduJoinsSaid: whatever comes in, the law returns true and each argument reads as before. No condition. -/
import Derived.Test.YtnfdbpopcfcegaaW7
set_option maxRecDepth 100000
set_option maxHeartbeats 0
set_option linter.unusedVariables false
set_option linter.unusedSimpArgs false
open Go Go.Abs
noncomputable section
namespace Gp
section
variable {H : Type} {enc : TypeId × Value → H} {w : World} {base : Nat} {spare : Nat → Bool} {held : Bool}
theorem is {s : ByteArray} : IRep w (allF w) (st s) (.string s) := by rw [st, IRep]; exact ⟨rfl, rfl⟩
theorem wf_u8 {n : Int} (h : (Lit.int .u8 n).wf = true) : 0 ≤ n ∧ n < 256 := by have := wf_in h; simp [IntKind.min, IntKind.max, IntKind.bits, IntKind.signed] at this; omega
theorem peel {H : Type} {enc : TypeId × Value → H} {w : World} {base : Nat} {spare : Nat → Bool} {held : Bool} {l : Leaf} {ls : List Leaf} {vs : List Value} (h : LeafAll enc prog w base spare held (l :: ls) vs) : ∃ v vs', vs = v :: vs' ∧ leafR enc prog w base spare held l v ∧ LeafAll enc prog w base spare held ls vs' := h
theorem fl5 : flatT prog 5 5 = some [.int .u8] := by kernel_rfl
theorem fl23 : flatT prog 5 23 = some [.int .u32] := by kernel_rfl
theorem un40 : prog.underlying 40 = some (.slice 5) := by kernel_rfl
theorem un31 : prog.underlying 31 = some (.slice 23) := by kernel_rfl
theorem rd5 {fuel : Nat} {cs : List Value} {x : DataW H × List MemPlace} (_ : cs.length = 1) (h : DataW.trod enc prog w base spare held fuel 5 cs = some x) : ∃ (n : Int) (v : Value), v.cells.toList = cs ∧ IRep w (allF w) (u8 n) v ∧ (0 ≤ n ∧ n < 256) := by
  obtain ⟨_, _, rfl, ⟨n, rfl, w1⟩, rfl⟩ := flat_read 5 5 _ fuel cs x fl5 h
  refine ⟨n, .int .u8 n, rfl, ?_, wf_u8 w1⟩
  rw [u8, IRep]; exact ⟨rfl, rfl⟩
theorem rd40 {fuel : Nat} {v : Value} {x : DataW H × List MemPlace} (h : DataW.trod enc prog w base spare held fuel 40 [v] = some x) : ∃ l : List Int, IRep w (allF w) (lu8 l) v ∧ byteL l ∧ l.length ≤ maxLen :=
  slice_read u8 (fun n => 0 ≤ n ∧ n < 256) un40 (by kernel_rfl) (by decide) (fun _ _ _ => rd5) h
theorem rd23 {fuel : Nat} {cs : List Value} {x : DataW H × List MemPlace} (_ : cs.length = 1) (h : DataW.trod enc prog w base spare held fuel 23 cs = some x) : ∃ (n : Int) (v : Value), v.cells.toList = cs ∧ IRep w (allF w) (u32 n) v ∧ True := by
  obtain ⟨_, _, rfl, ⟨n, rfl, w1⟩, rfl⟩ := flat_read 5 23 _ fuel cs x fl23 h
  refine ⟨n, .int .u32 n, rfl, ?_, trivial⟩
  rw [u32, IRep]; exact ⟨rfl, rfl⟩
theorem rd31 {fuel : Nat} {v : Value} {x : DataW H × List MemPlace} (h : DataW.trod enc prog w base spare held fuel 31 [v] = some x) : ∃ l : List Int, IRep w (allF w) (lu32 l) v ∧ (∀ n ∈ l, True) ∧ l.length ≤ maxLen :=
  slice_read u32 (fun _ => True) un31 (by kernel_rfl) (by decide) (fun _ _ _ => rd23) h
theorem fl42 : flatT prog 8 42 = some [.int .u8, .int .u8, .int .u16, .int .u32, .bool, .int .u32, .int .u8, .int .u64, .int .u64, .int .i64, .int .i64, .int .u32, .sl 31, .int .u32, .int .u8, .int .u8, .int .u8, .int .u8, .int .u8, .int .u8, .int .u8, .int .u8, .int .u8, .int .u8, .int .u8, .int .u8, .int .u8, .int .u8, .int .u8, .int .u8, .int .i64, .int .u32, .int .u32, .int .u32, .int .u16, .sl 40, .str] := by kernel_rfl
def Pdu.inn (p : Pdu) : Prop := wfB p ∧ p.copy.length ≤ 2 ^ 63 - 1 ∧ p.path.provs.length ≤ 2 ^ 63 - 1
theorem rd42 {fuel : Nat} {vs : Array Value} {x : DataW H × List MemPlace} (h : DataW.trod enc prog w base spare held fuel 42 (Value.agg vs).cells.toList = some x) : ∃ p : Pdu, IRep w (allF w) (encD p) (.agg vs) ∧ p.inn := by
  have hf := flat_read 8 42 _ fuel _ x fl42 h
  obtain ⟨v_nv, s_0, q_0, r_0, hf⟩ := peel hf
  obtain ⟨nv, rfl, w_nv⟩ := r_0
  obtain ⟨v_nk, s_1, q_1, r_1, hf⟩ := peel hf
  obtain ⟨nk, rfl, w_nk⟩ := r_1
  obtain ⟨v_ns, s_2, q_2, r_2, hf⟩ := peel hf
  obtain ⟨ns, rfl, w_ns⟩ := r_2
  obtain ⟨v_nr, s_3, q_3, r_3, hf⟩ := peel hf
  obtain ⟨nr, rfl, w_nr⟩ := r_3
  obtain ⟨v_na, s_4, q_4, r_4, hf⟩ := peel hf
  obtain ⟨na, rfl⟩ := r_4
  obtain ⟨v_oa, s_5, q_5, r_5, hf⟩ := peel hf
  obtain ⟨oa, rfl, w_oa⟩ := r_5
  obtain ⟨v_of, s_6, q_6, r_6, hf⟩ := peel hf
  obtain ⟨of, rfl, w_of⟩ := r_6
  obtain ⟨v_oh, s_7, q_7, r_7, hf⟩ := peel hf
  obtain ⟨oh, rfl, w_oh⟩ := r_7
  obtain ⟨v_ol, s_8, q_8, r_8, hf⟩ := peel hf
  obtain ⟨ol, rfl, w_ol⟩ := r_8
  obtain ⟨v_on, s_9, q_9, r_9, hf⟩ := peel hf
  obtain ⟨on, rfl, w_on⟩ := r_9
  obtain ⟨v_om, s_10, q_10, r_10, hf⟩ := peel hf
  obtain ⟨om, rfl, w_om⟩ := r_10
  obtain ⟨v_pc, s_11, q_11, r_11, hf⟩ := peel hf
  obtain ⟨pc, rfl, w_pc⟩ := r_11
  obtain ⟨v_pp, s_12, q_12, r_12, hf⟩ := peel hf
  obtain ⟨f_pp, x_pp, h_pp⟩ := r_12
  obtain ⟨v_ka, s_13, q_13, r_13, hf⟩ := peel hf
  obtain ⟨ka, rfl, w_ka⟩ := r_13
  obtain ⟨v_b0, s_14, q_14, r_14, hf⟩ := peel hf
  obtain ⟨b0, rfl, w_b0⟩ := r_14
  obtain ⟨v_b1, s_15, q_15, r_15, hf⟩ := peel hf
  obtain ⟨b1, rfl, w_b1⟩ := r_15
  obtain ⟨v_b2, s_16, q_16, r_16, hf⟩ := peel hf
  obtain ⟨b2, rfl, w_b2⟩ := r_16
  obtain ⟨v_b3, s_17, q_17, r_17, hf⟩ := peel hf
  obtain ⟨b3, rfl, w_b3⟩ := r_17
  obtain ⟨v_b4, s_18, q_18, r_18, hf⟩ := peel hf
  obtain ⟨b4, rfl, w_b4⟩ := r_18
  obtain ⟨v_b5, s_19, q_19, r_19, hf⟩ := peel hf
  obtain ⟨b5, rfl, w_b5⟩ := r_19
  obtain ⟨v_b6, s_20, q_20, r_20, hf⟩ := peel hf
  obtain ⟨b6, rfl, w_b6⟩ := r_20
  obtain ⟨v_b7, s_21, q_21, r_21, hf⟩ := peel hf
  obtain ⟨b7, rfl, w_b7⟩ := r_21
  obtain ⟨v_b8, s_22, q_22, r_22, hf⟩ := peel hf
  obtain ⟨b8, rfl, w_b8⟩ := r_22
  obtain ⟨v_b9, s_23, q_23, r_23, hf⟩ := peel hf
  obtain ⟨b9, rfl, w_b9⟩ := r_23
  obtain ⟨v_b10, s_24, q_24, r_24, hf⟩ := peel hf
  obtain ⟨b10, rfl, w_b10⟩ := r_24
  obtain ⟨v_b11, s_25, q_25, r_25, hf⟩ := peel hf
  obtain ⟨b11, rfl, w_b11⟩ := r_25
  obtain ⟨v_b12, s_26, q_26, r_26, hf⟩ := peel hf
  obtain ⟨b12, rfl, w_b12⟩ := r_26
  obtain ⟨v_b13, s_27, q_27, r_27, hf⟩ := peel hf
  obtain ⟨b13, rfl, w_b13⟩ := r_27
  obtain ⟨v_b14, s_28, q_28, r_28, hf⟩ := peel hf
  obtain ⟨b14, rfl, w_b14⟩ := r_28
  obtain ⟨v_b15, s_29, q_29, r_29, hf⟩ := peel hf
  obtain ⟨b15, rfl, w_b15⟩ := r_29
  obtain ⟨v_kh, s_30, q_30, r_30, hf⟩ := peel hf
  obtain ⟨kh, rfl, w_kh⟩ := r_30
  obtain ⟨v_t1, s_31, q_31, r_31, hf⟩ := peel hf
  obtain ⟨t1, rfl, w_t1⟩ := r_31
  obtain ⟨v_t2, s_32, q_32, r_32, hf⟩ := peel hf
  obtain ⟨t2, rfl, w_t2⟩ := r_32
  obtain ⟨v_t3, s_33, q_33, r_33, hf⟩ := peel hf
  obtain ⟨t3, rfl, w_t3⟩ := r_33
  obtain ⟨v_cd, s_34, q_34, r_34, hf⟩ := peel hf
  obtain ⟨cd, rfl, w_cd⟩ := r_34
  obtain ⟨v_cp, s_35, q_35, r_35, hf⟩ := peel hf
  obtain ⟨f_cp, x_cp, h_cp⟩ := r_35
  obtain ⟨v_tx, s_36, q_36, r_36, hf⟩ := peel hf
  obtain ⟨tx, rfl, z_tx⟩ := r_36
  obtain ⟨cp, g_cp, r_cp, n_cp⟩ := rd40 h_cp
  obtain ⟨pp, g_pp, _, n_pp⟩ := rd31 h_pp
  have e2 : vs = [Value.int .u8 nv, Value.int .u8 nk, Value.int .u16 ns, Value.int .u32 nr, .bool na, Value.int .u32 oa, Value.int .u8 of, Value.int .u64 oh, Value.int .u64 ol, Value.int .i64 on, Value.int .i64 om, Value.int .u32 pc, v_pp, Value.int .u32 ka, Value.int .u8 b0, Value.int .u8 b1, Value.int .u8 b2, Value.int .u8 b3, Value.int .u8 b4, Value.int .u8 b5, Value.int .u8 b6, Value.int .u8 b7, Value.int .u8 b8, Value.int .u8 b9, Value.int .u8 b10, Value.int .u8 b11, Value.int .u8 b12, Value.int .u8 b13, Value.int .u8 b14, Value.int .u8 b15, Value.int .i64 kh, Value.int .u32 t1, Value.int .u32 t2, Value.int .u32 t3, Value.int .u16 cd, v_cp, .string tx].toArray := by
    rw [← Array.toList_inj]
    show vs.toList = _
    rw [show vs.toList = _ from q_0, q_1, q_2, q_3, q_4, q_5, q_6, q_7, q_8, q_9, q_10, q_11, q_12, q_13, q_14, q_15, q_16, q_17, q_18, q_19, q_20, q_21, q_22, q_23, q_24, q_25, q_26, q_27, q_28, q_29, q_30, q_31, q_32, q_33, q_34, q_35, q_36, hf]
  rw [e2]
  clear e2 hf q_0 q_1 q_2 q_3 q_4 q_5 q_6 q_7 q_8 q_9 q_10 q_11 q_12 q_13 q_14 q_15 q_16 q_17 q_18 q_19 q_20 q_21 q_22 q_23 q_24 q_25 q_26 q_27 q_28 q_29 q_30 q_31 q_32 q_33 q_34 q_35 q_36
  have hm : maxLen = 2 ^ 63 - 1 := rfl
  have hI : IRep w (allF w) (.agg [u8 nv, u8 nk, u16 ns, u32 nr, bo na, u32 oa, u8 of, u64 oh, u64 ol, i64 on, i64 om, u32 pc, lu32 pp, u32 ka, u8 b0, u8 b1, u8 b2, u8 b3, u8 b4, u8 b5, u8 b6, u8 b7, u8 b8, u8 b9, u8 b10, u8 b11, u8 b12, u8 b13, u8 b14, u8 b15, i64 kh, u32 t1, u32 t2, u32 t3, u16 cd, lu8 cp, st tx]) (.agg [Value.int .u8 nv, Value.int .u8 nk, Value.int .u16 ns, Value.int .u32 nr, .bool na, Value.int .u32 oa, Value.int .u8 of, Value.int .u64 oh, Value.int .u64 ol, Value.int .i64 on, Value.int .i64 om, Value.int .u32 pc, v_pp, Value.int .u32 ka, Value.int .u8 b0, Value.int .u8 b1, Value.int .u8 b2, Value.int .u8 b3, Value.int .u8 b4, Value.int .u8 b5, Value.int .u8 b6, Value.int .u8 b7, Value.int .u8 b8, Value.int .u8 b9, Value.int .u8 b10, Value.int .u8 b11, Value.int .u8 b12, Value.int .u8 b13, Value.int .u8 b14, Value.int .u8 b15, Value.int .i64 kh, Value.int .u32 t1, Value.int .u32 t2, Value.int .u32 t3, Value.int .u16 cd, v_cp, .string tx].toArray) := ia (ic iv (ic iv (ic iv (ic iv (ic ib (ic iv (ic iv (ic iv (ic iv (ic iv (ic iv (ic iv (ic g_pp (ic iv (ic iv (ic iv (ic iv (ic iv (ic iv (ic iv (ic iv (ic iv (ic iv (ic iv (ic iv (ic iv (ic iv (ic iv (ic iv (ic iv (ic iv (ic iv (ic iv (ic iv (ic iv (ic g_cp (ic is in0))))))))))))))))))))))))))))))))))))) rfl
  have hE : encD ⟨nv, nk, ns, nr, na, ⟨oa, ⟨of, ⟨oh, ol⟩, on⟩, om⟩, ⟨pc, pp⟩, ⟨ka, #v[b0, b1, b2, b3, b4, b5, b6, b7, b8, b9, b10, b11, b12, b13, b14, b15], kh⟩, t1, t2, t3, cd, cp, tx⟩ = .agg [u8 nv, u8 nk, u16 ns, u32 nr, bo na, u32 oa, u8 of, u64 oh, u64 ol, i64 on, i64 om, u32 pc, lu32 pp, u32 ka, u8 b0, u8 b1, u8 b2, u8 b3, u8 b4, u8 b5, u8 b6, u8 b7, u8 b8, u8 b9, u8 b10, u8 b11, u8 b12, u8 b13, u8 b14, u8 b15, i64 kh, u32 t1, u32 t2, u32 t3, u16 cd, lu8 cp, st tx] := by kernel_rfl
  refine ⟨⟨nv, nk, ns, nr, na, ⟨oa, ⟨of, ⟨oh, ol⟩, on⟩, om⟩, ⟨pc, pp⟩, ⟨ka, #v[b0, b1, b2, b3, b4, b5, b6, b7, b8, b9, b10, b11, b12, b13, b14, b15], kh⟩, t1, t2, t3, cd, cp, tx⟩, by rw [hE]; exact hI, ⟨r_cp, ?_⟩, hm ▸ n_cp, hm ▸ n_pp⟩
  clear hI hE
  intro z hz
  have hz : z ∈ [b0, b1, b2, b3, b4, b5, b6, b7, b8, b9, b10, b11, b12, b13, b14, b15] := hz
  simp only [List.mem_cons, List.not_mem_nil, or_false] at hz
  rcases hz with rfl | rfl | rfl | rfl | rfl | rfl | rfl | rfl | rfl | rfl | rfl | rfl | rfl | rfl | rfl | rfl
  all_goals (apply wf_u8; assumption)
end
end Gp
namespace Gp
theorem orB (v b : Int) (hv : 0 ≤ v) (hv2 : v < 2 ^ 56) (hb : 0 ≤ b) (hb2 : b < 256) : ibits .u64 (· ||| ·) (IntKind.u64.wrap (v * 2 ^ 8)) (IntKind.u64.wrap b) = v * 256 + b := by
  have e1 : IntKind.u64.wrap (v * 2 ^ 8) = v * 256 := by
    show (v * 256) % 18446744073709551616 = _
    omega
  have e2 : IntKind.u64.wrap b = b := by
    show b % 18446744073709551616 = _
    omega
  rw [e1, e2]
  obtain ⟨v', rfl⟩ := Int.eq_ofNat_of_zero_le hv
  obtain ⟨b', rfl⟩ := Int.eq_ofNat_of_zero_le hb
  have k1 : (BitVec.ofInt 64 ((v' : Int) * 256)).toNat = v' * 256 := by
    rw [BitVec.toNat_ofInt]
    show (((v' : Int) * 256) % 18446744073709551616).toNat = _
    omega
  have k2 : (BitVec.ofInt 64 (b' : Int)).toNat = b' := by
    rw [BitVec.toNat_ofInt]
    show ((b' : Int) % 18446744073709551616).toNat = _
    omega
  have k3 : v' * 256 ||| b' = v' * 256 + b' := by
    have := Nat.two_pow_add_eq_or_of_lt (i := 8) (b := b') (by omega) v'
    rw [Nat.mul_comm v' 256]; exact this.symm
  show IntKind.u64.wrap ((BitVec.ofInt 64 ((v' : Int) * 256) ||| BitVec.ofInt 64 (b' : Int)).toNat : Int) = _
  rw [BitVec.toNat_or, k1, k2, k3]
  show ((v' * 256 + b' : Nat) : Int) % 18446744073709551616 = _
  omega
theorem getV4 (a b c d : Int) (r : List Int) (ha : 0 ≤ a ∧ a < 256) (hb : 0 ≤ b ∧ b < 256) (hc : 0 ≤ c ∧ c < 256) (hd : 0 ≤ d ∧ d < 256) : getV (a :: b :: c :: d :: r) 4 = ((a * 256 + b) * 256 + c) * 256 + d := by
  show ibits .u64 (· ||| ·) (IntKind.u64.wrap (ibits .u64 (· ||| ·) (IntKind.u64.wrap (ibits .u64 (· ||| ·) (IntKind.u64.wrap (ibits .u64 (· ||| ·) (IntKind.u64.wrap (0 * 2 ^ 8)) (IntKind.u64.wrap a) * 2 ^ 8)) (IntKind.u64.wrap b) * 2 ^ 8)) (IntKind.u64.wrap c) * 2 ^ 8)) (IntKind.u64.wrap d) = _
  rw [orB 0 a (by omega) (by omega) ha.1 ha.2, orB _ b (by omega) (by omega) hb.1 hb.2, orB _ c (by omega) (by omega) hc.1 hc.2, orB _ d (by omega) (by omega) hd.1 hd.2]
  omega
theorem byV_eq (x : Int) (k : Nat) (hk : k < 8) : byV x k = (x / 2 ^ (8 * k)) % 256 := by
  unfold byV
  have e1 : IntKind.i64.wrap (8 * (k : Int)) = 8 * k := IntWalk.i64_in _ (by omega)
  rw [e1]
  have e2 : min (8 * (k : Int)).toNat 64 = 8 * k := by omega
  rw [e2, Int.fdiv_eq_ediv_of_nonneg _ (Int.le_of_lt (Int.pow_pos (by omega)))]
  rfl
theorem num4 (x : Int) : num x 4 = [(x / 2 ^ 24) % 256, (x / 2 ^ 16) % 256, (x / 2 ^ 8) % 256, x % 256] := by
  rw [num_eq]
  show [byV x 3, byV x 2, byV x 1, byV x 0] = _
  rw [show byV x 3 = _ from byV_eq x 3 (by omega), show byV x 2 = _ from byV_eq x 2 (by omega), show byV x 1 = _ from byV_eq x 1 (by omega), show byV x 0 = _ from byV_eq x 0 (by omega)]
  simp
theorem getV_num4 (x : Int) (r : List Int) (h0 : 0 ≤ x) (h1 : x < 2 ^ 32) : getV (num x 4 ++ r) 4 = x := by
  rw [num4]
  show getV (_ :: _ :: _ :: _ :: r) 4 = x
  rw [getV4 _ _ _ _ r (by omega) (by omega) (by omega) (by omega)]
  omega
theorem rsL_le2 (p : Pdu) (h : small p) : (rsL p).length ≤ 4304 := by
  unfold small at h
  unfold rsL; repeat' split
  · simp only [rs57, List.length_append, flI_len, num_len]; split <;> simp [num_len]
  · simp only [rs60, rs49, List.length_append, num_len]; split <;> simp [num_len]
  · simp [rs64, num_len, rootL]
  · simp [rs69, num_len, bytesL]; omega
  · simp [rs73, num_len, pvL_len]; omega
  · simp [rs49, num_len]
  · simp
theorem enc_parts (p : Pdu) (h : small p) : ∃ a b c d : Int, encB p = a :: b :: c :: d :: (num ((encB p).length : Int) 4 ++ rsL p) := by
  have hl := rsL_le2 p h
  have e8 := encB_len p
  have e : w64 (IntKind.i64.wrap (8 + ((rsL p).length : Int))) = ((encB p).length : Int) := by
    rw [IntWalk.i64_in _ (by omega), e8]
    show (8 + ((rsL p).length : Int)) % 18446744073709551616 = _
    omega
  have h4 : (num (w64 p.version) 1 ++ num (w64 p.kind) 1 ++ hdL p).length = 4 := by simp [num_len, hdL_len]
  obtain ⟨a, b, c, d, hh⟩ : ∃ a b c d, num (w64 p.version) 1 ++ num (w64 p.kind) 1 ++ hdL p = [a, b, c, d] := by
    generalize num (w64 p.version) 1 ++ num (w64 p.kind) 1 ++ hdL p = l at h4
    match l, h4 with
    | [a, b, c, d], _ => exact ⟨a, b, c, d, rfl⟩
  refine ⟨a, b, c, d, ?_⟩
  have : encB p = [a, b, c, d] ++ num (w64 (IntKind.i64.wrap (8 + ((rsL p).length : Int)))) 4 ++ rsL p := by rw [← hh]; rfl
  rw [e] at this
  exact this
theorem dN_enc (p : Pdu) (h : small p) (more : List Int) : dN (encB p ++ more) = (encB p).length := by
  obtain ⟨a, b, c, d, hh⟩ := enc_parts p h
  have hl := rsL_le2 p h
  have e8 := encB_len p
  have e : ((encB p ++ more).take 8).drop 4 = num ((encB p).length : Int) 4 := by
    generalize ((encB p).length : Int) = N at hh
    rw [hh, num4]
    rfl
  unfold dN
  rw [e]
  have := getV_num4 ((encB p).length : Int) [] (by omega) (by omega)
  rw [List.append_nil] at this
  rw [this]
  exact IntWalk.i64_in _ (by omega)
theorem dN_cut (p : Pdu) (h : small p) (n : Nat) (hn : 8 ≤ n) (hn2 : n ≤ (encB p).length) : dN ((encB p).take n) = (encB p).length := by
  have := dN_enc p h []
  rw [List.append_nil] at this
  unfold dN at this ⊢
  rw [List.take_take, Nat.min_eq_left hn]
  exact this
theorem dec_enc (p : Pdu) (h : chk p = 0) (more : List Int) : decF (encB p ++ more) = (p, ((encB p).length : Int), 0) := by
  obtain ⟨k1, k2, k3, k4⟩ := chk_0 h
  have hN := dN_enc p k1 more
  have hl := rsL_le2 p k1
  have e8 := encB_len p
  have et : (encB p ++ more).take (dN (encB p ++ more)).toNat = encB p := by
    rw [hN, Int.toNat_natCast, List.take_left]
  rw [dec_5 (by rw [List.length_append]; omega) (by rw [hN]; omega) (by rw [hN, List.length_append]; omega) (by rw [et]; exact ⟨k3, by rw [← k4]; exact h⟩), et, hN, ← k4]
theorem dec_cut (p : Pdu) (h : small p) (n : Nat) (hn : n < (encB p).length) : decF ((encB p).take n) = (zeroP, 0, 34) := by
  have hl := rsL_le2 p h
  have e8 := encB_len p
  have ht : ((encB p).take n).length = n := by rw [List.length_take]; omega
  by_cases h8 : n < 8
  · exact dec_1 (by rw [ht]; exact h8)
  · have hN := dN_cut p h n (by omega) (by omega)
    exact dec_3 (by rw [ht]; exact h8) (by rw [hN]; omega) (by rw [ht, hN]; omega)
end Gp
namespace Gp
def kz : RKey := ⟨0, Vector.replicate 16 0, 0⟩
def qry : Pdu := ⟨1, 1, 7, 300, false, ⟨0, ⟨0, ⟨0, 0⟩, 0⟩, 0⟩, ⟨0, []⟩, kz, 0, 0, 0, 0, [], .empty⟩
def ann : Pdu := ⟨0, 4, 0, 0, true, ⟨64500, ⟨4, ⟨0, 167772160⟩, 8⟩, 24⟩, ⟨0, []⟩, kz, 0, 0, 0, 0, [], .empty⟩
def wq : List Int := [1, 1, 0, 7, 0, 0, 0, 12, 0, 0, 1, 44]
def wa : List Int := [0, 4, 0, 0, 0, 0, 0, 20, 1, 8, 24, 0, 10, 0, 0, 0, 0, 0, 251, 244]
theorem enc_q : encB qry = wq := by
  unfold encB hdL rsL hd48 rs49
  simp only [num_eq]
  kernel_rfl
theorem enc_a : encB ann = wa := by
  unfold encB hdL rsL hd52 rs57 flI
  simp only [num_eq]
  kernel_rfl
theorem rd_q : rdF wq = (qry, true) := by kernel_rfl
theorem rd_a : rdF wa = (ann, true) := by kernel_rfl
theorem small_q : small qry := by unfold small; simp [qry]
theorem small_a : small ann := by unfold small; simp [ann]
theorem chk_q : chk qry = 0 := chk_o small_q (by unfold isK qry; simp) (by show ¬ (2 : Int) < 1; omega) (by kernel_rfl) (by rw [enc_q, rd_q]) (by rw [enc_q, rd_q])
theorem chk_a : chk ann = 0 := chk_o small_a (by unfold isK ann; simp) (by show ¬ (2 : Int) < 0; omega) (by kernel_rfl) (by rw [enc_a, rd_a]) (by rw [enc_a, rd_a])
def T43 : Tell :=
  Tell.mk (fun x x_1 => false) (fun x x_1 => Orc.no) (fun x => Tree.fail 1000003 0) (fun x => 0) (fun x => ([], [])) (fun x x_1 x_2 => Orc.no) fun x x_1 => Tree.fail 1000003 0
theorem t43 : levF prog Proofs.Try.f43 [] T43 =
  Tree.done Exit.ret
  (lret
  (IVal.agg
  [IVal.v (Value.int IntKind.u8 (1 : Int)), IVal.v (Value.int IntKind.u8 (1 : Int)), IVal.v (Value.int IntKind.u16 (7 : Int)), IVal.v (Value.int IntKind.u32 (300 : Int)), IVal.v (Value.bool false),
  IVal.v (Value.int IntKind.u32 (0 : Int)), IVal.v (Value.int IntKind.u8 (0 : Int)), IVal.v (Value.int IntKind.u64 (0 : Int)), IVal.v (Value.int IntKind.u64 (0 : Int)), IVal.v (Value.int IntKind.i64 (0 : Int)),
  IVal.v (Value.int IntKind.i64 (0 : Int)), IVal.v (Value.int IntKind.u32 (0 : Int)), IVal.v (Value.slice none 0 0), IVal.v (Value.int IntKind.u32 (0 : Int)), IVal.v (Value.int IntKind.u8 (0 : Int)),
  IVal.v (Value.int IntKind.u8 (0 : Int)), IVal.v (Value.int IntKind.u8 (0 : Int)), IVal.v (Value.int IntKind.u8 (0 : Int)), IVal.v (Value.int IntKind.u8 (0 : Int)), IVal.v (Value.int IntKind.u8 (0 : Int)),
  IVal.v (Value.int IntKind.u8 (0 : Int)), IVal.v (Value.int IntKind.u8 (0 : Int)), IVal.v (Value.int IntKind.u8 (0 : Int)), IVal.v (Value.int IntKind.u8 (0 : Int)), IVal.v (Value.int IntKind.u8 (0 : Int)),
  IVal.v (Value.int IntKind.u8 (0 : Int)), IVal.v (Value.int IntKind.u8 (0 : Int)), IVal.v (Value.int IntKind.u8 (0 : Int)), IVal.v (Value.int IntKind.u8 (0 : Int)), IVal.v (Value.int IntKind.u8 (0 : Int)),
  IVal.v (Value.int IntKind.i64 (0 : Int)), IVal.v (Value.int IntKind.u32 (0 : Int)), IVal.v (Value.int IntKind.u32 (0 : Int)), IVal.v (Value.int IntKind.u32 (0 : Int)), IVal.v (Value.int IntKind.u16 (0 : Int)),
  IVal.v (Value.slice none 0 0), IVal.v (Value.string (ByteArray.mk (Array.mk [])))])) := by kernel_rfl
def T20 : Tell :=
  Tell.mk (fun x x_1 => false) (fun x x_1 => Orc.no) (fun x => Tree.fail 1000003 0) (fun x => 0) (fun x => ([], [])) (fun x x_1 x_2 => Orc.no) fun x x_1 => Tree.fail 1000003 0
theorem t20 : levF prog Proofs.Try.f20 [] T20 =
  Tree.done Exit.ret
  (lret
  (IVal.agg
  [IVal.v (Value.int IntKind.u8 (0 : Int)), IVal.v (Value.int IntKind.u8 (4 : Int)), IVal.v (Value.int IntKind.u16 (0 : Int)), IVal.v (Value.int IntKind.u32 (0 : Int)), IVal.v (Value.bool true),
  IVal.v (Value.int IntKind.u32 (64500 : Int)), IVal.v (Value.int IntKind.u8 (4 : Int)), IVal.v (Value.int IntKind.u64 (0 : Int)), IVal.v (Value.int IntKind.u64 (167772160 : Int)), IVal.v (Value.int IntKind.i64 (8 : Int)),
  IVal.v (Value.int IntKind.i64 (24 : Int)), IVal.v (Value.int IntKind.u32 (0 : Int)), IVal.v (Value.slice none 0 0), IVal.v (Value.int IntKind.u32 (0 : Int)), IVal.v (Value.int IntKind.u8 (0 : Int)),
  IVal.v (Value.int IntKind.u8 (0 : Int)), IVal.v (Value.int IntKind.u8 (0 : Int)), IVal.v (Value.int IntKind.u8 (0 : Int)), IVal.v (Value.int IntKind.u8 (0 : Int)), IVal.v (Value.int IntKind.u8 (0 : Int)),
  IVal.v (Value.int IntKind.u8 (0 : Int)), IVal.v (Value.int IntKind.u8 (0 : Int)), IVal.v (Value.int IntKind.u8 (0 : Int)), IVal.v (Value.int IntKind.u8 (0 : Int)), IVal.v (Value.int IntKind.u8 (0 : Int)),
  IVal.v (Value.int IntKind.u8 (0 : Int)), IVal.v (Value.int IntKind.u8 (0 : Int)), IVal.v (Value.int IntKind.u8 (0 : Int)), IVal.v (Value.int IntKind.u8 (0 : Int)), IVal.v (Value.int IntKind.u8 (0 : Int)),
  IVal.v (Value.int IntKind.i64 (0 : Int)), IVal.v (Value.int IntKind.u32 (0 : Int)), IVal.v (Value.int IntKind.u32 (0 : Int)), IVal.v (Value.int IntKind.u32 (0 : Int)), IVal.v (Value.int IntKind.u16 (0 : Int)),
  IVal.v (Value.slice none 0 0), IVal.v (Value.string (ByteArray.mk (Array.mk [])))])) := by kernel_rfl
theorem c43 : ASpec prog 43 [] (encD qry) := by
  refine ASpec.treeW Proofs.Try.f43 T43 (by kernel_rfl) (by kernel_rfl) t43 ?_
  exact ⟨_, rfl, ile_pdu qry _ _ (ile_n _ rfl) (ile_n' _ rfl)⟩
theorem c20 : ASpec prog 20 [] (encD ann) := by
  refine ASpec.treeW Proofs.Try.f20 T20 (by kernel_rfl) (by kernel_rfl) t20 ?_
  exact ⟨_, rfl, ile_pdu ann _ _ (ile_n _ rfl) (ile_n' _ rfl)⟩
end Gp
namespace Gp
def T19 (p : Pdu) (w : List Int) : Tell :=
  Tell.mk (fun x x_1 => false) (fun x x_1 => Orc.no) (fun x => Tree.fail 1000003 0) (fun x => 0) (fun x => ([], []))
  (oget
  [(2, 1, 1, Orc.call [encD p] (IVal.tup [slE 1 u8 (eO p), i64 (chk p)])), (9, 2, 3, Orc.call [slE 1 u8 (w ++ [(0 : Int)])] (decT (decF (w ++ [(0 : Int)])))),
  (21, 3, 5, Orc.call [lu8 (eO p), lu8 w] (bo (decide (eO p = w)))), (21, 3, 20, Orc.call [encD p, encD (decF (w ++ [(0 : Int)])).fst] (bo (decide (p = (decF (w ++ [(0 : Int)])).fst))))])
  fun x x_1 => Tree.fail 1000003 0
theorem t19 (p : Pdu) (w : List Int) : levF prog Proofs.Try.f19 [encD p, .sl false true 1 (w.map u8)] (T19 p w) =
  Tree.need (ILeL [encD p] [encD p] ∧ ASpec prog 21 [encD p] (IVal.tup [slE 1 u8 (eO p), i64 (chk p)]))
  (Tree.need (askA (some (1 = 1)) (cellsOk (List.map u8 w) = true ∧ true = true ∧ List.length (List.map u8 w) + 1 ≤ 1000000))
  (Tree.need
  (ILeL [IVal.sl (false || List.isEmpty (List.map u8 w)) false 1 (List.map u8 w ++ [IVal.v (Value.int IntKind.u8 (0 : Int))])] [slE 1 u8 (w ++ [(0 : Int)])] ∧
  ASpec prog 22 [slE 1 u8 (w ++ [(0 : Int)])] (decT (decF (w ++ [(0 : Int)]))))
  (Tree.br (decide (chk p = (0 : Int)))
  (Tree.need (ILeL [slE 1 u8 (eO p), IVal.sl false true 1 (List.map u8 w)] [lu8 (eO p), lu8 w] ∧ ASpec prog 27 [lu8 (eO p), lu8 w] (bo (decide (eO p = w))))
  (Tree.br (decide (eO p = w))
  (Tree.br (decide ((decF (w ++ [(0 : Int)])).snd.snd = (0 : Int)))
  (Tree.br (decide ((decF (w ++ [(0 : Int)])).snd.fst = (↑(List.length (List.map u8 w)) : Int)))
  (Tree.need
  (ILeL [encD p, encD (decF (w ++ [(0 : Int)])).fst] [encD p, encD (decF (w ++ [(0 : Int)])).fst] ∧ ASpec prog 17 [encD p, encD (decF (w ++ [(0 : Int)])).fst] (bo (decide (p = (decF (w ++ [(0 : Int)])).fst))))
  (Tree.done Exit.ret (lret (IVal.v (Value.bool (decide (p = (decF (w ++ [(0 : Int)])).fst)))))))
  (Tree.done Exit.ret (lret (IVal.v (Value.bool false)))))
  (Tree.done Exit.ret (lret (IVal.v (Value.bool false)))))
  (Tree.done Exit.ret (lret (IVal.v (Value.bool false))))))
  (Tree.done Exit.ret (lret (IVal.v (Value.bool false))))))) := by kernel_rfl
def codF (p : Pdu) (w : List Int) : Bool := decide (chk p = 0) && (decide (eO p = w) && (decide ((decF (w ++ [0])).2.2 = 0) && (decide ((decF (w ++ [0])).2.1 = w.length) && decide (p = (decF (w ++ [0])).1))))
theorem eO_len (p : Pdu) : (eO p).length ≤ 4312 := by
  unfold eO; split
  · rename_i h
    have := rsL_le2 p (chk_0 h).1
    rw [encB_len]; omega
  · simp
theorem eO_byte (p : Pdu) (h : wfB p) : byteL (eO p) := by
  unfold eO; split
  · exact encB_byte p h
  · exact byteL_nil
theorem c19 (p : Pdu) (w : List Int) (hw : wfB p) (hb : byteL w) (hl : w.length ≤ 5000) (h1c : p.copy.length ≤ 2 ^ 62) (h2c : p.path.provs.length ≤ 2 ^ 62) : ASpec prog 19 [encD p, .sl false true 1 (w.map u8)] (bo (codF p w)) := by
  refine ASpec.treeW Proofs.Try.f19 (T19 p w) (by kernel_rfl) (by kernel_rfl) (t19 p w) ?_
  have hb0 : byteL (w ++ [0]) := byteL_app hb fun x hx => by simp at hx; omega
  refine need_sat ⟨ILeL.refl _, c21 p hw⟩ (need_sat ⟨⟨cellsOk_map u8 (fun _ => rfl) _, rfl, by rw [List.length_map]; omega⟩, rfl⟩ (need_sat ⟨.cons (.sl (fun h => by cases h) (fun h => h) ?_) (.refl _), c22 _ hb0 (by simp; omega)⟩ ⟨fun h1 => ?_, fun h1 => ⟨_, rfl, ile_bo (by unfold codF; rw [h1]; rfl)⟩⟩))
  · rw [List.map_append]; exact .refl _
  · refine need_sat ⟨.cons (.refl _) (.cons (.sl (fun h => h) (fun h => by cases h) (.refl _)) (.refl _)), c27 _ _ (by have := eO_len p; omega)⟩ ⟨fun h2 => ⟨fun h3 => ⟨fun h4 => need_sat ⟨ILeL.refl _, c17 _ _ h1c h2c⟩ ⟨_, rfl, ?_⟩, fun h4 => ⟨_, rfl, ?_⟩⟩, fun h3 => ⟨_, rfl, ?_⟩⟩, fun h2 => ⟨_, rfl, ?_⟩⟩
    · rw [List.length_map] at h4
      exact ile_bo (by unfold codF; rw [h1, h2, h3, h4]; rfl)
    · rw [List.length_map] at h4
      exact ile_bo (by unfold codF; rw [h1, h2, h3, h4]; rfl)
    · exact ile_bo (by unfold codF; rw [h1, h2, h3]; rfl)
    · exact ile_bo (by unfold codF; rw [h1, h2]; rfl)
theorem codF_t (p : Pdu) (w : List Int) (h : chk p = 0) (he : encB p = w) : codF p w = true := by
  have e1 : eO p = w := (if_pos h).trans he
  have e2 := dec_enc p h [0]
  rw [he] at e2
  unfold codF
  rw [e1, e2, h]
  simp
def T24 : Tell :=
  Tell.mk (fun r i => r == 1 && (i == 1 || i == 5)) (fun x x_1 => Orc.no) (fun x => Tree.fail 1000003 0) (fun x => 0) (fun x => ([], []))
  (oget
  [(1, 1, 0, Orc.call [] (encD qry)),
  (1, 1, 2,
  Orc.call [encD qry, IVal.sl false true 1 (List.map u8 [(1 : Int), (1 : Int), (0 : Int), (7 : Int), (0 : Int), (0 : Int), (0 : Int), (12 : Int), (0 : Int), (0 : Int), (1 : Int), (44 : Int)])]
  (bo (codF qry [(1 : Int), (1 : Int), (0 : Int), (7 : Int), (0 : Int), (0 : Int), (0 : Int), (12 : Int), (0 : Int), (0 : Int), (1 : Int), (44 : Int)]))),
  (1, 1, 4, Orc.call [] (encD ann)),
  (1, 1, 6,
  Orc.call
  [encD ann,
  IVal.sl false true 1
  (List.map u8
  [(0 : Int), (4 : Int), (0 : Int), (0 : Int), (0 : Int), (0 : Int), (0 : Int), (20 : Int), (1 : Int), (8 : Int), (24 : Int), (0 : Int), (10 : Int), (0 : Int), (0 : Int), (0 : Int), (0 : Int), (0 : Int), (251 : Int),
  (244 : Int)])]
  (bo
  (codF ann
  [(0 : Int), (4 : Int), (0 : Int), (0 : Int), (0 : Int), (0 : Int), (0 : Int), (20 : Int), (1 : Int), (8 : Int), (24 : Int), (0 : Int), (10 : Int), (0 : Int), (0 : Int), (0 : Int), (0 : Int), (0 : Int), (251 : Int),
  (244 : Int)])))])
  fun x x_1 => Tree.fail 1000003 0
theorem t24 : levF prog Proofs.Try.f24 [] T24 =
  Tree.need (ILeL [] [] ∧ ASpec prog 43 [] (encD qry))
  (Tree.need
  (ILeL
  [encD qry,
  IVal.sl true true 1
  [IVal.v (Value.int IntKind.u8 (1 : Int)), IVal.v (Value.int IntKind.u8 (1 : Int)), IVal.v (Value.int IntKind.u8 (0 : Int)), IVal.v (Value.int IntKind.u8 (7 : Int)), IVal.v (Value.int IntKind.u8 (0 : Int)),
  IVal.v (Value.int IntKind.u8 (0 : Int)), IVal.v (Value.int IntKind.u8 (0 : Int)), IVal.v (Value.int IntKind.u8 (12 : Int)), IVal.v (Value.int IntKind.u8 (0 : Int)), IVal.v (Value.int IntKind.u8 (0 : Int)),
  IVal.v (Value.int IntKind.u8 (1 : Int)), IVal.v (Value.int IntKind.u8 (44 : Int))]]
  [encD qry, IVal.sl false true 1 [u8 (1 : Int), u8 (1 : Int), u8 (0 : Int), u8 (7 : Int), u8 (0 : Int), u8 (0 : Int), u8 (0 : Int), u8 (12 : Int), u8 (0 : Int), u8 (0 : Int), u8 (1 : Int), u8 (44 : Int)]] ∧
  ASpec prog 19 [encD qry, IVal.sl false true 1 [u8 (1 : Int), u8 (1 : Int), u8 (0 : Int), u8 (7 : Int), u8 (0 : Int), u8 (0 : Int), u8 (0 : Int), u8 (12 : Int), u8 (0 : Int), u8 (0 : Int), u8 (1 : Int), u8 (44 : Int)]]
  (bo (codF qry [(1 : Int), (1 : Int), (0 : Int), (7 : Int), (0 : Int), (0 : Int), (0 : Int), (12 : Int), (0 : Int), (0 : Int), (1 : Int), (44 : Int)])))
  (Tree.br (codF qry [(1 : Int), (1 : Int), (0 : Int), (7 : Int), (0 : Int), (0 : Int), (0 : Int), (12 : Int), (0 : Int), (0 : Int), (1 : Int), (44 : Int)])
  (Tree.need (ILeL [] [] ∧ ASpec prog 20 [] (encD ann))
  (Tree.need
  (ILeL
  [encD ann,
  IVal.sl true true 1
  [IVal.v (Value.int IntKind.u8 (0 : Int)), IVal.v (Value.int IntKind.u8 (4 : Int)), IVal.v (Value.int IntKind.u8 (0 : Int)), IVal.v (Value.int IntKind.u8 (0 : Int)), IVal.v (Value.int IntKind.u8 (0 : Int)),
  IVal.v (Value.int IntKind.u8 (0 : Int)), IVal.v (Value.int IntKind.u8 (0 : Int)), IVal.v (Value.int IntKind.u8 (20 : Int)), IVal.v (Value.int IntKind.u8 (1 : Int)), IVal.v (Value.int IntKind.u8 (8 : Int)),
  IVal.v (Value.int IntKind.u8 (24 : Int)), IVal.v (Value.int IntKind.u8 (0 : Int)), IVal.v (Value.int IntKind.u8 (10 : Int)), IVal.v (Value.int IntKind.u8 (0 : Int)), IVal.v (Value.int IntKind.u8 (0 : Int)),
  IVal.v (Value.int IntKind.u8 (0 : Int)), IVal.v (Value.int IntKind.u8 (0 : Int)), IVal.v (Value.int IntKind.u8 (0 : Int)), IVal.v (Value.int IntKind.u8 (251 : Int)), IVal.v (Value.int IntKind.u8 (244 : Int))]]
  [encD ann,
  IVal.sl false true 1
  [u8 (0 : Int), u8 (4 : Int), u8 (0 : Int), u8 (0 : Int), u8 (0 : Int), u8 (0 : Int), u8 (0 : Int), u8 (20 : Int), u8 (1 : Int), u8 (8 : Int), u8 (24 : Int), u8 (0 : Int), u8 (10 : Int), u8 (0 : Int), u8 (0 : Int),
  u8 (0 : Int), u8 (0 : Int), u8 (0 : Int), u8 (251 : Int), u8 (244 : Int)]] ∧
  ASpec prog 19
  [encD ann,
  IVal.sl false true 1
  [u8 (0 : Int), u8 (4 : Int), u8 (0 : Int), u8 (0 : Int), u8 (0 : Int), u8 (0 : Int), u8 (0 : Int), u8 (20 : Int), u8 (1 : Int), u8 (8 : Int), u8 (24 : Int), u8 (0 : Int), u8 (10 : Int), u8 (0 : Int), u8 (0 : Int),
  u8 (0 : Int), u8 (0 : Int), u8 (0 : Int), u8 (251 : Int), u8 (244 : Int)]]
  (bo
  (codF ann
  [(0 : Int), (4 : Int), (0 : Int), (0 : Int), (0 : Int), (0 : Int), (0 : Int), (20 : Int), (1 : Int), (8 : Int), (24 : Int), (0 : Int), (10 : Int), (0 : Int), (0 : Int), (0 : Int), (0 : Int), (0 : Int), (251 : Int),
  (244 : Int)])))
  (Tree.done Exit.ret
  (lret
  (IVal.v
  (Value.bool
  (codF ann
  [(0 : Int), (4 : Int), (0 : Int), (0 : Int), (0 : Int), (0 : Int), (0 : Int), (20 : Int), (1 : Int), (8 : Int), (24 : Int), (0 : Int), (10 : Int), (0 : Int), (0 : Int), (0 : Int), (0 : Int), (0 : Int), (251 : Int),
  (244 : Int)])))))))
  (Tree.done Exit.ret (lret (IVal.v (Value.bool false)))))) := by kernel_rfl
theorem wf_kz : byteL (rootL kz) := fun x hx => by
  simp [rootL, kz] at hx
  omega
theorem byte_dec {l : List Int} (h : (l.all fun x => decide (0 ≤ x ∧ x < 256)) = true) : byteL l := fun x hx => of_decide_eq_true (List.all_eq_true.1 h x hx)
theorem c24 : ASpec prog 24 [] (bo true) := by
  refine ASpec.treeW Proofs.Try.f24 T24 (by kernel_rfl) (by kernel_rfl) t24 ?_
  have q1 := c19 qry wq ⟨byteL_nil, wf_kz⟩ (byte_dec rfl) (by decide) (by decide) (by decide)
  have q2 := c19 ann wa ⟨byteL_nil, wf_kz⟩ (byte_dec rfl) (by decide) (by decide) (by decide)
  have e1 : codF qry wq = true := codF_t qry wq chk_q enc_q
  have e2 : codF ann wa = true := codF_t ann wa chk_a enc_a
  refine need_sat ⟨ILeL.refl _, c43⟩ (need_sat ⟨.cons (.refl _) (.cons (.sl (fun h => by cases h) (fun h => h) (.refl _)) (.refl _)), q1⟩ ⟨fun h1 => ?_, fun h1 => ?_⟩)
  · refine need_sat ⟨ILeL.refl _, c20⟩ (need_sat ⟨.cons (.refl _) (.cons (.sl (fun h => by cases h) (fun h => h) (.refl _)) (.refl _)), q2⟩ ⟨_, rfl, ile_bo e2⟩)
  · exact absurd (e1.symm.trans h1) (by simp)
end Gp
namespace Gp
def strR : Nat → List Int → List Pdu × Nat × Int
  | _, [] => ([], 0, 0)
  | 0, _ :: _ => ([], 0, 4)
  | m + 1, x :: r => if (decF (x :: r)).2.2 = 0 then ((decF (x :: r)).1 :: (strR m ((x :: r).drop (decF (x :: r)).2.1.toNat)).1, (decF (x :: r)).2.1.toNat + (strR m ((x :: r).drop (decF (x :: r)).2.1.toNat)).2.1, (strR m ((x :: r).drop (decF (x :: r)).2.1.toNat)).2.2) else ([], 0, (decF (x :: r)).2.2)
def strF (l : List Int) : List Pdu × Nat × Int := strR 5000 l
def I28 (l : List Int) (ps : List Pdu) (o : Nat) : LState := { t := [(3, .imm (i64 o)), (2, .own 50 ps.length), (0, .imm (slE 1 u8 l))], s := [(50, .row 42 37 (ps.map encD))], m := 39, n := 51 }
def R28 (l : List Int) : LState := { t := [(4, .imm (i64 (strF l).2.2)), (3, .imm (i64 (strF l).2.1)), (2, .own 50 (strF l).1.length)], s := [(50, .row 42 37 ((strF l).1.map encD))], m := 39, n := 51 }
def E28 (l : List Int) : LState := { t := [(3, .imm (i64 (strF l).2.1)), (2, .own 50 (strF l).1.length)], s := [(50, .row 42 37 ((strF l).1.map encD))], m := 39, n := 51 }
def fin28 : Exit → Nat → Fin
  | .normal, _ => ⟨[(50, 75)], [3, 2, 0], [50]⟩
  | .ret, _ => ⟨[], [4, 3, 2], [50]⟩
  | _, _ => ⟨[], [3, 2], [50]⟩
def L28 (l : List Int) : Tree := .br (decide ((strF l).2.2 = 0)) (.done (.exit 0) (E28 l)) (.done .ret (R28 l))
def T28r (l : List Int) (ps : List Pdu) (o : Nat) : Tell :=
  Tell.mk (fun x x_1 => false) (fun r i => if (r == 4 && i == 2) = true then Orc.slc else Orc.no) (fun x => Tree.fail 1000003 0) (fun x => 0) (fun x => ([], []))
  (ogetO (fun r i => if (r == 4 && i == 2) = true then Orc.slc else Orc.no)
  [(58, 4, 3, Orc.call [slE 1 u8 (List.drop o (List.take (List.length (List.map u8 l)) l))] (decT (decF (List.drop o (List.take (List.length (List.map u8 l)) l)))))])
  fun x x_1 => Tree.fail 1000003 0
theorem t28r (l : List Int) (ps : List Pdu) (o : Nat) : levLN prog Proofs.Try.f28 1 (I28 l ps o) (T28r l ps o) fin28 =
  Tree.br (decide ((↑o : Int) < (↑(List.length (List.map u8 l)) : Int)))
  (Tree.br (decide ((↑(List.length ps) : Int) = (5000 : Int)))
  (Tree.done Exit.ret
  (LState.mk [(4, AVal.imm (IVal.v (Value.int IntKind.i64 (4 : Int)))), (3, AVal.imm (i64 (↑o : Int))), (2, AVal.own 50 (List.length ps))]
  [(50, Entry.row 42 37 (List.map encD ps))] 39 63 []))
  (Tree.need ((0 : Int) ≤ (↑o : Int) ∧ (↑o : Int) ≤ (↑(List.length (List.map u8 l)) : Int) ∧ (↑(List.length (List.map u8 l)) : Int) ≤ (↑(List.length (List.map u8 l)) : Int))
  (Tree.need
  (ILeL [IVal.sl false false 1 (List.drop o (List.take (List.length (List.map u8 l)) (List.map u8 l)))] [slE 1 u8 (List.drop o (List.take (List.length (List.map u8 l)) l))] ∧
  ASpec prog 22 [slE 1 u8 (List.drop o (List.take (List.length (List.map u8 l)) l))] (decT (decF (List.drop o (List.take (List.length (List.map u8 l)) l)))))
  (Tree.br (!decide ((decF (List.drop o (List.take (List.length (List.map u8 l)) l))).snd.snd = (0 : Int)))
  (Tree.done Exit.ret
  (LState.mk [(4, AVal.imm (i64 (decF (List.drop o (List.take (List.length (List.map u8 l)) l))).snd.snd)), (3, AVal.imm (i64 (↑o : Int))), (2, AVal.own 50 (List.length ps))]
  [(50, Entry.row 42 37 (List.map encD ps))] 39 78 []))
  (Tree.need (askA (some (1 = 1)) (List.length (List.map encD ps) = List.length ps ∧ cellsOk (List.map encD ps) = true ∧ true = true ∧ List.length ps + 1 ≤ 1000000))
  (Tree.done Exit.normal
  (LState.mk
  [(3, AVal.imm (IVal.v (Value.int IntKind.i64 (IntKind.wrap IntKind.i64 ((↑o : Int) + (decF (List.drop o (List.take (List.length (List.map u8 l)) l))).snd.fst))))),
  (2, AVal.own 50 (List.length ps + 1)), (0, AVal.imm (slE 1 u8 l))]
  [(50, Entry.row 42 37 (List.map encD ps ++ [encD (decF (List.drop o (List.take (List.length (List.map u8 l)) l))).fst]))] 39 81 [])))))))
  (Tree.done (Exit.exit 0) (LState.mk [(3, AVal.imm (i64 (↑o : Int))), (2, AVal.own 50 (List.length ps))] [(50, Entry.row 42 37 (List.map encD ps))] 39 55 [])) := by kernel_rfl
def T28 (l : List Int) : Tell :=
  Tell.mk (fun x x_1 => false) (fun x x_1 => Orc.no) (fun x => L28 l) (fun x => 0) (fun x => ([3, 2, 0], [50])) (fun x x_1 x_2 => Orc.no) fun x x_1 => L28 l
theorem t28 (l : List Int) : levF prog Proofs.Try.f28 [slE 1 u8 l] (T28 l) =
  Tree.loop 1 (LState.mk [(3, AVal.imm (IVal.v (Value.int IntKind.i64 (0 : Int)))), (2, AVal.imm (IVal.v (Value.slice none 0 0))), (0, AVal.imm (slE 1 u8 l))] [] 39 3 [])
  (Tree.br (decide ((strF l).snd.snd = (0 : Int))) (Tree.done (Exit.exit 0) (E28 l)) (Tree.done Exit.ret (R28 l)))
  (Tree.br (decide ((strF l).snd.snd = (0 : Int)))
  (Tree.need (eqs [(List.length (strF l).fst, List.length (List.map encD (strF l).fst))])
  (Tree.done Exit.ret (lret (IVal.tup [IVal.sl true false 37 (List.map encD (strF l).fst), i64 (↑(strF l).snd.fst : Int), IVal.v (Value.int IntKind.i64 (0 : Int))]))))
  (Tree.need (eqs [(List.length (strF l).fst, List.length (List.map encD (strF l).fst))])
  (Tree.done Exit.ret (lret (IVal.tup [IVal.sl true false 37 (List.map encD (strF l).fst), i64 (↑(strF l).snd.fst : Int), i64 (strF l).snd.snd]))))) := by kernel_rfl
theorem dec_n {l : List Int} (h : (decF l).2.2 = 0) : 8 ≤ (decF l).2.1 ∧ (decF l).2.1 ≤ l.length := by
  by_cases h1 : l.length < 8
  · rw [dec_1 h1] at h; cases h
  by_cases h2 : dN l < 8 ∨ 4312 < dN l
  · rw [dec_2 h1 h2] at h; cases h
  by_cases h3 : (l.length : Int) < dN l
  · rw [dec_3 h1 h2 h3] at h; cases h
  by_cases h4 : (rdF (l.take (dN l).toNat)).2 = true ∧ chk (rdF (l.take (dN l).toNat)).1 = 0
  · rw [dec_5 h1 h2 h3 h4]; simp only; omega
  · rw [dec_4 h1 h2 h3 h4] at h; cases h
def inv28 (l : List Int) (g : List Pdu × Nat) : Prop := g.2 ≤ l.length ∧ g.1.length ≤ 5000 ∧
  strF l = (g.1 ++ (strR (5000 - g.1.length) (l.drop g.2)).1, g.2 + (strR (5000 - g.1.length) (l.drop g.2)).2.1, (strR (5000 - g.1.length) (l.drop g.2)).2.2)
theorem inv28_z (l : List Int) : inv28 l ([], 0) := ⟨Nat.zero_le _, by decide, by simp [strF]⟩
theorem strR_0 {l : List Int} (h : l ≠ []) : strR 0 l = ([], 0, 4) := by cases l with
  | nil => exact absurd rfl h
  | cons => rfl
theorem strR_n (m : Nat) : strR m [] = ([], 0, 0) := by cases m <;> rfl
theorem strR_e {m : Nat} {l : List Int} (h : l ≠ []) (hd : (decF l).2.2 ≠ 0) : strR (m + 1) l = ([], 0, (decF l).2.2) := by cases l with
  | nil => exact absurd rfl h
  | cons x r => rw [strR, if_neg hd]
theorem strR_s {m : Nat} {l : List Int} (h : l ≠ []) (hd : (decF l).2.2 = 0) : strR (m + 1) l = ((decF l).1 :: (strR m (l.drop (decF l).2.1.toNat)).1, (decF l).2.1.toNat + (strR m (l.drop (decF l).2.1.toNat)).2.1, (strR m (l.drop (decF l).2.1.toNat)).2.2) := by cases l with
  | nil => exact absurd rfl h
  | cons x r => rw [strR, if_pos hd]
theorem inv28_s {l : List Int} {g : List Pdu × Nat} (h : inv28 l g) (h1 : g.2 < l.length) (h2 : g.1.length ≠ 5000) (hd : (decF (l.drop g.2)).2.2 = 0) :
    inv28 l (g.1 ++ [(decF (l.drop g.2)).1], g.2 + (decF (l.drop g.2)).2.1.toNat) := by
  obtain ⟨k1, k2, k3⟩ := h
  have hn := dec_n hd
  rw [List.length_drop] at hn
  have hne : l.drop g.2 ≠ [] := fun e => by have := congrArg List.length e; simp at this; omega
  refine ⟨by simp only; omega, by simp only [List.length_append, List.length_cons, List.length_nil]; omega, ?_⟩
  obtain ⟨m, hm⟩ : ∃ m, 5000 - g.1.length = m + 1 := ⟨5000 - g.1.length - 1, by omega⟩
  have hm' : 5000 - (g.1 ++ [(decF (l.drop g.2)).1]).length = m := by simp only [List.length_append, List.length_cons, List.length_nil]; omega
  rw [k3, hm, strR_s hne hd]
  simp only [hm', List.drop_drop, List.append_assoc, List.cons_append, List.nil_append, Nat.add_assoc]
theorem inv28_e {l : List Int} {g : List Pdu × Nat} (h : inv28 l g) (h1 : g.2 < l.length) (h2 : g.1.length ≠ 5000) (hd : (decF (l.drop g.2)).2.2 ≠ 0) : strF l = (g.1, g.2, (decF (l.drop g.2)).2.2) := by
  obtain ⟨k1, k2, k3⟩ := h
  have hne : l.drop g.2 ≠ [] := fun e => by have := congrArg List.length e; simp at this; omega
  obtain ⟨m, hm⟩ : ∃ m, 5000 - g.1.length = m + 1 := ⟨5000 - g.1.length - 1, by omega⟩
  rw [k3, hm, strR_e hne hd]; simp
theorem inv28_m {l : List Int} {g : List Pdu × Nat} (h : inv28 l g) (h1 : g.2 < l.length) (h2 : g.1.length = 5000) : strF l = (g.1, g.2, 4) := by
  obtain ⟨k1, k2, k3⟩ := h
  have hne : l.drop g.2 ≠ [] := fun e => by have := congrArg List.length e; simp at this; omega
  rw [k3, h2, strR_0 hne]; simp
theorem inv28_n {l : List Int} {g : List Pdu × Nat} (h : inv28 l g) (h1 : ¬ g.2 < l.length) : strF l = (g.1, g.2, 0) := by
  obtain ⟨k1, k2, k3⟩ := h
  have hne : l.drop g.2 = [] := List.drop_eq_nil_of_le (by omega)
  rw [k3, hne, strR_n]; simp
theorem take_l (l : List Int) : l.take (l.map u8).length = l := by rw [List.length_map, List.take_length]
theorem l28 (l : List Int) (hb : byteL l) (hl : l.length ≤ 1000000) (σ : LState) (h : LSub σ (I28 l [] 0)) : LoopOk prog [] (bodyOf Proofs.Try.f28) 1 σ (L28 l) := by
  refine LoopOk.ofN (γ := { g : List Pdu × Nat // inv28 l g }) (fun g => T28r l g.1.1 g.1.2) (fun g => I28 l g.1.1 g.1.2) (fun g => l.length - g.1.2) ⟨([], 0), inv28_z l⟩ fin28 (by kernel_rfl) h ?_
  rintro ⟨⟨ps, o⟩, hi⟩
  obtain ⟨i1, i2, i3⟩ := id hi
  simp only at i1 i2
  have e := t28r l ps o
  rw [levLN] at e
  rw [e]
  have hd : byteL (l.drop o) := byteL_sub hb fun x hx => List.mem_of_mem_drop hx
  refine ⟨fun h1 => ⟨fun h2 => ?_, fun h2 => need_sat ⟨by omega, by rw [List.length_map]; omega, Int.le_refl _⟩ (need_sat ⟨.cons (ile_eq ?_) (.refl _), ?_⟩ ⟨fun h3 => ?_, fun h3 => need_sat ⟨⟨by simp, cellsOk_map encD (fun _ => rfl) _, rfl, by omega⟩, rfl⟩ ?_⟩)⟩, fun h1 => ?_⟩
  · have h1' : o < l.length := by have := of_decide_eq_true h1; rw [List.length_map] at this; omega
    have h2' : ps.length = 5000 := by have := of_decide_eq_true h2; omega
    have e := inv28_m hi h1' h2'
    refine ⟨fun hz => ?_, fun _ => ⟨rfl, ?_⟩⟩
    · rw [e] at hz; simp at hz
    · unfold R28; rw [e]; exact ⟨⟨rfl, rfl, rfl, trivial⟩, ⟨rfl, trivial⟩, rfl, rfl, rfl⟩
  · rw [slE, List.map_drop, List.map_take]
  · rw [take_l]; exact c22 _ hd (by rw [List.length_drop]; omega)
  · have h1' : o < l.length := by have := of_decide_eq_true h1; rw [List.length_map] at this; omega
    have h2' : ps.length ≠ 5000 := by have := of_decide_eq_false h2; omega
    rw [take_l] at h3
    have e := inv28_e hi h1' h2' (of_decide_eq_false (nt h3))
    refine ⟨fun hz => ?_, fun _ => ⟨rfl, ?_⟩⟩
    · rw [e] at hz; simp only [decide_eq_true_eq] at hz; exact absurd hz (of_decide_eq_false (nt h3))
    · unfold R28; rw [e, take_l]; exact ⟨⟨rfl, rfl, rfl, trivial⟩, ⟨rfl, trivial⟩, rfl, rfl, rfl⟩
  · have h1' : o < l.length := by have := of_decide_eq_true h1; rw [List.length_map] at this; omega
    have h2' : ps.length ≠ 5000 := by have := of_decide_eq_false h2; omega
    rw [take_l] at h3
    have h3' := of_decide_eq_true (nf h3)
    have e := inv28_s hi h1' h2' h3'
    have hn := dec_n h3'
    rw [List.length_drop] at hn
    refine ⟨⟨(ps ++ [(decF (l.drop o)).1], o + (decF (l.drop o)).2.1.toNat), e⟩, ?_, ?_⟩
    · simp only; omega
    · have ew : IntKind.i64.wrap ((o : Int) + (decF (l.drop o)).2.1) = ((o + (decF (l.drop o)).2.1.toNat : Nat) : Int) := by rw [IntWalk.i64_in _ (by omega)]; omega
      rw [take_l]
      refine ⟨⟨congrArg (fun n => AVal.imm (i64 n)) ew, congrArg (AVal.own 50) (show ps.length + 1 = (ps ++ [_]).length by rw [List.length_append]; rfl), rfl, trivial⟩, ⟨congrArg (fun l => some (Entry.row 42 37 l)) (show ps.map encD ++ [encD (decF (l.drop o)).1] = (ps ++ [(decF (l.drop o)).1]).map encD by rw [List.map_append]; rfl), trivial⟩, rfl, rfl, rfl⟩
  · have h1' : ¬ o < l.length := by have := of_decide_eq_false h1; rw [List.length_map] at this; omega
    have e := inv28_n hi h1'
    refine ⟨fun _ => ⟨rfl, ?_⟩, fun hz => ?_⟩
    · unfold E28; rw [e]; exact ⟨⟨rfl, rfl, trivial⟩, ⟨rfl, trivial⟩, rfl, rfl, rfl⟩
    · rw [e] at hz; simp at hz
def strT (s : List Pdu × Nat × Int) : IVal := .tup [.sl false false 37 (s.1.map encD), i64 s.2.1, i64 s.2.2]
theorem c28 (l : List Int) (hb : byteL l) (hl : l.length ≤ 1000000) : ASpec prog 28 [slE 1 u8 l] (strT (strF l)) := by
  refine ASpec.treeW Proofs.Try.f28 (T28 l) (by kernel_rfl) (by kernel_rfl) (t28 l) ?_
  have en : (strF l).1.length = ((strF l).1.map encD).length := by rw [List.length_map]
  refine ⟨.nam (τ := I28 l [] 0) (.temp 2 50 42 37 (show 3 ≤ 50 by decide) (.sub ?_)) (l28 l hb hl _ ?_), ⟨fun h1 => need_sat ⟨en, trivial⟩ ⟨_, rfl, ?_⟩, fun h1 => need_sat ⟨en, trivial⟩ ⟨_, rfl, ?_⟩⟩⟩
  · exact ⟨⟨rfl, rfl, rfl, trivial⟩, ⟨rfl, trivial⟩, rfl, rfl, rfl⟩
  · exact ⟨⟨rfl, rfl, rfl, trivial⟩, ⟨rfl, trivial⟩, rfl, rfl, rfl⟩
  · have e0 : (strF l).2.2 = 0 := of_decide_eq_true h1
    unfold strT; rw [e0]
    exact .tup (.cons (.sl (fun h => by cases h) (fun h => h) (.refl _)) (.refl _))
  · exact .tup (.cons (.sl (fun h => by cases h) (fun h => h) (.refl _)) (.refl _))
end Gp
namespace Gp
def tfrz (σ : LState) (ids : List Nat) : List (Nat × AVal) → Prop
  | [] => True
  | (i, x) :: l => (tl σ.t i = x ∨ ∃ id n ty k es, ids.contains id = true ∧ tl σ.t i = .own id n ∧ sl σ.s id = some (.row ty k es) ∧ n = es.length ∧ x = .imm (.sl true false k es)) ∧ tfrz σ ids l
def sfrz (σ : LState) (ids : List Nat) : List (Nat × Entry) → Prop
  | [] => True
  | (i, x) :: l => (sl σ.s i = some x ∧ ids.contains i = false) ∧ sfrz σ ids l
theorem tfrz_spec {σ : LState} {ids : List Nat} : ∀ {l : List (Nat × AVal)}, tfrz σ ids l → ∀ i, tl l i = .any ∨ tl l i = tl σ.t i ∨ ∃ id n ty k es, ids.contains id = true ∧ tl σ.t i = .own id n ∧ sl σ.s id = some (.row ty k es) ∧ n = es.length ∧ tl l i = .imm (.sl true false k es)
  | [], _, i => .inl rfl
  | (d, x) :: l, h, i => by
    simp only [tl]
    by_cases hi : i = d
    · rw [if_pos hi]; subst hi
      rcases h.1 with h1 | h1
      · exact .inr (.inl h1.symm)
      · exact .inr (.inr h1)
    · rw [if_neg hi]; exact tfrz_spec h.2 i
theorem sfrz_spec {σ : LState} {ids : List Nat} : ∀ {l : List (Nat × Entry)}, sfrz σ ids l → ∀ i e, sl l i = some e → sl σ.s i = some e ∧ ids.contains i = false
  | [], _, i, e, h => by simp [sl] at h
  | (d, x) :: l, hh, i, e, h => by
    simp only [sl] at h
    by_cases hi : i = d
    · rw [if_pos hi] at h; rw [hi, hh.1.1]; exact ⟨h, hh.1.2⟩
    · rw [if_neg hi] at h; exact sfrz_spec hh.2 i e h
theorem ups_none (s : Nat → Option Entry) : ∀ (ids : List Nat) (i : Nat), ids.contains i = false → ups s (ids.map fun i => (i, none)) i = s i
  | [], _, _ => rfl
  | j :: l, i, h => by
    rw [List.contains_cons, Bool.or_eq_false_iff] at h
    have hij : i ≠ j := fun e => by rw [e] at h; simp at h
    exact (ups_none _ l i h.2).trans (if_neg hij)
def FSub (σ τ : LState) (ids : List Nat) : Prop := okIds σ.toA ids = true ∧ tfrz σ ids τ.t ∧ sfrz σ ids τ.s ∧ τ.m = σ.m ∧ linT τ.n τ.t = true ∧ linS τ.n τ.s = true
theorem Rel.fsub {K : Nat → Prop} {ι : Nat → Abs.Loc} {F : Foot} {σ τ : LState} {ids : List Nat} {a : Act} {w : World} (hR : Rel K ι F σ.toA a w) (h : FSub σ τ ids) :
    ∃ F', Rel (below τ.n) ι F' τ.toA a w ∧ Pass ι F σ.toA w ι F' τ.toA w := by
  obtain ⟨h0, h1, h2, h3, h4, h5⟩ := h
  obtain ⟨F1, r1, x1, i1⟩ := hR.freezeL ids h0
  have hent : ∀ id e, sl τ.s id = some e → ({ σ.toA with s := ups σ.toA.s (ids.map fun i => (i, none)) } : AState).s id = some e := fun id e he => by
    obtain ⟨k1, k2⟩ := sfrz_spec h2 id e he
    show ups σ.toA.s _ id = some e
    rw [ups_none _ _ _ k2]; exact k1
  have hown : ∀ b, Owned ι τ.toA b → Owned ι ({ σ.toA with s := ups σ.toA.s (ids.map fun i => (i, none)) } : AState) b := fun b ⟨id, e, g1, g2⟩ => ⟨id, e, hent id e g1, g2⟩
  refine ⟨F1, ⟨by rw [hR.size]; exact h3.symm, fun i => ⟨linT_spec h4 i, ?_⟩, fun id e he => ⟨(linS_spec h5 id e he).1, (linS_spec h5 id e he).2, (r1.ent id _ (hent id e he)).2.2⟩,
    fun b hb => r1.off b (hown b hb), fun i j ei ej hi hj => r1.sep i j ei ej (hent i ei hi) (hent j ej hj), r1.foot, r1.col⟩, ?_⟩
  · rcases tfrz_spec h1 i with g | g | ⟨id, n, ty, k, es, g1, g2, g3, g4, g5⟩
    · show ARep w F1 ι (tl τ.t i) _; rw [g, ARep]; trivial
    · show ARep w F1 ι (tl τ.t i) _; rw [g]; exact (r1.tmp i).2
    · show ARep w F1 ι (tl τ.t i) _
      rw [g5, ARep]
      have hr : ARep w F1 ι (tl σ.t i) (a.tmps.getD i undef) := (r1.tmp i).2
      rw [g2, ARep] at hr
      rw [hr.1, g4]
      exact i1 id ty k es g1 g3
  · have p := x1.pass
    exact ⟨p.os, p.tape, p.output, p.size, p.frame, fun b hb => p.own b (hown b hb), p.mono, p.src⟩
theorem LoopOk.frz {P : Program} {D : List Deferred} {body : Code} {key x : Nat} {σ E E' : LState} {ids : List Nat} (h : LoopOk P D body key σ (.done (.exit x) E)) (hf : FSub E E' ids) (hl : LSub E' E') : LoopOk P D body key σ (.done (.exit x) E') := by
  intro c hc
  have h := h c hc
  unfold LoopIs at *
  intro ι F a w hR hD
  refine wp_mono (h ι F a w hR hD) ?_
  rintro e a' w' ⟨ι', F', τ, ⟨s, ⟨he, hs⟩, rfl⟩, g2, g3, g4⟩
  subst he
  have r := g2.lsub hs
  obtain ⟨F2, r2, p2⟩ := Rel.fsub r hf
  exact ⟨ι', F2, E'.toA, ⟨E', ⟨rfl, hl⟩, rfl⟩, r2, g3, (g4.trans hs.pass).trans p2⟩
end Gp
namespace Gp
theorem sml {p : Pdu} (h : small p) : p.copy.length ≤ 2 ^ 62 := by unfold small at h; omega
theorem smp {p : Pdu} (h : small p) : p.path.provs.length ≤ 2 ^ 62 := by unfold small at h; omega
theorem gmem {l : List Pdu} {i : Nat} (h : i < l.length) : l.getD i default ∈ l := by
  rw [List.getD_eq_getElem?_getD, List.getElem?_eq_getElem h]; exact List.getElem_mem h
def P31 (l : List Pdu) (i : Nat) : Bool := great (l.getD i default)
def I31 (l : List Pdu) (i : Nat) : LState := { t := [(3, .imm (i64 i)), (0, .imm (slE 37 encD l))], s := [], m := 18, n := 0 }
def R31 (l : List Pdu) (i : Nat) : LState := { t := [(2, .imm (bo true))], s := [], m := 18, n := 0 }
def E31 (l : List Pdu) : LState := { t := [], s := [], m := 18, n := 0 }
def fin31 : Exit → Fin
  | .normal => ⟨[], [3, 0], []⟩
  | .ret => ⟨[], [2], []⟩
  | _ => ⟨[], [], []⟩
def L31 (l : List Pdu) : Tree := Lfirst (P31 l) l.length 0 (R31 l) (E31 l)
def T31r (l : List Pdu) (i : Nat) : Tell :=
  Tell.mk (fun x x_1 => false) (fun x x_1 => Orc.no) (fun x => Tree.fail 1000003 0) (fun x => 0) (fun x => ([], []))
  (oget [(4, 6, 2, Orc.elem (encD (List.getD l i default))), (4, 6, 4, Orc.call [encD (List.getD l i default)] (bo (great (List.getD l i default))))]) fun x x_1 =>
  Tree.fail 1000003 0
theorem t31r (l : List Pdu) (i : Nat) : levL prog Proofs.Try.f31 4 (I31 l i) (T31r l i) fin31 =
  Tree.br (decide ((↑i : Int) < (↑(List.length (List.map encD l)) : Int)))
  (Tree.need ((0 : Int) ≤ (↑i : Int) ∧ (List.map encD l)[i]? = some (encD (List.getD l i default)))
  (Tree.need (ILeL [encD (List.getD l i default)] [encD (List.getD l i default)] ∧ ASpec prog 11 [encD (List.getD l i default)] (bo (great (List.getD l i default))))
  (Tree.br (great (List.getD l i default)) (Tree.done Exit.ret (LState.mk [(2, AVal.imm (IVal.v (Value.bool true)))] [] 18 10 []))
  (Tree.done Exit.normal (LState.mk [(3, AVal.imm (IVal.v (Value.int IntKind.i64 (IntKind.wrap IntKind.i64 ((↑i : Int) + (1 : Int)))))), (0, AVal.imm (slE 37 encD l))] [] 18 12 [])))))
  (Tree.done (Exit.exit 0) (LState.mk [] [] 18 4 [])) := by kernel_rfl
def T31 (l : List Pdu) : Tell :=
  Tell.mk (fun x x_1 => false) (fun x x_1 => Orc.no) (fun x => L31 l) (fun x => 0) (fun x => ([3, 0], [])) (fun x x_1 x_2 => Orc.no) fun x x_1 => L31 l
theorem t31 (l : List Pdu) : levF prog Proofs.Try.f31 [slE 37 encD l] (T31 l) =
  Tree.br (decide ((30 : Int) < (↑(List.length (List.map encD l)) : Int))) (Tree.done Exit.ret (lret (IVal.v (Value.bool true))))
  (Tree.loop 4 (LState.mk [(3, AVal.imm (IVal.v (Value.int IntKind.i64 (0 : Int)))), (0, AVal.imm (slE 37 encD l))] [] 18 5 [])
  (Tree.br (anyI (P31 l) 0 (List.length l)) (Tree.done Exit.ret (R31 l (firstI (P31 l) 0 (List.length l)))) (Tree.done (Exit.exit 0) (E31 l)))
  (Tree.br (anyI (P31 l) 0 (List.length l)) (Tree.done Exit.ret (lret (IVal.v (Value.bool true)))) (Tree.done Exit.ret (lret (IVal.v (Value.bool false)))))) := by kernel_rfl
theorem l31 (l : List Pdu) (hl : l.length ≤ 30) (σ : LState) (h : LSub σ (I31 l 0)) : LoopOk prog [] (bodyOf Proofs.Try.f31) 4 σ (L31 l) := by
  refine LoopOk.first (P31 l) l.length 0 (I31 l) (R31 l) (E31 l) (T31r l) fin31 (by kernel_rfl) h fun i hi hz => ?_
  rw [t31r]
  refine ⟨fun h1 => need_sat (elem_need ?_) (need_sat ⟨ILeL.refl _, c11 _⟩ ⟨fun h2 => ?_, fun h2 => ?_⟩), fun h1 => ?_⟩
  · (refine ⟨by omega, ?_, ?_⟩ <;> (simp only [List.length_map, decide_eq_true_eq, decide_eq_false_iff_not, Int.toNat_natCast] at * <;> omega))
  · exact ⟨by (simp only [List.length_map, decide_eq_true_eq, decide_eq_false_iff_not, Int.toNat_natCast] at * <;> omega), h2, by simp [R31, bo, LSub, tsub, ssub, tl, sl, linT, linS, ainB, ainBL]⟩
  · exact ⟨by (simp only [List.length_map, decide_eq_true_eq, decide_eq_false_iff_not, Int.toNat_natCast] at * <;> omega), h2, by simp [I31, i64, i64_small (n := i) (by (simp only [List.length_map, decide_eq_true_eq, decide_eq_false_iff_not, Int.toNat_natCast] at * <;> omega)) (show l.length ≤ 2 ^ 62 by omega), LSub, tsub, ssub, tl, sl, linT, linS, ainB, ainBL]⟩
  · exact ⟨rfl, by (simp only [List.length_map, decide_eq_true_eq, decide_eq_false_iff_not, Int.toNat_natCast] at * <;> omega), by simp [E31, LSub, tsub, ssub, tl, sl, linT, linS, ainB, ainBL]⟩
def greatL (l : List Pdu) : Bool := decide (30 < l.length) || l.any great
theorem any_getD (l : List Pdu) (p : Pdu → Bool) : anyI (fun i => p (l.getD i default)) 0 l.length = l.any p := by
  rw [Bool.eq_iff_iff, anyI_iff, List.any_eq_true]
  constructor
  · rintro ⟨i, h1, h2⟩; rw [List.getD_eq_getElem?_getD, List.getElem?_eq_getElem h1] at h2; exact ⟨l[i], List.getElem_mem h1, h2⟩
  · rintro ⟨x, h1, h2⟩
    obtain ⟨i, hi, rfl⟩ := List.getElem_of_mem h1
    exact ⟨i, hi, by rw [List.getD_eq_getElem?_getD, List.getElem?_eq_getElem hi]; exact h2⟩
theorem c31 (l : List Pdu) : ASpec prog 31 [slE 37 encD l] (bo (greatL l)) := by
  refine ASpec.treeW Proofs.Try.f31 (T31 l) (by kernel_rfl) (by kernel_rfl) (t31 l) ?_
  have ea : anyI (P31 l) 0 l.length = l.any great := any_getD l great
  rw [ea]
  refine ⟨fun h1 => ⟨_, rfl, ile_bo ?_⟩, fun h1 => ?_⟩
  · have := of_decide_eq_true h1; rw [List.length_map] at this
    simp [greatL]; omega
  · have h1' := of_decide_eq_false h1; rw [List.length_map] at h1'
    refine ⟨?_, fun h2 => ⟨_, rfl, ile_bo ?_⟩, fun h2 => ⟨_, rfl, ile_bo ?_⟩⟩
    · rw [← ea]; exact l31 l (by omega) _ (by simp [I31, i64, LSub, tsub, ssub, tl, sl, linT, linS, ainB, ainBL])
    · rw [greatL, h2, Bool.or_true]
    · rw [greatL, h2, Bool.or_false, decide_eq_false (by omega)]
def P30 (l r : List Pdu) (i : Nat) : Bool := !decide (l.getD i default = r.getD i default)
def I30 (l r : List Pdu) (i : Nat) : LState := { t := [(5, .imm (i64 i)), (1, .imm (slE 37 encD r)), (0, .imm (slE 37 encD l))], s := [], m := 27, n := 0 }
def R30 (l r : List Pdu) (i : Nat) : LState := { t := [(4, .imm (bo false))], s := [], m := 27, n := 0 }
def E30 (l r : List Pdu) : LState := { t := [], s := [], m := 27, n := 0 }
def fin30 : Exit → Fin
  | .normal => ⟨[], [5, 1, 0], []⟩
  | .ret => ⟨[], [4], []⟩
  | _ => ⟨[], [], []⟩
def L30 (l r : List Pdu) : Tree := Lfirst (P30 l r) l.length 0 (R30 l r) (E30 l r)
def T30r (l r : List Pdu) (i : Nat) : Tell :=
  Tell.mk (fun x x_1 => false) (fun x x_1 => Orc.no) (fun x => Tree.fail 1000003 0) (fun x => 0) (fun x => ([], []))
  (oget
  [(4, 6, 2, Orc.elem (encD (List.getD l i default))), (4, 6, 6, Orc.elem (encD (List.getD r i default))),
  (4, 6, 8, Orc.call [encD (List.getD l i default), encD (List.getD r i default)] (bo (decide (List.getD l i default = List.getD r i default))))])
  fun x x_1 => Tree.fail 1000003 0
theorem t30r (l r : List Pdu) (i : Nat) : levL prog Proofs.Try.f30 4 (I30 l r i) (T30r l r i) fin30 =
  Tree.br (decide ((↑i : Int) < (↑(List.length (List.map encD l)) : Int)))
  (Tree.need ((0 : Int) ≤ (↑i : Int) ∧ (List.map encD l)[i]? = some (encD (List.getD l i default)))
  (Tree.need ((0 : Int) ≤ (↑i : Int) ∧ (List.map encD r)[i]? = some (encD (List.getD r i default)))
  (Tree.need
  (ILeL [encD (List.getD l i default), encD (List.getD r i default)] [encD (List.getD l i default), encD (List.getD r i default)] ∧
  ASpec prog 17 [encD (List.getD l i default), encD (List.getD r i default)] (bo (decide (List.getD l i default = List.getD r i default))))
  (Tree.br (!decide (List.getD l i default = List.getD r i default)) (Tree.done Exit.ret (LState.mk [(4, AVal.imm (IVal.v (Value.bool false)))] [] 27 15 []))
  (Tree.done Exit.normal
  (LState.mk [(5, AVal.imm (IVal.v (Value.int IntKind.i64 (IntKind.wrap IntKind.i64 ((↑i : Int) + (1 : Int)))))), (1, AVal.imm (slE 37 encD r)), (0, AVal.imm (slE 37 encD l))] [] 27
  17 []))))))
  (Tree.done (Exit.exit 0) (LState.mk [] [] 27 4 [])) := by kernel_rfl
def T30 (l r : List Pdu) : Tell :=
  Tell.mk (fun x x_1 => false) (fun x x_1 => Orc.no) (fun x => L30 l r) (fun x => 0) (fun x => ([5, 1, 0], [])) (fun x x_1 x_2 => Orc.no) fun x x_1 => L30 l r
theorem t30 (l r : List Pdu) : levF prog Proofs.Try.f30 [slE 37 encD l, slE 37 encD r] (T30 l r) =
  Tree.br (!decide ((↑(List.length (List.map encD l)) : Int) = (↑(List.length (List.map encD r)) : Int))) (Tree.done Exit.ret (lret (IVal.v (Value.bool false))))
  (Tree.loop 4 (LState.mk [(5, AVal.imm (IVal.v (Value.int IntKind.i64 (0 : Int)))), (1, AVal.imm (slE 37 encD r)), (0, AVal.imm (slE 37 encD l))] [] 27 7 [])
  (Tree.br (anyI (P30 l r) 0 (List.length l)) (Tree.done Exit.ret (R30 l r (firstI (P30 l r) 0 (List.length l)))) (Tree.done (Exit.exit 0) (E30 l r)))
  (Tree.br (anyI (P30 l r) 0 (List.length l)) (Tree.done Exit.ret (lret (IVal.v (Value.bool false)))) (Tree.done Exit.ret (lret (IVal.v (Value.bool true)))))) := by kernel_rfl
theorem l30 (l r : List Pdu) (hl : l.length ≤ 2 ^ 62) (hlr : l.length = r.length) (hs : ∀ p ∈ l, small p) (σ : LState) (h : LSub σ (I30 l r 0)) : LoopOk prog [] (bodyOf Proofs.Try.f30) 4 σ (L30 l r) := by
  refine LoopOk.first (P30 l r) l.length 0 (I30 l r) (R30 l r) (E30 l r) (T30r l r) fin30 (by kernel_rfl) h fun i hi hz => ?_
  rw [t30r]
  refine ⟨fun h1 => need_sat (elem_need ?_) (need_sat (elem_need ?_) (need_sat ⟨ILeL.refl _, c17 _ _ ?_ ?_⟩ ⟨fun h2 => ?_, fun h2 => ?_⟩)), fun h1 => ?_⟩
  · (refine ⟨by omega, ?_, ?_⟩ <;> (simp only [List.length_map, decide_eq_true_eq, decide_eq_false_iff_not, Int.toNat_natCast] at * <;> omega))
  · (refine ⟨by omega, ?_, ?_⟩ <;> (simp only [List.length_map, decide_eq_true_eq, decide_eq_false_iff_not, Int.toNat_natCast] at * <;> omega))
  · exact sml (hs _ (gmem (show i < l.length by (simp only [List.length_map, decide_eq_true_eq, decide_eq_false_iff_not, Int.toNat_natCast] at * <;> omega))))
  · exact smp (hs _ (gmem (show i < l.length by (simp only [List.length_map, decide_eq_true_eq, decide_eq_false_iff_not, Int.toNat_natCast] at * <;> omega))))
  · exact ⟨by (simp only [List.length_map, decide_eq_true_eq, decide_eq_false_iff_not, Int.toNat_natCast] at * <;> omega), h2, by simp [R30, bo, LSub, tsub, ssub, tl, sl, linT, linS, ainB, ainBL]⟩
  · exact ⟨by (simp only [List.length_map, decide_eq_true_eq, decide_eq_false_iff_not, Int.toNat_natCast] at * <;> omega), h2, by simp [I30, i64, i64_small (n := i) (by (simp only [List.length_map, decide_eq_true_eq, decide_eq_false_iff_not, Int.toNat_natCast] at * <;> omega)) hl, LSub, tsub, ssub, tl, sl, linT, linS, ainB, ainBL]⟩
  · exact ⟨rfl, by (simp only [List.length_map, decide_eq_true_eq, decide_eq_false_iff_not, Int.toNat_natCast] at * <;> omega), by simp [E30, LSub, tsub, ssub, tl, sl, linT, linS, ainB, ainBL]⟩
theorem c30 (l r : List Pdu) (hl : l.length ≤ 2 ^ 62) (hs : ∀ p ∈ l, small p) (he : l = r) : ASpec prog 30 [slE 37 encD l, slE 37 encD r] (bo true) := by
  subst he
  refine ASpec.treeW Proofs.Try.f30 (T30 l l) (by kernel_rfl) (by kernel_rfl) (t30 l l) ?_
  have hn : anyI (P30 l l) 0 l.length = false := by
    rw [← Bool.not_eq_true, anyI_iff]
    rintro ⟨i, _, h2⟩
    simp [P30] at h2
  refine ⟨fun h1 => ?_, fun h1 => ⟨l30 l l hl rfl hs _ (by simp [I30, i64, LSub, tsub, ssub, tl, sl, linT, linS, ainB, ainBL]), fun h2 => ?_, fun h2 => ⟨_, rfl, .refl _⟩⟩⟩
  · simp at h1
  · rw [hn] at h2; cases h2
def okP (p : Pdu) : Bool := decide (chk p = 0)
def encs (l : List Pdu) : List Int := l.flatMap eO
def I10 (l : List Pdu) (at' : Int) (i : Nat) : LState := { t := [(8, .imm (i64 i)), (7, .own 90 ((l.take i).filter okP).length), (6, .own 50 (encs (l.take i)).length), (5, .imm (bo true)), (1, .imm (i64 at')), (0, .imm (slE 37 encD l))], s := [(50, .row 5 1 ((encs (l.take i)).map u8)), (90, .row 42 37 (((l.take i).filter okP).map encD))], m := 151, n := 91 }
def E10 (l : List Pdu) (at' : Int) : LState := { t := [(7, .own 90 (l.filter okP).length), (6, .own 50 (encs l).length), (5, .imm (bo true)), (1, .imm (i64 at')), (0, .imm (slE 37 encD l))], s := [(50, .row 5 1 ((encs l).map u8)), (90, .row 42 37 ((l.filter okP).map encD))], m := 151, n := 91 }
def F10 (l : List Pdu) (at' : Int) : LState := { t := [(7, .imm (.sl true false 37 ((l.filter okP).map encD))), (6, .imm (.sl true false 1 ((encs l).map u8))), (5, .imm (bo true)), (1, .imm (i64 at')), (0, .imm (slE 37 encD l))], s := [], m := 151, n := 91 }
def fin10 : Exit → Nat → Fin
  | .normal, 122 => ⟨[(50, 109), (90, 117)], [8, 7, 6, 5, 1, 0], [50, 90]⟩
  | .normal, _ => ⟨[], [8, 7, 6, 5, 1, 0], [50, 90]⟩
  | _, _ => ⟨[], [7, 6, 5, 1, 0], [50, 90]⟩
def T10r (l : List Pdu) (at' : Int) (i : Nat) : Tell :=
  Tell.mk (fun x x_1 => false) (fun x x_1 => Orc.no) (fun x => Tree.fail 1000003 0) (fun x => 0) (fun x => ([], []))
  (oget
  [(95, 9, 2, Orc.elem (encD (List.getD l i default))),
  (95, 9, 4, Orc.call [encD (List.getD l i default)] (IVal.tup [slE 1 u8 (eO (List.getD l i default)), i64 (chk (List.getD l i default))])),
  (111, 12, 3, Orc.elem (encD (List.getD l i default)))])
  fun x x_1 => Tree.fail 1000003 0
theorem t10r (l : List Pdu) (at' : Int) (i : Nat) : levLN prog Proofs.Try.f10 7 (I10 l at' i) (T10r l at' i) fin10 =
  Tree.br (decide ((↑i : Int) < (↑(List.length (List.map encD l)) : Int)))
  (Tree.need ((0 : Int) ≤ (↑i : Int) ∧ (List.map encD l)[i]? = some (encD (List.getD l i default)))
  (Tree.need (ILeL [encD (List.getD l i default)] [encD (List.getD l i default)] ∧ ASpec prog 21 [encD (List.getD l i default)] (IVal.tup [slE 1 u8 (eO (List.getD l i default)), i64 (chk (List.getD l i default))]))
  (Tree.br (decide (chk (List.getD l i default) = (0 : Int)))
  (Tree.need
  (askA none
  (List.length (List.map u8 (encs (List.take i l))) = List.length (encs (List.take i l)) ∧
  cellsOk (List.map u8 (encs (List.take i l))) = true ∧ cellsOk (List.map u8 (eO (List.getD l i default))) = true ∧ List.length (encs (List.take i l)) + List.length (List.map u8 (eO (List.getD l i default))) ≤ 1000000))
  (Tree.need ((0 : Int) ≤ (↑i : Int) ∧ (List.map encD l)[i]? = some (encD (List.getD l i default)))
  (Tree.need
  (askA (some (1 = 1))
  (List.length (List.map encD (List.filter okP (List.take i l))) = List.length (List.filter okP (List.take i l)) ∧
  cellsOk (List.map encD (List.filter okP (List.take i l))) = true ∧ true = true ∧ List.length (List.filter okP (List.take i l)) + 1 ≤ 1000000))
  (Tree.done Exit.normal
  (LState.mk
  [(8, AVal.imm (IVal.v (Value.int IntKind.i64 (IntKind.wrap IntKind.i64 ((↑i : Int) + (1 : Int)))))), (7, AVal.own 90 (List.length (List.filter okP (List.take i l)) + 1)),
  (6, AVal.own 50 (List.length (encs (List.take i l)) + List.length (List.map u8 (eO (List.getD l i default))))), (5, AVal.imm (bo true)), (1, AVal.imm (i64 at')),
  (0, AVal.imm (slE 37 encD l))]
  [(50, Entry.row 5 1 (List.map u8 (encs (List.take i l)) ++ List.map u8 (eO (List.getD l i default)))),
  (90, Entry.row 42 37 (List.map encD (List.filter okP (List.take i l)) ++ [encD (List.getD l i default)]))]
  151 122 [])))))
  (Tree.done Exit.normal
  (LState.mk
  [(8, AVal.imm (IVal.v (Value.int IntKind.i64 (IntKind.wrap IntKind.i64 ((↑i : Int) + (1 : Int)))))), (7, AVal.own 90 (List.length (List.filter okP (List.take i l)))),
  (6, AVal.own 50 (List.length (encs (List.take i l)))), (5, AVal.imm (bo true)), (1, AVal.imm (i64 at')), (0, AVal.imm (slE 37 encD l))]
  [(50, Entry.row 5 1 (List.map u8 (encs (List.take i l)))), (90, Entry.row 42 37 (List.map encD (List.filter okP (List.take i l))))] 151 110 [])))))
  (Tree.done (Exit.exit 0)
  (LState.mk
  [(7, AVal.own 90 (List.length (List.filter okP (List.take i l)))), (6, AVal.own 50 (List.length (encs (List.take i l)))), (5, AVal.imm (bo true)), (1, AVal.imm (i64 at')),
  (0, AVal.imm (slE 37 encD l))]
  [(50, Entry.row 5 1 (List.map u8 (encs (List.take i l)))), (90, Entry.row 42 37 (List.map encD (List.filter okP (List.take i l))))] 151 95 [])) := by kernel_rfl
def T10 (l : List Pdu) (at' : Int) : Tell :=
  Tell.mk (fun x x_1 => false) (fun r i => if ((r == 18 || r == 21) && i == 2) = true then Orc.slc else Orc.no) (fun x => Tree.done (Exit.exit 0) (F10 l at')) (fun x => 0)
  (fun x => ([8, 7, 6, 5, 1, 0], []))
  (ogetO (fun r i => if ((r == 18 || r == 21) && i == 2) = true then Orc.slc else Orc.no)
  [(1, 1, 0, Orc.call [] (bo true)), (3, 2, 1, Orc.call [slE 37 encD l] (bo (greatL l))),
  (91, 13, 1, Orc.call [slE 1 u8 (encs l)] (strT (strF (encs l)))),
  (100, 14, 11, Orc.call [slE 37 encD (strF (encs l)).fst, slE 37 encD (List.filter okP l)] (bo true)),
  (122, 18, 3, Orc.call [slE 1 u8 (List.drop 0 (List.take (Int.toNat at') (encs l)))] (strT (strF (List.drop 0 (List.take (Int.toNat at') (encs l)))))),
  (163, 21, 3,
  Orc.call [slE 1 u8 (List.drop (strF (List.drop 0 (List.take (Int.toNat at') (encs l)))).snd.fst (List.take (List.length (List.map u8 (encs l))) (encs l)))]
  (strT (strF (List.drop (strF (List.drop 0 (List.take (Int.toNat at') (encs l)))).snd.fst (List.take (List.length (List.map u8 (encs l))) (encs l)))))),
  (174, 22, 20,
  Orc.callf [192]
  [slE 37 encD
  ([] ++ (strF (List.drop 0 (List.take (Int.toNat at') (encs l)))).fst ++
  (strF (List.drop (strF (List.drop 0 (List.take (Int.toNat at') (encs l)))).snd.fst (List.take (List.length (List.map u8 (encs l))) (encs l)))).fst),
  slE 37 encD (List.filter okP l)]
  (bo true))])
  fun x x_1 => Tree.done (Exit.exit 0) (F10 l at')
theorem t10 (l : List Pdu) (at' : Int) : levF prog Proofs.Try.f10 [slE 37 encD l, i64 at'] (T10 l at') =
  Tree.need (ILeL [] [] ∧ ASpec prog 24 [] (bo true))
  (Tree.need (ILeL [slE 37 encD l] [slE 37 encD l] ∧ ASpec prog 31 [slE 37 encD l] (bo (greatL l)))
  (Tree.br (greatL l) (Tree.done Exit.ret (lret (IVal.v (Value.bool true))))
  (Tree.br false (Tree.done Exit.ret (lret (IVal.v (Value.bool true))))
  (Tree.loop 7
  (LState.mk
  [(8, AVal.imm (IVal.v (Value.int IntKind.i64 (0 : Int)))), (7, AVal.imm (IVal.v (Value.slice none 0 0))), (6, AVal.imm (IVal.v (Value.slice none 0 0))),
  (5, AVal.imm (bo true)), (1, AVal.imm (i64 at')), (0, AVal.imm (slE 37 encD l))]
  [] 151 12 [])
  (Tree.done (Exit.exit 0) (F10 l at'))
  (Tree.need (ILeL [IVal.sl true false 1 (List.map u8 (encs l))] [slE 1 u8 (encs l)] ∧ ASpec prog 28 [slE 1 u8 (encs l)] (strT (strF (encs l))))
  (Tree.br (!decide ((strF (encs l)).snd.snd = (0 : Int))) (Tree.done Exit.ret (lret (IVal.v (Value.bool false))))
  (Tree.br (!decide ((↑(strF (encs l)).snd.fst : Int) = (↑(List.length (List.map u8 (encs l))) : Int))) (Tree.done Exit.ret (lret (IVal.v (Value.bool false))))
  (Tree.need
  (ILeL [IVal.sl false false 37 (List.map encD (strF (encs l)).fst), IVal.sl true false 37 (List.map encD (List.filter okP l))]
  [slE 37 encD (strF (encs l)).fst, slE 37 encD (List.filter okP l)] ∧
  ASpec prog 30 [slE 37 encD (strF (encs l)).fst, slE 37 encD (List.filter okP l)] (bo true))
  (Tree.br false (Tree.done Exit.ret (lret (IVal.v (Value.bool false))))
  (Tree.br (decide (at' < (0 : Int))) (Tree.done Exit.ret (lret (IVal.v (Value.bool true))))
  (Tree.br (decide ((↑(List.length (List.map u8 (encs l))) : Int) < at')) (Tree.done Exit.ret (lret (IVal.v (Value.bool true))))
  (Tree.need ((0 : Int) ≤ (0 : Int) ∧ (0 : Int) ≤ at' ∧ at' ≤ (↑(List.length (List.map u8 (encs l))) : Int))
  (Tree.need
  (ILeL [IVal.sl true false 1 (List.drop 0 (List.take (Int.toNat at') (List.map u8 (encs l))))] [slE 1 u8 (List.drop 0 (List.take (Int.toNat at') (encs l)))] ∧
  ASpec prog 28 [slE 1 u8 (List.drop 0 (List.take (Int.toNat at') (encs l)))] (strT (strF (List.drop 0 (List.take (Int.toNat at') (encs l))))))
  (Tree.br false (Tree.done Exit.ret (lret (IVal.v (Value.bool false))))
  (Tree.br (decide (at' < (↑(strF (List.drop 0 (List.take (Int.toNat at') (encs l)))).snd.fst : Int))) (Tree.done Exit.ret (lret (IVal.v (Value.bool false))))
  (Tree.br (!decide ((strF (List.drop 0 (List.take (Int.toNat at') (encs l)))).snd.snd = (0 : Int)) == decide ((↑(strF (List.drop 0 (List.take (Int.toNat at') (encs l)))).snd.fst : Int) = at'))
  (Tree.done Exit.ret (lret (IVal.v (Value.bool false))))
  (Tree.br (!decide ((strF (List.drop 0 (List.take (Int.toNat at') (encs l)))).snd.snd = (0 : Int)))
  (Tree.br (!decide ((strF (List.drop 0 (List.take (Int.toNat at') (encs l)))).snd.snd = (34 : Int))) (Tree.done Exit.ret (lret (IVal.v (Value.bool false))))
  (Tree.br (decide ((↑(List.length (List.map encD (List.filter okP l))) : Int) < (↑(List.length (List.map encD (strF (List.drop 0 (List.take (Int.toNat at') (encs l)))).fst)) : Int)))
  (Tree.done Exit.ret (lret (IVal.v (Value.bool false))))
  (Tree.need
  ((0 : Int) ≤ (↑(strF (List.drop 0 (List.take (Int.toNat at') (encs l)))).snd.fst : Int) ∧
  (↑(strF (List.drop 0 (List.take (Int.toNat at') (encs l)))).snd.fst : Int) ≤ (↑(List.length (List.map u8 (encs l))) : Int) ∧
  (↑(List.length (List.map u8 (encs l))) : Int) ≤ (↑(List.length (List.map u8 (encs l))) : Int))
  (Tree.need
  (ILeL [IVal.sl true false 1 (List.drop (strF (List.drop 0 (List.take (Int.toNat at') (encs l)))).snd.fst (List.take (List.length (List.map u8 (encs l))) (List.map u8 (encs l))))]
  [slE 1 u8 (List.drop (strF (List.drop 0 (List.take (Int.toNat at') (encs l)))).snd.fst (List.take (List.length (List.map u8 (encs l))) (encs l)))] ∧
  ASpec prog 28 [slE 1 u8 (List.drop (strF (List.drop 0 (List.take (Int.toNat at') (encs l)))).snd.fst (List.take (List.length (List.map u8 (encs l))) (encs l)))]
  (strT (strF (List.drop (strF (List.drop 0 (List.take (Int.toNat at') (encs l)))).snd.fst (List.take (List.length (List.map u8 (encs l))) (encs l))))))
  (Tree.br true
  (Tree.br (decide ((strF (List.drop (strF (List.drop 0 (List.take (Int.toNat at') (encs l)))).snd.fst (List.take (List.length (List.map u8 (encs l))) (encs l)))).snd.snd = (0 : Int)))
  (Tree.br
  (decide
  ((↑(strF (List.drop (strF (List.drop 0 (List.take (Int.toNat at') (encs l)))).snd.fst (List.take (List.length (List.map u8 (encs l))) (encs l)))).snd.fst : Int) =
  IntKind.wrap IntKind.i64 ((↑(List.length (List.map u8 (encs l))) : Int) - (↑(strF (List.drop 0 (List.take (Int.toNat at') (encs l)))).snd.fst : Int))))
  (Tree.need
  (askA none
  (0 = 0 ∧
  true = true ∧
  cellsOk (List.map encD (strF (List.drop 0 (List.take (Int.toNat at') (encs l)))).fst) = true ∧
  0 + List.length (List.map encD (strF (List.drop 0 (List.take (Int.toNat at') (encs l)))).fst) ≤ 1000000))
  (Tree.need
  (askA none
  (List.length ([] ++ List.map encD (strF (List.drop 0 (List.take (Int.toNat at') (encs l)))).fst) =
  0 + List.length (List.map encD (strF (List.drop 0 (List.take (Int.toNat at') (encs l)))).fst) ∧
  cellsOk ([] ++ List.map encD (strF (List.drop 0 (List.take (Int.toNat at') (encs l)))).fst) = true ∧
  cellsOk (List.map encD (strF (List.drop (strF (List.drop 0 (List.take (Int.toNat at') (encs l)))).snd.fst (List.take (List.length (List.map u8 (encs l))) (encs l)))).fst) =
  true ∧
  0 + List.length (List.map encD (strF (List.drop 0 (List.take (Int.toNat at') (encs l)))).fst) +
  List.length
  (List.map encD (strF (List.drop (strF (List.drop 0 (List.take (Int.toNat at') (encs l)))).snd.fst (List.take (List.length (List.map u8 (encs l))) (encs l)))).fst) ≤
  1000000))
  (Tree.need
  (eqs
  [(0 + List.length (List.map encD (strF (List.drop 0 (List.take (Int.toNat at') (encs l)))).fst) +
  List.length
  (List.map encD (strF (List.drop (strF (List.drop 0 (List.take (Int.toNat at') (encs l)))).snd.fst (List.take (List.length (List.map u8 (encs l))) (encs l)))).fst),
  List.length
  ([] ++ List.map encD (strF (List.drop 0 (List.take (Int.toNat at') (encs l)))).fst ++
  List.map encD
  (strF (List.drop (strF (List.drop 0 (List.take (Int.toNat at') (encs l)))).snd.fst (List.take (List.length (List.map u8 (encs l))) (encs l)))).fst))] ∧
  ILeL
  [IVal.sl true false 37
  ([] ++ List.map encD (strF (List.drop 0 (List.take (Int.toNat at') (encs l)))).fst ++
  List.map encD (strF (List.drop (strF (List.drop 0 (List.take (Int.toNat at') (encs l)))).snd.fst (List.take (List.length (List.map u8 (encs l))) (encs l)))).fst),
  IVal.sl true false 37 (List.map encD (List.filter okP l))]
  [slE 37 encD
  ([] ++ (strF (List.drop 0 (List.take (Int.toNat at') (encs l)))).fst ++
  (strF (List.drop (strF (List.drop 0 (List.take (Int.toNat at') (encs l)))).snd.fst (List.take (List.length (List.map u8 (encs l))) (encs l)))).fst),
  slE 37 encD (List.filter okP l)] ∧
  ASpec prog 30
  [slE 37 encD
  ([] ++ (strF (List.drop 0 (List.take (Int.toNat at') (encs l)))).fst ++
  (strF (List.drop (strF (List.drop 0 (List.take (Int.toNat at') (encs l)))).snd.fst (List.take (List.length (List.map u8 (encs l))) (encs l)))).fst),
  slE 37 encD (List.filter okP l)]
  (bo true))
  (Tree.done Exit.ret (lret (IVal.v (Value.bool true)))))))
  (Tree.done Exit.ret (lret (IVal.v (Value.bool false)))))
  (Tree.done Exit.ret (lret (IVal.v (Value.bool false)))))
  (Tree.done Exit.ret (lret (IVal.v (Value.bool false)))))))))
  (Tree.br (decide ((↑(List.length (List.map encD (List.filter okP l))) : Int) < (↑(List.length (List.map encD (strF (List.drop 0 (List.take (Int.toNat at') (encs l)))).fst)) : Int)))
  (Tree.done Exit.ret (lret (IVal.v (Value.bool false))))
  (Tree.need
  ((0 : Int) ≤ (↑(strF (List.drop 0 (List.take (Int.toNat at') (encs l)))).snd.fst : Int) ∧
  (↑(strF (List.drop 0 (List.take (Int.toNat at') (encs l)))).snd.fst : Int) ≤ (↑(List.length (List.map u8 (encs l))) : Int) ∧
  (↑(List.length (List.map u8 (encs l))) : Int) ≤ (↑(List.length (List.map u8 (encs l))) : Int))
  (Tree.need
  (ILeL [IVal.sl true false 1 (List.drop (strF (List.drop 0 (List.take (Int.toNat at') (encs l)))).snd.fst (List.take (List.length (List.map u8 (encs l))) (List.map u8 (encs l))))]
  [slE 1 u8 (List.drop (strF (List.drop 0 (List.take (Int.toNat at') (encs l)))).snd.fst (List.take (List.length (List.map u8 (encs l))) (encs l)))] ∧
  ASpec prog 28 [slE 1 u8 (List.drop (strF (List.drop 0 (List.take (Int.toNat at') (encs l)))).snd.fst (List.take (List.length (List.map u8 (encs l))) (encs l)))]
  (strT (strF (List.drop (strF (List.drop 0 (List.take (Int.toNat at') (encs l)))).snd.fst (List.take (List.length (List.map u8 (encs l))) (encs l))))))
  (Tree.br true
  (Tree.br (decide ((strF (List.drop (strF (List.drop 0 (List.take (Int.toNat at') (encs l)))).snd.fst (List.take (List.length (List.map u8 (encs l))) (encs l)))).snd.snd = (0 : Int)))
  (Tree.br
  (decide
  ((↑(strF (List.drop (strF (List.drop 0 (List.take (Int.toNat at') (encs l)))).snd.fst (List.take (List.length (List.map u8 (encs l))) (encs l)))).snd.fst : Int) =
  IntKind.wrap IntKind.i64 ((↑(List.length (List.map u8 (encs l))) : Int) - (↑(strF (List.drop 0 (List.take (Int.toNat at') (encs l)))).snd.fst : Int))))
  (Tree.need
  (askA none
  (0 = 0 ∧
  true = true ∧
  cellsOk (List.map encD (strF (List.drop 0 (List.take (Int.toNat at') (encs l)))).fst) = true ∧
  0 + List.length (List.map encD (strF (List.drop 0 (List.take (Int.toNat at') (encs l)))).fst) ≤ 1000000))
  (Tree.need
  (askA none
  (List.length ([] ++ List.map encD (strF (List.drop 0 (List.take (Int.toNat at') (encs l)))).fst) =
  0 + List.length (List.map encD (strF (List.drop 0 (List.take (Int.toNat at') (encs l)))).fst) ∧
  cellsOk ([] ++ List.map encD (strF (List.drop 0 (List.take (Int.toNat at') (encs l)))).fst) = true ∧
  cellsOk (List.map encD (strF (List.drop (strF (List.drop 0 (List.take (Int.toNat at') (encs l)))).snd.fst (List.take (List.length (List.map u8 (encs l))) (encs l)))).fst) =
  true ∧
  0 + List.length (List.map encD (strF (List.drop 0 (List.take (Int.toNat at') (encs l)))).fst) +
  List.length
  (List.map encD (strF (List.drop (strF (List.drop 0 (List.take (Int.toNat at') (encs l)))).snd.fst (List.take (List.length (List.map u8 (encs l))) (encs l)))).fst) ≤
  1000000))
  (Tree.need
  (eqs
  [(0 + List.length (List.map encD (strF (List.drop 0 (List.take (Int.toNat at') (encs l)))).fst) +
  List.length
  (List.map encD (strF (List.drop (strF (List.drop 0 (List.take (Int.toNat at') (encs l)))).snd.fst (List.take (List.length (List.map u8 (encs l))) (encs l)))).fst),
  List.length
  ([] ++ List.map encD (strF (List.drop 0 (List.take (Int.toNat at') (encs l)))).fst ++
  List.map encD (strF (List.drop (strF (List.drop 0 (List.take (Int.toNat at') (encs l)))).snd.fst (List.take (List.length (List.map u8 (encs l))) (encs l)))).fst))] ∧
  ILeL
  [IVal.sl true false 37
  ([] ++ List.map encD (strF (List.drop 0 (List.take (Int.toNat at') (encs l)))).fst ++
  List.map encD (strF (List.drop (strF (List.drop 0 (List.take (Int.toNat at') (encs l)))).snd.fst (List.take (List.length (List.map u8 (encs l))) (encs l)))).fst),
  IVal.sl true false 37 (List.map encD (List.filter okP l))]
  [slE 37 encD
  ([] ++ (strF (List.drop 0 (List.take (Int.toNat at') (encs l)))).fst ++
  (strF (List.drop (strF (List.drop 0 (List.take (Int.toNat at') (encs l)))).snd.fst (List.take (List.length (List.map u8 (encs l))) (encs l)))).fst),
  slE 37 encD (List.filter okP l)] ∧
  ASpec prog 30
  [slE 37 encD
  ([] ++ (strF (List.drop 0 (List.take (Int.toNat at') (encs l)))).fst ++
  (strF (List.drop (strF (List.drop 0 (List.take (Int.toNat at') (encs l)))).snd.fst (List.take (List.length (List.map u8 (encs l))) (encs l)))).fst),
  slE 37 encD (List.filter okP l)]
  (bo true))
  (Tree.done Exit.ret (lret (IVal.v (Value.bool true)))))))
  (Tree.done Exit.ret (lret (IVal.v (Value.bool false)))))
  (Tree.done Exit.ret (lret (IVal.v (Value.bool false)))))
  (Tree.done Exit.ret (lret (IVal.v (Value.bool false))))))))))))))))))))))))) := by kernel_rfl
end Gp
namespace Gp
theorem eO_ok {p : Pdu} (h : okP p = true) : eO p = encB p := if_pos (of_decide_eq_true h)
theorem eO_no {p : Pdu} (h : okP p = false) : eO p = [] := if_neg (of_decide_eq_false h)
theorem encs_filter : ∀ l : List Pdu, encs (l.filter okP) = encs l
  | [] => rfl
  | p :: l => by
    have ih := encs_filter l
    cases h : okP p with
    | true => rw [List.filter_cons_of_pos h]; show eO p ++ encs (l.filter okP) = eO p ++ encs l; rw [ih]
    | false => rw [List.filter_cons_of_neg (by rw [h]; decide)]; show encs (l.filter okP) = eO p ++ encs l; rw [ih, eO_no h]; rfl
theorem encs_len : ∀ l : List Pdu, (encs l).length ≤ 4312 * l.length
  | [] => by simp [encs]
  | p :: l => by
    have ih := encs_len l
    have := eO_len p
    show (eO p ++ encs l).length ≤ _
    rw [List.length_append, List.length_cons]; omega
theorem encs_byte : ∀ {l : List Pdu}, (∀ p ∈ l, wfB p) → byteL (encs l)
  | [], _ => byteL_nil
  | p :: l, h => byteL_app (eO_byte p (h p (by simp))) (encs_byte fun q hq => h q (by simp [hq]))
theorem strR_all : ∀ (ps : List Pdu) (m : Nat), (∀ p ∈ ps, okP p = true) → ps.length ≤ m → strR m (encs ps) = (ps, (encs ps).length, 0)
  | [], m, _, _ => strR_n m
  | p :: ps, 0, _, h => by simp at h
  | p :: ps, m + 1, ho, h => by
    have hp := ho p (by simp)
    have hd := dec_enc p (of_decide_eq_true hp) (encs ps)
    have e : encs (p :: ps) = encB p ++ encs ps := by show eO p ++ encs ps = _; rw [eO_ok hp]
    have hl := encB_len p
    rw [e, strR_s (fun h => by have := congrArg List.length h; rw [List.length_append, List.length_nil] at this; omega) (by rw [hd]), hd]
    have := strR_all ps m (fun q hq => ho q (by simp [hq])) (by rw [List.length_cons] at h; omega)
    simp only [Int.toNat_natCast, List.drop_left, this, List.length_append]
theorem strR_cut : ∀ (ps : List Pdu) (m a : Nat), (∀ p ∈ ps, okP p = true) → ps.length ≤ m → a ≤ (encs ps).length →
    ∃ j, j ≤ ps.length ∧ (encs (ps.take j)).length ≤ a ∧ strR m ((encs ps).take a) = (ps.take j, (encs (ps.take j)).length, if (encs (ps.take j)).length = a then 0 else 34)
  | [], m, a, _, _, ha => ⟨0, Nat.le_refl _, Nat.zero_le _, by
    have : a = 0 := by simpa [encs] using ha
    subst this; rw [List.take_zero, strR_n]; rfl⟩
  | p :: ps, 0, a, _, h, _ => by simp at h
  | p :: ps, m + 1, a, ho, h, ha => by
    have hp := ho p (by simp)
    have hc : chk p = 0 := of_decide_eq_true hp
    have e : encs (p :: ps) = encB p ++ encs ps := by show eO p ++ encs ps = _; rw [eO_ok hp]
    have hl := encB_len p
    by_cases h0 : a = 0
    · subst h0; exact ⟨0, Nat.zero_le _, Nat.zero_le _, by rw [List.take_zero, strR_n]; rfl⟩
    by_cases h1 : a < (encB p).length
    · refine ⟨0, Nat.zero_le _, Nat.zero_le _, ?_⟩
      have et : (encs (p :: ps)).take a = (encB p).take a := by rw [e, List.take_append_of_le_length (by omega)]
      have hd := dec_cut p (chk_0 hc).1 a h1
      rw [et, strR_e (fun h => by have := congrArg List.length h; rw [List.length_take, List.length_nil] at this; omega) (by rw [hd]; decide), hd]
      show _ = (([] : List Pdu), 0, if (0 : Nat) = a then (0 : Int) else 34)
      rw [if_neg (by omega)]
    · obtain ⟨j, j1, j2, j3⟩ := strR_cut ps m (a - (encB p).length) (fun q hq => ho q (by simp [hq])) (by rw [List.length_cons] at h; omega) (by rw [e, List.length_append] at ha; omega)
      have et : (encs (p :: ps)).take a = encB p ++ (encs ps).take (a - (encB p).length) := by
        rw [e, List.take_append, List.take_of_length_le (by omega)]
      have hd := dec_enc p hc ((encs ps).take (a - (encB p).length))
      have e2 : encs ((p :: ps).take (j + 1)) = encB p ++ encs (ps.take j) := by show eO p ++ encs (ps.take j) = _; rw [eO_ok hp]
      refine ⟨j + 1, by rw [List.length_cons]; omega, by rw [e2, List.length_append]; omega, ?_⟩
      rw [et, strR_s (fun h => by have := congrArg List.length h; rw [List.length_append, List.length_nil] at this; omega) (by rw [hd]), hd]
      have e3 : encs (p :: ps.take j) = encB p ++ encs (ps.take j) := e2
      simp only [Int.toNat_natCast, List.drop_left, j3, List.take_succ_cons, e3, List.length_append]
      have : ((encs (ps.take j)).length = a - (encB p).length) ↔ ((encB p).length + (encs (ps.take j)).length = a) := by omega
      simp only [this]
theorem encs_app (a b : List Pdu) : encs (a ++ b) = encs a ++ encs b := List.flatMap_append
theorem encs_drop (ps : List Pdu) (j : Nat) : (encs ps).drop (encs (ps.take j)).length = encs (ps.drop j) := by
  have : encs ps = encs (ps.take j) ++ encs (ps.drop j) := by rw [← encs_app, List.take_append_drop]
  rw [this, List.drop_left]
theorem strF_all {ps : List Pdu} (ho : ∀ p ∈ ps, okP p = true) (h : ps.length ≤ 5000) : strF (encs ps) = (ps, (encs ps).length, 0) := strR_all ps 5000 ho h
theorem encs_succ (l : List Pdu) (i : Nat) (h : i < l.length) : encs (l.take (i + 1)) = encs (l.take i) ++ eO (l.getD i default) := by
  rw [List.take_add_one, encs_app, List.getElem?_eq_getElem h, List.getD_eq_getElem?_getD, List.getElem?_eq_getElem h]
  show encs (l.take i) ++ encs [l[i]] = _
  simp [encs]
theorem val_succ (l : List Pdu) (i : Nat) (h : i < l.length) : (l.take (i + 1)).filter okP = (l.take i).filter okP ++ if okP (l.getD i default) = true then [l.getD i default] else [] := by
  rw [List.take_add_one, List.filter_append]
  simp only [List.getD_eq_getElem?_getD, List.getElem?_eq_getElem h, Option.toList_some, Option.getD_some, List.filter_cons, List.filter_nil]
theorem l10 (l : List Pdu) (at' : Int) (hw : ∀ p ∈ l, wfB p) (hl : l.length ≤ 30) (σ : LState) (h : LSub σ (I10 l at' 0)) : LoopOk prog [] (bodyOf Proofs.Try.f10) 7 σ (.done (.exit 0) (E10 l at')) := by
  refine LoopOk.countN l.length 0 (I10 l at') (E10 l at') (T10r l at') fin10 (by kernel_rfl) h fun i hi => ?_
  have hlen := encs_len (l.take i)
  have hvl : ((l.take i).filter okP).length ≤ i := Nat.le_trans (List.length_filter_le _ _) (by simp; omega)
  have htl : (l.take i).length ≤ 30 := by rw [List.length_take]; omega
  rw [t10r]
  refine ⟨fun h1 => ?_, fun h1 => ?_⟩
  · have hlt : i < l.length := by have := of_decide_eq_true h1; rw [List.length_map] at this; omega
    have hm := gmem hlt
    have hs := encs_succ l i hlt
    have hv := val_succ l i hlt
    have hel := eO_len (l.getD i default)
    refine need_sat (elem_need ?_) (need_sat ⟨ILeL.refl _, c21 _ (hw _ hm)⟩ ⟨fun h2 => need_sat ⟨by simp, cellsOk_map u8 (fun _ => rfl) _, cellsOk_map u8 (fun _ => rfl) _, by rw [List.length_map]; omega⟩ (need_sat (elem_need ?_) (need_sat ⟨⟨by simp, cellsOk_map encD (fun _ => rfl) _, rfl, by omega⟩, rfl⟩ ?_)), fun h2 => ?_⟩)
    · (refine ⟨by omega, ?_, ?_⟩ <;> (simp only [List.length_map, decide_eq_true_eq, decide_eq_false_iff_not, Int.toNat_natCast] at * <;> omega))
    · (refine ⟨by omega, ?_, ?_⟩ <;> (simp only [List.length_map, decide_eq_true_eq, decide_eq_false_iff_not, Int.toNat_natCast] at * <;> omega))
    · rw [if_pos (show okP _ = true from h2)] at hv
      refine ⟨hlt, ⟨congrArg (fun n => AVal.imm (i64 n)) (i64_small hlt (by omega)), congrArg (AVal.own 90) ?_, congrArg (AVal.own 50) ?_, rfl, rfl, rfl, trivial⟩, ⟨congrArg (fun l => some (Entry.row 5 1 l)) ?_, congrArg (fun l => some (Entry.row 42 37 l)) ?_, trivial⟩, rfl, rfl, rfl⟩
      · rw [hv, List.length_append]; rfl
      · rw [hs, List.length_append, List.length_map]
      · rw [hs, List.map_append]
      · rw [hv, List.map_append]; rfl
    · have hn : okP (l.getD i default) = false := h2
      rw [if_neg (by rw [hn]; decide), List.append_nil] at hv
      rw [eO_no hn, List.append_nil] at hs
      refine ⟨hlt, ⟨congrArg (fun n => AVal.imm (i64 n)) (i64_small hlt (by omega)), congrArg (AVal.own 90) ?_, congrArg (AVal.own 50) ?_, rfl, rfl, rfl, trivial⟩, ⟨congrArg (fun l => some (Entry.row 5 1 l)) ?_, congrArg (fun l => some (Entry.row 42 37 l)) ?_, trivial⟩, rfl, rfl, rfl⟩
      · rw [hv]
      · rw [hs]
      · rw [hs]
      · rw [hv]
  · have : i = l.length := by have := of_decide_eq_false h1; rw [List.length_map] at this; omega
    subst this
    refine ⟨rfl, by omega, ⟨?_, ?_, rfl, rfl, rfl, trivial⟩, ⟨?_, ?_, trivial⟩, rfl, rfl, rfl⟩
    all_goals rw [List.take_length]; rfl
theorem c10 (l : List Pdu) (at' : Int) (hw : ∀ p ∈ l, wfB p) (hat : -2 ^ 63 ≤ at') : ASpec prog 10 [slE 37 encD l, i64 at'] (bo true) := by
  refine ASpec.treeW Proofs.Try.f10 (T10 l at') (by kernel_rfl) (by kernel_rfl) (t10 l at') ?_
  refine need_sat ⟨ILeL.refl _, c24⟩ (need_sat ⟨ILeL.refl _, c31 _⟩ ⟨fun h1 => ⟨_, rfl, .refl _⟩, fun h1 => ⟨fun h => (by cases h), fun _ => ?_⟩⟩)
  have hl : l.length ≤ 30 := by
    unfold greatL at h1; rw [Bool.or_eq_false_iff] at h1; have := of_decide_eq_false h1.1; omega
  have ho : ∀ p ∈ l.filter okP, okP p = true := fun p hp => (List.mem_filter.1 hp).2
  have hs : ∀ p ∈ l.filter okP, small p := fun p hp => (chk_0 (of_decide_eq_true (ho p hp))).1
  have hvl : (l.filter okP).length ≤ 30 := Nat.le_trans (List.length_filter_le _ _) hl
  have hal : strF (encs l) = (l.filter okP, (encs l).length, 0) := by rw [← encs_filter l]; exact strF_all ho (by omega)
  have hby := encs_byte hw
  have hel := encs_len l
  refine ⟨?_, need_sat ⟨.cons (.sl (fun h => by cases h) (fun h => h) (.refl _)) (.refl _), c28 _ hby (by omega)⟩ ⟨fun h2 => ?_, fun _ => ⟨fun h3 => ?_, fun _ => need_sat ⟨.cons (.refl _) (.cons (.sl (fun h => by cases h) (fun h => h) (.refl _)) (.refl _)), c30 _ _ (by rw [hal]; simp only; omega) (by rw [hal]; exact hs) (by rw [hal])⟩ ⟨fun h => (by cases h), fun _ => ⟨fun _ => ⟨_, rfl, .refl _⟩, fun h4 => ⟨fun _ => ⟨_, rfl, .refl _⟩, fun h5 => ?_⟩⟩⟩⟩⟩⟩
  · refine LoopOk.frz (E := E10 l at') (ids := [50, 90]) (.nam (τ := I10 l at' 0) (.temp 6 50 5 1 (show 12 ≤ 50 by decide) (.temp 7 90 42 37 (show 51 ≤ 90 by decide) (.sub ?_))) (l10 l at' hw hl _ ?_)) ⟨rfl, ?_, trivial, rfl, rfl, rfl⟩ ⟨⟨rfl, rfl, rfl, rfl, rfl, trivial⟩, trivial, rfl, rfl, rfl⟩
    · exact ⟨⟨rfl, rfl, rfl, rfl, rfl, rfl, trivial⟩, ⟨rfl, rfl, trivial⟩, rfl, rfl, rfl⟩
    · exact ⟨⟨rfl, rfl, rfl, rfl, rfl, rfl, trivial⟩, ⟨rfl, rfl, trivial⟩, rfl, rfl, rfl⟩
    · exact ⟨.inr ⟨90, _, 42, 37, _, rfl, rfl, rfl, by simp, rfl⟩, .inr ⟨50, _, 5, 1, _, rfl, rfl, rfl, by simp, rfl⟩, .inl rfl, .inl rfl, .inl rfl, trivial⟩
  · rw [hal] at h2; simp at h2
  · rw [hal] at h3; simp at h3
  have h4' : ¬ at' < 0 := of_decide_eq_false h4
  have h5' : ¬ ((encs l).length : Int) < at' := by have := of_decide_eq_false h5; rw [List.length_map] at this; exact this
  obtain ⟨j, j1, j2, j3⟩ := strR_cut (l.filter okP) 5000 at'.toNat ho (by omega) (by rw [encs_filter]; omega)
  have hdr := encs_drop (l.filter okP) j
  rw [encs_filter] at j3 hdr
  have hf : strF (List.drop 0 (List.take at'.toNat (encs l))) = _ := j3
  generalize hK : (encs ((l.filter okP).take j)).length = K at hf hdr j2
  have hg : strF (List.drop (strF (List.drop 0 (List.take at'.toNat (encs l)))).2.1 (List.take (List.length (List.map u8 (encs l))) (encs l))) = ((l.filter okP).drop j, (encs ((l.filter okP).drop j)).length, 0) := by
    rw [hf, take_l, hdr]
    exact strF_all (fun p hp => ho p (List.mem_of_mem_drop hp)) (by rw [List.length_drop]; omega)
  have hb1 : byteL (List.drop 0 (List.take at'.toNat (encs l))) := byteL_sub hby fun x hx => List.mem_of_mem_take hx
  have hb2 : byteL (List.drop (strF (List.drop 0 (List.take at'.toNat (encs l)))).2.1 (List.take (List.length (List.map u8 (encs l))) (encs l))) := byteL_sub hby fun x hx => List.mem_of_mem_take (List.mem_of_mem_drop hx)
  have hl1 : (List.drop 0 (List.take at'.toNat (encs l))).length ≤ 1000000 := by
    show (List.take at'.toNat (encs l)).length ≤ _
    rw [List.length_take]; omega
  have hl2 : (List.drop (strF (List.drop 0 (List.take at'.toNat (encs l)))).2.1 (List.take (List.length (List.map u8 (encs l))) (encs l))).length ≤ 1000000 := by
    rw [List.length_drop, List.length_take]; omega
  have hlr : (encs ((l.filter okP).drop j)).length = (encs l).length - K := by rw [← hdr, List.length_drop]
  have hll : (List.map u8 (encs l)).length = (encs l).length := List.length_map _
  refine need_sat ⟨by decide, by omega, by omega⟩ (need_sat ⟨.cons (.sl (fun h => by cases h) (fun h => h) (by rw [List.map_drop, List.map_take]; exact .refl _)) (.refl _), c28 _ hb1 hl1⟩ ⟨fun h => (by cases h), fun _ => ⟨fun h6 => ?_, fun _ => ⟨fun h7 => ?_, fun _ => ⟨fun h8 => ⟨fun h9 => ?_, fun _ => ?_⟩, fun h8 => ?_⟩⟩⟩⟩)
  · have := of_decide_eq_true h6; rw [hf] at this; simp only at this; omega
  · rw [hf] at h7; simp only at h7
    by_cases hk : K = at'.toNat
    · rw [if_pos hk] at h7; have : ((K : Nat) : Int) = at' := by omega
      simp [this] at h7
    · rw [if_neg hk] at h7; have : ¬ ((K : Nat) : Int) = at' := by omega
      simp [this] at h7
  · rw [hf] at h8 h9; simp only at h8 h9
    split at h8 <;> simp_all
  all_goals refine ⟨fun h10 => ?_, fun _ => need_sat ⟨by omega, ?_, by omega⟩ (need_sat ⟨.cons (.sl (fun h => by cases h) (fun h => h) (by rw [List.map_drop, List.map_take]; exact .refl _)) (.refl _), c28 _ hb2 hl2⟩ ⟨fun _ => ⟨fun _ => ⟨fun _ => need_sat ⟨rfl, rfl, cellsOk_map encD (fun _ => rfl) _, ?_⟩ (need_sat ⟨?_, cellsOk_map encD (fun _ => rfl) _, cellsOk_map encD (fun _ => rfl) _, ?_⟩ (need_sat ⟨⟨?_, trivial⟩, .cons (.sl (fun h => by cases h) (fun h => h) ?_) (.cons (.sl (fun h => by cases h) (fun h => h) (.refl _)) (.refl _)), c30 _ _ ?_ ?_ ?_⟩ ⟨_, rfl, .refl _⟩)), fun h12 => ?_⟩, fun h11 => ?_⟩, fun h => (by cases h)⟩)⟩
  all_goals first
    | (have := of_decide_eq_true h10; rw [hf, List.length_map, List.length_map] at this; simp only at this; rw [List.length_take] at this; omega)
    | (rw [hf, hll]; simp only; omega)
    | (rw [hf, List.length_map]; simp only; rw [List.length_take]; omega)
    | (simp only [List.nil_append, List.length_map, Nat.zero_add]; done)
    | (rw [hg, hf]; simp only [List.length_map, List.length_take, List.length_drop]; omega)
    | (simp only [List.nil_append, List.length_map, Nat.zero_add, List.length_append]; done)
    | (rw [List.map_append, List.map_append]; exact .refl _)
    | (rw [hg, hf]; simp only [List.nil_append, List.take_append_drop]; omega)
    | (rw [hg, hf]; simp only [List.nil_append, List.take_append_drop]; exact hs)
    | (rw [hg, hf]; simp only [List.nil_append, List.take_append_drop]; done)
    | (have := of_decide_eq_false h12
       rw [hg, hf, hll] at this
       simp only [hlr] at this
       rw [IntWalk.i64_in _ (by omega)] at this
       omega)
    | (rw [hg] at h11; simp at h11)
end Gp
namespace Gp
section
variable {H : Type} {enc : TypeId × Value → H} {w : World} {base : Nat} {spare : Nat → Bool} {held : Bool}
theorem un51 : prog.underlying 51 = some (.slice 42) := by kernel_rfl
theorem rd51 {fuel : Nat} {v : Value} {x : DataW H × List MemPlace} (h : DataW.trod enc prog w base spare held fuel 51 [v] = some x) : ∃ l : List Pdu, IRep w (allF w) (slE 37 encD l) v ∧ (∀ p ∈ l, p.inn) ∧ l.length ≤ maxLen :=
  slice_read encD Pdu.inn un51 (by kernel_rfl) (by decide) (fun fuel cs x _ h => by
    obtain ⟨p, h1, h2⟩ := rd42 (vs := cs.toArray) (show DataW.trod enc prog w base spare held fuel 42 cs = some x from h)
    exact ⟨p, .agg cs.toArray, rfl, h1, h2⟩) h
end
open Go.ChangeShapes Go.WideShapes Go.ChangeAt Go.RowKit
open Go.Proofs Go.Proofs.Ytnfdbpopcfcegaa
theorem own : ownKnob prog.godebug = none := by kernel_rfl
theorem laidOut : laidOutB prog = true := by kernel_rfl
theorem ul51 : ∃ e, prog.underlying 51 = some (.slice e) := ⟨_, show prog.underlying 51 = some (.slice 42) by kernel_rfl⟩
theorem ui3 : prog.underlying 3 = some (.int .i64) := by kernel_rfl
theorem ubool : prog.underlying 4 = some .bool := by kernel_rfl
theorem paramsL : Proofs.Try.f10.params.toList = [51, 3] := by kernel_rfl
set_option maxRecDepth 100000 in
theorem walk (W : World) {H : Type} {enc : TypeId × Value → H} {f0 : Nat} {v0 : Value} {x0 : DataW H × List MemPlace} {held : Bool} {sp : Nat → Bool} {n1 : Int} (h0 : DataW.trod enc prog W 0 sp held f0 51 [v0] = some x0) (w1 : (Lit.int .i64 n1).wf = true) :
    Calls prog 10 #[v0, .int .i64 n1] W fun e W' => e = .returned (.bool true) ∧ Below W.heap.size W W' := by
  obtain ⟨y0, r0, g0⟩ := rd51 h0
  have hm : maxLen = 2 ^ 63 - 1 := rfl
  refine ((c10 y0 n1 (fun p hp => (g0.1 p hp).1) (by have := wf_in w1; simp [IntKind.min, IntKind.max, IntKind.bits, IntKind.signed] at this; omega)).2 W (allF W) #[v0, .int .i64 n1] (fun c b h => h.2) (fun b h => by cases h.1) (ic r0 (ic iv in0))).mono ?_
  rintro e W' ⟨v, F', rfl, hb, _, _, _, _, hv⟩
  rw [bo, IRep] at hv
  rw [hv.1]
  exact ⟨rfl, hb⟩
set_option maxRecDepth 100000 in
theorem lifted (os : Os) (started : os.Started) (H : Type) (enc : TypeId × Value → H) :
    ReturnsInHanded {} Proofs.Try.checked os 10 .any (Rows.pduJoinsSpec.pre6 enc prog Proofs.Try.f10 Rows.pduJoinsRow.domain false) (Rows.pduJoinsSpec.post enc prog Proofs.Try.f10 false true false false) := by
  refine returnsInHanded_of_change (C := Proofs.Try.checked) own started (by kernel_rfl) (show prog.funcs[10]? = some Proofs.Try.f10 by kernel_rfl)
    (ChangeSpec.witness6 (enc := enc) (C := Proofs.Try.checked) false ⟨#[], #[.slice none 0 0, .int .i64 0], []⟩ 8 (by kernel_rfl) (by kernel_rfl) (by kernel_rfl) (by kernel_rfl)) ?_
  intro W base args ds gs before hval0 hW hcnd _
  have hval : ∀ (j : Nat) t v, Proofs.Try.f10.params[j]? = some t → args[j]? = some v → Value.okWide prog W .any base t v := hval0
  have hW' := hW
  obtain ⟨p, q, hA0, hV, rfl, hfz, hnd⟩ := hW
  have hA : DataW.TrodAll enc prog W 0 (fun _ => true) true Proofs.Try.f10.params.toList args.toList ds p := hA0
  rw [paramsL] at hA
  have hp0 : Proofs.Try.f10.params[0]? = some 51 := by kernel_rfl
  have hp1 : Proofs.Try.f10.params[1]? = some 3 := by kernel_rfl
  obtain ⟨u0, us0, d0, ds0, p0, q0, hargs, rfl, rfl, h0, r0⟩ := trodAll_cons hA
  obtain ⟨u1, us1, d1, ds1, p1, q1, rfl, rfl, rfl, h1, r1⟩ := trodAll_cons r0
  obtain ⟨rfl, rfl, rfl⟩ := trodAll_nil r1
  obtain rfl : args = #[u0, u1] := by cases args; simp_all
  obtain ⟨rfl, rfl⟩ := trodVars_none hV
  obtain ⟨fs0, uu0⟩ := ul51
  obtain ⟨a0, ln0, cp0, rfl⟩ := okWide_slice uu0 (hval 0 51 u0 hp0 rfl)
  have k0 := h0
  have lt0 : ∀ x ∈ p0, x.block < W.heap.size := by obtain ⟨m, hm⟩ := k0; exact DataW.trod_lt m _ _ _ hm
  obtain ⟨n1, rfl, rfl, rfl, w1⟩ := open_int ui3 (hval 1 3 u1 hp1 rfl) h1
  obtain ⟨ff0, e0⟩ := h0
  clear hA0 hval0
  refine (walk W e0 w1).mono fun e W' ⟨he, bel⟩ => ?_
  subst he
  exact ⟨_, rfl, _, _, _, [], _, [], hW', trodAll_mk1 (shut_bool ubool _),
    (trodAll_cons_mk (Below.trod laidOut (by kernel_rfl) (of_decide_eq_true (by kernel_rfl)) k0 bel lt0) (trodAll_cons_mk (shut_int ui3 w1) trodAll_mk0)), rfl, bel.frame _, fun h => by cases h⟩
theorem over : Rows.pduJoinsRow.holds Ytnfdbpopcfcegaa.Try.pinned (OpenSpec.ofChange Rows.pduJoinsSpec) :=
  OpenClaim.holds_of_wide 10 Proofs.Try.f10 rfl rfl rfl rfl rfl rfl rfl ⟨rfl, rfl, rfl, rfl, rfl⟩ rfl rfl rfl rfl rfl (by kernel_rfl) (show prog.funcs[10]? = some Proofs.Try.f10 by kernel_rfl) (by kernel_rfl)
    (of_decide_eq_true (by kernel_rfl)) (by unfold Func.isWrapper; first | (rw [if_pos (by decide +kernel)]; kernel_rfl) | (rw [if_neg (by decide +kernel)]; exact ⟨rfl, rfl⟩))
    (fun os started H enc _ => lifted os started H enc)
theorem proved : Rows.PduJoinsSaid := over
end Gp
namespace Go.Proofs.Ytnfdbpopcfcegaa
theorem pduJoins_holds : Rows.PduJoinsSaid := Gp.proved
#print axioms pduJoins_holds
end Go.Proofs.Ytnfdbpopcfcegaa
