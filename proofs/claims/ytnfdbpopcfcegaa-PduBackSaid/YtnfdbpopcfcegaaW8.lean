/- PROVED HERE: the statement PduBackSaid: whatever comes in, the law returns true and each argument reads as before. No condition. -/
import Derived.Test.YtnfdbpopcfcegaaW7
set_option maxRecDepth 100000
set_option maxHeartbeats 0
set_option linter.unusedVariables false
set_option linter.unusedSimpArgs false
open Go Go.Abs
noncomputable section
namespace Gp
section
variable {H : Type} {enc : TypeId × Value → H} {w : World} {base : Nat} {spare : Nat → Bool} {held : Bool}
theorem is {s : ByteArray} : IRep w (allF w) (st s) (.string s) := by rw [st, IRep]; exact ⟨rfl, rfl⟩
theorem wf_u8 {n : Int} (h : (Lit.int .u8 n).wf = true) : 0 ≤ n ∧ n < 256 := by have := wf_in h; simp [IntKind.min, IntKind.max, IntKind.bits, IntKind.signed] at this; omega
theorem peel {H : Type} {enc : TypeId × Value → H} {w : World} {base : Nat} {spare : Nat → Bool} {held : Bool} {l : Leaf} {ls : List Leaf} {vs : List Value} (h : LeafAll enc prog w base spare held (l :: ls) vs) : ∃ v vs', vs = v :: vs' ∧ leafR enc prog w base spare held l v ∧ LeafAll enc prog w base spare held ls vs' := h
theorem fl5 : flatT prog 5 5 = some [.int .u8] := by kernel_rfl
theorem fl23 : flatT prog 5 23 = some [.int .u32] := by kernel_rfl
theorem un40 : prog.underlying 40 = some (.slice 5) := by kernel_rfl
theorem un31 : prog.underlying 31 = some (.slice 23) := by kernel_rfl
theorem rd5 {fuel : Nat} {cs : List Value} {x : DataW H × List MemPlace} (_ : cs.length = 1) (h : DataW.trod enc prog w base spare held fuel 5 cs = some x) : ∃ (n : Int) (v : Value), v.cells.toList = cs ∧ IRep w (allF w) (u8 n) v ∧ (0 ≤ n ∧ n < 256) := by
  obtain ⟨_, _, rfl, ⟨n, rfl, w1⟩, rfl⟩ := flat_read 5 5 _ fuel cs x fl5 h
  refine ⟨n, .int .u8 n, rfl, ?_, wf_u8 w1⟩
  rw [u8, IRep]; exact ⟨rfl, rfl⟩
theorem rd40 {fuel : Nat} {v : Value} {x : DataW H × List MemPlace} (h : DataW.trod enc prog w base spare held fuel 40 [v] = some x) : ∃ l : List Int, IRep w (allF w) (lu8 l) v ∧ byteL l ∧ l.length ≤ maxLen :=
  slice_read u8 (fun n => 0 ≤ n ∧ n < 256) un40 (by kernel_rfl) (by decide) (fun _ _ _ => rd5) h
theorem rd23 {fuel : Nat} {cs : List Value} {x : DataW H × List MemPlace} (_ : cs.length = 1) (h : DataW.trod enc prog w base spare held fuel 23 cs = some x) : ∃ (n : Int) (v : Value), v.cells.toList = cs ∧ IRep w (allF w) (u32 n) v ∧ True := by
  obtain ⟨_, _, rfl, ⟨n, rfl, w1⟩, rfl⟩ := flat_read 5 23 _ fuel cs x fl23 h
  refine ⟨n, .int .u32 n, rfl, ?_, trivial⟩
  rw [u32, IRep]; exact ⟨rfl, rfl⟩
theorem rd31 {fuel : Nat} {v : Value} {x : DataW H × List MemPlace} (h : DataW.trod enc prog w base spare held fuel 31 [v] = some x) : ∃ l : List Int, IRep w (allF w) (lu32 l) v ∧ (∀ n ∈ l, True) ∧ l.length ≤ maxLen :=
  slice_read u32 (fun _ => True) un31 (by kernel_rfl) (by decide) (fun _ _ _ => rd23) h
theorem fl42 : flatT prog 8 42 = some [.int .u8, .int .u8, .int .u16, .int .u32, .bool, .int .u32, .int .u8, .int .u64, .int .u64, .int .i64, .int .i64, .int .u32, .sl 31, .int .u32, .int .u8, .int .u8, .int .u8, .int .u8, .int .u8, .int .u8, .int .u8, .int .u8, .int .u8, .int .u8, .int .u8, .int .u8, .int .u8, .int .u8, .int .u8, .int .u8, .int .i64, .int .u32, .int .u32, .int .u32, .int .u16, .sl 40, .str] := by kernel_rfl
def Pdu.inn (p : Pdu) : Prop := wfB p ∧ p.copy.length ≤ 2 ^ 63 - 1 ∧ p.path.provs.length ≤ 2 ^ 63 - 1
theorem rd42 {fuel : Nat} {vs : Array Value} {x : DataW H × List MemPlace} (h : DataW.trod enc prog w base spare held fuel 42 (Value.agg vs).cells.toList = some x) : ∃ p : Pdu, IRep w (allF w) (encD p) (.agg vs) ∧ p.inn := by
  have hf := flat_read 8 42 _ fuel _ x fl42 h
  obtain ⟨v_nv, s_0, q_0, r_0, hf⟩ := peel hf
  obtain ⟨nv, rfl, w_nv⟩ := r_0
  obtain ⟨v_nk, s_1, q_1, r_1, hf⟩ := peel hf
  obtain ⟨nk, rfl, w_nk⟩ := r_1
  obtain ⟨v_ns, s_2, q_2, r_2, hf⟩ := peel hf
  obtain ⟨ns, rfl, w_ns⟩ := r_2
  obtain ⟨v_nr, s_3, q_3, r_3, hf⟩ := peel hf
  obtain ⟨nr, rfl, w_nr⟩ := r_3
  obtain ⟨v_na, s_4, q_4, r_4, hf⟩ := peel hf
  obtain ⟨na, rfl⟩ := r_4
  obtain ⟨v_oa, s_5, q_5, r_5, hf⟩ := peel hf
  obtain ⟨oa, rfl, w_oa⟩ := r_5
  obtain ⟨v_of, s_6, q_6, r_6, hf⟩ := peel hf
  obtain ⟨of, rfl, w_of⟩ := r_6
  obtain ⟨v_oh, s_7, q_7, r_7, hf⟩ := peel hf
  obtain ⟨oh, rfl, w_oh⟩ := r_7
  obtain ⟨v_ol, s_8, q_8, r_8, hf⟩ := peel hf
  obtain ⟨ol, rfl, w_ol⟩ := r_8
  obtain ⟨v_on, s_9, q_9, r_9, hf⟩ := peel hf
  obtain ⟨on, rfl, w_on⟩ := r_9
  obtain ⟨v_om, s_10, q_10, r_10, hf⟩ := peel hf
  obtain ⟨om, rfl, w_om⟩ := r_10
  obtain ⟨v_pc, s_11, q_11, r_11, hf⟩ := peel hf
  obtain ⟨pc, rfl, w_pc⟩ := r_11
  obtain ⟨v_pp, s_12, q_12, r_12, hf⟩ := peel hf
  obtain ⟨f_pp, x_pp, h_pp⟩ := r_12
  obtain ⟨v_ka, s_13, q_13, r_13, hf⟩ := peel hf
  obtain ⟨ka, rfl, w_ka⟩ := r_13
  obtain ⟨v_b0, s_14, q_14, r_14, hf⟩ := peel hf
  obtain ⟨b0, rfl, w_b0⟩ := r_14
  obtain ⟨v_b1, s_15, q_15, r_15, hf⟩ := peel hf
  obtain ⟨b1, rfl, w_b1⟩ := r_15
  obtain ⟨v_b2, s_16, q_16, r_16, hf⟩ := peel hf
  obtain ⟨b2, rfl, w_b2⟩ := r_16
  obtain ⟨v_b3, s_17, q_17, r_17, hf⟩ := peel hf
  obtain ⟨b3, rfl, w_b3⟩ := r_17
  obtain ⟨v_b4, s_18, q_18, r_18, hf⟩ := peel hf
  obtain ⟨b4, rfl, w_b4⟩ := r_18
  obtain ⟨v_b5, s_19, q_19, r_19, hf⟩ := peel hf
  obtain ⟨b5, rfl, w_b5⟩ := r_19
  obtain ⟨v_b6, s_20, q_20, r_20, hf⟩ := peel hf
  obtain ⟨b6, rfl, w_b6⟩ := r_20
  obtain ⟨v_b7, s_21, q_21, r_21, hf⟩ := peel hf
  obtain ⟨b7, rfl, w_b7⟩ := r_21
  obtain ⟨v_b8, s_22, q_22, r_22, hf⟩ := peel hf
  obtain ⟨b8, rfl, w_b8⟩ := r_22
  obtain ⟨v_b9, s_23, q_23, r_23, hf⟩ := peel hf
  obtain ⟨b9, rfl, w_b9⟩ := r_23
  obtain ⟨v_b10, s_24, q_24, r_24, hf⟩ := peel hf
  obtain ⟨b10, rfl, w_b10⟩ := r_24
  obtain ⟨v_b11, s_25, q_25, r_25, hf⟩ := peel hf
  obtain ⟨b11, rfl, w_b11⟩ := r_25
  obtain ⟨v_b12, s_26, q_26, r_26, hf⟩ := peel hf
  obtain ⟨b12, rfl, w_b12⟩ := r_26
  obtain ⟨v_b13, s_27, q_27, r_27, hf⟩ := peel hf
  obtain ⟨b13, rfl, w_b13⟩ := r_27
  obtain ⟨v_b14, s_28, q_28, r_28, hf⟩ := peel hf
  obtain ⟨b14, rfl, w_b14⟩ := r_28
  obtain ⟨v_b15, s_29, q_29, r_29, hf⟩ := peel hf
  obtain ⟨b15, rfl, w_b15⟩ := r_29
  obtain ⟨v_kh, s_30, q_30, r_30, hf⟩ := peel hf
  obtain ⟨kh, rfl, w_kh⟩ := r_30
  obtain ⟨v_t1, s_31, q_31, r_31, hf⟩ := peel hf
  obtain ⟨t1, rfl, w_t1⟩ := r_31
  obtain ⟨v_t2, s_32, q_32, r_32, hf⟩ := peel hf
  obtain ⟨t2, rfl, w_t2⟩ := r_32
  obtain ⟨v_t3, s_33, q_33, r_33, hf⟩ := peel hf
  obtain ⟨t3, rfl, w_t3⟩ := r_33
  obtain ⟨v_cd, s_34, q_34, r_34, hf⟩ := peel hf
  obtain ⟨cd, rfl, w_cd⟩ := r_34
  obtain ⟨v_cp, s_35, q_35, r_35, hf⟩ := peel hf
  obtain ⟨f_cp, x_cp, h_cp⟩ := r_35
  obtain ⟨v_tx, s_36, q_36, r_36, hf⟩ := peel hf
  obtain ⟨tx, rfl, z_tx⟩ := r_36
  obtain ⟨cp, g_cp, r_cp, n_cp⟩ := rd40 h_cp
  obtain ⟨pp, g_pp, _, n_pp⟩ := rd31 h_pp
  have e2 : vs = [Value.int .u8 nv, Value.int .u8 nk, Value.int .u16 ns, Value.int .u32 nr, .bool na, Value.int .u32 oa, Value.int .u8 of, Value.int .u64 oh, Value.int .u64 ol, Value.int .i64 on, Value.int .i64 om, Value.int .u32 pc, v_pp, Value.int .u32 ka, Value.int .u8 b0, Value.int .u8 b1, Value.int .u8 b2, Value.int .u8 b3, Value.int .u8 b4, Value.int .u8 b5, Value.int .u8 b6, Value.int .u8 b7, Value.int .u8 b8, Value.int .u8 b9, Value.int .u8 b10, Value.int .u8 b11, Value.int .u8 b12, Value.int .u8 b13, Value.int .u8 b14, Value.int .u8 b15, Value.int .i64 kh, Value.int .u32 t1, Value.int .u32 t2, Value.int .u32 t3, Value.int .u16 cd, v_cp, .string tx].toArray := by
    rw [← Array.toList_inj]
    show vs.toList = _
    rw [show vs.toList = _ from q_0, q_1, q_2, q_3, q_4, q_5, q_6, q_7, q_8, q_9, q_10, q_11, q_12, q_13, q_14, q_15, q_16, q_17, q_18, q_19, q_20, q_21, q_22, q_23, q_24, q_25, q_26, q_27, q_28, q_29, q_30, q_31, q_32, q_33, q_34, q_35, q_36, hf]
  rw [e2]
  clear e2 hf q_0 q_1 q_2 q_3 q_4 q_5 q_6 q_7 q_8 q_9 q_10 q_11 q_12 q_13 q_14 q_15 q_16 q_17 q_18 q_19 q_20 q_21 q_22 q_23 q_24 q_25 q_26 q_27 q_28 q_29 q_30 q_31 q_32 q_33 q_34 q_35 q_36
  have hm : maxLen = 2 ^ 63 - 1 := rfl
  have hI : IRep w (allF w) (.agg [u8 nv, u8 nk, u16 ns, u32 nr, bo na, u32 oa, u8 of, u64 oh, u64 ol, i64 on, i64 om, u32 pc, lu32 pp, u32 ka, u8 b0, u8 b1, u8 b2, u8 b3, u8 b4, u8 b5, u8 b6, u8 b7, u8 b8, u8 b9, u8 b10, u8 b11, u8 b12, u8 b13, u8 b14, u8 b15, i64 kh, u32 t1, u32 t2, u32 t3, u16 cd, lu8 cp, st tx]) (.agg [Value.int .u8 nv, Value.int .u8 nk, Value.int .u16 ns, Value.int .u32 nr, .bool na, Value.int .u32 oa, Value.int .u8 of, Value.int .u64 oh, Value.int .u64 ol, Value.int .i64 on, Value.int .i64 om, Value.int .u32 pc, v_pp, Value.int .u32 ka, Value.int .u8 b0, Value.int .u8 b1, Value.int .u8 b2, Value.int .u8 b3, Value.int .u8 b4, Value.int .u8 b5, Value.int .u8 b6, Value.int .u8 b7, Value.int .u8 b8, Value.int .u8 b9, Value.int .u8 b10, Value.int .u8 b11, Value.int .u8 b12, Value.int .u8 b13, Value.int .u8 b14, Value.int .u8 b15, Value.int .i64 kh, Value.int .u32 t1, Value.int .u32 t2, Value.int .u32 t3, Value.int .u16 cd, v_cp, .string tx].toArray) := ia (ic iv (ic iv (ic iv (ic iv (ic ib (ic iv (ic iv (ic iv (ic iv (ic iv (ic iv (ic iv (ic g_pp (ic iv (ic iv (ic iv (ic iv (ic iv (ic iv (ic iv (ic iv (ic iv (ic iv (ic iv (ic iv (ic iv (ic iv (ic iv (ic iv (ic iv (ic iv (ic iv (ic iv (ic iv (ic iv (ic g_cp (ic is in0))))))))))))))))))))))))))))))))))))) rfl
  have hE : encD ⟨nv, nk, ns, nr, na, ⟨oa, ⟨of, ⟨oh, ol⟩, on⟩, om⟩, ⟨pc, pp⟩, ⟨ka, #v[b0, b1, b2, b3, b4, b5, b6, b7, b8, b9, b10, b11, b12, b13, b14, b15], kh⟩, t1, t2, t3, cd, cp, tx⟩ = .agg [u8 nv, u8 nk, u16 ns, u32 nr, bo na, u32 oa, u8 of, u64 oh, u64 ol, i64 on, i64 om, u32 pc, lu32 pp, u32 ka, u8 b0, u8 b1, u8 b2, u8 b3, u8 b4, u8 b5, u8 b6, u8 b7, u8 b8, u8 b9, u8 b10, u8 b11, u8 b12, u8 b13, u8 b14, u8 b15, i64 kh, u32 t1, u32 t2, u32 t3, u16 cd, lu8 cp, st tx] := by kernel_rfl
  refine ⟨⟨nv, nk, ns, nr, na, ⟨oa, ⟨of, ⟨oh, ol⟩, on⟩, om⟩, ⟨pc, pp⟩, ⟨ka, #v[b0, b1, b2, b3, b4, b5, b6, b7, b8, b9, b10, b11, b12, b13, b14, b15], kh⟩, t1, t2, t3, cd, cp, tx⟩, by rw [hE]; exact hI, ⟨r_cp, ?_⟩, hm ▸ n_cp, hm ▸ n_pp⟩
  clear hI hE
  intro z hz
  have hz : z ∈ [b0, b1, b2, b3, b4, b5, b6, b7, b8, b9, b10, b11, b12, b13, b14, b15] := hz
  simp only [List.mem_cons, List.not_mem_nil, or_false] at hz
  rcases hz with rfl | rfl | rfl | rfl | rfl | rfl | rfl | rfl | rfl | rfl | rfl | rfl | rfl | rfl | rfl | rfl
  all_goals (apply wf_u8; assumption)
end
end Gp
namespace Gp
theorem orB (v b : Int) (hv : 0 ≤ v) (hv2 : v < 2 ^ 56) (hb : 0 ≤ b) (hb2 : b < 256) : ibits .u64 (· ||| ·) (IntKind.u64.wrap (v * 2 ^ 8)) (IntKind.u64.wrap b) = v * 256 + b := by
  have e1 : IntKind.u64.wrap (v * 2 ^ 8) = v * 256 := by
    show (v * 256) % 18446744073709551616 = _
    omega
  have e2 : IntKind.u64.wrap b = b := by
    show b % 18446744073709551616 = _
    omega
  rw [e1, e2]
  obtain ⟨v', rfl⟩ := Int.eq_ofNat_of_zero_le hv
  obtain ⟨b', rfl⟩ := Int.eq_ofNat_of_zero_le hb
  have k1 : (BitVec.ofInt 64 ((v' : Int) * 256)).toNat = v' * 256 := by
    rw [BitVec.toNat_ofInt]
    show (((v' : Int) * 256) % 18446744073709551616).toNat = _
    omega
  have k2 : (BitVec.ofInt 64 (b' : Int)).toNat = b' := by
    rw [BitVec.toNat_ofInt]
    show ((b' : Int) % 18446744073709551616).toNat = _
    omega
  have k3 : v' * 256 ||| b' = v' * 256 + b' := by
    have := Nat.two_pow_add_eq_or_of_lt (i := 8) (b := b') (by omega) v'
    rw [Nat.mul_comm v' 256]; exact this.symm
  show IntKind.u64.wrap ((BitVec.ofInt 64 ((v' : Int) * 256) ||| BitVec.ofInt 64 (b' : Int)).toNat : Int) = _
  rw [BitVec.toNat_or, k1, k2, k3]
  show ((v' * 256 + b' : Nat) : Int) % 18446744073709551616 = _
  omega
theorem getV4 (a b c d : Int) (r : List Int) (ha : 0 ≤ a ∧ a < 256) (hb : 0 ≤ b ∧ b < 256) (hc : 0 ≤ c ∧ c < 256) (hd : 0 ≤ d ∧ d < 256) : getV (a :: b :: c :: d :: r) 4 = ((a * 256 + b) * 256 + c) * 256 + d := by
  show ibits .u64 (· ||| ·) (IntKind.u64.wrap (ibits .u64 (· ||| ·) (IntKind.u64.wrap (ibits .u64 (· ||| ·) (IntKind.u64.wrap (ibits .u64 (· ||| ·) (IntKind.u64.wrap (0 * 2 ^ 8)) (IntKind.u64.wrap a) * 2 ^ 8)) (IntKind.u64.wrap b) * 2 ^ 8)) (IntKind.u64.wrap c) * 2 ^ 8)) (IntKind.u64.wrap d) = _
  rw [orB 0 a (by omega) (by omega) ha.1 ha.2, orB _ b (by omega) (by omega) hb.1 hb.2, orB _ c (by omega) (by omega) hc.1 hc.2, orB _ d (by omega) (by omega) hd.1 hd.2]
  omega
theorem byV_eq (x : Int) (k : Nat) (hk : k < 8) : byV x k = (x / 2 ^ (8 * k)) % 256 := by
  unfold byV
  have e1 : IntKind.i64.wrap (8 * (k : Int)) = 8 * k := IntWalk.i64_in _ (by omega)
  rw [e1]
  have e2 : min (8 * (k : Int)).toNat 64 = 8 * k := by omega
  rw [e2, Int.fdiv_eq_ediv_of_nonneg _ (Int.le_of_lt (Int.pow_pos (by omega)))]
  rfl
theorem num4 (x : Int) : num x 4 = [(x / 2 ^ 24) % 256, (x / 2 ^ 16) % 256, (x / 2 ^ 8) % 256, x % 256] := by
  rw [num_eq]
  show [byV x 3, byV x 2, byV x 1, byV x 0] = _
  rw [show byV x 3 = _ from byV_eq x 3 (by omega), show byV x 2 = _ from byV_eq x 2 (by omega), show byV x 1 = _ from byV_eq x 1 (by omega), show byV x 0 = _ from byV_eq x 0 (by omega)]
  simp
theorem getV_num4 (x : Int) (r : List Int) (h0 : 0 ≤ x) (h1 : x < 2 ^ 32) : getV (num x 4 ++ r) 4 = x := by
  rw [num4]
  show getV (_ :: _ :: _ :: _ :: r) 4 = x
  rw [getV4 _ _ _ _ r (by omega) (by omega) (by omega) (by omega)]
  omega
theorem rsL_le2 (p : Pdu) (h : small p) : (rsL p).length ≤ 4304 := by
  unfold small at h
  unfold rsL; repeat' split
  · simp only [rs57, List.length_append, flI_len, num_len]; split <;> simp [num_len]
  · simp only [rs60, rs49, List.length_append, num_len]; split <;> simp [num_len]
  · simp [rs64, num_len, rootL]
  · simp [rs69, num_len, bytesL]; omega
  · simp [rs73, num_len, pvL_len]; omega
  · simp [rs49, num_len]
  · simp
theorem enc_parts (p : Pdu) (h : small p) : ∃ a b c d : Int, encB p = a :: b :: c :: d :: (num ((encB p).length : Int) 4 ++ rsL p) := by
  have hl := rsL_le2 p h
  have e8 := encB_len p
  have e : w64 (IntKind.i64.wrap (8 + ((rsL p).length : Int))) = ((encB p).length : Int) := by
    rw [IntWalk.i64_in _ (by omega), e8]
    show (8 + ((rsL p).length : Int)) % 18446744073709551616 = _
    omega
  have h4 : (num (w64 p.version) 1 ++ num (w64 p.kind) 1 ++ hdL p).length = 4 := by simp [num_len, hdL_len]
  obtain ⟨a, b, c, d, hh⟩ : ∃ a b c d, num (w64 p.version) 1 ++ num (w64 p.kind) 1 ++ hdL p = [a, b, c, d] := by
    generalize num (w64 p.version) 1 ++ num (w64 p.kind) 1 ++ hdL p = l at h4
    match l, h4 with
    | [a, b, c, d], _ => exact ⟨a, b, c, d, rfl⟩
  refine ⟨a, b, c, d, ?_⟩
  have : encB p = [a, b, c, d] ++ num (w64 (IntKind.i64.wrap (8 + ((rsL p).length : Int)))) 4 ++ rsL p := by rw [← hh]; rfl
  rw [e] at this
  exact this
theorem dN_enc (p : Pdu) (h : small p) (more : List Int) : dN (encB p ++ more) = (encB p).length := by
  obtain ⟨a, b, c, d, hh⟩ := enc_parts p h
  have hl := rsL_le2 p h
  have e8 := encB_len p
  have e : ((encB p ++ more).take 8).drop 4 = num ((encB p).length : Int) 4 := by
    generalize ((encB p).length : Int) = N at hh
    rw [hh, num4]
    rfl
  unfold dN
  rw [e]
  have := getV_num4 ((encB p).length : Int) [] (by omega) (by omega)
  rw [List.append_nil] at this
  rw [this]
  exact IntWalk.i64_in _ (by omega)
theorem dec_enc (p : Pdu) (h : chk p = 0) (more : List Int) : decF (encB p ++ more) = (p, ((encB p).length : Int), 0) := by
  obtain ⟨k1, k2, k3, k4⟩ := chk_0 h
  have hN := dN_enc p k1 more
  have hl := rsL_le2 p k1
  have e8 := encB_len p
  have et : (encB p ++ more).take (dN (encB p ++ more)).toNat = encB p := by
    rw [hN, Int.toNat_natCast, List.take_left]
  rw [dec_5 (by rw [List.length_append]; omega) (by rw [hN]; omega) (by rw [hN, List.length_append]; omega) (by rw [et]; exact ⟨k3, by rw [← k4]; exact h⟩), et, hN, ← k4]
end Gp
namespace Gp
def kz : RKey := ⟨0, Vector.replicate 16 0, 0⟩
def qry : Pdu := ⟨1, 1, 7, 300, false, ⟨0, ⟨0, ⟨0, 0⟩, 0⟩, 0⟩, ⟨0, []⟩, kz, 0, 0, 0, 0, [], .empty⟩
def ann : Pdu := ⟨0, 4, 0, 0, true, ⟨64500, ⟨4, ⟨0, 167772160⟩, 8⟩, 24⟩, ⟨0, []⟩, kz, 0, 0, 0, 0, [], .empty⟩
def wq : List Int := [1, 1, 0, 7, 0, 0, 0, 12, 0, 0, 1, 44]
def wa : List Int := [0, 4, 0, 0, 0, 0, 0, 20, 1, 8, 24, 0, 10, 0, 0, 0, 0, 0, 251, 244]
theorem enc_q : encB qry = wq := by
  unfold encB hdL rsL hd48 rs49
  simp only [num_eq]
  kernel_rfl
theorem enc_a : encB ann = wa := by
  unfold encB hdL rsL hd52 rs57 flI
  simp only [num_eq]
  kernel_rfl
theorem rd_q : rdF wq = (qry, true) := by kernel_rfl
theorem rd_a : rdF wa = (ann, true) := by kernel_rfl
theorem small_q : small qry := by unfold small; simp [qry]
theorem small_a : small ann := by unfold small; simp [ann]
theorem chk_q : chk qry = 0 := chk_o small_q (by unfold isK qry; simp) (by show ¬ (2 : Int) < 1; omega) (by kernel_rfl) (by rw [enc_q, rd_q]) (by rw [enc_q, rd_q])
theorem chk_a : chk ann = 0 := chk_o small_a (by unfold isK ann; simp) (by show ¬ (2 : Int) < 0; omega) (by kernel_rfl) (by rw [enc_a, rd_a]) (by rw [enc_a, rd_a])
def T43 : Tell :=
  Tell.mk (fun x x_1 => false) (fun x x_1 => Orc.no) (fun x => Tree.fail 1000003 0) (fun x => 0) (fun x => ([], [])) (fun x x_1 x_2 => Orc.no) fun x x_1 => Tree.fail 1000003 0
theorem t43 : levF prog Proofs.Try.f43 [] T43 =
  Tree.done Exit.ret
  (lret
  (IVal.agg
  [IVal.v (Value.int IntKind.u8 (1 : Int)), IVal.v (Value.int IntKind.u8 (1 : Int)), IVal.v (Value.int IntKind.u16 (7 : Int)), IVal.v (Value.int IntKind.u32 (300 : Int)), IVal.v (Value.bool false),
  IVal.v (Value.int IntKind.u32 (0 : Int)), IVal.v (Value.int IntKind.u8 (0 : Int)), IVal.v (Value.int IntKind.u64 (0 : Int)), IVal.v (Value.int IntKind.u64 (0 : Int)), IVal.v (Value.int IntKind.i64 (0 : Int)),
  IVal.v (Value.int IntKind.i64 (0 : Int)), IVal.v (Value.int IntKind.u32 (0 : Int)), IVal.v (Value.slice none 0 0), IVal.v (Value.int IntKind.u32 (0 : Int)), IVal.v (Value.int IntKind.u8 (0 : Int)),
  IVal.v (Value.int IntKind.u8 (0 : Int)), IVal.v (Value.int IntKind.u8 (0 : Int)), IVal.v (Value.int IntKind.u8 (0 : Int)), IVal.v (Value.int IntKind.u8 (0 : Int)), IVal.v (Value.int IntKind.u8 (0 : Int)),
  IVal.v (Value.int IntKind.u8 (0 : Int)), IVal.v (Value.int IntKind.u8 (0 : Int)), IVal.v (Value.int IntKind.u8 (0 : Int)), IVal.v (Value.int IntKind.u8 (0 : Int)), IVal.v (Value.int IntKind.u8 (0 : Int)),
  IVal.v (Value.int IntKind.u8 (0 : Int)), IVal.v (Value.int IntKind.u8 (0 : Int)), IVal.v (Value.int IntKind.u8 (0 : Int)), IVal.v (Value.int IntKind.u8 (0 : Int)), IVal.v (Value.int IntKind.u8 (0 : Int)),
  IVal.v (Value.int IntKind.i64 (0 : Int)), IVal.v (Value.int IntKind.u32 (0 : Int)), IVal.v (Value.int IntKind.u32 (0 : Int)), IVal.v (Value.int IntKind.u32 (0 : Int)), IVal.v (Value.int IntKind.u16 (0 : Int)),
  IVal.v (Value.slice none 0 0), IVal.v (Value.string (ByteArray.mk (Array.mk [])))])) := by kernel_rfl
def T20 : Tell :=
  Tell.mk (fun x x_1 => false) (fun x x_1 => Orc.no) (fun x => Tree.fail 1000003 0) (fun x => 0) (fun x => ([], [])) (fun x x_1 x_2 => Orc.no) fun x x_1 => Tree.fail 1000003 0
theorem t20 : levF prog Proofs.Try.f20 [] T20 =
  Tree.done Exit.ret
  (lret
  (IVal.agg
  [IVal.v (Value.int IntKind.u8 (0 : Int)), IVal.v (Value.int IntKind.u8 (4 : Int)), IVal.v (Value.int IntKind.u16 (0 : Int)), IVal.v (Value.int IntKind.u32 (0 : Int)), IVal.v (Value.bool true),
  IVal.v (Value.int IntKind.u32 (64500 : Int)), IVal.v (Value.int IntKind.u8 (4 : Int)), IVal.v (Value.int IntKind.u64 (0 : Int)), IVal.v (Value.int IntKind.u64 (167772160 : Int)), IVal.v (Value.int IntKind.i64 (8 : Int)),
  IVal.v (Value.int IntKind.i64 (24 : Int)), IVal.v (Value.int IntKind.u32 (0 : Int)), IVal.v (Value.slice none 0 0), IVal.v (Value.int IntKind.u32 (0 : Int)), IVal.v (Value.int IntKind.u8 (0 : Int)),
  IVal.v (Value.int IntKind.u8 (0 : Int)), IVal.v (Value.int IntKind.u8 (0 : Int)), IVal.v (Value.int IntKind.u8 (0 : Int)), IVal.v (Value.int IntKind.u8 (0 : Int)), IVal.v (Value.int IntKind.u8 (0 : Int)),
  IVal.v (Value.int IntKind.u8 (0 : Int)), IVal.v (Value.int IntKind.u8 (0 : Int)), IVal.v (Value.int IntKind.u8 (0 : Int)), IVal.v (Value.int IntKind.u8 (0 : Int)), IVal.v (Value.int IntKind.u8 (0 : Int)),
  IVal.v (Value.int IntKind.u8 (0 : Int)), IVal.v (Value.int IntKind.u8 (0 : Int)), IVal.v (Value.int IntKind.u8 (0 : Int)), IVal.v (Value.int IntKind.u8 (0 : Int)), IVal.v (Value.int IntKind.u8 (0 : Int)),
  IVal.v (Value.int IntKind.i64 (0 : Int)), IVal.v (Value.int IntKind.u32 (0 : Int)), IVal.v (Value.int IntKind.u32 (0 : Int)), IVal.v (Value.int IntKind.u32 (0 : Int)), IVal.v (Value.int IntKind.u16 (0 : Int)),
  IVal.v (Value.slice none 0 0), IVal.v (Value.string (ByteArray.mk (Array.mk [])))])) := by kernel_rfl
theorem c43 : ASpec prog 43 [] (encD qry) := by
  refine ASpec.treeW Proofs.Try.f43 T43 (by kernel_rfl) (by kernel_rfl) t43 ?_
  exact ⟨_, rfl, ile_pdu qry _ _ (ile_n _ rfl) (ile_n' _ rfl)⟩
theorem c20 : ASpec prog 20 [] (encD ann) := by
  refine ASpec.treeW Proofs.Try.f20 T20 (by kernel_rfl) (by kernel_rfl) t20 ?_
  exact ⟨_, rfl, ile_pdu ann _ _ (ile_n _ rfl) (ile_n' _ rfl)⟩
end Gp
namespace Gp
def T19 (p : Pdu) (w : List Int) : Tell :=
  Tell.mk (fun x x_1 => false) (fun x x_1 => Orc.no) (fun x => Tree.fail 1000003 0) (fun x => 0) (fun x => ([], []))
  (oget
  [(2, 1, 1, Orc.call [encD p] (IVal.tup [slE 1 u8 (eO p), i64 (chk p)])), (9, 2, 3, Orc.call [slE 1 u8 (w ++ [(0 : Int)])] (decT (decF (w ++ [(0 : Int)])))),
  (21, 3, 5, Orc.call [lu8 (eO p), lu8 w] (bo (decide (eO p = w)))), (21, 3, 20, Orc.call [encD p, encD (decF (w ++ [(0 : Int)])).fst] (bo (decide (p = (decF (w ++ [(0 : Int)])).fst))))])
  fun x x_1 => Tree.fail 1000003 0
theorem t19 (p : Pdu) (w : List Int) : levF prog Proofs.Try.f19 [encD p, .sl false true 1 (w.map u8)] (T19 p w) =
  Tree.need (ILeL [encD p] [encD p] ∧ ASpec prog 21 [encD p] (IVal.tup [slE 1 u8 (eO p), i64 (chk p)]))
  (Tree.need (askA (some (1 = 1)) (cellsOk (List.map u8 w) = true ∧ true = true ∧ List.length (List.map u8 w) + 1 ≤ 1000000))
  (Tree.need
  (ILeL [IVal.sl (false || List.isEmpty (List.map u8 w)) false 1 (List.map u8 w ++ [IVal.v (Value.int IntKind.u8 (0 : Int))])] [slE 1 u8 (w ++ [(0 : Int)])] ∧
  ASpec prog 22 [slE 1 u8 (w ++ [(0 : Int)])] (decT (decF (w ++ [(0 : Int)]))))
  (Tree.br (decide (chk p = (0 : Int)))
  (Tree.need (ILeL [slE 1 u8 (eO p), IVal.sl false true 1 (List.map u8 w)] [lu8 (eO p), lu8 w] ∧ ASpec prog 27 [lu8 (eO p), lu8 w] (bo (decide (eO p = w))))
  (Tree.br (decide (eO p = w))
  (Tree.br (decide ((decF (w ++ [(0 : Int)])).snd.snd = (0 : Int)))
  (Tree.br (decide ((decF (w ++ [(0 : Int)])).snd.fst = (↑(List.length (List.map u8 w)) : Int)))
  (Tree.need
  (ILeL [encD p, encD (decF (w ++ [(0 : Int)])).fst] [encD p, encD (decF (w ++ [(0 : Int)])).fst] ∧ ASpec prog 17 [encD p, encD (decF (w ++ [(0 : Int)])).fst] (bo (decide (p = (decF (w ++ [(0 : Int)])).fst))))
  (Tree.done Exit.ret (lret (IVal.v (Value.bool (decide (p = (decF (w ++ [(0 : Int)])).fst)))))))
  (Tree.done Exit.ret (lret (IVal.v (Value.bool false)))))
  (Tree.done Exit.ret (lret (IVal.v (Value.bool false)))))
  (Tree.done Exit.ret (lret (IVal.v (Value.bool false))))))
  (Tree.done Exit.ret (lret (IVal.v (Value.bool false))))))) := by kernel_rfl
def codF (p : Pdu) (w : List Int) : Bool := decide (chk p = 0) && (decide (eO p = w) && (decide ((decF (w ++ [0])).2.2 = 0) && (decide ((decF (w ++ [0])).2.1 = w.length) && decide (p = (decF (w ++ [0])).1))))
theorem eO_len (p : Pdu) : (eO p).length ≤ 4312 := by
  unfold eO; split
  · rename_i h
    have := rsL_le2 p (chk_0 h).1
    rw [encB_len]; omega
  · simp
theorem eO_byte (p : Pdu) (h : wfB p) : byteL (eO p) := by
  unfold eO; split
  · exact encB_byte p h
  · exact byteL_nil
theorem c19 (p : Pdu) (w : List Int) (hw : wfB p) (hb : byteL w) (hl : w.length ≤ 5000) (h1c : p.copy.length ≤ 2 ^ 62) (h2c : p.path.provs.length ≤ 2 ^ 62) : ASpec prog 19 [encD p, .sl false true 1 (w.map u8)] (bo (codF p w)) := by
  refine ASpec.treeW Proofs.Try.f19 (T19 p w) (by kernel_rfl) (by kernel_rfl) (t19 p w) ?_
  have hb0 : byteL (w ++ [0]) := byteL_app hb fun x hx => by simp at hx; omega
  refine need_sat ⟨ILeL.refl _, c21 p hw⟩ (need_sat ⟨⟨cellsOk_map u8 (fun _ => rfl) _, rfl, by rw [List.length_map]; omega⟩, rfl⟩ (need_sat ⟨.cons (.sl (fun h => by cases h) (fun h => h) ?_) (.refl _), c22 _ hb0 (by simp; omega)⟩ ⟨fun h1 => ?_, fun h1 => ⟨_, rfl, ile_bo (by unfold codF; rw [h1]; rfl)⟩⟩))
  · rw [List.map_append]; exact .refl _
  · refine need_sat ⟨.cons (.refl _) (.cons (.sl (fun h => h) (fun h => by cases h) (.refl _)) (.refl _)), c27 _ _ (by have := eO_len p; omega)⟩ ⟨fun h2 => ⟨fun h3 => ⟨fun h4 => need_sat ⟨ILeL.refl _, c17 _ _ h1c h2c⟩ ⟨_, rfl, ?_⟩, fun h4 => ⟨_, rfl, ?_⟩⟩, fun h3 => ⟨_, rfl, ?_⟩⟩, fun h2 => ⟨_, rfl, ?_⟩⟩
    · rw [List.length_map] at h4
      exact ile_bo (by unfold codF; rw [h1, h2, h3, h4]; rfl)
    · rw [List.length_map] at h4
      exact ile_bo (by unfold codF; rw [h1, h2, h3, h4]; rfl)
    · exact ile_bo (by unfold codF; rw [h1, h2, h3]; rfl)
    · exact ile_bo (by unfold codF; rw [h1, h2]; rfl)
theorem codF_t (p : Pdu) (w : List Int) (h : chk p = 0) (he : encB p = w) : codF p w = true := by
  have e1 : eO p = w := (if_pos h).trans he
  have e2 := dec_enc p h [0]
  rw [he] at e2
  unfold codF
  rw [e1, e2, h]
  simp
def T24 : Tell :=
  Tell.mk (fun r i => r == 1 && (i == 1 || i == 5)) (fun x x_1 => Orc.no) (fun x => Tree.fail 1000003 0) (fun x => 0) (fun x => ([], []))
  (oget
  [(1, 1, 0, Orc.call [] (encD qry)),
  (1, 1, 2,
  Orc.call [encD qry, IVal.sl false true 1 (List.map u8 [(1 : Int), (1 : Int), (0 : Int), (7 : Int), (0 : Int), (0 : Int), (0 : Int), (12 : Int), (0 : Int), (0 : Int), (1 : Int), (44 : Int)])]
  (bo (codF qry [(1 : Int), (1 : Int), (0 : Int), (7 : Int), (0 : Int), (0 : Int), (0 : Int), (12 : Int), (0 : Int), (0 : Int), (1 : Int), (44 : Int)]))),
  (1, 1, 4, Orc.call [] (encD ann)),
  (1, 1, 6,
  Orc.call
  [encD ann,
  IVal.sl false true 1
  (List.map u8
  [(0 : Int), (4 : Int), (0 : Int), (0 : Int), (0 : Int), (0 : Int), (0 : Int), (20 : Int), (1 : Int), (8 : Int), (24 : Int), (0 : Int), (10 : Int), (0 : Int), (0 : Int), (0 : Int), (0 : Int), (0 : Int), (251 : Int),
  (244 : Int)])]
  (bo
  (codF ann
  [(0 : Int), (4 : Int), (0 : Int), (0 : Int), (0 : Int), (0 : Int), (0 : Int), (20 : Int), (1 : Int), (8 : Int), (24 : Int), (0 : Int), (10 : Int), (0 : Int), (0 : Int), (0 : Int), (0 : Int), (0 : Int), (251 : Int),
  (244 : Int)])))])
  fun x x_1 => Tree.fail 1000003 0
theorem t24 : levF prog Proofs.Try.f24 [] T24 =
  Tree.need (ILeL [] [] ∧ ASpec prog 43 [] (encD qry))
  (Tree.need
  (ILeL
  [encD qry,
  IVal.sl true true 1
  [IVal.v (Value.int IntKind.u8 (1 : Int)), IVal.v (Value.int IntKind.u8 (1 : Int)), IVal.v (Value.int IntKind.u8 (0 : Int)), IVal.v (Value.int IntKind.u8 (7 : Int)), IVal.v (Value.int IntKind.u8 (0 : Int)),
  IVal.v (Value.int IntKind.u8 (0 : Int)), IVal.v (Value.int IntKind.u8 (0 : Int)), IVal.v (Value.int IntKind.u8 (12 : Int)), IVal.v (Value.int IntKind.u8 (0 : Int)), IVal.v (Value.int IntKind.u8 (0 : Int)),
  IVal.v (Value.int IntKind.u8 (1 : Int)), IVal.v (Value.int IntKind.u8 (44 : Int))]]
  [encD qry, IVal.sl false true 1 [u8 (1 : Int), u8 (1 : Int), u8 (0 : Int), u8 (7 : Int), u8 (0 : Int), u8 (0 : Int), u8 (0 : Int), u8 (12 : Int), u8 (0 : Int), u8 (0 : Int), u8 (1 : Int), u8 (44 : Int)]] ∧
  ASpec prog 19 [encD qry, IVal.sl false true 1 [u8 (1 : Int), u8 (1 : Int), u8 (0 : Int), u8 (7 : Int), u8 (0 : Int), u8 (0 : Int), u8 (0 : Int), u8 (12 : Int), u8 (0 : Int), u8 (0 : Int), u8 (1 : Int), u8 (44 : Int)]]
  (bo (codF qry [(1 : Int), (1 : Int), (0 : Int), (7 : Int), (0 : Int), (0 : Int), (0 : Int), (12 : Int), (0 : Int), (0 : Int), (1 : Int), (44 : Int)])))
  (Tree.br (codF qry [(1 : Int), (1 : Int), (0 : Int), (7 : Int), (0 : Int), (0 : Int), (0 : Int), (12 : Int), (0 : Int), (0 : Int), (1 : Int), (44 : Int)])
  (Tree.need (ILeL [] [] ∧ ASpec prog 20 [] (encD ann))
  (Tree.need
  (ILeL
  [encD ann,
  IVal.sl true true 1
  [IVal.v (Value.int IntKind.u8 (0 : Int)), IVal.v (Value.int IntKind.u8 (4 : Int)), IVal.v (Value.int IntKind.u8 (0 : Int)), IVal.v (Value.int IntKind.u8 (0 : Int)), IVal.v (Value.int IntKind.u8 (0 : Int)),
  IVal.v (Value.int IntKind.u8 (0 : Int)), IVal.v (Value.int IntKind.u8 (0 : Int)), IVal.v (Value.int IntKind.u8 (20 : Int)), IVal.v (Value.int IntKind.u8 (1 : Int)), IVal.v (Value.int IntKind.u8 (8 : Int)),
  IVal.v (Value.int IntKind.u8 (24 : Int)), IVal.v (Value.int IntKind.u8 (0 : Int)), IVal.v (Value.int IntKind.u8 (10 : Int)), IVal.v (Value.int IntKind.u8 (0 : Int)), IVal.v (Value.int IntKind.u8 (0 : Int)),
  IVal.v (Value.int IntKind.u8 (0 : Int)), IVal.v (Value.int IntKind.u8 (0 : Int)), IVal.v (Value.int IntKind.u8 (0 : Int)), IVal.v (Value.int IntKind.u8 (251 : Int)), IVal.v (Value.int IntKind.u8 (244 : Int))]]
  [encD ann,
  IVal.sl false true 1
  [u8 (0 : Int), u8 (4 : Int), u8 (0 : Int), u8 (0 : Int), u8 (0 : Int), u8 (0 : Int), u8 (0 : Int), u8 (20 : Int), u8 (1 : Int), u8 (8 : Int), u8 (24 : Int), u8 (0 : Int), u8 (10 : Int), u8 (0 : Int), u8 (0 : Int),
  u8 (0 : Int), u8 (0 : Int), u8 (0 : Int), u8 (251 : Int), u8 (244 : Int)]] ∧
  ASpec prog 19
  [encD ann,
  IVal.sl false true 1
  [u8 (0 : Int), u8 (4 : Int), u8 (0 : Int), u8 (0 : Int), u8 (0 : Int), u8 (0 : Int), u8 (0 : Int), u8 (20 : Int), u8 (1 : Int), u8 (8 : Int), u8 (24 : Int), u8 (0 : Int), u8 (10 : Int), u8 (0 : Int), u8 (0 : Int),
  u8 (0 : Int), u8 (0 : Int), u8 (0 : Int), u8 (251 : Int), u8 (244 : Int)]]
  (bo
  (codF ann
  [(0 : Int), (4 : Int), (0 : Int), (0 : Int), (0 : Int), (0 : Int), (0 : Int), (20 : Int), (1 : Int), (8 : Int), (24 : Int), (0 : Int), (10 : Int), (0 : Int), (0 : Int), (0 : Int), (0 : Int), (0 : Int), (251 : Int),
  (244 : Int)])))
  (Tree.done Exit.ret
  (lret
  (IVal.v
  (Value.bool
  (codF ann
  [(0 : Int), (4 : Int), (0 : Int), (0 : Int), (0 : Int), (0 : Int), (0 : Int), (20 : Int), (1 : Int), (8 : Int), (24 : Int), (0 : Int), (10 : Int), (0 : Int), (0 : Int), (0 : Int), (0 : Int), (0 : Int), (251 : Int),
  (244 : Int)])))))))
  (Tree.done Exit.ret (lret (IVal.v (Value.bool false)))))) := by kernel_rfl
theorem wf_kz : byteL (rootL kz) := fun x hx => by
  simp [rootL, kz] at hx
  omega
theorem byte_dec {l : List Int} (h : (l.all fun x => decide (0 ≤ x ∧ x < 256)) = true) : byteL l := fun x hx => of_decide_eq_true (List.all_eq_true.1 h x hx)
theorem c24 : ASpec prog 24 [] (bo true) := by
  refine ASpec.treeW Proofs.Try.f24 T24 (by kernel_rfl) (by kernel_rfl) t24 ?_
  have q1 := c19 qry wq ⟨byteL_nil, wf_kz⟩ (byte_dec rfl) (by decide) (by decide) (by decide)
  have q2 := c19 ann wa ⟨byteL_nil, wf_kz⟩ (byte_dec rfl) (by decide) (by decide) (by decide)
  have e1 : codF qry wq = true := codF_t qry wq chk_q enc_q
  have e2 : codF ann wa = true := codF_t ann wa chk_a enc_a
  refine need_sat ⟨ILeL.refl _, c43⟩ (need_sat ⟨.cons (.refl _) (.cons (.sl (fun h => by cases h) (fun h => h) (.refl _)) (.refl _)), q1⟩ ⟨fun h1 => ?_, fun h1 => ?_⟩)
  · refine need_sat ⟨ILeL.refl _, c20⟩ (need_sat ⟨.cons (.refl _) (.cons (.sl (fun h => by cases h) (fun h => h) (.refl _)) (.refl _)), q2⟩ ⟨_, rfl, ile_bo e2⟩)
  · exact absurd (e1.symm.trans h1) (by simp)
end Gp
namespace Gp
theorem great_f {p : Pdu} (h : great p = false) : p.copy.length ≤ 5000 ∧ p.text.size ≤ 5000 ∧ p.path.provs.length ≤ 80 := by
  simp [great] at h; omega
end Gp
namespace Gp
def T6 (p : Pdu) (more : List Int) : Tell :=
  Tell.mk (fun x x_1 => false) (fun x x_1 => Orc.no) (fun x => Tree.fail 1000003 0) (fun x => 0) (fun x => ([], []))
  (oget
  [(2, 1, 0, Orc.call [] (bo true)), (4, 2, 1, Orc.call [encD p] (bo (great p))), (15, 4, 1, Orc.call [encD p] (IVal.tup [slE 1 u8 (eO p), i64 (chk p)])),
  (24, 6, 8, Orc.call [encD p] (i64 (chk p))), (24, 7, 5, Orc.callf [28] [slE 1 u8 ([] ++ eO p ++ more)] (decT (decF ([] ++ eO p ++ more)))),
  (38, 8, 18, Orc.call [encD p, encD (decF ([] ++ eO p ++ more)).fst] (bo (decide (p = (decF ([] ++ eO p ++ more)).fst))))])
  fun x x_1 => Tree.fail 1000003 0
theorem t6 (p : Pdu) (more : List Int) : levF prog Proofs.Try.f6 [encD p, slE 1 u8 more] (T6 p more) =
  Tree.need (ILeL [] [] ∧ ASpec prog 24 [] (bo true))
  (Tree.need (ILeL [encD p] [encD p] ∧ ASpec prog 11 [encD p] (bo (great p)))
  (Tree.br (great p) (Tree.done Exit.ret (lret (IVal.v (Value.bool true))))
  (Tree.br (decide ((1000 : Int) < (↑(List.length (List.map u8 more)) : Int))) (Tree.done Exit.ret (lret (IVal.v (Value.bool true))))
  (Tree.br false (Tree.done Exit.ret (lret (IVal.v (Value.bool true))))
  (Tree.need (ILeL [encD p] [encD p] ∧ ASpec prog 21 [encD p] (IVal.tup [slE 1 u8 (eO p), i64 (chk p)]))
  (Tree.br (!decide (chk p = (0 : Int)))
  (Tree.br true
  (Tree.br (decide ((↑(List.length (List.map u8 (eO p))) : Int) = (0 : Int)))
  (Tree.need (ILeL [encD p] [encD p] ∧ ASpec prog 14 [encD p] (i64 (chk p))) (Tree.done Exit.ret (lret (IVal.v (Value.bool (decide (chk p = chk p))))))) (Tree.done Exit.ret (lret (IVal.v (Value.bool false)))))
  (Tree.done Exit.ret (lret (IVal.v (Value.bool false)))))
  (Tree.need (askA none (0 = 0 ∧ true = true ∧ cellsOk (List.map u8 (eO p)) = true ∧ 0 + List.length (List.map u8 (eO p)) ≤ 1000000))
  (Tree.need
  (askA none
  (List.length ([] ++ List.map u8 (eO p)) = 0 + List.length (List.map u8 (eO p)) ∧
  cellsOk ([] ++ List.map u8 (eO p)) = true ∧ cellsOk (List.map u8 more) = true ∧ 0 + List.length (List.map u8 (eO p)) + List.length (List.map u8 more) ≤ 1000000))
  (Tree.need
  (eqs [(0 + List.length (List.map u8 (eO p)) + List.length (List.map u8 more), List.length ([] ++ List.map u8 (eO p) ++ List.map u8 more))] ∧
  ILeL [IVal.sl true false 1 ([] ++ List.map u8 (eO p) ++ List.map u8 more)] [slE 1 u8 ([] ++ eO p ++ more)] ∧
  ASpec prog 22 [slE 1 u8 ([] ++ eO p ++ more)] (decT (decF ([] ++ eO p ++ more))))
  (Tree.br true
  (Tree.br (decide ((decF ([] ++ eO p ++ more)).snd.snd = (0 : Int)))
  (Tree.br (decide ((decF ([] ++ eO p ++ more)).snd.fst = (↑(List.length (List.map u8 (eO p))) : Int)))
  (Tree.br (decide ((decF ([] ++ eO p ++ more)).snd.fst ≤ (4312 : Int)))
  (Tree.need
  (ILeL [encD p, encD (decF ([] ++ eO p ++ more)).fst] [encD p, encD (decF ([] ++ eO p ++ more)).fst] ∧
  ASpec prog 17 [encD p, encD (decF ([] ++ eO p ++ more)).fst] (bo (decide (p = (decF ([] ++ eO p ++ more)).fst))))
  (Tree.done Exit.ret (lret (IVal.v (Value.bool (decide (p = (decF ([] ++ eO p ++ more)).fst)))))))
  (Tree.done Exit.ret (lret (IVal.v (Value.bool false)))))
  (Tree.done Exit.ret (lret (IVal.v (Value.bool false)))))
  (Tree.done Exit.ret (lret (IVal.v (Value.bool false)))))
  (Tree.done Exit.ret (lret (IVal.v (Value.bool false)))))))))))))) := by kernel_rfl
theorem c6 (p : Pdu) (more : List Int) (hw : wfB p) (hm : byteL more) : ASpec prog 6 [encD p, slE 1 u8 more] (bo true) := by
  refine ASpec.treeW Proofs.Try.f6 (T6 p more) (by kernel_rfl) (by kernel_rfl) (t6 p more) ?_
  refine need_sat ⟨ILeL.refl _, c24⟩ (need_sat ⟨ILeL.refl _, c11 _⟩ ⟨fun h1 => ⟨_, rfl, .refl _⟩, fun h1 => ⟨fun h2 => ⟨_, rfl, .refl _⟩, fun h2 => ⟨fun h => (by cases h), fun _ => need_sat ⟨ILeL.refl _, c21 p hw⟩ ⟨fun h3 => ?_, fun h3 => ?_⟩⟩⟩⟩)
  · have hn : ¬ chk p = 0 := of_decide_eq_false (nt h3)
    have he : eO p = [] := if_neg hn
    refine ⟨fun _ => ⟨fun h4 => need_sat ⟨ILeL.refl _, c14 p hw⟩ ⟨_, rfl, ile_bo (by simp)⟩, fun h4 => ?_⟩, fun h => (by cases h)⟩
    have := of_decide_eq_false h4
    rw [he] at this
    exact absurd rfl this
  · have hc : chk p = 0 := of_decide_eq_true (nf h3)
    have hg := great_f h1
    have hml : more.length ≤ 1000 := by have := of_decide_eq_false h2; rw [List.length_map] at this; omega
    have he : eO p = encB p := if_pos hc
    have hl4 := eO_len p
    have hs := (chk_0 hc).1
    have hd : decF (eO p ++ more) = (p, ((eO p).length : Int), 0) := by rw [he]; exact dec_enc p hc more
    have hb : byteL (eO p ++ more) := byteL_app (eO_byte p hw) hm
    have hll : (eO p ++ more).length ≤ 100000 := by rw [List.length_append]; omega
    refine need_sat ⟨rfl, rfl, cellsOk_map u8 (fun _ => rfl) _, by rw [List.length_map]; omega⟩ (need_sat ⟨by rw [Nat.zero_add]; rfl, cellsOk_map u8 (fun _ => rfl) _, cellsOk_map u8 (fun _ => rfl) _, by rw [List.length_map, List.length_map]; omega⟩
      (need_sat ⟨⟨?_, trivial⟩, .cons (.sl (fun h => by cases h) (fun h => h) ?_) (.refl _), c22 (eO p ++ more) hb hll⟩
        ⟨fun _ => ⟨fun h4 => ⟨fun h5 => ⟨fun h6 => need_sat ⟨ILeL.refl _, c17 _ _ (by omega) (by omega)⟩ ⟨_, rfl, ile_bo ?_⟩, fun h6 => ?_⟩, fun h5 => ?_⟩, fun h4 => ?_⟩, fun h => (by cases h)⟩))
    · simp
    · rw [List.nil_append, List.nil_append, List.map_append]; exact .refl _
    · show decide (p = (decF (eO p ++ more)).1) = true
      rw [hd]; simp
    · have h6' : ¬ (decF (eO p ++ more)).2.1 ≤ 4312 := of_decide_eq_false h6
      rw [hd] at h6'
      exact absurd (show ((eO p).length : Int) ≤ 4312 by omega) h6'
    · have h5' : ¬ (decF (eO p ++ more)).2.1 = (((eO p).map u8).length : Int) := of_decide_eq_false h5
      rw [hd, List.length_map] at h5'
      exact absurd rfl h5'
    · have h4' : ¬ (decF (eO p ++ more)).2.2 = 0 := of_decide_eq_false h4
      rw [hd] at h4'
      exact absurd rfl h4'
end Gp
namespace Gp
open Go.ChangeShapes Go.WideShapes Go.ChangeAt Go.RowKit
open Go.Proofs Go.Proofs.Ytnfdbpopcfcegaa
theorem own : ownKnob prog.godebug = none := by kernel_rfl
theorem laidOut : laidOutB prog = true := by kernel_rfl
def isStruct : Option TypeDesc → Bool
  | some (.struct _) => true
  | _ => false
theorem isStruct_spec {x : Option TypeDesc} (h : isStruct x = true) : ∃ fs, x = some (.struct fs) := by
  unfold isStruct at h; split at h
  · exact ⟨_, rfl⟩
  · cases h
theorem us42 : ∃ fs, prog.underlying 42 = some (.struct fs) := isStruct_spec (by kernel_rfl)
theorem ul40 : ∃ e, prog.underlying 40 = some (.slice e) := ⟨_, show prog.underlying 40 = some (.slice 5) by kernel_rfl⟩
theorem ubool : prog.underlying 4 = some .bool := by kernel_rfl
theorem paramsL : Proofs.Try.f6.params.toList = [42, 40] := by kernel_rfl
set_option maxRecDepth 100000 in
theorem walk (W : World) {H : Type} {enc : TypeId × Value → H} {f0 f1 : Nat} {v0 : Array Value} {v1 : Value} {x0 x1 : DataW H × List MemPlace} {held : Bool} {sp : Nat → Bool} (h0 : DataW.trod enc prog W 0 sp held f0 42 (Value.agg v0).cells.toList = some x0) (h1 : DataW.trod enc prog W 0 sp held f1 40 [v1] = some x1) :
    Calls prog 6 #[.agg v0, v1] W fun e W' => e = .returned (.bool true) ∧ Below W.heap.size W W' := by
  obtain ⟨y0, r0, g0⟩ := rd42 h0
  obtain ⟨y1, r1, g1⟩ := rd40 h1
  have hm : maxLen = 2 ^ 63 - 1 := rfl
  refine ((c6 y0 y1 g0.1 g1.1).2 W (allF W) #[.agg v0, v1] (fun c b h => h.2) (fun b h => by cases h.1) (ic r0 (ic r1 in0))).mono ?_
  rintro e W' ⟨v, F', rfl, hb, _, _, _, _, hv⟩
  rw [bo, IRep] at hv
  rw [hv.1]
  exact ⟨rfl, hb⟩
set_option maxRecDepth 100000 in
theorem lifted (os : Os) (started : os.Started) (H : Type) (enc : TypeId × Value → H) :
    ReturnsInHanded {} Proofs.Try.checked os 6 .any (Rows.pduBackSpec.pre6 enc prog Proofs.Try.f6 Rows.pduBackRow.domain false) (Rows.pduBackSpec.post enc prog Proofs.Try.f6 false true false false) := by
  refine returnsInHanded_of_change (C := Proofs.Try.checked) own started (by kernel_rfl) (show prog.funcs[6]? = some Proofs.Try.f6 by kernel_rfl)
    (ChangeSpec.witness6 (enc := enc) (C := Proofs.Try.checked) false ⟨#[], #[.agg #[.int .u8 0, .int .u8 0, .int .u16 0, .int .u32 0, .bool false, .int .u32 0, .int .u8 0, .int .u64 0, .int .u64 0, .int .i64 0, .int .i64 0, .int .u32 0, .slice none 0 0, .int .u32 0, .int .u8 0, .int .u8 0, .int .u8 0, .int .u8 0, .int .u8 0, .int .u8 0, .int .u8 0, .int .u8 0, .int .u8 0, .int .u8 0, .int .u8 0, .int .u8 0, .int .u8 0, .int .u8 0, .int .u8 0, .int .u8 0, .int .i64 0, .int .u32 0, .int .u32 0, .int .u32 0, .int .u16 0, .slice none 0 0, .string .empty], .slice none 0 0], []⟩ 8 (by kernel_rfl) (by kernel_rfl) (by kernel_rfl) (by kernel_rfl)) ?_
  intro W base args ds gs before hval0 hW hcnd _
  have hval : ∀ (j : Nat) t v, Proofs.Try.f6.params[j]? = some t → args[j]? = some v → Value.okWide prog W .any base t v := hval0
  have hW' := hW
  obtain ⟨p, q, hA0, hV, rfl, hfz, hnd⟩ := hW
  have hA : DataW.TrodAll enc prog W 0 (fun _ => true) true Proofs.Try.f6.params.toList args.toList ds p := hA0
  rw [paramsL] at hA
  have hp0 : Proofs.Try.f6.params[0]? = some 42 := by kernel_rfl
  have hp1 : Proofs.Try.f6.params[1]? = some 40 := by kernel_rfl
  obtain ⟨u0, us0, d0, ds0, p0, q0, hargs, rfl, rfl, h0, r0⟩ := trodAll_cons hA
  obtain ⟨u1, us1, d1, ds1, p1, q1, rfl, rfl, rfl, h1, r1⟩ := trodAll_cons r0
  obtain ⟨rfl, rfl, rfl⟩ := trodAll_nil r1
  obtain rfl : args = #[u0, u1] := by cases args; simp_all
  obtain ⟨rfl, rfl⟩ := trodVars_none hV
  obtain ⟨fs0, uu0⟩ := us42
  obtain ⟨a0, rfl, _⟩ := okWide_struct uu0 (hval 0 42 u0 hp0 rfl)
  have k0 := h0
  have lt0 : ∀ x ∈ p0, x.block < W.heap.size := by obtain ⟨m, hm⟩ := k0; exact DataW.trod_lt m _ _ _ hm
  obtain ⟨fs1, uu1⟩ := ul40
  obtain ⟨a1, ln1, cp1, rfl⟩ := okWide_slice uu1 (hval 1 40 u1 hp1 rfl)
  have k1 := h1
  have lt1 : ∀ x ∈ p1, x.block < W.heap.size := by obtain ⟨m, hm⟩ := k1; exact DataW.trod_lt m _ _ _ hm
  obtain ⟨ff0, e0⟩ := h0
  obtain ⟨ff1, e1⟩ := h1
  clear hA0 hval0
  refine (walk W e0 e1).mono fun e W' ⟨he, bel⟩ => ?_
  subst he
  exact ⟨_, rfl, _, _, _, [], _, [], hW', trodAll_mk1 (shut_bool ubool _),
    (trodAll_cons_mk (Below.trod laidOut (by kernel_rfl) (of_decide_eq_true (by kernel_rfl)) k0 bel lt0) (trodAll_cons_mk (Below.trod laidOut (by kernel_rfl) (of_decide_eq_true (by kernel_rfl)) k1 bel lt1) trodAll_mk0)), rfl, bel.frame _, fun h => by cases h⟩
theorem over : Rows.pduBackRow.holds Ytnfdbpopcfcegaa.Try.pinned (OpenSpec.ofChange Rows.pduBackSpec) :=
  OpenClaim.holds_of_wide 6 Proofs.Try.f6 rfl rfl rfl rfl rfl rfl rfl ⟨rfl, rfl, rfl, rfl, rfl⟩ rfl rfl rfl rfl rfl (by kernel_rfl) (show prog.funcs[6]? = some Proofs.Try.f6 by kernel_rfl) (by kernel_rfl)
    (of_decide_eq_true (by kernel_rfl)) (by unfold Func.isWrapper; first | (rw [if_pos (by decide +kernel)]; kernel_rfl) | (rw [if_neg (by decide +kernel)]; exact ⟨rfl, rfl⟩))
    (fun os started H enc _ => lifted os started H enc)
theorem proved : Rows.PduBackSaid := over
end Gp
namespace Go.Proofs.Ytnfdbpopcfcegaa
theorem pduBack_holds : Rows.PduBackSaid := Gp.proved
#print axioms pduBack_holds
end Go.Proofs.Ytnfdbpopcfcegaa
