/- PROVED HERE: the statement PduChecksSaid: whatever comes in, the law returns true and each argument reads as before. No condition. -/
import Derived.Test.YtnfdbpopcfcegaaW8
set_option maxRecDepth 100000
set_option maxHeartbeats 0
set_option linter.unusedVariables false
set_option linter.unusedSimpArgs false
open Go Go.Abs
noncomputable section
namespace Gp
section
variable {H : Type} {enc : TypeId × Value → H} {w : World} {base : Nat} {spare : Nat → Bool} {held : Bool}
theorem is {s : ByteArray} : IRep w (allF w) (st s) (.string s) := by rw [st, IRep]; exact ⟨rfl, rfl⟩
theorem wf_u8 {n : Int} (h : (Lit.int .u8 n).wf = true) : 0 ≤ n ∧ n < 256 := by have := wf_in h; simp [IntKind.min, IntKind.max, IntKind.bits, IntKind.signed] at this; omega
theorem wf_u16 {n : Int} (h : (Lit.int .u16 n).wf = true) : 0 ≤ n ∧ n < 65536 := by have := wf_in h; simp [IntKind.min, IntKind.max, IntKind.bits, IntKind.signed] at this; omega
theorem wf_u32 {n : Int} (h : (Lit.int .u32 n).wf = true) : 0 ≤ n ∧ n < 4294967296 := by have := wf_in h; simp [IntKind.min, IntKind.max, IntKind.bits, IntKind.signed] at this; omega
theorem wf_u64 {n : Int} (h : (Lit.int .u64 n).wf = true) : 0 ≤ n ∧ n < 2 ^ 64 := by have := wf_in h; simp [IntKind.min, IntKind.max, IntKind.bits, IntKind.signed] at this; omega
theorem peel {H : Type} {enc : TypeId × Value → H} {w : World} {base : Nat} {spare : Nat → Bool} {held : Bool} {l : Leaf} {ls : List Leaf} {vs : List Value} (h : LeafAll enc prog w base spare held (l :: ls) vs) : ∃ v vs', vs = v :: vs' ∧ leafR enc prog w base spare held l v ∧ LeafAll enc prog w base spare held ls vs' := h
theorem fl5 : flatT prog 5 5 = some [.int .u8] := by kernel_rfl
theorem fl23 : flatT prog 5 23 = some [.int .u32] := by kernel_rfl
theorem un40 : prog.underlying 40 = some (.slice 5) := by kernel_rfl
theorem un31 : prog.underlying 31 = some (.slice 23) := by kernel_rfl
theorem rd5 {fuel : Nat} {cs : List Value} {x : DataW H × List MemPlace} (_ : cs.length = 1) (h : DataW.trod enc prog w base spare held fuel 5 cs = some x) : ∃ (n : Int) (v : Value), v.cells.toList = cs ∧ IRep w (allF w) (u8 n) v ∧ (0 ≤ n ∧ n < 256) := by
  obtain ⟨_, _, rfl, ⟨n, rfl, w1⟩, rfl⟩ := flat_read 5 5 _ fuel cs x fl5 h
  refine ⟨n, .int .u8 n, rfl, ?_, wf_u8 w1⟩
  rw [u8, IRep]; exact ⟨rfl, rfl⟩
theorem rd40 {fuel : Nat} {v : Value} {x : DataW H × List MemPlace} (h : DataW.trod enc prog w base spare held fuel 40 [v] = some x) : ∃ l : List Int, IRep w (allF w) (lu8 l) v ∧ byteL l ∧ l.length ≤ maxLen :=
  slice_read u8 (fun n => 0 ≤ n ∧ n < 256) un40 (by kernel_rfl) (by decide) (fun _ _ _ => rd5) h
theorem rd23 {fuel : Nat} {cs : List Value} {x : DataW H × List MemPlace} (_ : cs.length = 1) (h : DataW.trod enc prog w base spare held fuel 23 cs = some x) : ∃ (n : Int) (v : Value), v.cells.toList = cs ∧ IRep w (allF w) (u32 n) v ∧ (0 ≤ n ∧ n < 4294967296) := by
  obtain ⟨_, _, rfl, ⟨n, rfl, w1⟩, rfl⟩ := flat_read 5 23 _ fuel cs x fl23 h
  refine ⟨n, .int .u32 n, rfl, ?_, wf_u32 w1⟩
  rw [u32, IRep]; exact ⟨rfl, rfl⟩
theorem rd31 {fuel : Nat} {v : Value} {x : DataW H × List MemPlace} (h : DataW.trod enc prog w base spare held fuel 31 [v] = some x) : ∃ l : List Int, IRep w (allF w) (lu32 l) v ∧ (∀ n ∈ l, 0 ≤ n ∧ n < 4294967296) ∧ l.length ≤ maxLen :=
  slice_read u32 (fun n => 0 ≤ n ∧ n < 4294967296) un31 (by kernel_rfl) (by decide) (fun _ _ _ => rd23) h
theorem fl42 : flatT prog 8 42 = some [.int .u8, .int .u8, .int .u16, .int .u32, .bool, .int .u32, .int .u8, .int .u64, .int .u64, .int .i64, .int .i64, .int .u32, .sl 31, .int .u32, .int .u8, .int .u8, .int .u8, .int .u8, .int .u8, .int .u8, .int .u8, .int .u8, .int .u8, .int .u8, .int .u8, .int .u8, .int .u8, .int .u8, .int .u8, .int .u8, .int .i64, .int .u32, .int .u32, .int .u32, .int .u16, .sl 40, .str] := by kernel_rfl
def Pdu.inn (p : Pdu) : Prop := wfB p ∧ p.copy.length ≤ 2 ^ 63 - 1 ∧ p.path.provs.length ≤ 2 ^ 63 - 1 ∧ p.rng
theorem rd42 {fuel : Nat} {vs : Array Value} {x : DataW H × List MemPlace} (h : DataW.trod enc prog w base spare held fuel 42 (Value.agg vs).cells.toList = some x) : ∃ p : Pdu, IRep w (allF w) (encD p) (.agg vs) ∧ p.inn := by
  have hf := flat_read 8 42 _ fuel _ x fl42 h
  obtain ⟨v_nv, s_0, q_0, r_0, hf⟩ := peel hf
  obtain ⟨nv, rfl, w_nv⟩ := r_0
  obtain ⟨v_nk, s_1, q_1, r_1, hf⟩ := peel hf
  obtain ⟨nk, rfl, w_nk⟩ := r_1
  obtain ⟨v_ns, s_2, q_2, r_2, hf⟩ := peel hf
  obtain ⟨ns, rfl, w_ns⟩ := r_2
  obtain ⟨v_nr, s_3, q_3, r_3, hf⟩ := peel hf
  obtain ⟨nr, rfl, w_nr⟩ := r_3
  obtain ⟨v_na, s_4, q_4, r_4, hf⟩ := peel hf
  obtain ⟨na, rfl⟩ := r_4
  obtain ⟨v_oa, s_5, q_5, r_5, hf⟩ := peel hf
  obtain ⟨oa, rfl, w_oa⟩ := r_5
  obtain ⟨v_of, s_6, q_6, r_6, hf⟩ := peel hf
  obtain ⟨of, rfl, w_of⟩ := r_6
  obtain ⟨v_oh, s_7, q_7, r_7, hf⟩ := peel hf
  obtain ⟨oh, rfl, w_oh⟩ := r_7
  obtain ⟨v_ol, s_8, q_8, r_8, hf⟩ := peel hf
  obtain ⟨ol, rfl, w_ol⟩ := r_8
  obtain ⟨v_on, s_9, q_9, r_9, hf⟩ := peel hf
  obtain ⟨on, rfl, w_on⟩ := r_9
  obtain ⟨v_om, s_10, q_10, r_10, hf⟩ := peel hf
  obtain ⟨om, rfl, w_om⟩ := r_10
  obtain ⟨v_pc, s_11, q_11, r_11, hf⟩ := peel hf
  obtain ⟨pc, rfl, w_pc⟩ := r_11
  obtain ⟨v_pp, s_12, q_12, r_12, hf⟩ := peel hf
  obtain ⟨f_pp, x_pp, h_pp⟩ := r_12
  obtain ⟨v_ka, s_13, q_13, r_13, hf⟩ := peel hf
  obtain ⟨ka, rfl, w_ka⟩ := r_13
  obtain ⟨v_b0, s_14, q_14, r_14, hf⟩ := peel hf
  obtain ⟨b0, rfl, w_b0⟩ := r_14
  obtain ⟨v_b1, s_15, q_15, r_15, hf⟩ := peel hf
  obtain ⟨b1, rfl, w_b1⟩ := r_15
  obtain ⟨v_b2, s_16, q_16, r_16, hf⟩ := peel hf
  obtain ⟨b2, rfl, w_b2⟩ := r_16
  obtain ⟨v_b3, s_17, q_17, r_17, hf⟩ := peel hf
  obtain ⟨b3, rfl, w_b3⟩ := r_17
  obtain ⟨v_b4, s_18, q_18, r_18, hf⟩ := peel hf
  obtain ⟨b4, rfl, w_b4⟩ := r_18
  obtain ⟨v_b5, s_19, q_19, r_19, hf⟩ := peel hf
  obtain ⟨b5, rfl, w_b5⟩ := r_19
  obtain ⟨v_b6, s_20, q_20, r_20, hf⟩ := peel hf
  obtain ⟨b6, rfl, w_b6⟩ := r_20
  obtain ⟨v_b7, s_21, q_21, r_21, hf⟩ := peel hf
  obtain ⟨b7, rfl, w_b7⟩ := r_21
  obtain ⟨v_b8, s_22, q_22, r_22, hf⟩ := peel hf
  obtain ⟨b8, rfl, w_b8⟩ := r_22
  obtain ⟨v_b9, s_23, q_23, r_23, hf⟩ := peel hf
  obtain ⟨b9, rfl, w_b9⟩ := r_23
  obtain ⟨v_b10, s_24, q_24, r_24, hf⟩ := peel hf
  obtain ⟨b10, rfl, w_b10⟩ := r_24
  obtain ⟨v_b11, s_25, q_25, r_25, hf⟩ := peel hf
  obtain ⟨b11, rfl, w_b11⟩ := r_25
  obtain ⟨v_b12, s_26, q_26, r_26, hf⟩ := peel hf
  obtain ⟨b12, rfl, w_b12⟩ := r_26
  obtain ⟨v_b13, s_27, q_27, r_27, hf⟩ := peel hf
  obtain ⟨b13, rfl, w_b13⟩ := r_27
  obtain ⟨v_b14, s_28, q_28, r_28, hf⟩ := peel hf
  obtain ⟨b14, rfl, w_b14⟩ := r_28
  obtain ⟨v_b15, s_29, q_29, r_29, hf⟩ := peel hf
  obtain ⟨b15, rfl, w_b15⟩ := r_29
  obtain ⟨v_kh, s_30, q_30, r_30, hf⟩ := peel hf
  obtain ⟨kh, rfl, w_kh⟩ := r_30
  obtain ⟨v_t1, s_31, q_31, r_31, hf⟩ := peel hf
  obtain ⟨t1, rfl, w_t1⟩ := r_31
  obtain ⟨v_t2, s_32, q_32, r_32, hf⟩ := peel hf
  obtain ⟨t2, rfl, w_t2⟩ := r_32
  obtain ⟨v_t3, s_33, q_33, r_33, hf⟩ := peel hf
  obtain ⟨t3, rfl, w_t3⟩ := r_33
  obtain ⟨v_cd, s_34, q_34, r_34, hf⟩ := peel hf
  obtain ⟨cd, rfl, w_cd⟩ := r_34
  obtain ⟨v_cp, s_35, q_35, r_35, hf⟩ := peel hf
  obtain ⟨f_cp, x_cp, h_cp⟩ := r_35
  obtain ⟨v_tx, s_36, q_36, r_36, hf⟩ := peel hf
  obtain ⟨tx, rfl, z_tx⟩ := r_36
  obtain ⟨cp, g_cp, r_cp, n_cp⟩ := rd40 h_cp
  obtain ⟨pp, g_pp, r_pp, n_pp⟩ := rd31 h_pp
  have e2 : vs = [Value.int .u8 nv, Value.int .u8 nk, Value.int .u16 ns, Value.int .u32 nr, .bool na, Value.int .u32 oa, Value.int .u8 of, Value.int .u64 oh, Value.int .u64 ol, Value.int .i64 on, Value.int .i64 om, Value.int .u32 pc, v_pp, Value.int .u32 ka, Value.int .u8 b0, Value.int .u8 b1, Value.int .u8 b2, Value.int .u8 b3, Value.int .u8 b4, Value.int .u8 b5, Value.int .u8 b6, Value.int .u8 b7, Value.int .u8 b8, Value.int .u8 b9, Value.int .u8 b10, Value.int .u8 b11, Value.int .u8 b12, Value.int .u8 b13, Value.int .u8 b14, Value.int .u8 b15, Value.int .i64 kh, Value.int .u32 t1, Value.int .u32 t2, Value.int .u32 t3, Value.int .u16 cd, v_cp, .string tx].toArray := by
    rw [← Array.toList_inj]
    show vs.toList = _
    rw [show vs.toList = _ from q_0, q_1, q_2, q_3, q_4, q_5, q_6, q_7, q_8, q_9, q_10, q_11, q_12, q_13, q_14, q_15, q_16, q_17, q_18, q_19, q_20, q_21, q_22, q_23, q_24, q_25, q_26, q_27, q_28, q_29, q_30, q_31, q_32, q_33, q_34, q_35, q_36, hf]
  rw [e2]
  clear e2 hf q_0 q_1 q_2 q_3 q_4 q_5 q_6 q_7 q_8 q_9 q_10 q_11 q_12 q_13 q_14 q_15 q_16 q_17 q_18 q_19 q_20 q_21 q_22 q_23 q_24 q_25 q_26 q_27 q_28 q_29 q_30 q_31 q_32 q_33 q_34 q_35 q_36
  have hm : maxLen = 2 ^ 63 - 1 := rfl
  have hI : IRep w (allF w) (.agg [u8 nv, u8 nk, u16 ns, u32 nr, bo na, u32 oa, u8 of, u64 oh, u64 ol, i64 on, i64 om, u32 pc, lu32 pp, u32 ka, u8 b0, u8 b1, u8 b2, u8 b3, u8 b4, u8 b5, u8 b6, u8 b7, u8 b8, u8 b9, u8 b10, u8 b11, u8 b12, u8 b13, u8 b14, u8 b15, i64 kh, u32 t1, u32 t2, u32 t3, u16 cd, lu8 cp, st tx]) (.agg [Value.int .u8 nv, Value.int .u8 nk, Value.int .u16 ns, Value.int .u32 nr, .bool na, Value.int .u32 oa, Value.int .u8 of, Value.int .u64 oh, Value.int .u64 ol, Value.int .i64 on, Value.int .i64 om, Value.int .u32 pc, v_pp, Value.int .u32 ka, Value.int .u8 b0, Value.int .u8 b1, Value.int .u8 b2, Value.int .u8 b3, Value.int .u8 b4, Value.int .u8 b5, Value.int .u8 b6, Value.int .u8 b7, Value.int .u8 b8, Value.int .u8 b9, Value.int .u8 b10, Value.int .u8 b11, Value.int .u8 b12, Value.int .u8 b13, Value.int .u8 b14, Value.int .u8 b15, Value.int .i64 kh, Value.int .u32 t1, Value.int .u32 t2, Value.int .u32 t3, Value.int .u16 cd, v_cp, .string tx].toArray) := ia (ic iv (ic iv (ic iv (ic iv (ic ib (ic iv (ic iv (ic iv (ic iv (ic iv (ic iv (ic iv (ic g_pp (ic iv (ic iv (ic iv (ic iv (ic iv (ic iv (ic iv (ic iv (ic iv (ic iv (ic iv (ic iv (ic iv (ic iv (ic iv (ic iv (ic iv (ic iv (ic iv (ic iv (ic iv (ic iv (ic g_cp (ic is in0))))))))))))))))))))))))))))))))))))) rfl
  have hE : encD ⟨nv, nk, ns, nr, na, ⟨oa, ⟨of, ⟨oh, ol⟩, on⟩, om⟩, ⟨pc, pp⟩, ⟨ka, #v[b0, b1, b2, b3, b4, b5, b6, b7, b8, b9, b10, b11, b12, b13, b14, b15], kh⟩, t1, t2, t3, cd, cp, tx⟩ = .agg [u8 nv, u8 nk, u16 ns, u32 nr, bo na, u32 oa, u8 of, u64 oh, u64 ol, i64 on, i64 om, u32 pc, lu32 pp, u32 ka, u8 b0, u8 b1, u8 b2, u8 b3, u8 b4, u8 b5, u8 b6, u8 b7, u8 b8, u8 b9, u8 b10, u8 b11, u8 b12, u8 b13, u8 b14, u8 b15, i64 kh, u32 t1, u32 t2, u32 t3, u16 cd, lu8 cp, st tx] := by kernel_rfl
  refine ⟨⟨nv, nk, ns, nr, na, ⟨oa, ⟨of, ⟨oh, ol⟩, on⟩, om⟩, ⟨pc, pp⟩, ⟨ka, #v[b0, b1, b2, b3, b4, b5, b6, b7, b8, b9, b10, b11, b12, b13, b14, b15], kh⟩, t1, t2, t3, cd, cp, tx⟩, by rw [hE]; exact hI, ⟨r_cp, ?_⟩, hm ▸ n_cp, hm ▸ n_pp, ⟨wf_u8 w_nv, wf_u8 w_nk, wf_u16 w_ns, wf_u32 w_nr, wf_u32 w_oa, ⟨wf_u64 w_oh, wf_u64 w_ol⟩, wf_u32 w_pc, r_pp, wf_u32 w_ka, wf_u32 w_t1, wf_u32 w_t2, wf_u32 w_t3, wf_u16 w_cd⟩⟩
  clear hI hE
  intro z hz
  have hz : z ∈ [b0, b1, b2, b3, b4, b5, b6, b7, b8, b9, b10, b11, b12, b13, b14, b15] := hz
  simp only [List.mem_cons, List.not_mem_nil, or_false] at hz
  rcases hz with rfl | rfl | rfl | rfl | rfl | rfl | rfl | rfl | rfl | rfl | rfl | rfl | rfl | rfl | rfl | rfl
  all_goals (apply wf_u8; assumption)
end
end Gp
namespace Gp
theorem gN1 (x : Int) (r : List Int) (h : 0 ≤ x ∧ x < 256) : getV (num x 1 ++ r) 1 = x := by
  rw [num1]
  show getV (_ :: r) 1 = x
  rw [getV1 _ r (by omega)]; omega
theorem gN2 (x : Int) (r : List Int) (h : 0 ≤ x ∧ x < 65536) : getV (num x 2 ++ r) 2 = x := by
  rw [num2]
  show getV (_ :: _ :: r) 2 = x
  rw [getV2 _ _ r (by omega) (by omega)]; omega
theorem gN8 (x : Int) (r : List Int) (h : 0 ≤ x ∧ x < 2 ^ 64) : getV (num x 8 ++ r) 8 = x := by
  rw [num8]
  show getV (_ :: _ :: _ :: _ :: _ :: _ :: _ :: _ :: r) 8 = x
  rw [getV8 _ _ _ _ _ _ _ _ r (by omega) (by omega) (by omega) (by omega) (by omega) (by omega) (by omega) (by omega)]; omega
theorem gFl (b : Bool) (r : List Int) : getV (flI b ++ r) 1 = if b = true then 1 else 0 := by
  unfold flI
  rw [gN1 _ r (by split <;> omega)]
theorem gFd (b : Bool) (r : List Int) : decide (getV (flI b ++ r) 1 = 1) = b := by
  rw [gFl]; cases b <;> rfl
theorem gFle (b : Bool) (r : List Int) : getV (flI b ++ r) 1 ≤ 1 := by
  rw [gFl]; cases b <;> decide
theorem dA (a r : List Int) (k : Nat) (h : a.length = k) (n : Nat) : (a ++ r).drop (k + n) = r.drop n := by
  subst h; rw [List.drop_append]; simp
theorem d1 (x : Int) (r : List Int) (n : Nat) : (num x 1 ++ r).drop (1 + n) = r.drop n := dA _ r 1 (num_len _ _) n
theorem dF1 (b : Bool) (r : List Int) (n : Nat) : (flI b ++ r).drop (1 + n) = r.drop n := dA _ r 1 (flI_len _) n
theorem d4 (x : Int) (r : List Int) (n : Nat) : (num x 4 ++ r).drop (4 + n) = r.drop n := dA _ r 4 (num_len _ _) n
theorem d8' (x : Int) (r : List Int) (n : Nat) : (num x 8 ++ r).drop (8 + n) = r.drop n := dA _ r 8 (num_len _ _) n
theorem u32N (x : Int) (r : List Int) (h : 0 ≤ x ∧ x < 4294967296) : gu32 (num (w64 x) 4 ++ r) = x := by
  unfold gu32
  rw [w64_id h.1 (by omega), getV_num4 x r h.1 (by omega)]
  show x % 4294967296 = x
  omega
theorem u16N (x : Int) (r : List Int) (h : 0 ≤ x ∧ x < 65536) : gu16 (num (w64 x) 2 ++ r) = x := by
  unfold gu16
  rw [w64_id h.1 (by omega), gN2 x r h]
  show x % 65536 = x
  omega
theorem u8N (x : Int) (r : List Int) (h : 0 ≤ x ∧ x < 256) : gu8 (num (w64 x) 1 ++ r) = x := by
  unfold gu8
  rw [w64_id h.1 (by omega), gN1 x r h]
  show x % 256 = x
  omega
theorem giN (x : Int) (r : List Int) (h : 0 ≤ x ∧ x < 256) : gi (num (w64 x) 1 ++ r) = x := by
  unfold gi
  rw [w64_id h.1 (by omega), gN1 x r h]
  exact IntWalk.i64_in _ (by omega)
theorem gnN (x : Int) (r : List Int) (h : 0 ≤ x ∧ x < 4294967296) : gn (num (w64 x) 4 ++ r) = x := by
  unfold gn
  rw [w64_id h.1 (by omega), getV_num4 x r h.1 (by omega)]
  exact IntWalk.i64_in _ (by omega)
theorem bstr_bytesL (s : ByteArray) : bstr (bytesL s) = s := by
  have e : (bstr (bytesL s)).data.toList = s.data.toList := by
    unfold bstr bytesL
    rw [bstr_data]
    show ([] : List UInt8) ++ _ = _
    rw [List.nil_append, List.map_map]
    refine List.ext_getElem (by simp) fun i h1 h2 => ?_
    simp
  have e2 : (bstr (bytesL s)).data = s.data := Array.ext' e
  cases s with | mk d => cases hb : bstr (bytesL ⟨d⟩) with | mk d' => rw [hb] at e2; exact congrArg ByteArray.mk e2
theorem pvL_cons (x : Int) (l : List Int) : pvL (x :: l) = num (w64 x) 4 ++ pvL l := rfl
theorem pvL_drop : ∀ (l : List Int) (i : Nat), (pvL l).drop (4 * i) = pvL (l.drop i)
  | _, 0 => rfl
  | [], i + 1 => by simp [pvL]
  | x :: l, i + 1 => by
    rw [pvL_cons, show 4 * (i + 1) = 4 + 4 * i from by omega, d4, pvL_drop l i]; rfl
theorem pv_fwd (l : List Int) (h : ∀ x ∈ l, 0 ≤ x ∧ x < 4294967296) : pvR (pvL l) l.length = l := by
  refine List.ext_getElem (pvR_len _ _) fun i h1 h2 => ?_
  show (pvR (pvL l) l.length)[i] = l[i]
  simp only [pvR, List.getElem_map, List.getElem_range]
  rw [pvL_drop, List.drop_eq_getElem_cons h2, pvL_cons]
  exact u32N _ _ (h _ (List.getElem_mem h2))
end Gp
namespace Gp
def encR (p : Pdu) : List Int := num (w64 (IntKind.i64.wrap (8 + ((rsL p).length : Int)))) 4 ++ rsL p
theorem enc_eq (p : Pdu) : encB p = num (w64 p.version) 1 ++ (num (w64 p.kind) 1 ++ (hdL p ++ encR p)) := by unfold encB encR; simp only [List.append_assoc]
theorem fw_v (p : Pdu) (hr : p.rng) : gu8 (encB p) = p.version := by rw [enc_eq]; exact u8N _ _ hr.v
theorem fw_1 (p : Pdu) : (encB p).drop 1 = num (w64 p.kind) 1 ++ (hdL p ++ encR p) := by rw [enc_eq]; exact d1 _ _ 0
theorem fw_k (p : Pdu) (hr : p.rng) : kR1 (encB p) = p.kind := by unfold kR1; rw [fw_1]; exact u8N _ _ hr.k
theorem fw_2 (p : Pdu) : d2 (encB p) = hdL p ++ encR p := by unfold d2; rw [fw_1]; exact d1 _ _ 0
theorem fw_8 (p : Pdu) : d8 (encB p) = rsL p := by
  unfold d8; rw [fw_2]
  have e : (hdL p ++ encR p).drop 2 = encR p := dA _ _ 2 (hdL_len p) 0
  rw [e]; exact d4 _ _ 0
theorem rdOk_i {l : List Int} (h8 : 8 ≤ l.length) (hk : isK (kR1 l)) (hF : kF (kR1 l) (d2 l) = true) (hT : kTT (gu8 l) (kR1 l) (d8 l) = true) : rdOk l = true := by
  simp only [rdOk, h8, hk, hF, hT, decide_true, Bool.and_self]
theorem num02 : num 0 2 = num 0 1 ++ num 0 1 := by rw [num2, num1]; rfl
theorem fw_F (p : Pdu) (hk : isK p.kind) : kF p.kind (hdL p ++ encR p) = true := by
  have hl : 2 ≤ (hdL p ++ encR p).length := by rw [List.length_append, hdL_len]; omega
  unfold kF
  by_cases h9 : p.kind = 9 ∨ p.kind = 11
  · rw [if_pos h9]
    have e : hdL p = hd63 p := if_pos h9
    refine decide_eq_true ⟨hl, ?_, ?_⟩
    · rw [e, hd63, List.append_assoc]; exact gFle _ _
    · rw [e, hd63, List.append_assoc]
      have e2 : (flI p.add ++ (num 0 1 ++ encR p)).drop 1 = num 0 1 ++ encR p := dF1 _ _ 0
      rw [e2]; exact gN1 _ _ (by omega)
  rw [if_neg h9]
  by_cases h2 : p.kind = 2 ∨ p.kind = 8 ∨ p.kind = 4 ∨ p.kind = 6
  · rw [if_pos h2]
    have e : hdL p = hd52 p := by unfold hdL; rw [if_neg h9, if_neg (by omega), if_pos h2]
    refine decide_eq_true ⟨hl, ?_, ?_⟩
    · rw [e, hd52, num02, List.append_assoc]; exact gN1 _ _ (by omega)
    · rw [e, hd52, num02, List.append_assoc]
      have e2 : (num 0 1 ++ (num 0 1 ++ encR p)).drop 1 = num 0 1 ++ encR p := d1 _ _ 0
      rw [e2]; exact gN1 _ _ (by omega)
  · rw [if_neg h2]; exact decide_eq_true hl
theorem fw_s (p : Pdu) (hr : p.rng) (h : p.kind = 0 ∨ p.kind = 1 ∨ p.kind = 3 ∨ p.kind = 7) : gu16 (hdL p ++ encR p) = p.session := by
  have e : hdL p = hd48 p := by unfold hdL; rw [if_neg (by omega), if_neg (by omega), if_neg (by omega)]
  rw [e]; exact u16N _ _ hr.s
theorem fw_c (p : Pdu) (hr : p.rng) (h : p.kind = 10) : gu16 (hdL p ++ encR p) = p.code := by
  have e : hdL p = hd68 p := by unfold hdL; rw [if_neg (by omega), if_pos h]
  rw [e]; exact u16N _ _ hr.co
theorem fw_a (p : Pdu) (h : p.kind = 9 ∨ p.kind = 11) : decide (getV (hdL p ++ encR p) 1 = 1) = p.add := by
  have e : hdL p = hd63 p := if_pos h
  rw [e, hd63, List.append_assoc]; exact gFd _ _
def fwd (p : Pdu) : Prop := kTT p.version p.kind (rsL p) = true ∧ rdV (encB p) = bare p ∧ rdR (encB p) = true
theorem fw_p1 (p : Pdu) (hr : p.rng) : p1 (encB p) = z1 p.version p.kind (sF p.kind (hdL p ++ encR p)) (aF p.kind (hdL p ++ encR p)) (cF p.kind (hdL p ++ encR p)) := by
  unfold p1; rw [fw_v p hr, fw_k p hr, fw_2]
theorem fw_S (p : Pdu) (hr : p.rng) (hS : isS p.kind) : rdV (encB p) = tS (z1 p.version p.kind (sF p.kind (hdL p ++ encR p)) false 0) (rsL p) := by
  unfold isS at hS
  unfold rdV rdS
  rw [fw_k p hr, if_neg (by omega), if_neg (by omega), if_neg (by omega), fw_p1 p hr, fw_8]
  have e1 : aF p.kind (hdL p ++ encR p) = false := by unfold aF; rw [if_neg (by omega)]
  have e2 : cF p.kind (hdL p ++ encR p) = 0 := by unfold cF; rw [if_neg (by omega)]
  rw [e1, e2]
theorem fw_R (p : Pdu) (hr : p.rng) (hS : isS p.kind) (h : (rsL p).length = tN p.version p.kind) : rdR (encB p) = true := by
  unfold isS at hS
  unfold rdR
  rw [fw_k p hr, if_neg (by omega), if_neg (by omega), if_neg (by omega), fw_8, fw_v p hr, List.length_drop, h]
  simp
theorem u32e (x : Int) (h : 0 ≤ x ∧ x < 4294967296) : gu32 (num (w64 x) 4) = x := by have := u32N x [] h; rwa [List.append_nil] at this
theorem zS_4 {v k s : Int} {l : List Int} (h : k = 4 ∨ k = 6) : tS (z1 v k s false 0) l = (z1 v k s false 0).withO l := if_pos h
theorem zS_7 {v k s : Int} {l : List Int} (h : k = 7) : tS (z1 v k s false 0) l = (z1 v k s false 0).withE l := (if_neg (show ¬ (k = 4 ∨ k = 6) by omega)).trans (if_pos h)
theorem zS_0 {v k s : Int} {l : List Int} (h : k = 0 ∨ k = 1) : tS (z1 v k s false 0) l = (z1 v k s false 0).withSerial (gu32 l) := (if_neg (show ¬ (k = 4 ∨ k = 6) by omega)).trans ((if_neg (show ¬ k = 7 by omega)).trans (if_pos h))
theorem zS_n {v k s : Int} {l : List Int} (h : ¬ (k = 4 ∨ k = 6 ∨ k = 7 ∨ k = 0 ∨ k = 1)) : tS (z1 v k s false 0) l = z1 v k s false 0 := (if_neg (show ¬ (k = 4 ∨ k = 6) by omega)).trans ((if_neg (show ¬ k = 7 by omega)).trans (if_neg (show ¬ (k = 0 ∨ k = 1) by omega)))
theorem fwd0 (p : Pdu) (hr : p.rng) (h : p.kind = 0 ∨ p.kind = 1) : fwd p := by
  have hS : isS p.kind := by unfold isS; omega
  have e : rsL p = num (w64 p.serial) 4 := rs_0 h
  have hl : (rsL p).length = 4 := by rw [e, num_len]; rfl
  refine ⟨?_, ?_, fw_R p hr hS ?_⟩
  · rw [kT_S hS]; unfold kT; rw [if_neg (by omega), if_neg (by omega), if_pos h]
    exact decide_eq_true (by omega)
  · rw [fw_S p hr hS, bare0 h]
    have es : sF p.kind (hdL p ++ encR p) = p.session := by unfold sF; rw [if_pos (by omega)]; exact fw_s p hr (by omega)
    rw [es, e, zS_0 h, u32e _ hr.n]
    rfl
  · rw [hl]; unfold tN; rw [if_neg (by omega), if_neg (by omega), if_pos h]
theorem fwd2 (p : Pdu) (hr : p.rng) (h : p.kind = 2 ∨ p.kind = 8 ∨ p.kind = 3) : fwd p := by
  have hS : isS p.kind := by unfold isS; omega
  have e : rsL p = [] := rs_2 h
  refine ⟨?_, ?_, fw_R p hr hS ?_⟩
  · rw [kT_S hS]; unfold kT; rw [if_neg (by omega), if_neg (by omega), if_neg (by omega)]
  · rw [fw_S p hr hS, zS_n (by omega)]
    by_cases h3 : p.kind = 3
    · have es : sF p.kind (hdL p ++ encR p) = p.session := by unfold sF; rw [if_pos (by omega)]; exact fw_s p hr (by omega)
      rw [es, bare3 h3]
    · have es : sF p.kind (hdL p ++ encR p) = 0 := by unfold sF; rw [if_neg (by omega)]
      rw [es, bareN (by omega)]
  · rw [e]; unfold tN; rw [if_neg (by omega), if_neg (by omega), if_neg (by omega)]; rfl
theorem fwd7 (p : Pdu) (hr : p.rng) (h : p.kind = 7) : fwd p := by
  have hS : isS p.kind := by unfold isS; omega
  have e : rsL p = rs60 p := rs_7 h
  have es : sF p.kind (hdL p ++ encR p) = p.session := by unfold sF; rw [if_pos (by omega)]; exact fw_s p hr (by omega)
  have hl : (rsL p).length = eN p.version := by
    rw [e]; unfold rs60 rs49 eN
    split <;> simp [num_len]
  refine ⟨?_, ?_, fw_R p hr hS ?_⟩
  · rw [kT_S hS]; unfold kT; rw [if_neg (by omega), if_pos h]
    exact decide_eq_true (by omega)
  · rw [fw_S p hr hS, es, e, zS_7 h]
    unfold Pdu.withE rs60 rs49
    by_cases hv : 0 < p.version
    · have q0 : num (w64 p.serial) 4 ++ (num (w64 p.refresh) 4 ++ num (w64 p.retry) 4 ++ num (w64 p.expire) 4) = num (w64 p.serial) 4 ++ (num (w64 p.refresh) 4 ++ (num (w64 p.retry) 4 ++ num (w64 p.expire) 4)) := by simp only [List.append_assoc]
      have q1 : (num (w64 p.serial) 4 ++ (num (w64 p.refresh) 4 ++ (num (w64 p.retry) 4 ++ num (w64 p.expire) 4))).drop 4 = num (w64 p.refresh) 4 ++ (num (w64 p.retry) 4 ++ num (w64 p.expire) 4) := d4 _ _ 0
      have q2 : (num (w64 p.serial) 4 ++ (num (w64 p.refresh) 4 ++ (num (w64 p.retry) 4 ++ num (w64 p.expire) 4))).drop 8 = num (w64 p.retry) 4 ++ num (w64 p.expire) 4 := (d4 _ _ 4).trans (d4 _ _ 0)
      have q3 : (num (w64 p.serial) 4 ++ (num (w64 p.refresh) 4 ++ (num (w64 p.retry) 4 ++ num (w64 p.expire) 4))).drop 12 = num (w64 p.expire) 4 := (d4 _ _ 8).trans ((d4 _ _ 4).trans (d4 _ _ 0))
      rw [if_pos (show 0 < (z1 p.version p.kind p.session false 0).version from hv), if_pos hv, bare7 h hv, q0, q1, q2, q3, u32N _ _ hr.n, u32N _ _ hr.t1, u32N _ _ hr.t2, u32e _ hr.t3]
    · rw [if_neg (show ¬ 0 < (z1 p.version p.kind p.session false 0).version from hv), if_neg hv, bare7' h hv, List.append_nil, u32e _ hr.n]
  · rw [hl]; unfold tN; rw [if_neg (by omega), if_pos h]
theorem ori_t {o : Origin} {f : Int} (hf : f = 4 ∨ f = 6) (h : oriF o f = true) : o.pfx.fam = f ∧ (0 ≤ o.pfx.len ∧ o.pfx.len < 256) ∧ (0 ≤ o.max ∧ o.max < 256) ∧ ckA f o.pfx.addr = true := by
  unfold oriF at h
  simp only [Bool.and_eq_true, decide_eq_true_eq] at h
  obtain ⟨h1, h2, h3, h4⟩ := h
  have hw : width f ≤ 128 := width_le f
  unfold ckP' at h1
  split at h1
  · cases h1
  split at h1
  · rename_i h5
    simp only [Bool.and_eq_true, decide_eq_true_eq] at h5
    rw [h2] at h5
    exact ⟨h2, ⟨h5.1.1.2, by omega⟩, ⟨by omega, by omega⟩, h5.1.1.1⟩
  · cases h1
theorem fwd4 (p : Pdu) (hr : p.rng) (h : p.kind = 4) (hf : oriF p.origin 4 = true) : fwd p := by
  have hS : isS p.kind := by unfold isS; omega
  obtain ⟨f1, f2, f3, f4⟩ := ori_t (.inl rfl) hf
  have ha : p.origin.pfx.addr.hi = 0 ∧ p.origin.pfx.addr.lo < 4294967296 := by
    unfold ckA at f4
    simp only [Bool.or_eq_true, Bool.and_eq_true, decide_eq_true_eq] at f4
    omega
  have e : rsL p = flI p.add ++ (num (w64 p.origin.pfx.len) 1 ++ (num (w64 p.origin.max) 1 ++ (num 0 1 ++ (num p.origin.pfx.addr.lo 4 ++ num (w64 p.origin.asn) 4)))) := by
    rw [rs_4 (.inl h)]; unfold rs57; rw [if_neg (by omega)]; simp only [List.append_assoc]
  have hl : (rsL p).length = 12 := by rw [e]; simp [flI_len, num_len]
  have q1 : (rsL p).drop 1 = num (w64 p.origin.pfx.len) 1 ++ (num (w64 p.origin.max) 1 ++ (num 0 1 ++ (num p.origin.pfx.addr.lo 4 ++ num (w64 p.origin.asn) 4))) := by rw [e]; exact dF1 _ _ 0
  have q2 : (rsL p).drop 2 = num (w64 p.origin.max) 1 ++ (num 0 1 ++ (num p.origin.pfx.addr.lo 4 ++ num (w64 p.origin.asn) 4)) := by rw [e]; exact (dF1 _ _ 1).trans (d1 _ _ 0)
  have q3 : (rsL p).drop 3 = num 0 1 ++ (num p.origin.pfx.addr.lo 4 ++ num (w64 p.origin.asn) 4) := by rw [e]; exact (dF1 _ _ 2).trans ((d1 _ _ 1).trans (d1 _ _ 0))
  have q4 : (rsL p).drop 4 = num p.origin.pfx.addr.lo 4 ++ num (w64 p.origin.asn) 4 := by rw [e]; exact (dF1 _ _ 3).trans ((d1 _ _ 2).trans ((d1 _ _ 1).trans (d1 _ _ 0)))
  have q8 : (rsL p).drop 8 = num (w64 p.origin.asn) 4 := by rw [e]; exact (dF1 _ _ 7).trans ((d1 _ _ 6).trans ((d1 _ _ 5).trans ((d1 _ _ 4).trans (d4 _ _ 0))))
  have a0 : getV (rsL p) 1 ≤ 1 := by rw [e]; exact gFle _ _
  have ad : decide (getV (rsL p) 1 = 1) = p.add := by rw [e]; exact gFd _ _
  refine ⟨?_, ?_, fw_R p hr hS ?_⟩
  · rw [kT_S hS]; unfold kT; rw [if_pos (.inl h)]
    refine decide_eq_true ⟨?_, a0, ?_⟩
    · rw [hl]; unfold oN; rw [if_neg (by omega)]; omega
    · rw [q3]; exact gN1 _ _ (by omega)
  · rw [fw_S p hr hS, bare4 (.inl h)]
    have es : sF p.kind (hdL p ++ encR p) = 0 := by unfold sF; rw [if_neg (by omega)]
    rw [es, zS_4 (.inl h)]
    unfold Pdu.withO oV
    rw [ad, if_neg (show ¬ (z1 p.version p.kind 0 false 0).kind = 6 from fun h6 => by have h6 : p.kind = 6 := h6; omega), q1, q2, q4, q8, giN _ _ f2, giN _ _ f3, getV_num4 _ _ hr.ad.2.1 (by omega)]
    have e5 : IntKind.u32.wrap (getV (num (w64 p.origin.asn) 4) 4) = p.origin.asn := u32e _ hr.oa
    rw [e5, ← ha.1, ← f1]; rfl
  · rw [hl]; unfold tN oN; rw [if_pos (.inl h), if_neg (by omega)]
theorem fwd6 (p : Pdu) (hr : p.rng) (h : p.kind = 6) (hf : oriF p.origin 6 = true) : fwd p := by
  have hS : isS p.kind := by unfold isS; omega
  obtain ⟨f1, f2, f3, f4⟩ := ori_t (.inr rfl) hf
  have e : rsL p = flI p.add ++ (num (w64 p.origin.pfx.len) 1 ++ (num (w64 p.origin.max) 1 ++ (num 0 1 ++ (num p.origin.pfx.addr.hi 8 ++ (num p.origin.pfx.addr.lo 8 ++ num (w64 p.origin.asn) 4))))) := by
    rw [rs_4 (.inr h)]; unfold rs57; rw [if_pos h]; simp only [List.append_assoc]
  have hl : (rsL p).length = 24 := by rw [e]; simp [flI_len, num_len]
  have q1 : (rsL p).drop 1 = num (w64 p.origin.pfx.len) 1 ++ (num (w64 p.origin.max) 1 ++ (num 0 1 ++ (num p.origin.pfx.addr.hi 8 ++ (num p.origin.pfx.addr.lo 8 ++ num (w64 p.origin.asn) 4)))) := by rw [e]; exact dF1 _ _ 0
  have q2 : (rsL p).drop 2 = num (w64 p.origin.max) 1 ++ (num 0 1 ++ (num p.origin.pfx.addr.hi 8 ++ (num p.origin.pfx.addr.lo 8 ++ num (w64 p.origin.asn) 4))) := by rw [e]; exact (dF1 _ _ 1).trans (d1 _ _ 0)
  have q3 : (rsL p).drop 3 = num 0 1 ++ (num p.origin.pfx.addr.hi 8 ++ (num p.origin.pfx.addr.lo 8 ++ num (w64 p.origin.asn) 4)) := by rw [e]; exact (dF1 _ _ 2).trans ((d1 _ _ 1).trans (d1 _ _ 0))
  have q4 : (rsL p).drop 4 = num p.origin.pfx.addr.hi 8 ++ (num p.origin.pfx.addr.lo 8 ++ num (w64 p.origin.asn) 4) := by rw [e]; exact (dF1 _ _ 3).trans ((d1 _ _ 2).trans ((d1 _ _ 1).trans (d1 _ _ 0)))
  have q12 : (rsL p).drop 12 = num p.origin.pfx.addr.lo 8 ++ num (w64 p.origin.asn) 4 := by rw [e]; exact (dF1 _ _ 11).trans ((d1 _ _ 10).trans ((d1 _ _ 9).trans ((d1 _ _ 8).trans (d8' _ _ 0))))
  have q20 : (rsL p).drop 20 = num (w64 p.origin.asn) 4 := by rw [e]; exact (dF1 _ _ 19).trans ((d1 _ _ 18).trans ((d1 _ _ 17).trans ((d1 _ _ 16).trans ((d8' _ _ 8).trans (d8' _ _ 0)))))
  have a0 : getV (rsL p) 1 ≤ 1 := by rw [e]; exact gFle _ _
  have ad : decide (getV (rsL p) 1 = 1) = p.add := by rw [e]; exact gFd _ _
  refine ⟨?_, ?_, fw_R p hr hS ?_⟩
  · rw [kT_S hS]; unfold kT; rw [if_pos (.inr h)]
    refine decide_eq_true ⟨?_, a0, ?_⟩
    · rw [hl]; unfold oN; rw [if_pos h]; omega
    · rw [q3]; exact gN1 _ _ (by omega)
  · rw [fw_S p hr hS, bare4 (.inr h)]
    have es : sF p.kind (hdL p ++ encR p) = 0 := by unfold sF; rw [if_neg (by omega)]
    rw [es, zS_4 (.inr h)]
    unfold Pdu.withO oV
    rw [ad, if_pos (show (z1 p.version p.kind 0 false 0).kind = 6 from h), q1, q2, q4, q12, q20, giN _ _ f2, giN _ _ f3, gN8 _ _ hr.ad.1, gN8 _ _ hr.ad.2]
    have e5 : IntKind.u32.wrap (getV (num (w64 p.origin.asn) 4) 4) = p.origin.asn := u32e _ hr.oa
    rw [e5, ← f1]; rfl
  · rw [hl]; unfold tN oN; rw [if_pos (.inr h), if_pos h]
end Gp
namespace Gp
theorem root_eq (v : Vector Int 16) : #v[v[0], v[1], v[2], v[3], v[4], v[5], v[6], v[7], v[8], v[9], v[10], v[11], v[12], v[13], v[14], v[15]] = v := by
  refine Vector.ext fun i hi => ?_
  match i, hi with
  | 0, _ => rfl
  | 1, _ => rfl
  | 2, _ => rfl
  | 3, _ => rfl
  | 4, _ => rfl
  | 5, _ => rfl
  | 6, _ => rfl
  | 7, _ => rfl
  | 8, _ => rfl
  | 9, _ => rfl
  | 10, _ => rfl
  | 11, _ => rfl
  | 12, _ => rfl
  | 13, _ => rfl
  | 14, _ => rfl
  | 15, _ => rfl
  | n + 16, h => omega
theorem fwd9 (p : Pdu) (hr : p.rng) (h : p.kind = 9) (hf : ck62 p = true) : fwd p := by
  unfold ck62 at hf
  simp only [Bool.and_eq_true, decide_eq_true_eq] at hf
  have e : rsL p = num (w64 p.key.asn) 4 ++ (num (w64 p.key.height) 1 ++ rootL p.key) := by rw [rs_9 h]; unfold rs64; rw [List.append_assoc]
  have hl : (rsL p).length = 21 := by rw [e]; simp [num_len, rootL]
  have q4 : (rsL p).drop 4 = num (w64 p.key.height) 1 ++ rootL p.key := by rw [e]; exact d4 _ _ 0
  have q5 : (rsL p).drop 5 = rootL p.key := by rw [e]; exact (d4 _ _ 1).trans (d1 _ _ 0)
  refine ⟨?_, ?_, ?_⟩
  · unfold kTT; rw [if_pos h]; exact decide_eq_true (by omega)
  · unfold rdV rdK
    rw [fw_k p hr, if_pos h, fw_8, fw_2, fw_v p hr, fw_a p (.inl h), bare9 h]
    unfold kR
    rw [q5, q4, giN _ _ (by omega)]
    have e1 : gu32 (rsL p) = p.key.asn := by rw [e]; exact u32N _ _ hr.ka
    rw [e1]
    show zK _ _ _ _ _ ⟨_, #v[p.key.root[0], p.key.root[1], p.key.root[2], p.key.root[3], p.key.root[4], p.key.root[5], p.key.root[6], p.key.root[7], p.key.root[8], p.key.root[9], p.key.root[10], p.key.root[11], p.key.root[12], p.key.root[13], p.key.root[14], p.key.root[15]], _⟩ = _
    rw [root_eq]; rfl
  · unfold rdR; rw [fw_k p hr, if_pos h, fw_8, List.length_drop, hl]; rfl
theorem fwd10 (p : Pdu) (hr : p.rng) (h : p.kind = 10) (hs : small p) : fwd p := by
  unfold small at hs
  have e : rsL p = num (w64 p.copy.length) 4 ++ (p.copy ++ (num (w64 p.text.size) 4 ++ bytesL p.text)) := by rw [rs_10 h]; unfold rs69; simp only [List.append_assoc]
  have hbl : (bytesL p.text).length = p.text.size := by simp [bytesL]
  have hl : (rsL p).length = 8 + p.copy.length + p.text.size := by rw [e]; simp [num_len, hbl]; omega
  have g1 : gn (rsL p) = p.copy.length := by rw [e]; exact gnN _ _ (by omega)
  have q4 : (rsL p).drop 4 = p.copy ++ (num (w64 p.text.size) 4 ++ bytesL p.text) := by rw [e]; exact d4 _ _ 0
  have f1 : fL1 (rsL p) = num (w64 p.text.size) 4 ++ bytesL p.text := by
    unfold fL1; rw [g1, q4, Int.toNat_natCast]; exact dA _ _ _ rfl 0
  have f2 : fCopy (rsL p) = p.copy := by
    unfold fCopy; rw [g1, q4, Int.toNat_natCast]; exact List.take_left
  have g2 : gn (fL1 (rsL p)) = p.text.size := by rw [f1]; exact gnN _ _ (by omega)
  have q5 : (fL1 (rsL p)).drop 4 = bytesL p.text := by rw [f1]; exact d4 _ _ 0
  have f3 : fText (rsL p) = bytesL p.text := by
    unfold fText; rw [g2, q5, Int.toNat_natCast]; exact List.take_of_length_le (by omega)
  have f4 : (fRest (rsL p)).length = 0 := by
    unfold fRest; rw [g2, q5, Int.toNat_natCast, List.length_drop]; omega
  have fl : (fL1 (rsL p)).length = 4 + p.text.size := by rw [f1]; simp [num_len, hbl]
  refine ⟨?_, ?_, ?_⟩
  · unfold kTT; rw [if_neg (by omega), if_pos h]
    exact decide_eq_true (by rw [g1, g2, fl, hl]; omega)
  · unfold rdV rdE
    rw [fw_k p hr, if_neg (by omega), if_pos h, fw_8, fw_2, fw_v p hr, fw_c p hr h, bare10 h, f2, f3, bstr_bytesL]; rfl
  · unfold rdR; rw [fw_k p hr, if_neg (by omega), if_pos h, fw_8, f4]; rfl
theorem fwd11 (p : Pdu) (hr : p.rng) (h : p.kind = 11) : fwd p := by
  have e : rsL p = num (w64 p.path.cust) 4 ++ pvL p.path.provs := by rw [rs_11 h]; rfl
  have hl : (rsL p).length = 4 + 4 * p.path.provs.length := by rw [e]; simp [num_len, pvL_len]
  have hN : pN (rsL p) = p.path.provs.length := by unfold pN; omega
  have q4 : (rsL p).drop 4 = pvL p.path.provs := by rw [e]; exact d4 _ _ 0
  refine ⟨?_, ?_, ?_⟩
  · unfold kTT; rw [if_neg (by omega), if_neg (by omega), if_pos h]
    exact decide_eq_true (by omega)
  · unfold rdV rdP
    rw [fw_k p hr, if_neg (by omega), if_neg (by omega), if_pos h, fw_8, fw_2, fw_v p hr, fw_a p (.inr h), bare11 h, hN, q4, pv_fwd _ hr.ps]
    have e1 : gu32 (rsL p) = p.path.cust := by rw [e]; exact u32N _ _ hr.c
    rw [e1]; rfl
  · unfold rdR; rw [fw_k p hr, if_neg (by omega), if_neg (by omega), if_pos h]
theorem fld_k {p : Pdu} (h : fldF p = true) : isK p.kind := by
  unfold fldF at h
  unfold isK
  repeat' split at h
  · omega
  · omega
  · omega
  · omega
  · omega
  · omega
  · omega
  · cases h
theorem rd_fwd (p : Pdu) (hr : p.rng) (hs : small p) (hf : fldF p = true) : rdF (encB p) = (bare p, true) := by
  have hk := fld_k hf
  have key : fwd p := by
    unfold isK at hk
    unfold fldF at hf
    by_cases h0 : p.kind = 0 ∨ p.kind = 1
    · exact fwd0 p hr h0
    by_cases h2 : p.kind = 2 ∨ p.kind = 8 ∨ p.kind = 3
    · exact fwd2 p hr h2
    rw [if_neg (by omega)] at hf
    by_cases h4 : p.kind = 4
    · rw [if_pos h4] at hf; exact fwd4 p hr h4 hf
    rw [if_neg h4] at hf
    by_cases h6 : p.kind = 6
    · rw [if_pos h6] at hf; exact fwd6 p hr h6 hf
    rw [if_neg h6] at hf
    by_cases h7 : p.kind = 7
    · exact fwd7 p hr h7
    rw [if_neg h7] at hf
    by_cases h9 : p.kind = 9
    · rw [if_pos h9] at hf; exact fwd9 p hr h9 hf
    by_cases h10 : p.kind = 10
    · exact fwd10 p hr h10 hs
    exact fwd11 p hr (by omega)
  have hok : rdOk (encB p) = true := by
    refine rdOk_i ?_ ?_ ?_ ?_
    · rw [encB_len]; omega
    · rw [fw_k p hr]; exact hk
    · rw [fw_k p hr, fw_2]; exact fw_F p hk
    · rw [fw_k p hr, fw_v p hr, fw_8]; exact key.1
  rw [rdF_yes hok, key.2.1, key.2.2]
def refC (p : Pdu) : Int := if 4096 < p.copy.length ∨ 200 < p.text.size ∨ 50 < p.path.provs.length then 4 else if 2 < p.version ∨ fldF p = false ∨ p ≠ bare p then 8 else 0
theorem chk_ref (p : Pdu) (hr : p.rng) : chk p = refC p := by
  unfold refC
  by_cases hs : small p
  · rw [if_neg hs]
    by_cases hv : 2 < p.version
    · rw [chk_v hs hv, if_pos (.inl hv)]
    by_cases hf : fldF p = true
    · have hk := fld_k hf
      rw [chk_p hs hk hv (by rw [ckD_eq p hr hk]; exact hf), rd_fwd p hr hs hf]
      by_cases hb : p = bare p
      · rw [if_pos ⟨rfl, hb⟩, if_neg]
        rintro (h | h | h)
        · exact hv h
        · rw [hf] at h; cases h
        · exact h hb
      · rw [if_neg (fun h => hb h.2), if_pos (.inr (.inr hb))]
    · rw [if_pos (.inr (.inl (by simpa using hf)))]
      by_cases hk : isK p.kind
      · exact chk_c hs (by rw [ckD_eq p hr hk]; simpa using hf)
      · exact chk_k hs hk
  · rw [chk_b hs, if_pos (Classical.not_not.1 hs)]
end Gp
namespace Gp
def T15 (p : Pdu) : Tell :=
  Tell.mk (fun x x_1 => false) (fun x x_1 => Orc.no) (fun x => Tree.fail 1000003 0) (fun x => 0) (fun x => ([],[])) (oget [(19,3,5,Orc.call [encD p] (bo (fldF p))),(19,3,11,Orc.call [encD p] (encD (bare p))),(19,3,12,Orc.call [encD p,encD (bare p)] (bo (decide (p = bare p))))]) fun x x_1 => Tree.fail 1000003 0
theorem t15 (p : Pdu) : levF prog Proofs.Try.f15 [encD p] (T15 p) =
  Tree.br (decide (4096 < (↑(List.length (List.map u8 p.copy)) : Int))) (.done Exit.ret (lret (i64 4))) (.br (decide (200 < (↑(ByteArray.size p.text) : Int))) (.done Exit.ret (lret (i64 4))) (.br (decide (50 < (↑(List.length (List.map u32 p.path.provs)) : Int))) (.done Exit.ret (lret (i64 4))) (.br (decide (2 < p.version)) (.done Exit.ret (lret (i64 8))) (.need (ILeL [encD p] [encD p] ∧ ASpec prog 37 [encD p] (bo (fldF p))) (.br (!fldF p) (.done Exit.ret (lret (i64 8))) (.need (ILeL [encD p] [encD p] ∧ ASpec prog 38 [encD p] (encD (bare p))) (.need (ILeL [encD p,encD (bare p)] [encD p,encD (bare
  p)] ∧ ASpec prog 17 [encD p,encD (bare p)] (bo (decide (p = bare p)))) (.br (!decide (p = bare p)) (.done Exit.ret (lret (i64 8))) (.done Exit.ret (lret (i64 0))))))))))) := by kernel_rfl
theorem refC_b {p : Pdu} (h : 4096 < p.copy.length ∨ 200 < p.text.size ∨ 50 < p.path.provs.length) : refC p = 4 := if_pos h
theorem refC_8 {p : Pdu} (h : ¬ (4096 < p.copy.length ∨ 200 < p.text.size ∨ 50 < p.path.provs.length)) (h2 : 2 < p.version ∨ fldF p = false ∨ p ≠ bare p) : refC p = 8 := (if_neg h).trans (if_pos h2)
theorem refC_ok {p : Pdu} (h : ¬ (4096 < p.copy.length ∨ 200 < p.text.size ∨ 50 < p.path.provs.length)) (h1 : ¬ 2 < p.version) (h2 : fldF p = true) (h3 : p = bare p) : refC p = 0 := (if_neg h).trans (if_neg fun hh => by
  rcases hh with h | h | h
  · exact h1 h
  · rw [h2] at h; cases h
  · exact h h3)
theorem c15 (p : Pdu) (h1c : p.copy.length ≤ 2 ^ 62) (h2c : p.path.provs.length ≤ 2 ^ 62) : ASpec prog 15 [encD p] (i64 (refC p)) := by
  refine ASpec.treeW Proofs.Try.f15 (T15 p) (by kernel_rfl) (by kernel_rfl) (t15 p) ?_
  refine ⟨fun h1 => ⟨_, rfl, ?_⟩, fun h1 => ⟨fun h2 => ⟨_, rfl, ?_⟩, fun h2 => ⟨fun h3 => ⟨_, rfl, ?_⟩, fun h3 => ⟨fun h4 => ⟨_, rfl, ?_⟩, fun h4 => need_sat ⟨ILeL.refl _, c37 _⟩ ⟨fun h5 => ⟨_, rfl, ?_⟩, fun h5 => need_sat ⟨ILeL.refl _, c38 _⟩ (need_sat ⟨ILeL.refl _, c17 _ _ ?_ ?_⟩ ⟨fun h6 => ⟨_, rfl, ?_⟩, fun h6 => ⟨_, rfl, ?_⟩⟩)⟩⟩⟩⟩⟩
  all_goals try simp only [decide_eq_true_eq, decide_eq_false_iff_not, List.length_map, Bool.not_eq_true', Bool.not_eq_false'] at *
  all_goals first
    | assumption
    | exact ile_eq (congrArg i64 (refC_b (p := p) (by omega)).symm)
    | exact ile_eq (congrArg i64 (refC_8 (p := p) (by omega) (.inl (by assumption))).symm)
    | exact ile_eq (congrArg i64 (refC_8 (p := p) (by omega) (.inr (.inl (by assumption)))).symm)
    | exact ile_eq (congrArg i64 (refC_8 (p := p) (by omega) (.inr (.inr (by assumption)))).symm)
    | exact ile_eq (congrArg i64 (refC_ok (p := p) (by omega) (by assumption) (by assumption) (by assumption)).symm)
end Gp
namespace Gp
def T32o (l : List Int) : Tell :=
  Tell.mk (fun x x_1 => false) (fun x x_1 => Orc.no) (fun x => Tree.fail 1000003 0) (fun x => 0) (fun x => ([],[])) (fun x x_1 x_2 => Orc.no) fun x x_1 => Tree.fail 1000003 0
theorem t32o (l : List Int) : levO prog Proofs.Try.f32 [slE 1 u32 l] (T32o l) =
  (let q0 := List.map u32 l;
  Tree.alt (List.isEmpty q0) (.done Exit.ret (LState.mk [] [] 1 0 [])) (.need (askA none (0 = 0 ∧ true = true ∧ cellsOk q0 = true ∧ 0 + List.length q0 ≤ 1000000)) (.need (List.length ([] ++ List.map u32 l) = 0 + List.length q0) (.done Exit.ret (lretO 23 1 ([] ++ List.map u32 l)))))) := by kernel_rfl
def T33o (l : List Int) : Tell :=
  Tell.mk (fun x x_1 => false) (fun x x_1 => Orc.no) (fun x => Tree.fail 1000003 0) (fun x => 0) (fun x => ([],[])) (fun x x_1 x_2 => Orc.no) fun x x_1 => Tree.fail 1000003 0
theorem t33o (l : List Int) : levO prog Proofs.Try.f33 [slE 1 u8 l] (T33o l) =
  (let q0 := List.map u8 l;
  Tree.alt (List.isEmpty q0) (.done Exit.ret (LState.mk [] [] 1 0 [])) (.need (askA none (0 = 0 ∧ true = true ∧ cellsOk q0 = true ∧ 0 + List.length q0 ≤ 1000000)) (.need (List.length ([] ++ List.map u8 l) = 0 + List.length q0) (.done Exit.ret (lretO 5 1 ([] ++ List.map u8 l)))))) := by kernel_rfl
theorem o32 (l : List Int) (hl : l.length ≤ 1000000) : OSpec prog 32 [slE 1 u32 l] 23 1 (l.map u32) := by
  refine OSpec.tree Proofs.Try.f32 (T32o l) (by kernel_rfl) (by kernel_rfl) ?_
  rw [t32o]
  refine ⟨fun h => .inr ⟨rfl, List.isEmpty_iff.1 h⟩, need_sat ⟨rfl, rfl, cellsOk_map u32 (fun _ => rfl) _, by simp; omega⟩ (need_sat (by simp) (.inl (by rw [List.nil_append])))⟩
theorem o33 (l : List Int) (hl : l.length ≤ 1000000) : OSpec prog 33 [slE 1 u8 l] 5 1 (l.map u8) := by
  refine OSpec.tree Proofs.Try.f33 (T33o l) (by kernel_rfl) (by kernel_rfl) ?_
  rw [t33o]
  refine ⟨fun h => .inr ⟨rfl, List.isEmpty_iff.1 h⟩, need_sat ⟨rfl, rfl, cellsOk_map u8 (fun _ => rfl) _, by simp; omega⟩ (need_sat (by simp) (.inl (by rw [List.nil_append])))⟩
def mTw (p : Pdu) (x y : AVal) : AVal := .agg [.imm (u8 p.version), .imm (u8 p.kind), .imm (u16 p.session), .imm (u32 p.serial), .imm (bo p.add), .imm (u32 p.origin.asn), .imm (u8 p.origin.pfx.fam), .imm (u64 p.origin.pfx.addr.hi), .imm (u64 p.origin.pfx.addr.lo), .imm (i64 p.origin.pfx.len), .imm (i64 p.origin.max), .imm (u32 p.path.cust), x, .imm (u32 p.key.asn), .imm (u8 p.key.root[0]), .imm (u8 p.key.root[1]), .imm (u8 p.key.root[2]), .imm (u8 p.key.root[3]), .imm (u8 p.key.root[4]), .imm (u8 p.key.root[5]), .imm (u8 p.key.root[6]), .imm (u8 p.key.root[7]), .imm (u8 p.key.root[8]), .imm (u8 p.key.root[9]), .imm (u8 p.key.root[10]), .imm (u8 p.key.root[11]), .imm (u8 p.key.root[12]), .imm (u8 p.key.root[13]), .imm (u8 p.key.root[14]), .imm (u8 p.key.root[15]), .imm (i64 p.key.height), .imm (u32 p.refresh), .imm (u32 p.retry), .imm (u32 p.expire), .imm (u16 p.code), y, .imm (st p.text)]
def T13g (ls : Nat → Abs.Loc) (p : Pdu) : Tell :=
  Tell.mk (fun r i => r == 1 && (i == 3 || i == 6)) (fun r i => if (r == 1 && i == 3) = true then Orc.callo [slE 1 u32 p.path.provs] 23 1 (List.map u32 p.path.provs) else if (r == 1 && i == 6) = true then Orc.callo [slE 1 u8 p.copy] 5 1 (List.map u8 p.copy) else Orc.no) (fun x => Tree.fail 1000003 0) (fun x => 0) (fun x => ([],[])) (ogetO (fun r i => if (r == 1 && i == 3) = true then Orc.callo [slE 1 u32 p.path.provs] 23 1 (List.map u32 p.path.provs) else if (r == 1 && i == 6) = true then Orc.callo [slE 1 u8 p.copy] 5 1 (List.map u8 p.copy) else Orc.no) []) fun x x_1 => Tree.fail 1000003 0
theorem t13g (ls : Nat → Abs.Loc) (p : Pdu) : levG prog Proofs.Try.f13 ls [] [] [.imm (encD p)] [] [.row 23 1 (p.path.provs.map u32), .row 5 1 (p.copy.map u8)] (mTw p (.own 0 (p.path.provs.map u32).length) (.own 1 (p.copy.map u8).length)) (T13g ls p) =
  (let q0 := List.map u32 p.path.provs; let q1 := List.map u8 p.copy;
  Tree.need (ILeL [lu32 p.path.provs] [slE 1 u32 p.path.provs] ∧ OSpec prog 32 [slE 1 u32 p.path.provs] 23 1 q0) (.need (ILeL [lu8 p.copy] [slE 1 u8 p.copy] ∧ OSpec prog 33 [slE 1 u8 p.copy] 5 1 q1) (.need (([] : List (Abs.Loc × Nat × AVal)) = [] ∧ ELeL [Entry.row 23 1 q0,Entry.row 5 1 q1] [Entry.row 23 1 q0,Entry.row 5 1 q1] ∧ ALe (.agg [.imm (u8 p.version),.imm (u8 p.kind),.imm (u16 p.session),.imm (u32 p.serial),.imm (bo p.add),.imm (u32 p.origin.asn),.imm (u8 p.origin.pfx.fam),.imm (u64 p.origin.pfx.addr.hi),.imm (u64 p.origin.pfx.addr.lo),.imm (i64 p.origin.pfx.len),.imm (i64
  p.origin.max),.imm (u32 p.path.cust),.own 0 (List.length q0),.imm (u32 p.key.asn),.imm (u8 p.key.root[0]),.imm (u8 p.key.root[1]),.imm (u8 p.key.root[2]),.imm (u8 p.key.root[3]),.imm (u8 p.key.root[4]),.imm (u8 p.key.root[5]),.imm (u8 p.key.root[6]),.imm (u8 p.key.root[7]),.imm (u8 p.key.root[8]),.imm (u8 p.key.root[9]),.imm (u8 p.key.root[10]),.imm (u8 p.key.root[11]),.imm (u8 p.key.root[12]),.imm (u8 p.key.root[13]),.imm (u8 p.key.root[14]),.imm (u8 p.key.root[15]),.imm (i64 p.key.height),.imm (u32 p.refresh),.imm (u32 p.retry),.imm (u32 p.expire),.imm (u16 p.code),.own 1 (List.length
  q1),.imm (st p.text)]) (mTw p (.own 0 (List.length q0)) (.own 1 (List.length q1)))) (.done Exit.ret lnil)))) := by kernel_rfl
def T12 (p : Pdu) : Tell :=
  Tell.mk (fun r i => r == 1 && i == 4 || r == 2 && i == 3) (fun x x_1 => Orc.no) (fun x => Tree.fail 1000003 0) (fun x => 0) (fun x => ([],[])) (fun x x_1 x_2 => Orc.no) fun x x_1 => Tree.fail 1000003 0
theorem t12 (p : Pdu) : levF prog Proofs.Try.f12 [encD p] (T12 p) =
  Tree.need (askA none (0 = 0 ∧ true = true ∧ cellsOk (List.map u32 p.path.provs) = true ∧ 0 + List.length (List.map u32 p.path.provs) ≤ 1000000)) (.need (askA none (0 = 0 ∧ true = true ∧ cellsOk (List.map u8 p.copy) = true ∧ 0 + List.length (List.map u8 p.copy) ≤ 1000000)) (.done Exit.ret (lret (.agg [u8 p.version,u8 p.kind,u16 p.session,u32 p.serial,bo p.add,u32 p.origin.asn,u8 p.origin.pfx.fam,u64 p.origin.pfx.addr.hi,u64 p.origin.pfx.addr.lo,i64 p.origin.pfx.len,i64 p.origin.max,u32 p.path.cust,.sl true false 1 ([] ++ List.map u32 p.path.provs),u32 p.key.asn,u8 p.key.root[0],u8
  p.key.root[1],u8 p.key.root[2],u8 p.key.root[3],u8 p.key.root[4],u8 p.key.root[5],u8 p.key.root[6],u8 p.key.root[7],u8 p.key.root[8],u8 p.key.root[9],u8 p.key.root[10],u8 p.key.root[11],u8 p.key.root[12],u8 p.key.root[13],u8 p.key.root[14],u8 p.key.root[15],i64 p.key.height,u32 p.refresh,u32 p.retry,u32 p.expire,u16 p.code,.sl true false 1 ([] ++ List.map u8 p.copy),st p.text])))) := by kernel_rfl
theorem g13 (p : Pdu) (h1 : p.copy.length ≤ 1000000) (h2 : p.path.provs.length ≤ 1000000) : GSpec prog 13 [] [] [.imm (encD p)] [] [.row 23 1 (p.path.provs.map u32), .row 5 1 (p.copy.map u8)] (mTw p (.own 0 (p.path.provs.map u32).length) (.own 1 (p.copy.map u8).length)) := by
  refine GSpec.tree Proofs.Try.f13 (fun ls => T13g ls p) (by kernel_rfl) (by kernel_rfl) rfl fun ls => ?_
  rw [t13g]
  exact need_sat ⟨ILeL.refl _, o32 _ h2⟩ (need_sat ⟨ILeL.refl _, o33 _ h1⟩ ⟨⟨rfl, .refl _, .refl _⟩, fun _ => trivial⟩)
theorem c12 (p : Pdu) (h1 : p.copy.length ≤ 1000000) (h2 : p.path.provs.length ≤ 1000000) : ASpec prog 12 [encD p] (encD p) := by
  refine ASpec.treeW Proofs.Try.f12 (T12 p) (by kernel_rfl) (by kernel_rfl) (t12 p) ?_
  refine need_sat ⟨rfl, rfl, cellsOk_map u32 (fun _ => rfl) _, by simp; omega⟩ (need_sat ⟨rfl, rfl, cellsOk_map u8 (fun _ => rfl) _, by simp; omega⟩ ⟨_, rfl, ?_⟩)
  exact ile_pdu p _ _ (.sl (fun h => by cases h) (fun h => by cases h) (by rw [List.nil_append]; exact .refl _)) (.sl (fun h => by cases h) (fun h => by cases h) (by rw [List.nil_append]; exact .refl _))
def I18a (p : Pdu) (n m : Nat) (ps cs : List Int) (i : Nat) : LState := { t := [(2, .imm (i64 i)), (1, .ptr 2 0)], s := [(0, .row 23 1 (ps.map u32)), (1, .row 5 1 (cs.map u8)), (2, .box 42 (mTw p (.own 0 n) (.own 1 m)))], m := 34, n := 4 }
def E18a (p : Pdu) (n m : Nat) (ps : List Int) : LState := { t := [(1, .ptr 2 0)], s := [(0, .row 23 1 (ps.map u32)), (2, .box 42 (mTw p (.own 0 n) (.own 1 m)))], m := 34, n := 4 }
def I18b (p : Pdu) (n m : Nat) (ps : List Int) (i : Nat) : LState := { t := [(3, .imm (i64 i)), (1, .ptr 2 0)], s := [(0, .row 23 1 (ps.map u32)), (2, .box 42 (mTw p (.own 0 n) (.own 1 m)))], m := 34, n := 8 }
def E18b : LState := { t := [], s := [], m := 34, n := 8 }
def fin18a : Exit → Fin
  | .normal => ⟨[], [2, 1], [0, 1, 2]⟩
  | _ => ⟨[], [1], [0, 2]⟩
def fin18b : Exit → Fin
  | .normal => ⟨[], [3, 1], [0, 2]⟩
  | _ => ⟨[], [], []⟩
def T18a (p : Pdu) (n m : Nat) (ps cs : List Int) (i : Nat) : Tell :=
  Tell.mk (fun x x_1 => false) (fun x x_1 => Orc.no) (fun x => Tree.fail 1000003 0) (fun x => 0) (fun x => ([],[])) (oget [(9,4,4,Orc.elem (u8 (List.getD cs i default))),(9,4,7,Orc.elem (.tup []))]) fun x x_1 => Tree.fail 1000003 0
theorem t18a (p : Pdu) (n m : Nat) (ps cs : List Int) (i : Nat) : levL prog Proofs.Try.f18 2 (I18a p n m ps cs i) (T18a p n m ps cs i) fin18a =
  Tree.br (decide ((↑i : Int) < (↑m : Int))) (.need (0 ≤ (↑i : Int) ∧ i < m) (.need ((List.map u8 cs)[i]? = some (u8 (List.getD cs i 0))) (.need (0 ≤ (↑i : Int) ∧ i < m) (.need (i < List.length (List.map u8 cs)) (.done Exit.normal (LState.mk [(2,.imm (i64 (IntKind.wrap IntKind.i64 ((↑i : Int) + 1)))),(1,.ptr 2 0)] [(0,Entry.row 23 1 (List.map u32 ps)),(1,Entry.row 5 1 (List.set (List.map u8 cs) i (u8 (IntKind.wrap IntKind.u8 (List.getD cs i (0 : Int) + (1 : Int)))))),(2,Entry.box 42 (mTw p (.own 0 n) (.own 1 m)))] 34 20 [])))))) (.done (Exit.exit 0) (LState.mk [(1,.ptr 2 0)] [(0,Entry.row 23 1
  (List.map u32 ps)),(2,Entry.box 42 (mTw p (.own 0 n) (.own 1 m)))] 34 9 [])) := by kernel_rfl
def T18b (p : Pdu) (n m : Nat) (ps : List Int) (i : Nat) : Tell :=
  Tell.mk (fun x x_1 => false) (fun x x_1 => Orc.no) (fun x => Tree.fail 1000003 0) (fun x => 0) (fun x => ([],[])) (oget [(14,8,5,Orc.elem (u32 (List.getD ps i default))),(14,8,8,Orc.elem (.tup []))]) fun x x_1 => Tree.fail 1000003 0
theorem t18b (p : Pdu) (n m : Nat) (ps : List Int) (i : Nat) : levL prog Proofs.Try.f18 6 (I18b p n m ps i) (T18b p n m ps i) fin18b =
  Tree.br (decide ((↑i : Int) < (↑n : Int))) (.need (0 ≤ (↑i : Int) ∧ i < n) (.need ((List.map u32 ps)[i]? = some (u32 (List.getD ps i 0))) (.need (0 ≤ (↑i : Int) ∧ i < n) (.need (i < List.length (List.map u32 ps)) (.done Exit.normal (LState.mk [(3,.imm (i64 (IntKind.wrap IntKind.i64 ((↑i : Int) + 1)))),(1,.ptr 2 0)] [(0,Entry.row 23 1 (List.set (List.map u32 ps) i (u32 (IntKind.wrap IntKind.u32 (List.getD ps i (0 : Int) + (1 : Int)))))),(2,Entry.box 42 (mTw p (.own 0 n) (.own 1 m)))] 34 26 [])))))) (.done (Exit.exit 2) (LState.mk [] [] 34 14 [])) := by kernel_rfl
def T18g (ls : Nat → Abs.Loc) (p : Pdu) (n m : Nat) (ps cs : List Int) : Tell :=
  Tell.mk (fun x x_1 => false) (fun x x_1 => Orc.no) (fun k => if (k == 2) = true then Tree.done (Exit.exit 0) (E18a p n m ps) else Tree.done (Exit.exit 2) E18b) (fun x => 0) (fun k => if (k == 2) = true then ([2,1],[0,1,2]) else ([3,1],[0,2])) (fun x x_1 x_2 => Orc.no) fun x k => if (k == 2) = true then Tree.done (Exit.exit 0) (E18a p n m ps) else Tree.done (Exit.exit 2) E18b
theorem t18g (ls : Nat → Abs.Loc) (p : Pdu) (n m : Nat) (ps cs : List Int) : levG prog Proofs.Try.f18 ls [] [(23, 1, ps.map u32), (5, 1, cs.map u8)] [mTw p (.own 0 n) (.own 1 m)] [] [] (.tup []) (T18g ls p n m ps cs) =
  Tree.loop 2 (LState.mk [(2,.imm (i64 0)),(1,.ptr 2 0)] [(0,Entry.row 23 1 (List.map u32 ps)),(1,Entry.row 5 1 (List.map u8 cs)),(2,Entry.box 42 (.agg [.imm (u8 p.version),.imm (u8 p.kind),.imm (u16 p.session),.imm (u32 p.serial),.imm (bo p.add),.imm (u32 p.origin.asn),.imm (u8 p.origin.pfx.fam),.imm (u64 p.origin.pfx.addr.hi),.imm (u64 p.origin.pfx.addr.lo),.imm (i64 p.origin.pfx.len),.imm (i64 p.origin.max),.imm (u32 p.path.cust),.own 0 n,.imm (u32 p.key.asn),.imm (u8 p.key.root[0]),.imm (u8 p.key.root[1]),.imm (u8 p.key.root[2]),.imm (u8 p.key.root[3]),.imm (u8 p.key.root[4]),.imm (u8
  p.key.root[5]),.imm (u8 p.key.root[6]),.imm (u8 p.key.root[7]),.imm (u8 p.key.root[8]),.imm (u8 p.key.root[9]),.imm (u8 p.key.root[10]),.imm (u8 p.key.root[11]),.imm (u8 p.key.root[12]),.imm (u8 p.key.root[13]),.imm (u8 p.key.root[14]),.imm (u8 p.key.root[15]),.imm (i64 p.key.height),.imm (u32 p.refresh),.imm (u32 p.retry),.imm (u32 p.expire),.imm (u16 p.code),.own 1 m,.imm (st p.text)]))] 34 4 []) (.done (Exit.exit 0) (E18a p n m ps)) (.loop 6 (LState.mk [(3,.imm (i64 0)),(1,.ptr 2 0)] [(0,Entry.row 23 1 (List.map u32 ps)),(2,Entry.box 42 (mTw p (.own 0 n) (.own 1 m)))] 34 5 []) (.done
  (Exit.exit 2) E18b) (.need (([] : List (Abs.Loc × Nat × AVal)) = [] ∧ ELeL [] [] ∧ ALe (.tup []) (.tup [])) (.done Exit.ret lnil))) := by kernel_rfl
theorem l18a (p : Pdu) (n : Nat) (ps cs : List Int) (hl : cs.length ≤ 1000000) (σ : LState) (h : LSub σ (I18a p n cs.length ps cs 0)) : LoopOk prog [] (bodyOf Proofs.Try.f18) 2 σ (.done (.exit 0) (E18a p n cs.length ps)) := by
  refine LoopOk.of_levL (γ := { g : List Int × Nat // g.1.length = cs.length ∧ g.2 ≤ cs.length }) (fun g => T18a p n cs.length ps g.1.1 g.1.2) fin18a (fun g => I18a p n cs.length ps g.1.1 g.1.2) (fun g => cs.length - g.1.2) ⟨(cs, 0), rfl, Nat.zero_le _⟩ (by kernel_rfl) h ?_
  rintro ⟨⟨c, i⟩, h1, h2⟩
  simp only at h1 h2
  show (levL prog Proofs.Try.f18 2 (I18a p n cs.length ps c i) (T18a p n cs.length ps c i) fin18a).sat _ _
  rw [t18a]
  refine ⟨fun h3 => ?_, fun h3 => ?_⟩
  · have h3' : i < cs.length := Int.ofNat_lt.1 (of_decide_eq_true h3)
    have hi : i < c.length := by omega
    refine need_sat ⟨by omega, h3'⟩ (need_sat ?_ (need_sat ⟨by omega, h3'⟩ (need_sat (by rw [List.length_map]; exact hi) ?_)))
    · simp [List.getD_eq_getElem?_getD, List.getElem?_eq_getElem hi]
    · refine ⟨⟨(c.set i (IntKind.u8.wrap (c.getD i 0 + 1)), i + 1), by rw [List.length_set]; exact h1, h3'⟩, by show cs.length - (i + 1) < cs.length - i; omega, ⟨?_, rfl, trivial⟩, ⟨rfl, ?_, rfl, trivial⟩, rfl, rfl, rfl⟩
      · refine congrArg (fun n => AVal.imm (i64 n)) ?_
        show IntKind.i64.wrap ((i : Int) + 1) = ((i + 1 : Nat) : Int)
        rw [IntWalk.i64_in _ (by omega)]; omega
      · refine congrArg (fun l => some (Entry.row 5 1 l)) ?_
        rw [List.map_set] <;> rfl
  · exact ⟨rfl, ⟨rfl, trivial⟩, ⟨rfl, rfl, trivial⟩, rfl, rfl, rfl⟩
theorem l18b (p : Pdu) (m : Nat) (ps : List Int) (hl : ps.length ≤ 1000000) (σ : LState) (h : LSub σ (I18b p ps.length m ps 0)) : LoopOk prog [] (bodyOf Proofs.Try.f18) 6 σ (.done (.exit 2) E18b) := by
  refine LoopOk.of_levL (γ := { g : List Int × Nat // g.1.length = ps.length ∧ g.2 ≤ ps.length }) (fun g => T18b p ps.length m g.1.1 g.1.2) fin18b (fun g => I18b p ps.length m g.1.1 g.1.2) (fun g => ps.length - g.1.2) ⟨(ps, 0), rfl, Nat.zero_le _⟩ (by kernel_rfl) h ?_
  rintro ⟨⟨c, i⟩, h1, h2⟩
  simp only at h1 h2
  show (levL prog Proofs.Try.f18 6 (I18b p ps.length m c i) (T18b p ps.length m c i) fin18b).sat _ _
  rw [t18b]
  refine ⟨fun h3 => ?_, fun h3 => ?_⟩
  · have h3' : i < ps.length := Int.ofNat_lt.1 (of_decide_eq_true h3)
    have hi : i < c.length := by omega
    refine need_sat ⟨by omega, h3'⟩ (need_sat ?_ (need_sat ⟨by omega, h3'⟩ (need_sat (by rw [List.length_map]; exact hi) ?_)))
    · simp [List.getD_eq_getElem?_getD, List.getElem?_eq_getElem hi]
    · refine ⟨⟨(c.set i (IntKind.u32.wrap (c.getD i 0 + 1)), i + 1), by rw [List.length_set]; exact h1, h3'⟩, by show ps.length - (i + 1) < ps.length - i; omega, ⟨?_, rfl, trivial⟩, ⟨?_, rfl, trivial⟩, rfl, rfl, rfl⟩
      · refine congrArg (fun n => AVal.imm (i64 n)) ?_
        show IntKind.i64.wrap ((i : Int) + 1) = ((i + 1 : Nat) : Int)
        rw [IntWalk.i64_in _ (by omega)]; omega
      · refine congrArg (fun l => some (Entry.row 23 1 l)) ?_
        rw [List.map_set] <;> rfl
  · exact ⟨rfl, trivial, trivial, rfl, rfl, rfl⟩
theorem g18 (p : Pdu) (n m : Nat) (ps cs : List Int) (hn : n = ps.length) (hm : m = cs.length) (h1 : ps.length ≤ 1000000) (h2 : cs.length ≤ 1000000) : GSpec prog 18 [] [(23, 1, ps.map u32), (5, 1, cs.map u8)] [mTw p (.own 0 n) (.own 1 m)] [] [] (.tup []) := by
  subst hn hm
  refine GSpec.tree Proofs.Try.f18 (fun ls => T18g ls p ps.length cs.length ps cs) (by kernel_rfl) (by kernel_rfl) rfl fun ls => ?_
  rw [t18g]
  refine ⟨l18a p _ ps cs h2 _ ⟨⟨rfl, rfl, trivial⟩, ⟨rfl, rfl, rfl, trivial⟩, rfl, rfl, rfl⟩, ⟨l18b p _ ps h1 _ ⟨⟨rfl, rfl, trivial⟩, ⟨rfl, rfl, trivial⟩, rfl, rfl, rfl⟩, need_sat ⟨rfl, .refl _, .refl _⟩ trivial⟩⟩
end Gp
namespace Gp
def T3 (a b : Pdu) : Tell :=
  (let q0 := List.map u32 a.path.provs; let q1 := decide (a = a); let q2 := List.map u8 a.copy;
  Tell.mk (fun x x_1 => false) (fun r i => if (r == 5 && i == 22) = true then Orc.calle [encD a,encD a] (bo q1) else Orc.no) (fun x => Tree.fail 1000003 0) (fun x => 0) (fun x => ([],[])) (ogetO (fun r i => if (r == 5 && i == 22) = true then Orc.calle [encD a,encD a] (bo q1) else Orc.no) [(3,1,1,Orc.call [encD a] (bo (great a))),(3,1,4,Orc.call [encD b] (bo (great b))),(9,3,1,Orc.call [encD a] (encD a)),(13,4,1,Orc.callg [] 0 [.imm (encD a)] [] [Entry.row 23 1 q0,Entry.row 5 1 q2] (mTw a (.own 0 (List.length q0)) (.own 1 (List.length q2)))),(19,5,1,Orc.call [encD a] (i64 (chk
  a))),(19,5,3,Orc.call [encD a] (i64 (refC a))),(19,5,8,Orc.call [encD a,encD b] (bo (decide (a = b)))),(44,6,1,Orc.callg [14,15] 0 [mTw a (.own 0 (List.length q0)) (.own 1 (List.length q2))] [] [] (.tup [])),(19,5,11,Orc.call [encD a,encD b] (bo (decide (a = b)))),(19,5,17,Orc.call [encD a,encD a] (bo q1)),(46,7,4,Orc.call [encD a,encD a] (bo q1))]) fun x x_1 => Tree.fail 1000003 0)
theorem t3 (a b : Pdu) : levF prog Proofs.Try.f3 [encD a, encD b] (T3 a b) =
  (let q2 := List.map u32 a.path.provs; let q0 := List.length q2; let q8 := List.map u8 a.copy; let q1 := List.length q8; let q3 := u64 a.origin.pfx.addr.hi; let q4 := u64 a.origin.pfx.addr.lo; let q5 := decide (a = a); let q6 := i64 a.origin.pfx.len; let q7 := u8 a.origin.pfx.fam; let q9 := u32 a.origin.asn; let q10 := i64 a.origin.max; let q11 := i64 a.key.height; let q12 := u32 a.path.cust; let q13 := u16 a.session; let q14 := u32 a.key.asn; let q15 := u32 a.refresh;
  Tree.need (ILeL [encD a] [encD a] ∧ ASpec prog 11 [encD a] (bo (great a))) (.br (great a) (.done Exit.ret (lret (bo true))) (.need (ILeL [encD b] [encD b] ∧ ASpec prog 11 [encD b] (bo (great b))) (.br (great b) (.done Exit.ret (lret (bo true))) (.need (ILeL [encD a] [encD a] ∧ ASpec prog 12 [encD a] (encD a)) (.need (ALeL [.imm (encD a)] [.imm (encD a)] ∧ GSpec prog 13 [] [] [.imm (encD a)] [] [Entry.row 23 1 q2,Entry.row 5 1 q8] (mTw a (.own 0 q0) (.own 1 q1))) (.need (ILeL [encD a] [encD a] ∧ ASpec prog 14 [encD a] (i64 (chk a))) (.need (ILeL [encD a] [encD a] ∧ ASpec prog 15 [encD a] (i64
  (refC a))) (.br (decide (chk a = refC a)) (.need (ILeL [encD a,encD b] [encD a,encD b] ∧ ASpec prog 16 [encD a,encD b] (bo (decide (a = b)))) (.need (ILeL [encD a,encD b] [encD a,encD b] ∧ ASpec prog 17 [encD a,encD b] (bo (decide (a = b)))) (.br (decide (a = b) == decide (a = b)) (.need (ILeL [encD a,encD a] [encD a,encD a] ∧ ASpec prog 16 [encD a,encD a] (bo q5)) (.br q5 (.need (eqs [(List.length q2,List.length q2),(List.length q8,List.length q8)] ∧ ILeL [encD a,.agg [u8 a.version,u8 a.kind,u16 a.session,u32 a.serial,bo a.add,u32 a.origin.asn,u8 a.origin.pfx.fam,u64 a.origin.pfx.addr.hi,u64
  a.origin.pfx.addr.lo,i64 a.origin.pfx.len,i64 a.origin.max,u32 a.path.cust,.sl false false 1 q2,u32 a.key.asn,u8 a.key.root[0],u8 a.key.root[1],u8 a.key.root[2],u8 a.key.root[3],u8 a.key.root[4],u8 a.key.root[5],u8 a.key.root[6],u8 a.key.root[7],u8 a.key.root[8],u8 a.key.root[9],u8 a.key.root[10],u8 a.key.root[11],u8 a.key.root[12],u8 a.key.root[13],u8 a.key.root[14],u8 a.key.root[15],i64 a.key.height,u32 a.refresh,u32 a.retry,u32 a.expire,u16 a.code,.sl false false 1 q8,st a.text]] [encD a,encD a] ∧ ASpec prog 17 [encD a,encD a] (bo q5) ∧ true = true) (.need (ALeL [.agg [.imm (u8
  a.version),.imm (u8 a.kind),.imm q13,.imm (u32 a.serial),.imm (bo a.add),.imm q9,.imm q7,.imm q3,.imm q4,.imm q6,.imm q10,.imm q12,.own 0 q0,.imm q14,.imm (u8 a.key.root[0]),.imm (u8 a.key.root[1]),.imm (u8 a.key.root[2]),.imm (u8 a.key.root[3]),.imm (u8 a.key.root[4]),.imm (u8 a.key.root[5]),.imm (u8 a.key.root[6]),.imm (u8 a.key.root[7]),.imm (u8 a.key.root[8]),.imm (u8 a.key.root[9]),.imm (u8 a.key.root[10]),.imm (u8 a.key.root[11]),.imm (u8 a.key.root[12]),.imm (u8 a.key.root[13]),.imm (u8 a.key.root[14]),.imm (u8 a.key.root[15]),.imm q11,.imm q15,.imm (u32 a.retry),.imm (u32 a.expire),.imm
  (u16 a.code),.own 1 q1,.imm (st a.text)]] [mTw a (.own 0 q0) (.own 1 q1)] ∧ GSpec prog 18 [] [(23,1,List.map u32 a.path.provs),(5,1,List.map u8 a.copy)] [mTw a (.own 0 q0) (.own 1 q1)] [] [] (.tup [])) (.br q5 (.need (ILeL [encD a,encD a] [encD a,encD a] ∧ ASpec prog 17 [encD a,encD a] (bo q5)) (.done Exit.ret (lret (bo q5)))) (.done Exit.ret (lret (bo false)))))) (.need (ALeL [.agg [.imm (u8 a.version),.imm (u8 a.kind),.imm q13,.imm (u32 a.serial),.imm (bo a.add),.imm q9,.imm q7,.imm q3,.imm q4,.imm q6,.imm q10,.imm q12,.own 0 q0,.imm q14,.imm (u8 a.key.root[0]),.imm (u8 a.key.root[1]),.imm
  (u8 a.key.root[2]),.imm (u8 a.key.root[3]),.imm (u8 a.key.root[4]),.imm (u8 a.key.root[5]),.imm (u8 a.key.root[6]),.imm (u8 a.key.root[7]),.imm (u8 a.key.root[8]),.imm (u8 a.key.root[9]),.imm (u8 a.key.root[10]),.imm (u8 a.key.root[11]),.imm (u8 a.key.root[12]),.imm (u8 a.key.root[13]),.imm (u8 a.key.root[14]),.imm (u8 a.key.root[15]),.imm q11,.imm q15,.imm (u32 a.retry),.imm (u32 a.expire),.imm (u16 a.code),.own 1 q1,.imm (st a.text)]] [mTw a (.own 0 q0) (.own 1 q1)] ∧ GSpec prog 18 [] [(23,1,List.map u32 a.path.provs),(5,1,List.map u8 a.copy)] [mTw a (.own 0 q0) (.own 1 q1)] [] [] (.tup []))
  (.done Exit.ret (lret (bo false)))))) (.need (ALeL [.agg [.imm (u8 a.version),.imm (u8 a.kind),.imm q13,.imm (u32 a.serial),.imm (bo a.add),.imm q9,.imm q7,.imm q3,.imm q4,.imm q6,.imm q10,.imm q12,.own 0 q0,.imm q14,.imm (u8 a.key.root[0]),.imm (u8 a.key.root[1]),.imm (u8 a.key.root[2]),.imm (u8 a.key.root[3]),.imm (u8 a.key.root[4]),.imm (u8 a.key.root[5]),.imm (u8 a.key.root[6]),.imm (u8 a.key.root[7]),.imm (u8 a.key.root[8]),.imm (u8 a.key.root[9]),.imm (u8 a.key.root[10]),.imm (u8 a.key.root[11]),.imm (u8 a.key.root[12]),.imm (u8 a.key.root[13]),.imm (u8 a.key.root[14]),.imm (u8
  a.key.root[15]),.imm q11,.imm q15,.imm (u32 a.retry),.imm (u32 a.expire),.imm (u16 a.code),.own 1 q1,.imm (st a.text)]] [mTw a (.own 0 q0) (.own 1 q1)] ∧ GSpec prog 18 [] [(23,1,List.map u32 a.path.provs),(5,1,List.map u8 a.copy)] [mTw a (.own 0 q0) (.own 1 q1)] [] [] (.tup [])) (.done Exit.ret (lret (bo false))))))) (.need (ALeL [.agg [.imm (u8 a.version),.imm (u8 a.kind),.imm q13,.imm (u32 a.serial),.imm (bo a.add),.imm q9,.imm q7,.imm q3,.imm q4,.imm q6,.imm q10,.imm q12,.own 0 q0,.imm q14,.imm (u8 a.key.root[0]),.imm (u8 a.key.root[1]),.imm (u8 a.key.root[2]),.imm (u8 a.key.root[3]),.imm
  (u8 a.key.root[4]),.imm (u8 a.key.root[5]),.imm (u8 a.key.root[6]),.imm (u8 a.key.root[7]),.imm (u8 a.key.root[8]),.imm (u8 a.key.root[9]),.imm (u8 a.key.root[10]),.imm (u8 a.key.root[11]),.imm (u8 a.key.root[12]),.imm (u8 a.key.root[13]),.imm (u8 a.key.root[14]),.imm (u8 a.key.root[15]),.imm q11,.imm q15,.imm (u32 a.retry),.imm (u32 a.expire),.imm (u16 a.code),.own 1 q1,.imm (st a.text)]] [mTw a (.own 0 q0) (.own 1 q1)] ∧ GSpec prog 18 [] [(23,1,List.map u32 a.path.provs),(5,1,List.map u8 a.copy)] [mTw a (.own 0 q0) (.own 1 q1)] [] [] (.tup [])) (.done Exit.ret (lret (bo false))))))))))))) := by kernel_rfl
theorem great_le {p : Pdu} (h : great p = false) : p.copy.length ≤ 5000 ∧ p.path.provs.length ≤ 80 := by
  unfold great at h
  simp only [Bool.or_eq_false_iff, decide_eq_false_iff_not] at h
  omega
theorem c3 (a b : Pdu) (ha : wfB a) (hb : wfB b) (hr : a.rng) : ASpec prog 3 [encD a, encD b] (bo true) := by
  refine ASpec.treeW Proofs.Try.f3 (T3 a b) (by kernel_rfl) (by kernel_rfl) (t3 a b) ?_
  have hc : chk a = refC a := chk_ref a hr
  refine need_sat ⟨ILeL.refl _, c11 _⟩ ⟨fun h1 => ⟨_, rfl, ?_⟩, fun h1 => need_sat ⟨ILeL.refl _, c11 _⟩ ⟨fun h2 => ⟨_, rfl, ?_⟩, fun h2 => need_sat ⟨ILeL.refl _, c12 _ ?_ ?_⟩ (need_sat ⟨ALeL.refl _, g13 _ ?_ ?_⟩ (need_sat ⟨ILeL.refl _, c14 _ ?_⟩ (need_sat ⟨ILeL.refl _, c15 _ ?_ ?_⟩ ⟨fun h3 => need_sat ⟨ILeL.refl _, c16 _ _ ?_ ?_⟩ (need_sat ⟨ILeL.refl _, c17 _ _ ?_ ?_⟩ ⟨fun h4 => need_sat ⟨ILeL.refl _, c16 _ _ ?_ ?_⟩ ⟨fun h5 => need_sat ⟨?_, ILeL.refl _, ?_⟩ (need_sat ⟨ALeL.refl _, g18 _ _ _ _ _ ?_ ?_ ?_ ?_⟩ ⟨fun h6 => need_sat ⟨ILeL.refl _, c17 _ _ ?_ ?_⟩ ⟨_, rfl, ?_⟩, fun h6 => ⟨_, rfl, ?_⟩⟩), fun h5 => need_sat ⟨ALeL.refl _, g18 _ _ _ _ _ ?_ ?_ ?_ ?_⟩ ⟨_, rfl, ?_⟩⟩, fun h4 => need_sat ⟨ALeL.refl _, g18 _ _ _ _ _ ?_ ?_ ?_ ?_⟩ ⟨_, rfl, ?_⟩⟩), fun h3 => need_sat ⟨ALeL.refl _, g18 _ _ _ _ _ ?_ ?_ ?_ ?_⟩ ⟨_, rfl, ?_⟩⟩)))⟩⟩
  all_goals try have g1 := great_le h1
  all_goals first
    | exact .refl _
    | exact absurd hc (of_decide_eq_false h3)
    | (exfalso; simp at h4; done)
    | exact absurd rfl (of_decide_eq_false h5)
    | exact absurd rfl (of_decide_eq_false h6)
    | exact ha
    | omega
    | exact bstr_inj ha.1 hb.1
    | exact bstr_inj ha.1 ha.1
    | exact ⟨rfl, rfl, trivial⟩
    | exact ⟨c17 _ _ (by omega) (by omega), rfl⟩
    | exact List.length_map ..
    | exact ile_bo (decide_eq_true rfl)
end Gp
namespace Gp
open Go.ChangeShapes Go.WideShapes Go.ChangeAt Go.RowKit
open Go.Proofs Go.Proofs.Ytnfdbpopcfcegaa
theorem own : ownKnob prog.godebug = none := by kernel_rfl
theorem laidOut : laidOutB prog = true := by kernel_rfl
def isStruct : Option TypeDesc → Bool
  | some (.struct _) => true
  | _ => false
theorem isStruct_spec {x : Option TypeDesc} (h : isStruct x = true) : ∃ fs, x = some (.struct fs) := by
  unfold isStruct at h; split at h
  · exact ⟨_, rfl⟩
  · cases h
theorem us42 : ∃ fs, prog.underlying 42 = some (.struct fs) := isStruct_spec (by kernel_rfl)
theorem ubool : prog.underlying 4 = some .bool := by kernel_rfl
theorem paramsL : Proofs.Try.f3.params.toList = [42, 42] := by kernel_rfl
set_option maxRecDepth 100000 in
theorem walk (W : World) {H : Type} {enc : TypeId × Value → H} {f0 f1 : Nat} {v0 : Array Value} {v1 : Array Value} {x0 x1 : DataW H × List MemPlace} {held : Bool} {sp : Nat → Bool} (h0 : DataW.trod enc prog W 0 sp held f0 42 (Value.agg v0).cells.toList = some x0) (h1 : DataW.trod enc prog W 0 sp held f1 42 (Value.agg v1).cells.toList = some x1) :
    Calls prog 3 #[.agg v0, .agg v1] W fun e W' => e = .returned (.bool true) ∧ Below W.heap.size W W' := by
  obtain ⟨y0, r0, g0⟩ := rd42 h0
  obtain ⟨y1, r1, g1⟩ := rd42 h1
  have hm : maxLen = 2 ^ 63 - 1 := rfl
  refine ((c3 y0 y1 g0.1 g1.1 g0.2.2.2).2 W (allF W) #[.agg v0, .agg v1] (fun c b h => h.2) (fun b h => by cases h.1) (ic r0 (ic r1 in0))).mono ?_
  rintro e W' ⟨v, F', rfl, hb, _, _, _, _, hv⟩
  rw [bo, IRep] at hv
  rw [hv.1]
  exact ⟨rfl, hb⟩
set_option maxRecDepth 100000 in
theorem lifted (os : Os) (started : os.Started) (H : Type) (enc : TypeId × Value → H) :
    ReturnsInHanded {} Proofs.Try.checked os 3 .any (Rows.pduChecksSpec.pre6 enc prog Proofs.Try.f3 Rows.pduChecksRow.domain false) (Rows.pduChecksSpec.post enc prog Proofs.Try.f3 false true false false) := by
  refine returnsInHanded_of_change (C := Proofs.Try.checked) own started (by kernel_rfl) (show prog.funcs[3]? = some Proofs.Try.f3 by kernel_rfl)
    (ChangeSpec.witness6 (enc := enc) (C := Proofs.Try.checked) false ⟨#[], #[.agg #[.int .u8 0, .int .u8 0, .int .u16 0, .int .u32 0, .bool false, .int .u32 0, .int .u8 0, .int .u64 0, .int .u64 0, .int .i64 0, .int .i64 0, .int .u32 0, .slice none 0 0, .int .u32 0, .int .u8 0, .int .u8 0, .int .u8 0, .int .u8 0, .int .u8 0, .int .u8 0, .int .u8 0, .int .u8 0, .int .u8 0, .int .u8 0, .int .u8 0, .int .u8 0, .int .u8 0, .int .u8 0, .int .u8 0, .int .u8 0, .int .i64 0, .int .u32 0, .int .u32 0, .int .u32 0, .int .u16 0, .slice none 0 0, .string .empty], .agg #[.int .u8 0, .int .u8 0, .int .u16 0, .int .u32 0, .bool false, .int .u32 0, .int .u8 0, .int .u64 0, .int .u64 0, .int .i64 0, .int .i64 0, .int .u32 0, .slice none 0 0, .int .u32 0, .int .u8 0, .int .u8 0, .int .u8 0, .int .u8 0, .int .u8 0, .int .u8 0, .int .u8 0, .int .u8 0, .int .u8 0, .int .u8 0, .int .u8 0, .int .u8 0, .int .u8 0, .int .u8 0, .int .u8 0, .int .u8 0, .int .i64 0, .int .u32 0, .int .u32 0, .int .u32 0, .int .u16 0, .slice none 0 0, .string .empty]], []⟩ 8 (by kernel_rfl) (by kernel_rfl) (by kernel_rfl) (by kernel_rfl)) ?_
  intro W base args ds gs before hval0 hW hcnd _
  have hval : ∀ (j : Nat) t v, Proofs.Try.f3.params[j]? = some t → args[j]? = some v → Value.okWide prog W .any base t v := hval0
  have hW' := hW
  obtain ⟨p, q, hA0, hV, rfl, hfz, hnd⟩ := hW
  have hA : DataW.TrodAll enc prog W 0 (fun _ => true) true Proofs.Try.f3.params.toList args.toList ds p := hA0
  rw [paramsL] at hA
  have hp0 : Proofs.Try.f3.params[0]? = some 42 := by kernel_rfl
  have hp1 : Proofs.Try.f3.params[1]? = some 42 := by kernel_rfl
  obtain ⟨u0, us0, d0, ds0, p0, q0, hargs, rfl, rfl, h0, r0⟩ := trodAll_cons hA
  obtain ⟨u1, us1, d1, ds1, p1, q1, rfl, rfl, rfl, h1, r1⟩ := trodAll_cons r0
  obtain ⟨rfl, rfl, rfl⟩ := trodAll_nil r1
  obtain rfl : args = #[u0, u1] := by cases args; simp_all
  obtain ⟨rfl, rfl⟩ := trodVars_none hV
  obtain ⟨fs0, uu0⟩ := us42
  obtain ⟨a0, rfl, _⟩ := okWide_struct uu0 (hval 0 42 u0 hp0 rfl)
  have k0 := h0
  have lt0 : ∀ x ∈ p0, x.block < W.heap.size := by obtain ⟨m, hm⟩ := k0; exact DataW.trod_lt m _ _ _ hm
  obtain ⟨fs1, uu1⟩ := us42
  obtain ⟨a1, rfl, _⟩ := okWide_struct uu1 (hval 1 42 u1 hp1 rfl)
  have k1 := h1
  have lt1 : ∀ x ∈ p1, x.block < W.heap.size := by obtain ⟨m, hm⟩ := k1; exact DataW.trod_lt m _ _ _ hm
  obtain ⟨ff0, e0⟩ := h0
  obtain ⟨ff1, e1⟩ := h1
  clear hA0 hval0
  refine (walk W e0 e1).mono fun e W' ⟨he, bel⟩ => ?_
  subst he
  exact ⟨_, rfl, _, _, _, [], _, [], hW', trodAll_mk1 (shut_bool ubool _),
    (trodAll_cons_mk (Below.trod laidOut (by kernel_rfl) (of_decide_eq_true (by kernel_rfl)) k0 bel lt0) (trodAll_cons_mk (Below.trod laidOut (by kernel_rfl) (of_decide_eq_true (by kernel_rfl)) k1 bel lt1) trodAll_mk0)), rfl, bel.frame _, fun h => by cases h⟩
theorem over : Rows.pduChecksRow.holds Ytnfdbpopcfcegaa.Try.pinned (OpenSpec.ofChange Rows.pduChecksSpec) :=
  OpenClaim.holds_of_wide 3 Proofs.Try.f3 rfl rfl rfl rfl rfl rfl rfl ⟨rfl, rfl, rfl, rfl, rfl⟩ rfl rfl rfl rfl rfl (by kernel_rfl) (show prog.funcs[3]? = some Proofs.Try.f3 by kernel_rfl) (by kernel_rfl)
    (of_decide_eq_true (by kernel_rfl)) (by unfold Func.isWrapper; first | (rw [if_pos (by decide +kernel)]; kernel_rfl) | (rw [if_neg (by decide +kernel)]; exact ⟨rfl, rfl⟩))
    (fun os started H enc _ => lifted os started H enc)
theorem proved : Rows.PduChecksSaid := over
end Gp
namespace Go.Proofs.Ytnfdbpopcfcegaa
theorem pduChecks_holds : Rows.PduChecksSaid := Gp.proved
#print axioms pduChecks_holds
end Go.Proofs.Ytnfdbpopcfcegaa
