/- PROVED HERE: the statement PduOnceSaid: whatever comes in, the law returns true and each argument reads as before. No condition. -/
import Derived.Test.YtnfdbpopcfcegaaW7
set_option maxRecDepth 100000
set_option maxHeartbeats 0
set_option linter.unusedVariables false
set_option linter.unusedSimpArgs false
open Go Go.Abs
noncomputable section
namespace Gp
section
variable {H : Type} {enc : TypeId × Value → H} {w : World} {base : Nat} {spare : Nat → Bool} {held : Bool}
theorem wf_u8 {n : Int} (h : (Lit.int .u8 n).wf = true) : 0 ≤ n ∧ n < 256 := by have := wf_in h; simp [IntKind.min, IntKind.max, IntKind.bits, IntKind.signed] at this; omega
theorem fl5 : flatT prog 5 5 = some [.int .u8] := by kernel_rfl
theorem un40 : prog.underlying 40 = some (.slice 5) := by kernel_rfl
theorem rd5 {fuel : Nat} {cs : List Value} {x : DataW H × List MemPlace} (_ : cs.length = 1) (h : DataW.trod enc prog w base spare held fuel 5 cs = some x) : ∃ (n : Int) (v : Value), v.cells.toList = cs ∧ IRep w (allF w) (u8 n) v ∧ (0 ≤ n ∧ n < 256) := by
  obtain ⟨_, _, rfl, ⟨n, rfl, w1⟩, rfl⟩ := flat_read 5 5 _ fuel cs x fl5 h
  refine ⟨n, .int .u8 n, rfl, ?_, wf_u8 w1⟩
  rw [u8, IRep]; exact ⟨rfl, rfl⟩
theorem rd40 {fuel : Nat} {v : Value} {x : DataW H × List MemPlace} (h : DataW.trod enc prog w base spare held fuel 40 [v] = some x) : ∃ l : List Int, IRep w (allF w) (lu8 l) v ∧ byteL l ∧ l.length ≤ maxLen :=
  slice_read u8 (fun n => 0 ≤ n ∧ n < 256) un40 (by kernel_rfl) (by decide) (fun _ _ _ => rd5) h
end
end Gp
namespace Gp
theorem orB (v b : Int) (hv : 0 ≤ v) (hv2 : v < 2 ^ 56) (hb : 0 ≤ b) (hb2 : b < 256) : ibits .u64 (· ||| ·) (IntKind.u64.wrap (v * 2 ^ 8)) (IntKind.u64.wrap b) = v * 256 + b := by
  have e1 : IntKind.u64.wrap (v * 2 ^ 8) = v * 256 := by
    show (v * 256) % 18446744073709551616 = _
    omega
  have e2 : IntKind.u64.wrap b = b := by
    show b % 18446744073709551616 = _
    omega
  rw [e1, e2]
  obtain ⟨v', rfl⟩ := Int.eq_ofNat_of_zero_le hv
  obtain ⟨b', rfl⟩ := Int.eq_ofNat_of_zero_le hb
  have k1 : (BitVec.ofInt 64 ((v' : Int) * 256)).toNat = v' * 256 := by
    rw [BitVec.toNat_ofInt]
    show (((v' : Int) * 256) % 18446744073709551616).toNat = _
    omega
  have k2 : (BitVec.ofInt 64 (b' : Int)).toNat = b' := by
    rw [BitVec.toNat_ofInt]
    show ((b' : Int) % 18446744073709551616).toNat = _
    omega
  have k3 : v' * 256 ||| b' = v' * 256 + b' := by
    have := Nat.two_pow_add_eq_or_of_lt (i := 8) (b := b') (by omega) v'
    rw [Nat.mul_comm v' 256]; exact this.symm
  show IntKind.u64.wrap ((BitVec.ofInt 64 ((v' : Int) * 256) ||| BitVec.ofInt 64 (b' : Int)).toNat : Int) = _
  rw [BitVec.toNat_or, k1, k2, k3]
  show ((v' * 256 + b' : Nat) : Int) % 18446744073709551616 = _
  omega
theorem getV4 (a b c d : Int) (r : List Int) (ha : 0 ≤ a ∧ a < 256) (hb : 0 ≤ b ∧ b < 256) (hc : 0 ≤ c ∧ c < 256) (hd : 0 ≤ d ∧ d < 256) : getV (a :: b :: c :: d :: r) 4 = ((a * 256 + b) * 256 + c) * 256 + d := by
  show ibits .u64 (· ||| ·) (IntKind.u64.wrap (ibits .u64 (· ||| ·) (IntKind.u64.wrap (ibits .u64 (· ||| ·) (IntKind.u64.wrap (ibits .u64 (· ||| ·) (IntKind.u64.wrap (0 * 2 ^ 8)) (IntKind.u64.wrap a) * 2 ^ 8)) (IntKind.u64.wrap b) * 2 ^ 8)) (IntKind.u64.wrap c) * 2 ^ 8)) (IntKind.u64.wrap d) = _
  rw [orB 0 a (by omega) (by omega) ha.1 ha.2, orB _ b (by omega) (by omega) hb.1 hb.2, orB _ c (by omega) (by omega) hc.1 hc.2, orB _ d (by omega) (by omega) hd.1 hd.2]
  omega
theorem byV_eq (x : Int) (k : Nat) (hk : k < 8) : byV x k = (x / 2 ^ (8 * k)) % 256 := by
  unfold byV
  have e1 : IntKind.i64.wrap (8 * (k : Int)) = 8 * k := IntWalk.i64_in _ (by omega)
  rw [e1]
  have e2 : min (8 * (k : Int)).toNat 64 = 8 * k := by omega
  rw [e2, Int.fdiv_eq_ediv_of_nonneg _ (Int.le_of_lt (Int.pow_pos (by omega)))]
  rfl
theorem num4 (x : Int) : num x 4 = [(x / 2 ^ 24) % 256, (x / 2 ^ 16) % 256, (x / 2 ^ 8) % 256, x % 256] := by
  rw [num_eq]
  show [byV x 3, byV x 2, byV x 1, byV x 0] = _
  rw [show byV x 3 = _ from byV_eq x 3 (by omega), show byV x 2 = _ from byV_eq x 2 (by omega), show byV x 1 = _ from byV_eq x 1 (by omega), show byV x 0 = _ from byV_eq x 0 (by omega)]
  simp
theorem getV_num4 (x : Int) (r : List Int) (h0 : 0 ≤ x) (h1 : x < 2 ^ 32) : getV (num x 4 ++ r) 4 = x := by
  rw [num4]
  show getV (_ :: _ :: _ :: _ :: r) 4 = x
  rw [getV4 _ _ _ _ r (by omega) (by omega) (by omega) (by omega)]
  omega
theorem rsL_le2 (p : Pdu) (h : small p) : (rsL p).length ≤ 4304 := by
  unfold small at h
  unfold rsL; repeat' split
  · simp only [rs57, List.length_append, flI_len, num_len]; split <;> simp [num_len]
  · simp only [rs60, rs49, List.length_append, num_len]; split <;> simp [num_len]
  · simp [rs64, num_len, rootL]
  · simp [rs69, num_len, bytesL]; omega
  · simp [rs73, num_len, pvL_len]; omega
  · simp [rs49, num_len]
  · simp
theorem enc_parts (p : Pdu) (h : small p) : ∃ a b c d : Int, encB p = a :: b :: c :: d :: (num ((encB p).length : Int) 4 ++ rsL p) := by
  have hl := rsL_le2 p h
  have e8 := encB_len p
  have e : w64 (IntKind.i64.wrap (8 + ((rsL p).length : Int))) = ((encB p).length : Int) := by
    rw [IntWalk.i64_in _ (by omega), e8]
    show (8 + ((rsL p).length : Int)) % 18446744073709551616 = _
    omega
  have h4 : (num (w64 p.version) 1 ++ num (w64 p.kind) 1 ++ hdL p).length = 4 := by simp [num_len, hdL_len]
  obtain ⟨a, b, c, d, hh⟩ : ∃ a b c d, num (w64 p.version) 1 ++ num (w64 p.kind) 1 ++ hdL p = [a, b, c, d] := by
    generalize num (w64 p.version) 1 ++ num (w64 p.kind) 1 ++ hdL p = l at h4
    match l, h4 with
    | [a, b, c, d], _ => exact ⟨a, b, c, d, rfl⟩
  refine ⟨a, b, c, d, ?_⟩
  have : encB p = [a, b, c, d] ++ num (w64 (IntKind.i64.wrap (8 + ((rsL p).length : Int)))) 4 ++ rsL p := by rw [← hh]; rfl
  rw [e] at this
  exact this
theorem dN_enc (p : Pdu) (h : small p) (more : List Int) : dN (encB p ++ more) = (encB p).length := by
  obtain ⟨a, b, c, d, hh⟩ := enc_parts p h
  have hl := rsL_le2 p h
  have e8 := encB_len p
  have e : ((encB p ++ more).take 8).drop 4 = num ((encB p).length : Int) 4 := by
    generalize ((encB p).length : Int) = N at hh
    rw [hh, num4]
    rfl
  unfold dN
  rw [e]
  have := getV_num4 ((encB p).length : Int) [] (by omega) (by omega)
  rw [List.append_nil] at this
  rw [this]
  exact IntWalk.i64_in _ (by omega)
theorem dec_enc (p : Pdu) (h : chk p = 0) (more : List Int) : decF (encB p ++ more) = (p, ((encB p).length : Int), 0) := by
  obtain ⟨k1, k2, k3, k4⟩ := chk_0 h
  have hN := dN_enc p k1 more
  have hl := rsL_le2 p k1
  have e8 := encB_len p
  have et : (encB p ++ more).take (dN (encB p ++ more)).toNat = encB p := by
    rw [hN, Int.toNat_natCast, List.take_left]
  rw [dec_5 (by rw [List.length_append]; omega) (by rw [hN]; omega) (by rw [hN, List.length_append]; omega) (by rw [et]; exact ⟨k3, by rw [← k4]; exact h⟩), et, hN, ← k4]
end Gp
namespace Gp
def kz : RKey := ⟨0, Vector.replicate 16 0, 0⟩
def qry : Pdu := ⟨1, 1, 7, 300, false, ⟨0, ⟨0, ⟨0, 0⟩, 0⟩, 0⟩, ⟨0, []⟩, kz, 0, 0, 0, 0, [], .empty⟩
def ann : Pdu := ⟨0, 4, 0, 0, true, ⟨64500, ⟨4, ⟨0, 167772160⟩, 8⟩, 24⟩, ⟨0, []⟩, kz, 0, 0, 0, 0, [], .empty⟩
def wq : List Int := [1, 1, 0, 7, 0, 0, 0, 12, 0, 0, 1, 44]
def wa : List Int := [0, 4, 0, 0, 0, 0, 0, 20, 1, 8, 24, 0, 10, 0, 0, 0, 0, 0, 251, 244]
theorem enc_q : encB qry = wq := by
  unfold encB hdL rsL hd48 rs49
  simp only [num_eq]
  kernel_rfl
theorem enc_a : encB ann = wa := by
  unfold encB hdL rsL hd52 rs57 flI
  simp only [num_eq]
  kernel_rfl
theorem rd_q : rdF wq = (qry, true) := by kernel_rfl
theorem rd_a : rdF wa = (ann, true) := by kernel_rfl
theorem small_q : small qry := by unfold small; simp [qry]
theorem small_a : small ann := by unfold small; simp [ann]
theorem chk_q : chk qry = 0 := chk_o small_q (by unfold isK qry; simp) (by show ¬ (2 : Int) < 1; omega) (by kernel_rfl) (by rw [enc_q, rd_q]) (by rw [enc_q, rd_q])
theorem chk_a : chk ann = 0 := chk_o small_a (by unfold isK ann; simp) (by show ¬ (2 : Int) < 0; omega) (by kernel_rfl) (by rw [enc_a, rd_a]) (by rw [enc_a, rd_a])
def T43 : Tell :=
  Tell.mk (fun x x_1 => false) (fun x x_1 => Orc.no) (fun x => Tree.fail 1000003 0) (fun x => 0) (fun x => ([], [])) (fun x x_1 x_2 => Orc.no) fun x x_1 => Tree.fail 1000003 0
theorem t43 : levF prog Proofs.Try.f43 [] T43 =
  Tree.done Exit.ret
  (lret
  (IVal.agg
  [IVal.v (Value.int IntKind.u8 (1 : Int)), IVal.v (Value.int IntKind.u8 (1 : Int)), IVal.v (Value.int IntKind.u16 (7 : Int)), IVal.v (Value.int IntKind.u32 (300 : Int)), IVal.v (Value.bool false),
  IVal.v (Value.int IntKind.u32 (0 : Int)), IVal.v (Value.int IntKind.u8 (0 : Int)), IVal.v (Value.int IntKind.u64 (0 : Int)), IVal.v (Value.int IntKind.u64 (0 : Int)), IVal.v (Value.int IntKind.i64 (0 : Int)),
  IVal.v (Value.int IntKind.i64 (0 : Int)), IVal.v (Value.int IntKind.u32 (0 : Int)), IVal.v (Value.slice none 0 0), IVal.v (Value.int IntKind.u32 (0 : Int)), IVal.v (Value.int IntKind.u8 (0 : Int)),
  IVal.v (Value.int IntKind.u8 (0 : Int)), IVal.v (Value.int IntKind.u8 (0 : Int)), IVal.v (Value.int IntKind.u8 (0 : Int)), IVal.v (Value.int IntKind.u8 (0 : Int)), IVal.v (Value.int IntKind.u8 (0 : Int)),
  IVal.v (Value.int IntKind.u8 (0 : Int)), IVal.v (Value.int IntKind.u8 (0 : Int)), IVal.v (Value.int IntKind.u8 (0 : Int)), IVal.v (Value.int IntKind.u8 (0 : Int)), IVal.v (Value.int IntKind.u8 (0 : Int)),
  IVal.v (Value.int IntKind.u8 (0 : Int)), IVal.v (Value.int IntKind.u8 (0 : Int)), IVal.v (Value.int IntKind.u8 (0 : Int)), IVal.v (Value.int IntKind.u8 (0 : Int)), IVal.v (Value.int IntKind.u8 (0 : Int)),
  IVal.v (Value.int IntKind.i64 (0 : Int)), IVal.v (Value.int IntKind.u32 (0 : Int)), IVal.v (Value.int IntKind.u32 (0 : Int)), IVal.v (Value.int IntKind.u32 (0 : Int)), IVal.v (Value.int IntKind.u16 (0 : Int)),
  IVal.v (Value.slice none 0 0), IVal.v (Value.string (ByteArray.mk (Array.mk [])))])) := by kernel_rfl
def T20 : Tell :=
  Tell.mk (fun x x_1 => false) (fun x x_1 => Orc.no) (fun x => Tree.fail 1000003 0) (fun x => 0) (fun x => ([], [])) (fun x x_1 x_2 => Orc.no) fun x x_1 => Tree.fail 1000003 0
theorem t20 : levF prog Proofs.Try.f20 [] T20 =
  Tree.done Exit.ret
  (lret
  (IVal.agg
  [IVal.v (Value.int IntKind.u8 (0 : Int)), IVal.v (Value.int IntKind.u8 (4 : Int)), IVal.v (Value.int IntKind.u16 (0 : Int)), IVal.v (Value.int IntKind.u32 (0 : Int)), IVal.v (Value.bool true),
  IVal.v (Value.int IntKind.u32 (64500 : Int)), IVal.v (Value.int IntKind.u8 (4 : Int)), IVal.v (Value.int IntKind.u64 (0 : Int)), IVal.v (Value.int IntKind.u64 (167772160 : Int)), IVal.v (Value.int IntKind.i64 (8 : Int)),
  IVal.v (Value.int IntKind.i64 (24 : Int)), IVal.v (Value.int IntKind.u32 (0 : Int)), IVal.v (Value.slice none 0 0), IVal.v (Value.int IntKind.u32 (0 : Int)), IVal.v (Value.int IntKind.u8 (0 : Int)),
  IVal.v (Value.int IntKind.u8 (0 : Int)), IVal.v (Value.int IntKind.u8 (0 : Int)), IVal.v (Value.int IntKind.u8 (0 : Int)), IVal.v (Value.int IntKind.u8 (0 : Int)), IVal.v (Value.int IntKind.u8 (0 : Int)),
  IVal.v (Value.int IntKind.u8 (0 : Int)), IVal.v (Value.int IntKind.u8 (0 : Int)), IVal.v (Value.int IntKind.u8 (0 : Int)), IVal.v (Value.int IntKind.u8 (0 : Int)), IVal.v (Value.int IntKind.u8 (0 : Int)),
  IVal.v (Value.int IntKind.u8 (0 : Int)), IVal.v (Value.int IntKind.u8 (0 : Int)), IVal.v (Value.int IntKind.u8 (0 : Int)), IVal.v (Value.int IntKind.u8 (0 : Int)), IVal.v (Value.int IntKind.u8 (0 : Int)),
  IVal.v (Value.int IntKind.i64 (0 : Int)), IVal.v (Value.int IntKind.u32 (0 : Int)), IVal.v (Value.int IntKind.u32 (0 : Int)), IVal.v (Value.int IntKind.u32 (0 : Int)), IVal.v (Value.int IntKind.u16 (0 : Int)),
  IVal.v (Value.slice none 0 0), IVal.v (Value.string (ByteArray.mk (Array.mk [])))])) := by kernel_rfl
theorem c43 : ASpec prog 43 [] (encD qry) := by
  refine ASpec.treeW Proofs.Try.f43 T43 (by kernel_rfl) (by kernel_rfl) t43 ?_
  exact ⟨_, rfl, ile_pdu qry _ _ (ile_n _ rfl) (ile_n' _ rfl)⟩
theorem c20 : ASpec prog 20 [] (encD ann) := by
  refine ASpec.treeW Proofs.Try.f20 T20 (by kernel_rfl) (by kernel_rfl) t20 ?_
  exact ⟨_, rfl, ile_pdu ann _ _ (ile_n _ rfl) (ile_n' _ rfl)⟩
end Gp
namespace Gp
def T19 (p : Pdu) (w : List Int) : Tell :=
  Tell.mk (fun x x_1 => false) (fun x x_1 => Orc.no) (fun x => Tree.fail 1000003 0) (fun x => 0) (fun x => ([], []))
  (oget
  [(2, 1, 1, Orc.call [encD p] (IVal.tup [slE 1 u8 (eO p), i64 (chk p)])), (9, 2, 3, Orc.call [slE 1 u8 (w ++ [(0 : Int)])] (decT (decF (w ++ [(0 : Int)])))),
  (21, 3, 5, Orc.call [lu8 (eO p), lu8 w] (bo (decide (eO p = w)))), (21, 3, 20, Orc.call [encD p, encD (decF (w ++ [(0 : Int)])).fst] (bo (decide (p = (decF (w ++ [(0 : Int)])).fst))))])
  fun x x_1 => Tree.fail 1000003 0
theorem t19 (p : Pdu) (w : List Int) : levF prog Proofs.Try.f19 [encD p, .sl false true 1 (w.map u8)] (T19 p w) =
  Tree.need (ILeL [encD p] [encD p] ∧ ASpec prog 21 [encD p] (IVal.tup [slE 1 u8 (eO p), i64 (chk p)]))
  (Tree.need (askA (some (1 = 1)) (cellsOk (List.map u8 w) = true ∧ true = true ∧ List.length (List.map u8 w) + 1 ≤ 1000000))
  (Tree.need
  (ILeL [IVal.sl (false || List.isEmpty (List.map u8 w)) false 1 (List.map u8 w ++ [IVal.v (Value.int IntKind.u8 (0 : Int))])] [slE 1 u8 (w ++ [(0 : Int)])] ∧
  ASpec prog 22 [slE 1 u8 (w ++ [(0 : Int)])] (decT (decF (w ++ [(0 : Int)]))))
  (Tree.br (decide (chk p = (0 : Int)))
  (Tree.need (ILeL [slE 1 u8 (eO p), IVal.sl false true 1 (List.map u8 w)] [lu8 (eO p), lu8 w] ∧ ASpec prog 27 [lu8 (eO p), lu8 w] (bo (decide (eO p = w))))
  (Tree.br (decide (eO p = w))
  (Tree.br (decide ((decF (w ++ [(0 : Int)])).snd.snd = (0 : Int)))
  (Tree.br (decide ((decF (w ++ [(0 : Int)])).snd.fst = (↑(List.length (List.map u8 w)) : Int)))
  (Tree.need
  (ILeL [encD p, encD (decF (w ++ [(0 : Int)])).fst] [encD p, encD (decF (w ++ [(0 : Int)])).fst] ∧ ASpec prog 17 [encD p, encD (decF (w ++ [(0 : Int)])).fst] (bo (decide (p = (decF (w ++ [(0 : Int)])).fst))))
  (Tree.done Exit.ret (lret (IVal.v (Value.bool (decide (p = (decF (w ++ [(0 : Int)])).fst)))))))
  (Tree.done Exit.ret (lret (IVal.v (Value.bool false)))))
  (Tree.done Exit.ret (lret (IVal.v (Value.bool false)))))
  (Tree.done Exit.ret (lret (IVal.v (Value.bool false))))))
  (Tree.done Exit.ret (lret (IVal.v (Value.bool false))))))) := by kernel_rfl
def codF (p : Pdu) (w : List Int) : Bool := decide (chk p = 0) && (decide (eO p = w) && (decide ((decF (w ++ [0])).2.2 = 0) && (decide ((decF (w ++ [0])).2.1 = w.length) && decide (p = (decF (w ++ [0])).1))))
theorem eO_len (p : Pdu) : (eO p).length ≤ 4312 := by
  unfold eO; split
  · rename_i h
    have := rsL_le2 p (chk_0 h).1
    rw [encB_len]; omega
  · simp
theorem eO_byte (p : Pdu) (h : wfB p) : byteL (eO p) := by
  unfold eO; split
  · exact encB_byte p h
  · exact byteL_nil
theorem c19 (p : Pdu) (w : List Int) (hw : wfB p) (hb : byteL w) (hl : w.length ≤ 5000) (h1c : p.copy.length ≤ 2 ^ 62) (h2c : p.path.provs.length ≤ 2 ^ 62) : ASpec prog 19 [encD p, .sl false true 1 (w.map u8)] (bo (codF p w)) := by
  refine ASpec.treeW Proofs.Try.f19 (T19 p w) (by kernel_rfl) (by kernel_rfl) (t19 p w) ?_
  have hb0 : byteL (w ++ [0]) := byteL_app hb fun x hx => by simp at hx; omega
  refine need_sat ⟨ILeL.refl _, c21 p hw⟩ (need_sat ⟨⟨cellsOk_map u8 (fun _ => rfl) _, rfl, by rw [List.length_map]; omega⟩, rfl⟩ (need_sat ⟨.cons (.sl (fun h => by cases h) (fun h => h) ?_) (.refl _), c22 _ hb0 (by simp; omega)⟩ ⟨fun h1 => ?_, fun h1 => ⟨_, rfl, ile_bo (by unfold codF; rw [h1]; rfl)⟩⟩))
  · rw [List.map_append]; exact .refl _
  · refine need_sat ⟨.cons (.refl _) (.cons (.sl (fun h => h) (fun h => by cases h) (.refl _)) (.refl _)), c27 _ _ (by have := eO_len p; omega)⟩ ⟨fun h2 => ⟨fun h3 => ⟨fun h4 => need_sat ⟨ILeL.refl _, c17 _ _ h1c h2c⟩ ⟨_, rfl, ?_⟩, fun h4 => ⟨_, rfl, ?_⟩⟩, fun h3 => ⟨_, rfl, ?_⟩⟩, fun h2 => ⟨_, rfl, ?_⟩⟩
    · rw [List.length_map] at h4
      exact ile_bo (by unfold codF; rw [h1, h2, h3, h4]; rfl)
    · rw [List.length_map] at h4
      exact ile_bo (by unfold codF; rw [h1, h2, h3, h4]; rfl)
    · exact ile_bo (by unfold codF; rw [h1, h2, h3]; rfl)
    · exact ile_bo (by unfold codF; rw [h1, h2]; rfl)
theorem codF_t (p : Pdu) (w : List Int) (h : chk p = 0) (he : encB p = w) : codF p w = true := by
  have e1 : eO p = w := (if_pos h).trans he
  have e2 := dec_enc p h [0]
  rw [he] at e2
  unfold codF
  rw [e1, e2, h]
  simp
def T24 : Tell :=
  Tell.mk (fun r i => r == 1 && (i == 1 || i == 5)) (fun x x_1 => Orc.no) (fun x => Tree.fail 1000003 0) (fun x => 0) (fun x => ([], []))
  (oget
  [(1, 1, 0, Orc.call [] (encD qry)),
  (1, 1, 2,
  Orc.call [encD qry, IVal.sl false true 1 (List.map u8 [(1 : Int), (1 : Int), (0 : Int), (7 : Int), (0 : Int), (0 : Int), (0 : Int), (12 : Int), (0 : Int), (0 : Int), (1 : Int), (44 : Int)])]
  (bo (codF qry [(1 : Int), (1 : Int), (0 : Int), (7 : Int), (0 : Int), (0 : Int), (0 : Int), (12 : Int), (0 : Int), (0 : Int), (1 : Int), (44 : Int)]))),
  (1, 1, 4, Orc.call [] (encD ann)),
  (1, 1, 6,
  Orc.call
  [encD ann,
  IVal.sl false true 1
  (List.map u8
  [(0 : Int), (4 : Int), (0 : Int), (0 : Int), (0 : Int), (0 : Int), (0 : Int), (20 : Int), (1 : Int), (8 : Int), (24 : Int), (0 : Int), (10 : Int), (0 : Int), (0 : Int), (0 : Int), (0 : Int), (0 : Int), (251 : Int),
  (244 : Int)])]
  (bo
  (codF ann
  [(0 : Int), (4 : Int), (0 : Int), (0 : Int), (0 : Int), (0 : Int), (0 : Int), (20 : Int), (1 : Int), (8 : Int), (24 : Int), (0 : Int), (10 : Int), (0 : Int), (0 : Int), (0 : Int), (0 : Int), (0 : Int), (251 : Int),
  (244 : Int)])))])
  fun x x_1 => Tree.fail 1000003 0
theorem t24 : levF prog Proofs.Try.f24 [] T24 =
  Tree.need (ILeL [] [] ∧ ASpec prog 43 [] (encD qry))
  (Tree.need
  (ILeL
  [encD qry,
  IVal.sl true true 1
  [IVal.v (Value.int IntKind.u8 (1 : Int)), IVal.v (Value.int IntKind.u8 (1 : Int)), IVal.v (Value.int IntKind.u8 (0 : Int)), IVal.v (Value.int IntKind.u8 (7 : Int)), IVal.v (Value.int IntKind.u8 (0 : Int)),
  IVal.v (Value.int IntKind.u8 (0 : Int)), IVal.v (Value.int IntKind.u8 (0 : Int)), IVal.v (Value.int IntKind.u8 (12 : Int)), IVal.v (Value.int IntKind.u8 (0 : Int)), IVal.v (Value.int IntKind.u8 (0 : Int)),
  IVal.v (Value.int IntKind.u8 (1 : Int)), IVal.v (Value.int IntKind.u8 (44 : Int))]]
  [encD qry, IVal.sl false true 1 [u8 (1 : Int), u8 (1 : Int), u8 (0 : Int), u8 (7 : Int), u8 (0 : Int), u8 (0 : Int), u8 (0 : Int), u8 (12 : Int), u8 (0 : Int), u8 (0 : Int), u8 (1 : Int), u8 (44 : Int)]] ∧
  ASpec prog 19 [encD qry, IVal.sl false true 1 [u8 (1 : Int), u8 (1 : Int), u8 (0 : Int), u8 (7 : Int), u8 (0 : Int), u8 (0 : Int), u8 (0 : Int), u8 (12 : Int), u8 (0 : Int), u8 (0 : Int), u8 (1 : Int), u8 (44 : Int)]]
  (bo (codF qry [(1 : Int), (1 : Int), (0 : Int), (7 : Int), (0 : Int), (0 : Int), (0 : Int), (12 : Int), (0 : Int), (0 : Int), (1 : Int), (44 : Int)])))
  (Tree.br (codF qry [(1 : Int), (1 : Int), (0 : Int), (7 : Int), (0 : Int), (0 : Int), (0 : Int), (12 : Int), (0 : Int), (0 : Int), (1 : Int), (44 : Int)])
  (Tree.need (ILeL [] [] ∧ ASpec prog 20 [] (encD ann))
  (Tree.need
  (ILeL
  [encD ann,
  IVal.sl true true 1
  [IVal.v (Value.int IntKind.u8 (0 : Int)), IVal.v (Value.int IntKind.u8 (4 : Int)), IVal.v (Value.int IntKind.u8 (0 : Int)), IVal.v (Value.int IntKind.u8 (0 : Int)), IVal.v (Value.int IntKind.u8 (0 : Int)),
  IVal.v (Value.int IntKind.u8 (0 : Int)), IVal.v (Value.int IntKind.u8 (0 : Int)), IVal.v (Value.int IntKind.u8 (20 : Int)), IVal.v (Value.int IntKind.u8 (1 : Int)), IVal.v (Value.int IntKind.u8 (8 : Int)),
  IVal.v (Value.int IntKind.u8 (24 : Int)), IVal.v (Value.int IntKind.u8 (0 : Int)), IVal.v (Value.int IntKind.u8 (10 : Int)), IVal.v (Value.int IntKind.u8 (0 : Int)), IVal.v (Value.int IntKind.u8 (0 : Int)),
  IVal.v (Value.int IntKind.u8 (0 : Int)), IVal.v (Value.int IntKind.u8 (0 : Int)), IVal.v (Value.int IntKind.u8 (0 : Int)), IVal.v (Value.int IntKind.u8 (251 : Int)), IVal.v (Value.int IntKind.u8 (244 : Int))]]
  [encD ann,
  IVal.sl false true 1
  [u8 (0 : Int), u8 (4 : Int), u8 (0 : Int), u8 (0 : Int), u8 (0 : Int), u8 (0 : Int), u8 (0 : Int), u8 (20 : Int), u8 (1 : Int), u8 (8 : Int), u8 (24 : Int), u8 (0 : Int), u8 (10 : Int), u8 (0 : Int), u8 (0 : Int),
  u8 (0 : Int), u8 (0 : Int), u8 (0 : Int), u8 (251 : Int), u8 (244 : Int)]] ∧
  ASpec prog 19
  [encD ann,
  IVal.sl false true 1
  [u8 (0 : Int), u8 (4 : Int), u8 (0 : Int), u8 (0 : Int), u8 (0 : Int), u8 (0 : Int), u8 (0 : Int), u8 (20 : Int), u8 (1 : Int), u8 (8 : Int), u8 (24 : Int), u8 (0 : Int), u8 (10 : Int), u8 (0 : Int), u8 (0 : Int),
  u8 (0 : Int), u8 (0 : Int), u8 (0 : Int), u8 (251 : Int), u8 (244 : Int)]]
  (bo
  (codF ann
  [(0 : Int), (4 : Int), (0 : Int), (0 : Int), (0 : Int), (0 : Int), (0 : Int), (20 : Int), (1 : Int), (8 : Int), (24 : Int), (0 : Int), (10 : Int), (0 : Int), (0 : Int), (0 : Int), (0 : Int), (0 : Int), (251 : Int),
  (244 : Int)])))
  (Tree.done Exit.ret
  (lret
  (IVal.v
  (Value.bool
  (codF ann
  [(0 : Int), (4 : Int), (0 : Int), (0 : Int), (0 : Int), (0 : Int), (0 : Int), (20 : Int), (1 : Int), (8 : Int), (24 : Int), (0 : Int), (10 : Int), (0 : Int), (0 : Int), (0 : Int), (0 : Int), (0 : Int), (251 : Int),
  (244 : Int)])))))))
  (Tree.done Exit.ret (lret (IVal.v (Value.bool false)))))) := by kernel_rfl
theorem wf_kz : byteL (rootL kz) := fun x hx => by
  simp [rootL, kz] at hx
  omega
theorem byte_dec {l : List Int} (h : (l.all fun x => decide (0 ≤ x ∧ x < 256)) = true) : byteL l := fun x hx => of_decide_eq_true (List.all_eq_true.1 h x hx)
theorem c24 : ASpec prog 24 [] (bo true) := by
  refine ASpec.treeW Proofs.Try.f24 T24 (by kernel_rfl) (by kernel_rfl) t24 ?_
  have q1 := c19 qry wq ⟨byteL_nil, wf_kz⟩ (byte_dec rfl) (by decide) (by decide) (by decide)
  have q2 := c19 ann wa ⟨byteL_nil, wf_kz⟩ (byte_dec rfl) (by decide) (by decide) (by decide)
  have e1 : codF qry wq = true := codF_t qry wq chk_q enc_q
  have e2 : codF ann wa = true := codF_t ann wa chk_a enc_a
  refine need_sat ⟨ILeL.refl _, c43⟩ (need_sat ⟨.cons (.refl _) (.cons (.sl (fun h => by cases h) (fun h => h) (.refl _)) (.refl _)), q1⟩ ⟨fun h1 => ?_, fun h1 => ?_⟩)
  · refine need_sat ⟨ILeL.refl _, c20⟩ (need_sat ⟨.cons (.refl _) (.cons (.sl (fun h => by cases h) (fun h => h) (.refl _)) (.refl _)), q2⟩ ⟨_, rfl, ile_bo e2⟩)
  · exact absurd (e1.symm.trans h1) (by simp)
end Gp
namespace Gp
theorem great_f {p : Pdu} (h : great p = false) : p.copy.length ≤ 5000 ∧ p.text.size ≤ 5000 ∧ p.path.provs.length ≤ 80 := by
  simp [great] at h; omega
end Gp
namespace Gp
def T6 (p : Pdu) (more : List Int) : Tell :=
  Tell.mk (fun x x_1 => false) (fun x x_1 => Orc.no) (fun x => Tree.fail 1000003 0) (fun x => 0) (fun x => ([], []))
  (oget
  [(2, 1, 0, Orc.call [] (bo true)), (4, 2, 1, Orc.call [encD p] (bo (great p))), (15, 4, 1, Orc.call [encD p] (IVal.tup [slE 1 u8 (eO p), i64 (chk p)])),
  (24, 6, 8, Orc.call [encD p] (i64 (chk p))), (24, 7, 5, Orc.callf [28] [slE 1 u8 ([] ++ eO p ++ more)] (decT (decF ([] ++ eO p ++ more)))),
  (38, 8, 18, Orc.call [encD p, encD (decF ([] ++ eO p ++ more)).fst] (bo (decide (p = (decF ([] ++ eO p ++ more)).fst))))])
  fun x x_1 => Tree.fail 1000003 0
theorem t6 (p : Pdu) (more : List Int) : levF prog Proofs.Try.f6 [encD p, slE 1 u8 more] (T6 p more) =
  Tree.need (ILeL [] [] ∧ ASpec prog 24 [] (bo true))
  (Tree.need (ILeL [encD p] [encD p] ∧ ASpec prog 11 [encD p] (bo (great p)))
  (Tree.br (great p) (Tree.done Exit.ret (lret (IVal.v (Value.bool true))))
  (Tree.br (decide ((1000 : Int) < (↑(List.length (List.map u8 more)) : Int))) (Tree.done Exit.ret (lret (IVal.v (Value.bool true))))
  (Tree.br false (Tree.done Exit.ret (lret (IVal.v (Value.bool true))))
  (Tree.need (ILeL [encD p] [encD p] ∧ ASpec prog 21 [encD p] (IVal.tup [slE 1 u8 (eO p), i64 (chk p)]))
  (Tree.br (!decide (chk p = (0 : Int)))
  (Tree.br true
  (Tree.br (decide ((↑(List.length (List.map u8 (eO p))) : Int) = (0 : Int)))
  (Tree.need (ILeL [encD p] [encD p] ∧ ASpec prog 14 [encD p] (i64 (chk p))) (Tree.done Exit.ret (lret (IVal.v (Value.bool (decide (chk p = chk p))))))) (Tree.done Exit.ret (lret (IVal.v (Value.bool false)))))
  (Tree.done Exit.ret (lret (IVal.v (Value.bool false)))))
  (Tree.need (askA none (0 = 0 ∧ true = true ∧ cellsOk (List.map u8 (eO p)) = true ∧ 0 + List.length (List.map u8 (eO p)) ≤ 1000000))
  (Tree.need
  (askA none
  (List.length ([] ++ List.map u8 (eO p)) = 0 + List.length (List.map u8 (eO p)) ∧
  cellsOk ([] ++ List.map u8 (eO p)) = true ∧ cellsOk (List.map u8 more) = true ∧ 0 + List.length (List.map u8 (eO p)) + List.length (List.map u8 more) ≤ 1000000))
  (Tree.need
  (eqs [(0 + List.length (List.map u8 (eO p)) + List.length (List.map u8 more), List.length ([] ++ List.map u8 (eO p) ++ List.map u8 more))] ∧
  ILeL [IVal.sl true false 1 ([] ++ List.map u8 (eO p) ++ List.map u8 more)] [slE 1 u8 ([] ++ eO p ++ more)] ∧
  ASpec prog 22 [slE 1 u8 ([] ++ eO p ++ more)] (decT (decF ([] ++ eO p ++ more))))
  (Tree.br true
  (Tree.br (decide ((decF ([] ++ eO p ++ more)).snd.snd = (0 : Int)))
  (Tree.br (decide ((decF ([] ++ eO p ++ more)).snd.fst = (↑(List.length (List.map u8 (eO p))) : Int)))
  (Tree.br (decide ((decF ([] ++ eO p ++ more)).snd.fst ≤ (4312 : Int)))
  (Tree.need
  (ILeL [encD p, encD (decF ([] ++ eO p ++ more)).fst] [encD p, encD (decF ([] ++ eO p ++ more)).fst] ∧
  ASpec prog 17 [encD p, encD (decF ([] ++ eO p ++ more)).fst] (bo (decide (p = (decF ([] ++ eO p ++ more)).fst))))
  (Tree.done Exit.ret (lret (IVal.v (Value.bool (decide (p = (decF ([] ++ eO p ++ more)).fst)))))))
  (Tree.done Exit.ret (lret (IVal.v (Value.bool false)))))
  (Tree.done Exit.ret (lret (IVal.v (Value.bool false)))))
  (Tree.done Exit.ret (lret (IVal.v (Value.bool false)))))
  (Tree.done Exit.ret (lret (IVal.v (Value.bool false)))))))))))))) := by kernel_rfl
theorem c6 (p : Pdu) (more : List Int) (hw : wfB p) (hm : byteL more) : ASpec prog 6 [encD p, slE 1 u8 more] (bo true) := by
  refine ASpec.treeW Proofs.Try.f6 (T6 p more) (by kernel_rfl) (by kernel_rfl) (t6 p more) ?_
  refine need_sat ⟨ILeL.refl _, c24⟩ (need_sat ⟨ILeL.refl _, c11 _⟩ ⟨fun h1 => ⟨_, rfl, .refl _⟩, fun h1 => ⟨fun h2 => ⟨_, rfl, .refl _⟩, fun h2 => ⟨fun h => (by cases h), fun _ => need_sat ⟨ILeL.refl _, c21 p hw⟩ ⟨fun h3 => ?_, fun h3 => ?_⟩⟩⟩⟩)
  · have hn : ¬ chk p = 0 := of_decide_eq_false (nt h3)
    have he : eO p = [] := if_neg hn
    refine ⟨fun _ => ⟨fun h4 => need_sat ⟨ILeL.refl _, c14 p hw⟩ ⟨_, rfl, ile_bo (by simp)⟩, fun h4 => ?_⟩, fun h => (by cases h)⟩
    have := of_decide_eq_false h4
    rw [he] at this
    exact absurd rfl this
  · have hc : chk p = 0 := of_decide_eq_true (nf h3)
    have hg := great_f h1
    have hml : more.length ≤ 1000 := by have := of_decide_eq_false h2; rw [List.length_map] at this; omega
    have he : eO p = encB p := if_pos hc
    have hl4 := eO_len p
    have hs := (chk_0 hc).1
    have hd : decF (eO p ++ more) = (p, ((eO p).length : Int), 0) := by rw [he]; exact dec_enc p hc more
    have hb : byteL (eO p ++ more) := byteL_app (eO_byte p hw) hm
    have hll : (eO p ++ more).length ≤ 100000 := by rw [List.length_append]; omega
    refine need_sat ⟨rfl, rfl, cellsOk_map u8 (fun _ => rfl) _, by rw [List.length_map]; omega⟩ (need_sat ⟨by rw [Nat.zero_add]; rfl, cellsOk_map u8 (fun _ => rfl) _, cellsOk_map u8 (fun _ => rfl) _, by rw [List.length_map, List.length_map]; omega⟩
      (need_sat ⟨⟨?_, trivial⟩, .cons (.sl (fun h => by cases h) (fun h => h) ?_) (.refl _), c22 (eO p ++ more) hb hll⟩
        ⟨fun _ => ⟨fun h4 => ⟨fun h5 => ⟨fun h6 => need_sat ⟨ILeL.refl _, c17 _ _ (by omega) (by omega)⟩ ⟨_, rfl, ile_bo ?_⟩, fun h6 => ?_⟩, fun h5 => ?_⟩, fun h4 => ?_⟩, fun h => (by cases h)⟩))
    · simp
    · rw [List.nil_append, List.nil_append, List.map_append]; exact .refl _
    · show decide (p = (decF (eO p ++ more)).1) = true
      rw [hd]; simp
    · have h6' : ¬ (decF (eO p ++ more)).2.1 ≤ 4312 := of_decide_eq_false h6
      rw [hd] at h6'
      exact absurd (show ((eO p).length : Int) ≤ 4312 by omega) h6'
    · have h5' : ¬ (decF (eO p ++ more)).2.1 = (((eO p).map u8).length : Int) := of_decide_eq_false h5
      rw [hd, List.length_map] at h5'
      exact absurd rfl h5'
    · have h4' : ¬ (decF (eO p ++ more)).2.2 = 0 := of_decide_eq_false h4
      rw [hd] at h4'
      exact absurd rfl h4'
end Gp
namespace Gp
theorem getV1 (a : Int) (r : List Int) (ha : 0 ≤ a ∧ a < 256) : getV (a :: r) 1 = a := by
  show ibits .u64 (· ||| ·) (IntKind.u64.wrap (0 * 2 ^ 8)) (IntKind.u64.wrap a) = _
  rw [orB 0 a (by omega) (by omega) ha.1 ha.2]; omega
theorem getV2 (a b : Int) (r : List Int) (ha : 0 ≤ a ∧ a < 256) (hb : 0 ≤ b ∧ b < 256) : getV (a :: b :: r) 2 = a * 256 + b := by
  show ibits .u64 (· ||| ·) (IntKind.u64.wrap (ibits .u64 (· ||| ·) (IntKind.u64.wrap (0 * 2 ^ 8)) (IntKind.u64.wrap a) * 2 ^ 8)) (IntKind.u64.wrap b) = _
  rw [orB 0 a (by omega) (by omega) ha.1 ha.2, orB _ b (by omega) (by omega) hb.1 hb.2]; omega
theorem getV8 (a b c d e f g h : Int) (r : List Int) (ha : 0 ≤ a ∧ a < 256) (hb : 0 ≤ b ∧ b < 256) (hc : 0 ≤ c ∧ c < 256) (hd : 0 ≤ d ∧ d < 256) (he : 0 ≤ e ∧ e < 256) (hf : 0 ≤ f ∧ f < 256) (hg : 0 ≤ g ∧ g < 256) (hh : 0 ≤ h ∧ h < 256) :
    getV (a :: b :: c :: d :: e :: f :: g :: h :: r) 8 = ((((((a * 256 + b) * 256 + c) * 256 + d) * 256 + e) * 256 + f) * 256 + g) * 256 + h := by
  show ibits .u64 (· ||| ·) (IntKind.u64.wrap (ibits .u64 (· ||| ·) (IntKind.u64.wrap (ibits .u64 (· ||| ·) (IntKind.u64.wrap (ibits .u64 (· ||| ·) (IntKind.u64.wrap (ibits .u64 (· ||| ·) (IntKind.u64.wrap (ibits .u64 (· ||| ·) (IntKind.u64.wrap (ibits .u64 (· ||| ·) (IntKind.u64.wrap (ibits .u64 (· ||| ·) (IntKind.u64.wrap (0 * 2 ^ 8)) (IntKind.u64.wrap a) * 2 ^ 8)) (IntKind.u64.wrap b) * 2 ^ 8)) (IntKind.u64.wrap c) * 2 ^ 8)) (IntKind.u64.wrap d) * 2 ^ 8)) (IntKind.u64.wrap e) * 2 ^ 8)) (IntKind.u64.wrap f) * 2 ^ 8)) (IntKind.u64.wrap g) * 2 ^ 8)) (IntKind.u64.wrap h) = _
  rw [orB 0 a (by omega) (by omega) ha.1 ha.2, orB _ b (by omega) (by omega) hb.1 hb.2, orB _ c (by omega) (by omega) hc.1 hc.2, orB _ d (by omega) (by omega) hd.1 hd.2, orB _ e (by omega) (by omega) he.1 he.2, orB _ f (by omega) (by omega) hf.1 hf.2, orB _ g (by omega) (by omega) hg.1 hg.2, orB _ h (by omega) (by omega) hh.1 hh.2]
  omega
theorem num1 (x : Int) : num x 1 = [x % 256] := by
  rw [num_eq]
  show [byV x 0] = _
  rw [show byV x 0 = _ from byV_eq x 0 (by omega)]; simp
theorem num2 (x : Int) : num x 2 = [(x / 2 ^ 8) % 256, x % 256] := by
  rw [num_eq]
  show [byV x 1, byV x 0] = _
  rw [show byV x 1 = _ from byV_eq x 1 (by omega), show byV x 0 = _ from byV_eq x 0 (by omega)]; simp
theorem num8 (x : Int) : num x 8 = [(x / 2 ^ 56) % 256, (x / 2 ^ 48) % 256, (x / 2 ^ 40) % 256, (x / 2 ^ 32) % 256, (x / 2 ^ 24) % 256, (x / 2 ^ 16) % 256, (x / 2 ^ 8) % 256, x % 256] := by
  rw [num_eq]
  show [byV x 7, byV x 6, byV x 5, byV x 4, byV x 3, byV x 2, byV x 1, byV x 0] = _
  rw [show byV x 7 = _ from byV_eq x 7 (by omega), show byV x 6 = _ from byV_eq x 6 (by omega), show byV x 5 = _ from byV_eq x 5 (by omega), show byV x 4 = _ from byV_eq x 4 (by omega), show byV x 3 = _ from byV_eq x 3 (by omega), show byV x 2 = _ from byV_eq x 2 (by omega), show byV x 1 = _ from byV_eq x 1 (by omega), show byV x 0 = _ from byV_eq x 0 (by omega)]
  simp
theorem w64_id {x : Int} (h : 0 ≤ x) (h2 : x < 2 ^ 64) : w64 x = x := by
  show x % 18446744073709551616 = x
  omega
theorem inv1 {m : List Int} (hb : byteL m) (hl : 1 ≤ m.length) : ∃ a, 0 ≤ a ∧ a < 256 ∧ getV m 1 = a ∧ m = a :: m.drop 1 := by
  match m, hl with
  | a :: r, _ => exact ⟨a, (hb a (by simp)).1, (hb a (by simp)).2, getV1 a r (hb a (by simp)), rfl⟩
theorem back1 {m : List Int} (hb : byteL m) (hl : 1 ≤ m.length) : num (w64 (IntKind.u8.wrap (getV m 1))) 1 = m.take 1 := by
  obtain ⟨a, h1, h2, h3, h4⟩ := inv1 hb hl
  have e : IntKind.u8.wrap a = a := by show a % 256 = a; omega
  rw [h3, e, w64_id h1 (by omega), num1, h4]
  simp; omega
theorem back1i {m : List Int} (hb : byteL m) (hl : 1 ≤ m.length) : num (w64 (gi m)) 1 = m.take 1 := by
  obtain ⟨a, h1, h2, h3, h4⟩ := inv1 hb hl
  have e : IntKind.i64.wrap a = a := IntWalk.i64_in _ (by omega)
  unfold gi
  rw [h3, e, w64_id h1 (by omega), num1, h4]
  simp; omega
theorem back2 {m : List Int} (hb : byteL m) (hl : 2 ≤ m.length) : num (w64 (gu16 m)) 2 = m.take 2 := by
  match m, hl with
  | a :: b :: r, _ =>
    have ha := hb a (by simp); have hb' := hb b (by simp)
    unfold gu16
    rw [getV2 a b r ha hb']
    have e : IntKind.u16.wrap (a * 256 + b) = a * 256 + b := by show (a * 256 + b) % 65536 = _; omega
    rw [e, w64_id (by omega) (by omega), num2]
    simp; omega
theorem getV4_lt {m : List Int} (hb : byteL m) (hl : 4 ≤ m.length) : 0 ≤ getV m 4 ∧ getV m 4 < 2 ^ 32 ∧ num (getV m 4) 4 = m.take 4 := by
  match m, hl with
  | a :: b :: c :: d :: r, _ =>
    have ha := hb a (by simp); have hb' := hb b (by simp); have hc := hb c (by simp); have hd := hb d (by simp)
    rw [getV4 a b c d r ha hb' hc hd]
    refine ⟨by omega, by omega, ?_⟩
    rw [num4]
    simp; omega
theorem back4 {m : List Int} (hb : byteL m) (hl : 4 ≤ m.length) : num (w64 (gu32 m)) 4 = m.take 4 := by
  obtain ⟨h1, h2, h3⟩ := getV4_lt hb hl
  have e : IntKind.u32.wrap (getV m 4) = getV m 4 := by show getV m 4 % 4294967296 = _; omega
  unfold gu32
  rw [e, w64_id h1 (by omega), h3]
theorem back4' {m : List Int} (hb : byteL m) (hl : 4 ≤ m.length) : num (getV m 4) 4 = m.take 4 := (getV4_lt hb hl).2.2
theorem back8 {m : List Int} (hb : byteL m) (hl : 8 ≤ m.length) : num (getV m 8) 8 = m.take 8 := by
  match m, hl with
  | a :: b :: c :: d :: e :: f :: g :: h :: r, _ =>
    have ha := hb a (by simp); have hb' := hb b (by simp); have hc := hb c (by simp); have hd := hb d (by simp); have he := hb e (by simp); have hf := hb f (by simp); have hg := hb g (by simp); have hh := hb h (by simp)
    rw [getV8 a b c d e f g h r ha hb' hc hd he hf hg hh, num8]
    simp
    refine ⟨?_, ?_, ?_, ?_, ?_, ?_, ?_, ?_⟩ <;> omega
theorem flag1 {m : List Int} (hb : byteL m) (hl : 1 ≤ m.length) (h : getV m 1 ≤ 1) : flI (decide (getV m 1 = 1)) = m.take 1 := by
  obtain ⟨a, h1, h2, h3, h4⟩ := inv1 hb hl
  rw [h3] at h ⊢
  unfold flI
  rw [num1, h4]
  have : a = 0 ∨ a = 1 := by omega
  rcases this with rfl | rfl <;> simp
theorem zero1 {m : List Int} (hb : byteL m) (hl : 1 ≤ m.length) (h : getV m 1 = 0) : num 0 1 = m.take 1 := by
  obtain ⟨a, h1, h2, h3, h4⟩ := inv1 hb hl
  rw [h3] at h; subst h
  rw [num1, h4]; simp
theorem bytesL_bstr {t : List Int} (h : byteL t) : bytesL (bstr t) = t := by
  unfold bytesL bstr
  rw [bstr_data]
  simp only [ByteArray.empty, List.map_append, List.map_map]
  show ([] : List Int) ++ _ = t
  rw [List.nil_append]
  refine List.ext_getElem (by simp) fun i h1 h2 => ?_
  simp only [List.getElem_map, Function.comp]
  have := h _ (List.getElem_mem h2)
  rw [UInt8.toNat_ofNat']
  omega
end Gp
namespace Gp
theorem tk (m : List Int) (i j : Nat) : m.take i ++ (m.drop i).take j = m.take (i + j) := List.take_add.symm
theorem tk2 (m : List Int) (i j n : Nat) : (m.drop n).take i ++ (m.drop (n + i)).take j = (m.drop n).take (i + j) := by rw [← List.drop_drop]; exact tk _ _ _
theorem bdrop {m : List Int} (h : byteL m) (n : Nat) : byteL (m.drop n) := byteL_sub h fun x hx => List.mem_of_mem_drop hx
theorem tall {m : List Int} {n : Nat} (h : (m.drop n).length = 0) : m.take n = m := by rw [List.length_drop] at h; exact List.take_of_length_le (by omega)
theorem tz' {m : List Int} {n : Nat} (h : decide (((m.drop n).length : Int) = 0) = true) : m.take n = m := tall (by have := of_decide_eq_true h; omega)
theorem rs_0 {p : Pdu} (h : p.kind = 0 ∨ p.kind = 1) : rsL p = rs49 p := by unfold rsL; rw [if_neg (by omega), if_neg (by omega), if_neg (by omega), if_neg (by omega), if_neg (by omega), if_pos h]
theorem rs_4 {p : Pdu} (h : p.kind = 4 ∨ p.kind = 6) : rsL p = rs57 p := by unfold rsL; rw [if_pos h]
theorem rs_7 {p : Pdu} (h : p.kind = 7) : rsL p = rs60 p := by unfold rsL; rw [if_neg (by omega), if_pos h]
theorem rs_9 {p : Pdu} (h : p.kind = 9) : rsL p = rs64 p := by unfold rsL; rw [if_neg (by omega), if_neg (by omega), if_pos h]
theorem rs_10 {p : Pdu} (h : p.kind = 10) : rsL p = rs69 p := by unfold rsL; rw [if_neg (by omega), if_neg (by omega), if_neg (by omega), if_pos h]
theorem rs_11 {p : Pdu} (h : p.kind = 11) : rsL p = rs73 p := by unfold rsL; rw [if_neg (by omega), if_neg (by omega), if_neg (by omega), if_neg (by omega), if_pos h]
theorem rs_2 {p : Pdu} (h : p.kind = 2 ∨ p.kind = 8 ∨ p.kind = 3) : rsL p = [] := by unfold rsL; rw [if_neg (by omega), if_neg (by omega), if_neg (by omega), if_neg (by omega), if_neg (by omega), if_neg (by omega)]
theorem b49 {p : Pdu} {m : List Int} (hb : byteL m) (hs : p.serial = gu32 m) (hl : 4 ≤ m.length) : rs49 p = m.take 4 := by unfold rs49; rw [hs]; exact back4 hb hl
theorem b57 {p : Pdu} {m : List Int} (hb : byteL m) (hk : p.kind = 4 ∨ p.kind = 6) (hl : oN p.kind ≤ m.length) (h1 : getV m 1 ≤ 1) (h2 : getV (m.drop 3) 1 = 0) (ha : p.add = decide (getV m 1 = 1)) (ho : p.origin = oV p.kind m) : rs57 p = m.take (oN p.kind) := by
  unfold rs57
  rw [ha]
  have ld : ∀ n, (m.drop n).length = m.length - n := fun n => List.length_drop
  by_cases h6 : p.kind = 6
  · rw [ho, h6]
    rw [h6] at hl
    have hl : 24 ≤ m.length := hl
    have e1 := back1i (bdrop hb 1) (by rw [ld]; omega)
    have e2 := back1i (bdrop hb 2) (by rw [ld]; omega)
    have e3 := zero1 (bdrop hb 3) (by rw [ld]; omega) h2
    have e4 := back8 (bdrop hb 4) (by rw [ld]; omega)
    have e5 := back8 (bdrop hb 12) (by rw [ld]; omega)
    have e6 := back4 (bdrop hb 20) (by rw [ld]; omega)
    show flI _ ++ num (w64 (gi (m.drop 1))) 1 ++ num (w64 (gi (m.drop 2))) 1 ++ num 0 1 ++ (num (getV (m.drop 4) 8) 8 ++ num (getV (m.drop 12) 8) 8) ++ num (w64 (gu32 (m.drop 20))) 4 = m.take 24
    rw [flag1 hb (by omega) h1, e1, e2, e3, e4, e5, e6, tk2 m 8 8 4, tk m 1 1, tk m 2 1, tk m 3 1, tk m 4 16, tk m 20 4]
  · have h4 : p.kind = 4 := by omega
    rw [ho, h4]
    rw [h4] at hl
    have hl : 12 ≤ m.length := hl
    have e1 := back1i (bdrop hb 1) (by rw [ld]; omega)
    have e2 := back1i (bdrop hb 2) (by rw [ld]; omega)
    have e3 := zero1 (bdrop hb 3) (by rw [ld]; omega) h2
    have e4 := back4' (bdrop hb 4) (by rw [ld]; omega)
    have e6 := back4 (bdrop hb 8) (by rw [ld]; omega)
    show flI _ ++ num (w64 (gi (m.drop 1))) 1 ++ num (w64 (gi (m.drop 2))) 1 ++ num 0 1 ++ num (getV (m.drop 4) 4) 4 ++ num (w64 (gu32 (m.drop 8))) 4 = m.take 12
    rw [flag1 hb (by omega) h1, e1, e2, e3, e4, e6, tk m 1 1, tk m 2 1, tk m 3 1, tk m 4 4, tk m 8 4]
theorem b60 {p : Pdu} {m : List Int} (hb : byteL m) (hl : eN p.version ≤ m.length) (hs : p.serial = gu32 m) (ht : 0 < p.version → p.refresh = gu32 (m.drop 4) ∧ p.retry = gu32 (m.drop 8) ∧ p.expire = gu32 (m.drop 12)) : rs60 p = m.take (eN p.version) := by
  unfold rs60 eN at *
  have ld : ∀ n, (m.drop n).length = m.length - n := fun n => List.length_drop
  by_cases hv : 0 < p.version
  · rw [if_pos hv] at hl ⊢
    obtain ⟨t1, t2, t3⟩ := ht hv
    rw [b49 hb hs (by omega), if_pos hv, t1, t2, t3, back4 (bdrop hb 4) (by rw [ld]; omega), back4 (bdrop hb 8) (by rw [ld]; omega), back4 (bdrop hb 12) (by rw [ld]; omega), tk2 m 4 4 4, tk2 m 8 4 4, tk m 4 12]
  · rw [if_neg hv] at hl ⊢
    rw [b49 hb hs hl, if_neg hv, List.append_nil]
theorem b64 {p : Pdu} {m : List Int} (hb : byteL m) (hl : 21 ≤ m.length) (hk : p.key = kR m) : rs64 p = m.take 21 := by
  unfold rs64
  have ld : ∀ n, (m.drop n).length = m.length - n := fun n => List.length_drop
  have e : rootL (kR m) = (m.drop 5).take 16 := (take16 (m.drop 5) (by rw [ld]; omega)).symm
  rw [hk]
  show num (w64 (gu32 m)) 4 ++ num (w64 (gi (m.drop 4))) 1 ++ rootL (kR m) = _
  rw [e, back4 hb (by omega), back1i (bdrop hb 4) (by rw [ld]; omega), tk m 4 1, tk m 5 16]
theorem gn_eq {m : List Int} (hb : byteL m) (hl : 4 ≤ m.length) : gn m = getV m 4 ∧ num (w64 (gn m)) 4 = m.take 4 := by
  obtain ⟨h1, h2, h3⟩ := getV4_lt hb hl
  have e : gn m = getV m 4 := IntWalk.i64_in _ (by omega)
  exact ⟨e, by rw [e, w64_id h1 (by omega), h3]⟩
theorem b69 {p : Pdu} {m : List Int} (hb : byteL m) (hk : k71 m = true) (hc : p.copy = fCopy m) (ht : p.text = bstr (fText m)) (hr : (fRest m).length = 0) : rs69 p = m := by
  obtain ⟨h1, h2, h3, h4, h5, h6⟩ := k71_t hk
  have hbL : byteL (fL1 m) := bdrop (bdrop hb 4) _
  have hbt : byteL (fText m) := byteL_sub (bdrop hbL 4) fun x hx => List.mem_of_mem_take hx
  have c1 : (p.copy.length : Int) = gn m := by rw [hc]; unfold fCopy; rw [List.length_take, List.length_drop]; omega
  have hTx : (fText m).length = (gn (fL1 m)).toNat := by unfold fText; rw [List.length_take, List.length_drop]; omega
  have sz : ((bstr (fText m)).size : Int) = gn (fL1 m) := by
    have : (bstr (fText m)).size = (fText m).length := by
      have e := congrArg List.length (bytesL_bstr hbt)
      unfold bytesL at e
      rw [List.length_map] at e
      rw [← e]; rfl
    rw [this, hTx]; omega
  unfold rs69
  rw [c1, ht, sz, bytesL_bstr hbt, (gn_eq hb h1).2, (gn_eq hbL h4).2, hc]
  have e1 : (fL1 m).take 4 ++ fText m = fL1 m := by
    have e2 : fText m = (fL1 m).drop 4 := tall hr
    rw [e2, List.take_append_drop]
  show m.take 4 ++ fCopy m ++ (fL1 m).take 4 ++ fText m = m
  rw [List.append_assoc _ ((fL1 m).take 4), e1]
  show m.take 4 ++ (m.drop 4).take (gn m).toNat ++ (m.drop 4).drop (gn m).toNat = m
  rw [List.append_assoc, List.take_append_drop, List.take_append_drop]
theorem pv_back {m : List Int} (hb : byteL m) : ∀ n, 4 * n ≤ m.length → pvL (pvR m n) = m.take (4 * n)
  | 0, _ => by simp [pvR, pvL]
  | n + 1, h => by
    have ih := pv_back hb n (by omega)
    rw [pvR_succ]
    unfold pvL at ih ⊢
    rw [List.flatMap_append, ih]
    show m.take (4 * n) ++ (num (w64 (gu32 (m.drop (4 * n)))) 4 ++ []) = _
    rw [List.append_nil, back4 (bdrop hb _) (by rw [List.length_drop]; omega), tk]
    rfl
theorem bb73 {p : Pdu} {m : List Int} (hb : byteL m) (hl : m.length = 4 + 4 * pN m) (hc : p.path.cust = gu32 m) (hp : p.path.provs = pvR (m.drop 4) (pN m)) : rs73 p = m := by
  unfold rs73
  rw [hc, hp, back4 hb (by omega), pv_back (bdrop hb 4) _ (by rw [List.length_drop]; omega), tk]
  exact List.take_of_length_le (by omega)
end Gp
namespace Gp
theorem rdS_kv (l : List Int) : (rdS l).version = gu8 l ∧ (rdS l).kind = kR1 l := by
  unfold rdS tS; repeat' split
  · exact ⟨rfl, rfl⟩
  · unfold Pdu.withE; split <;> exact ⟨rfl, rfl⟩
  · exact ⟨rfl, rfl⟩
  · exact ⟨rfl, rfl⟩
theorem rdV_kv (l : List Int) : (rdV l).version = gu8 l ∧ (rdV l).kind = kR1 l := by
  unfold rdV; repeat' split
  · exact ⟨rfl, rfl⟩
  · exact ⟨rfl, rfl⟩
  · exact ⟨rfl, rfl⟩
  · exact rdS_kv l
theorem rdOk_t {l : List Int} (h : rdOk l = true) : 8 ≤ l.length ∧ isK (kR1 l) ∧ kF (kR1 l) (d2 l) = true ∧ kTT (gu8 l) (kR1 l) (d8 l) = true := by
  unfold rdOk at h
  simp only [Bool.and_eq_true, decide_eq_true_eq] at h
  exact ⟨h.1.1.1, h.1.1.2, h.1.2, h.2⟩
theorem hdL_back {l : List Int} (hb : byteL l) (h : rdOk l = true) : hdL (rdV l) = (d2 l).take 2 := by
  obtain ⟨h8, hk, hF, _⟩ := rdOk_t h
  have hb2 : byteL (d2 l) := bdrop (bdrop hb 1) 1
  have kv := (rdV_kv l).2
  have ld : ((d2 l).drop 1).length = l.length - 3 := by rw [List.length_drop, d2_len]; omega
  have l2 := d2_len l
  unfold hdL
  rw [kv]
  have add : kR1 l = 9 ∨ kR1 l = 11 → (rdV l).add = decide (getV (d2 l) 1 = 1) := by
    intro hh
    unfold rdV
    rcases hh with hh | hh
    · rw [if_pos hh]; rfl
    · rw [if_neg (by omega), if_neg (by omega), if_pos hh]; rfl
  by_cases h9 : kR1 l = 9 ∨ kR1 l = 11
  · rw [if_pos h9]
    unfold kF at hF; rw [if_pos h9] at hF
    obtain ⟨f1, f2, f3⟩ := k65_t hF
    unfold hd63
    rw [add h9, flag1 hb2 (by omega) f2, zero1 (bdrop hb2 1) (by omega) f3, tk]
  rw [if_neg h9]
  by_cases h10 : kR1 l = 10
  · rw [if_pos h10]
    have e : (rdV l).code = gu16 (d2 l) := by unfold rdV; rw [if_neg (by omega), if_pos h10]; rfl
    unfold hd68
    rw [e, back2 hb2 (by omega)]
  rw [if_neg h10]
  by_cases h2 : kR1 l = 2 ∨ kR1 l = 8 ∨ kR1 l = 4 ∨ kR1 l = 6
  · rw [if_pos h2]
    unfold kF at hF; rw [if_neg h9, if_pos h2] at hF
    obtain ⟨f1, f2, f3⟩ := (of_decide_eq_true hF : 2 ≤ (d2 l).length ∧ getV (d2 l) 1 = 0 ∧ getV ((d2 l).drop 1) 1 = 0)
    have z1' := zero1 hb2 (by omega) f2
    have z2' := zero1 (bdrop hb2 1) (by omega) f3
    unfold hd52
    have e : num 0 2 = num 0 1 ++ num 0 1 := by rw [num2, num1]; rfl
    rw [e]
    exact (congr (congrArg HAppend.hAppend z1') z2').trans (tk (d2 l) 1 1)
  · rw [if_neg h2]
    have hs : kR1 l = 0 ∨ kR1 l = 1 ∨ kR1 l = 3 ∨ kR1 l = 7 := by unfold isK at hk; omega
    have e : (rdV l).session = gu16 (d2 l) := by
      unfold rdV
      rw [if_neg (by omega), if_neg (by omega), if_neg (by omega)]
      have e1 : (rdS l).session = (p1 l).session := by
        unfold rdS tS; repeat' split
        · rfl
        · unfold Pdu.withE; split <;> rfl
        · rfl
        · rfl
      rw [e1]
      show sF (kR1 l) (d2 l) = _
      unfold sF; rw [if_pos hs]
    unfold hd48
    rw [e, back2 hb2 (by omega)]
theorem rsL_back {l : List Int} (hb : byteL l) (h : rdOk l = true) (hr : rdR l = true) : rsL (rdV l) = d8 l := by
  obtain ⟨h8, hk, _, hT⟩ := rdOk_t h
  have hb8 : byteL (d8 l) := bdrop (bdrop (bdrop (bdrop hb 1) 1) 2) 4
  have kv := rdV_kv l
  by_cases h9 : kR1 l = 9
  · have e : rdV l = rdK l := by unfold rdV; rw [if_pos h9]
    unfold kTT at hT; rw [if_pos h9] at hT
    unfold rdR at hr; rw [if_pos h9] at hr
    rw [rs_9 (by rw [kv.2]; exact h9), b64 (m := d8 l) hb8 (k66_t hT) (by rw [e]; rfl), tz' hr]
  by_cases h10 : kR1 l = 10
  · have e : rdV l = rdE l := by unfold rdV; rw [if_neg h9, if_pos h10]
    unfold kTT at hT; rw [if_neg h9, if_pos h10] at hT
    unfold rdR at hr; rw [if_neg h9, if_pos h10] at hr
    rw [rs_10 (by rw [kv.2]; exact h10)]
    exact b69 hb8 hT (by rw [e]; rfl) (by rw [e]; rfl) (by have := of_decide_eq_true hr; omega)
  by_cases h11 : kR1 l = 11
  · have e : rdV l = rdP l := by unfold rdV; rw [if_neg h9, if_neg h10, if_pos h11]
    unfold kTT at hT; rw [if_neg h9, if_neg h10, if_pos h11] at hT
    rw [rs_11 (by rw [kv.2]; exact h11)]
    exact bb73 hb8 (k74_t hT) (by rw [e]; rfl) (by rw [e]; rfl)
  have hS : isS (kR1 l) := by unfold isK at hk; unfold isS; omega
  have e : rdV l = rdS l := by unfold rdV; rw [if_neg h9, if_neg h10, if_neg h11]
  rw [kT_S hS] at hT
  obtain ⟨t1, t2⟩ := kT_t hT
  unfold rdR at hr; rw [if_neg h9, if_neg h10, if_neg h11] at hr
  have htk := tz' hr
  have hk1 : (p1 l).kind = kR1 l := rfl
  by_cases h4 : kR1 l = 4 ∨ kR1 l = 6
  · have e2 : rdS l = (p1 l).withO (d8 l) := by unfold rdS tS; rw [hk1, if_pos h4]
    have en : tN (gu8 l) (kR1 l) = oN (kR1 l) := by unfold tN; rw [if_pos h4]
    rw [en] at t1 htk
    have ek : (rdV l).kind = kR1 l := kv.2
    rw [rs_4 (by rw [ek]; exact h4), b57 (m := d8 l) hb8 (by rw [ek]; exact h4) (by rw [ek]; exact t1) (t2 h4).1 (t2 h4).2 (by rw [e, e2]; rfl) (by rw [e, e2]; rfl), ek, htk]
  by_cases h7 : kR1 l = 7
  · have e2 : rdS l = (p1 l).withE (d8 l) := by unfold rdS tS; rw [hk1, if_neg h4, if_pos h7]
    have en : tN (gu8 l) (kR1 l) = eN (gu8 l) := by unfold tN; rw [if_neg h4, if_pos h7]
    rw [en] at t1 htk
    have hs : (rdV l).serial = gu32 (d8 l) := by rw [e, e2]; unfold Pdu.withE; split <;> rfl
    have ht : 0 < (rdV l).version → (rdV l).refresh = gu32 ((d8 l).drop 4) ∧ (rdV l).retry = gu32 ((d8 l).drop 8) ∧ (rdV l).expire = gu32 ((d8 l).drop 12) := by
      intro hv
      rw [kv.1] at hv
      rw [e, e2]; unfold Pdu.withE
      rw [if_pos (show 0 < (p1 l).version from hv)]
      exact ⟨rfl, rfl, rfl⟩
    rw [rs_7 (by rw [kv.2]; exact h7), b60 (m := d8 l) hb8 (by rw [kv.1]; exact t1) hs ht, kv.1, htk]
  by_cases h0 : kR1 l = 0 ∨ kR1 l = 1
  · have e2 : rdS l = (p1 l).withSerial (gu32 (d8 l)) := by unfold rdS tS; rw [hk1, if_neg h4, if_neg h7, if_pos h0]
    have en : tN (gu8 l) (kR1 l) = 4 := by unfold tN; rw [if_neg h4, if_neg h7, if_pos h0]
    rw [en] at t1 htk
    rw [rs_0 (by rw [kv.2]; exact h0), b49 (m := d8 l) hb8 (by rw [e, e2]; rfl) t1, htk]
  · have en : tN (gu8 l) (kR1 l) = 0 := by unfold tN; rw [if_neg h4, if_neg h7, if_neg h0]
    rw [en] at htk
    rw [rs_2 (by rw [kv.2]; unfold isS at hS; omega), ← htk, List.take_zero]
theorem encB_back {l : List Int} (hb : byteL l) (h : rdOk l = true) (hr : rdR l = true) (hN : dN l = l.length) (hl : l.length ≤ 4312) : encB (rdV l) = l := by
  have h8 := (rdOk_t h).1
  have e8 : rsL (rdV l) = l.drop 8 := (rsL_back hb h hr).trans (d8_eq l)
  have e2 : hdL (rdV l) = (l.drop 2).take 2 := (hdL_back hb h).trans (by rw [d2_eq])
  have kv := rdV_kv l
  have ev : num (w64 (rdV l).version) 1 = l.take 1 := by rw [kv.1]; exact back1 hb (by omega)
  have ek : num (w64 (rdV l).kind) 1 = (l.drop 1).take 1 := by rw [kv.2]; exact back1 (bdrop hb 1) (by rw [List.length_drop]; omega)
  have hm : byteL ((l.take 8).drop 4) := bdrop (byteL_sub hb fun x hx => List.mem_of_mem_take hx) 4
  have hml : ((l.take 8).drop 4).length = 4 := by rw [List.length_drop, List.length_take]; omega
  obtain ⟨g1, g2, g3⟩ := getV4_lt hm (by omega)
  have eg : getV ((l.take 8).drop 4) 4 = l.length := by
    have : dN l = getV ((l.take 8).drop 4) 4 := IntWalk.i64_in _ (by omega)
    rw [← this, hN]
  have en : num (w64 (IntKind.i64.wrap (8 + ((rsL (rdV l)).length : Int)))) 4 = (l.drop 4).take 4 := by
    rw [e8, List.length_drop]
    have : (8 : Int) + ((l.length - 8 : Nat) : Int) = (l.length : Int) := by omega
    rw [this, IntWalk.i64_in _ (by omega), w64_id (by omega) (by omega), ← eg, g3]
    rw [List.take_of_length_le (by omega), List.drop_take]
  unfold encB
  rw [en, ev, ek, e2, e8, tk l 1 1, tk l 2 2, tk l 4 4, List.take_append_drop]
end Gp
namespace Gp
theorem dec_cases (l : List Int) : decF l = (zeroP, 0, 12) ∨ decF l = (zeroP, 0, 34) ∨ (¬ l.length < 8 ∧ ¬ (dN l < 8 ∨ 4312 < dN l) ∧ ¬ (l.length : Int) < dN l ∧ (rdF (l.take (dN l).toNat)).2 = true ∧ chk (rdF (l.take (dN l).toNat)).1 = 0) := by
  by_cases h1 : l.length < 8
  · exact .inr (.inl (dec_1 h1))
  by_cases h2 : dN l < 8 ∨ 4312 < dN l
  · exact .inl (dec_2 h1 h2)
  by_cases h3 : (l.length : Int) < dN l
  · exact .inr (.inl (dec_3 h1 h2 h3))
  by_cases h4 : (rdF (l.take (dN l).toNat)).2 = true ∧ chk (rdF (l.take (dN l).toNat)).1 = 0
  · exact .inr (.inr ⟨h1, h2, h3, h4⟩)
  · exact .inl (dec_4 h1 h2 h3 h4)
theorem dec_ok {l : List Int} (hb : byteL l) (h : (decF l).2.2 = 0) : ∃ (p : Pdu) (n : Nat), decF l = (p, (n : Int), 0) ∧ n ≤ l.length ∧ chk p = 0 ∧ encB p = l.take n ∧ wfB p := by
  rcases dec_cases l with h0 | h0 | ⟨h1, h2, h3, h4, h5⟩
  · rw [h0] at h; cases h
  · rw [h0] at h; cases h
  have hd := dec_5 h1 h2 h3 ⟨h4, h5⟩
  have ht : byteL (l.take (dN l).toNat) := byteL_sub hb fun x hx => List.mem_of_mem_take hx
  have hl : (l.take (dN l).toNat).length = (dN l).toNat := by rw [List.length_take]; omega
  have hok : rdOk (l.take (dN l).toNat) = true := by
    cases hk : rdOk (l.take (dN l).toNat) with
    | true => rfl
    | false => rw [rdF_no hk] at h4; cases h4
  have hr : rdR (l.take (dN l).toNat) = true := by rw [rdF_yes hok] at h4; exact h4
  have hN : dN (l.take (dN l).toNat) = (l.take (dN l).toNat).length := by
    rw [hl]
    have : dN (l.take (dN l).toNat) = dN l := by
      unfold dN
      rw [List.take_take, Nat.min_eq_left]
      have : ¬ dN l < 8 := by omega
      unfold dN at this; omega
    rw [this]; omega
  have he := encB_back ht hok hr hN (by rw [hl]; omega)
  refine ⟨(rdF (l.take (dN l).toNat)).1, (dN l).toNat, ?_, by omega, h5, ?_, wfB_rdF _ ht⟩
  · rw [hd, Int.toNat_of_nonneg (by omega)]
  · rw [rdF_yes hok]; exact he
theorem c17' (m : Pdu) (h1c : m.copy.length ≤ 2 ^ 62) (h2c : m.path.provs.length ≤ 2 ^ 62) : ASpec prog 17 [encD m, encD zeroP] (bo (decide (m = zeroP))) := c17 m zeroP h1c h2c
def T7 (l : List Int) : Tell :=
  Tell.mk (fun x x_1 => false) (fun r i => if (r == 8 && i == 24) = true then Orc.slc else Orc.no) (fun x => Tree.fail 1000003 0) (fun x => 0) (fun x => ([], []))
  (ogetO (fun r i => if (r == 8 && i == 24) = true then Orc.slc else Orc.no)
  [(1, 1, 0, Orc.call [] (bo true)), (10, 4, 1, Orc.call [slE 1 u8 l] (decT (decF l))),
  (22, 6, 8, Orc.call [encD (decF l).fst, encD zeroP] (bo (decide ((decF l).fst = zeroP)))),
  (22, 7, 1, Orc.call [encD (decF l).fst] (IVal.tup [slE 1 u8 (eO (decF l).fst), i64 (chk (decF l).fst)])),
  (29, 8, 25,
  Orc.call [lu8 (eO (decF l).fst), lu8 (List.drop 0 (List.take (Int.toNat (if (↑(List.length (List.map u8 l)) : Int) < (decF l).snd.fst then (↑(List.length (List.map u8 l)) : Int) else (decF l).snd.fst)) l))]
  (bo (decide (eO (decF l).fst = List.drop 0 (List.take (Int.toNat (if (↑(List.length (List.map u8 l)) : Int) < (decF l).snd.fst then (↑(List.length (List.map u8 l)) : Int) else (decF l).snd.fst)) l)))))])
  fun x x_1 => Tree.fail 1000003 0
theorem t7 (l : List Int) : levF prog Proofs.Try.f7 [slE 1 u8 l] (T7 l) =
  Tree.need (ILeL [] [] ∧ ASpec prog 24 [] (bo true))
  (Tree.br (decide ((10000 : Int) < (↑(List.length (List.map u8 l)) : Int))) (Tree.done Exit.ret (lret (IVal.v (Value.bool true))))
  (Tree.br false (Tree.done Exit.ret (lret (IVal.v (Value.bool true))))
  (Tree.need (ILeL [slE 1 u8 l] [slE 1 u8 l] ∧ ASpec prog 22 [slE 1 u8 l] (decT (decF l)))
  (Tree.br (!decide ((decF l).snd.snd = (0 : Int)))
  (Tree.br true
  (Tree.br (decide ((decF l).snd.fst = (0 : Int)))
  (Tree.need
  (ILeL
  [encD (decF l).fst,
  IVal.agg
  [IVal.v (Value.int IntKind.u8 (0 : Int)), IVal.v (Value.int IntKind.u8 (0 : Int)), IVal.v (Value.int IntKind.u16 (0 : Int)), IVal.v (Value.int IntKind.u32 (0 : Int)), IVal.v (Value.bool false),
  IVal.v (Value.int IntKind.u32 (0 : Int)), IVal.v (Value.int IntKind.u8 (0 : Int)), IVal.v (Value.int IntKind.u64 (0 : Int)), IVal.v (Value.int IntKind.u64 (0 : Int)), IVal.v (Value.int IntKind.i64 (0 : Int)),
  IVal.v (Value.int IntKind.i64 (0 : Int)), IVal.v (Value.int IntKind.u32 (0 : Int)), IVal.v (Value.slice none 0 0), IVal.v (Value.int IntKind.u32 (0 : Int)), IVal.v (Value.int IntKind.u8 (0 : Int)),
  IVal.v (Value.int IntKind.u8 (0 : Int)), IVal.v (Value.int IntKind.u8 (0 : Int)), IVal.v (Value.int IntKind.u8 (0 : Int)), IVal.v (Value.int IntKind.u8 (0 : Int)), IVal.v (Value.int IntKind.u8 (0 : Int)),
  IVal.v (Value.int IntKind.u8 (0 : Int)), IVal.v (Value.int IntKind.u8 (0 : Int)), IVal.v (Value.int IntKind.u8 (0 : Int)), IVal.v (Value.int IntKind.u8 (0 : Int)), IVal.v (Value.int IntKind.u8 (0 : Int)),
  IVal.v (Value.int IntKind.u8 (0 : Int)), IVal.v (Value.int IntKind.u8 (0 : Int)), IVal.v (Value.int IntKind.u8 (0 : Int)), IVal.v (Value.int IntKind.u8 (0 : Int)), IVal.v (Value.int IntKind.u8 (0 : Int)),
  IVal.v (Value.int IntKind.i64 (0 : Int)), IVal.v (Value.int IntKind.u32 (0 : Int)), IVal.v (Value.int IntKind.u32 (0 : Int)), IVal.v (Value.int IntKind.u32 (0 : Int)), IVal.v (Value.int IntKind.u16 (0 : Int)),
  IVal.v (Value.slice none 0 0), IVal.v (Value.string (ByteArray.mk (Array.mk [])))]]
  [encD (decF l).fst, encD zeroP] ∧
  ASpec prog 17 [encD (decF l).fst, encD zeroP] (bo (decide ((decF l).fst = zeroP))))
  (Tree.br (decide ((decF l).fst = zeroP))
  (Tree.br (decide ((decF l).snd.snd = (12 : Int))) (Tree.done Exit.ret (lret (IVal.v (Value.bool true)))) (Tree.done Exit.ret (lret (IVal.v (Value.bool (decide ((decF l).snd.snd = (34 : Int))))))))
  (Tree.done Exit.ret (lret (IVal.v (Value.bool false))))))
  (Tree.done Exit.ret (lret (IVal.v (Value.bool false)))))
  (Tree.done Exit.ret (lret (IVal.v (Value.bool false)))))
  (Tree.need (ILeL [encD (decF l).fst] [encD (decF l).fst] ∧ ASpec prog 21 [encD (decF l).fst] (IVal.tup [slE 1 u8 (eO (decF l).fst), i64 (chk (decF l).fst)]))
  (Tree.br true
  (Tree.br (decide (chk (decF l).fst = (0 : Int)))
  (Tree.br (decide ((decF l).snd.fst = (↑(List.length (List.map u8 (eO (decF l).fst))) : Int)))
  (Tree.br (decide ((decF l).snd.fst ≤ (↑(List.length (List.map u8 l)) : Int)))
  (Tree.need
  ((0 : Int) ≤ (0 : Int) ∧
  ((0 : Int) ≤ if (↑(List.length (List.map u8 l)) : Int) < (decF l).snd.fst then (↑(List.length (List.map u8 l)) : Int) else (decF l).snd.fst) ∧
  (if (↑(List.length (List.map u8 l)) : Int) < (decF l).snd.fst then (↑(List.length (List.map u8 l)) : Int) else (decF l).snd.fst) ≤ (↑(List.length (List.map u8 l)) : Int))
  (Tree.need
  (ILeL
  [slE 1 u8 (eO (decF l).fst),
  IVal.sl false false 1
  (List.drop 0 (List.take (Int.toNat (if (↑(List.length (List.map u8 l)) : Int) < (decF l).snd.fst then (↑(List.length (List.map u8 l)) : Int) else (decF l).snd.fst)) (List.map u8 l)))]
  [lu8 (eO (decF l).fst), lu8 (List.drop 0 (List.take (Int.toNat (if (↑(List.length (List.map u8 l)) : Int) < (decF l).snd.fst then (↑(List.length (List.map u8 l)) : Int) else (decF l).snd.fst)) l))] ∧
  ASpec prog 27
  [lu8 (eO (decF l).fst), lu8 (List.drop 0 (List.take (Int.toNat (if (↑(List.length (List.map u8 l)) : Int) < (decF l).snd.fst then (↑(List.length (List.map u8 l)) : Int) else (decF l).snd.fst)) l))]
  (bo (decide (eO (decF l).fst = List.drop 0 (List.take (Int.toNat (if (↑(List.length (List.map u8 l)) : Int) < (decF l).snd.fst then (↑(List.length (List.map u8 l)) : Int) else (decF l).snd.fst)) l)))))
  (Tree.done Exit.ret
  (lret
  (IVal.v
  (Value.bool
  (decide
  (eO (decF l).fst = List.drop 0 (List.take (Int.toNat (if (↑(List.length (List.map u8 l)) : Int) < (decF l).snd.fst then (↑(List.length (List.map u8 l)) : Int) else (decF l).snd.fst)) l)))))))))
  (Tree.done Exit.ret (lret (IVal.v (Value.bool false)))))
  (Tree.done Exit.ret (lret (IVal.v (Value.bool false)))))
  (Tree.done Exit.ret (lret (IVal.v (Value.bool false)))))
  (Tree.done Exit.ret (lret (IVal.v (Value.bool false)))))))))) := by kernel_rfl
theorem c7 (l : List Int) (hb : byteL l) : ASpec prog 7 [slE 1 u8 l] (bo true) := by
  refine ASpec.treeW Proofs.Try.f7 (T7 l) (by kernel_rfl) (by kernel_rfl) (t7 l) ?_
  refine need_sat ⟨ILeL.refl _, c24⟩ ⟨fun h1 => ⟨_, rfl, .refl _⟩, fun h1 => ⟨fun h => (by cases h), fun _ => ?_⟩⟩
  have hl : l.length ≤ 10000 := by have := of_decide_eq_false h1; rw [List.length_map] at this; omega
  refine need_sat ⟨ILeL.refl _, c22 l hb (by omega)⟩ ⟨fun h2 => ?_, fun h2 => ?_⟩
  · have hn : ¬ (decF l).2.2 = 0 := of_decide_eq_false (nt h2)
    have hz : (decF l).1 = zeroP ∧ (decF l).2.1 = 0 ∧ ((decF l).2.2 = 12 ∨ (decF l).2.2 = 34) := by
      rcases dec_cases l with h0 | h0 | ⟨q1, q2, q3, q4, q5⟩
      · rw [h0]; exact ⟨rfl, rfl, .inl rfl⟩
      · rw [h0]; exact ⟨rfl, rfl, .inr rfl⟩
      · exact absurd (show (decF l).2.2 = 0 by rw [dec_5 q1 q2 q3 ⟨q4, q5⟩]) hn
    refine ⟨fun _ => ⟨fun h3 => need_sat ⟨?_, c17' _ ?_ ?_⟩ ⟨fun h4 => ⟨fun h5 => ⟨_, rfl, .refl _⟩, fun h5 => ⟨_, rfl, ile_bo ?_⟩⟩, fun h4 => ?_⟩, fun h3 => ?_⟩, fun h => (by cases h)⟩
    · exact .cons (.refl _) (.cons (ile_pdu zeroP _ _ (ile_n _ rfl) (ile_n' _ rfl)) (.refl _))
    · rw [hz.1]; decide
    · rw [hz.1]; decide
    · have h5' : ¬ (decF l).2.2 = 12 := of_decide_eq_false h5
      exact decide_eq_true (hz.2.2.resolve_left h5')
    · exact absurd hz.1 (of_decide_eq_false h4)
    · exact absurd hz.2.1 (of_decide_eq_false h3)
  · have h0 : (decF l).2.2 = 0 := of_decide_eq_true (nf h2)
    obtain ⟨p, n, hd, hnl, hc, he, hw⟩ := dec_ok hb h0
    have e1 : (decF l).1 = p := by rw [hd]
    have e2 : (decF l).2.1 = (n : Int) := by rw [hd]
    have eo : eO p = l.take n := (if_pos hc).trans he
    have hm : ¬ ((l.map u8).length : Int) < (n : Int) := by rw [List.length_map]; omega
    rw [e1, e2, if_neg hm]
    refine need_sat ⟨ILeL.refl _, c21 p hw⟩ ⟨fun _ => ⟨fun h3 => ⟨fun h4 => ⟨fun h5 => ?_, fun h5 => ?_⟩, fun h4 => ?_⟩, fun h3 => absurd hc (of_decide_eq_false h3)⟩, fun h => (by cases h)⟩
    · refine need_sat ⟨by omega, by omega, by rw [List.length_map]; omega⟩ (need_sat ⟨.cons (.refl _) (.cons (ile_eq ?_) (.refl _)), c27 _ _ ?_⟩ ⟨_, rfl, ile_bo ?_⟩)
      · show IVal.sl _ _ _ _ = slE 1 u8 _
        rw [slE, List.map_drop, List.map_take]
      · have := eO_len p; omega
      · rw [eo, Int.toNat_natCast]
        exact decide_eq_true rfl
    · have h5' : ¬ (n : Int) ≤ ((l.map u8).length : Int) := of_decide_eq_false h5
      rw [List.length_map] at h5'
      exact absurd (show (n : Int) ≤ (l.length : Int) by omega) h5'
    · have h4' : ¬ (n : Int) = (((eO p).map u8).length : Int) := of_decide_eq_false h4
      rw [List.length_map, eo, List.length_take] at h4'
      exact absurd (show (n : Int) = ((min n l.length : Nat) : Int) by omega) h4'
end Gp
namespace Gp
open Go.ChangeShapes Go.WideShapes Go.ChangeAt Go.RowKit
open Go.Proofs Go.Proofs.Ytnfdbpopcfcegaa
theorem own : ownKnob prog.godebug = none := by kernel_rfl
theorem laidOut : laidOutB prog = true := by kernel_rfl
theorem ul40 : ∃ e, prog.underlying 40 = some (.slice e) := ⟨_, show prog.underlying 40 = some (.slice 5) by kernel_rfl⟩
theorem ubool : prog.underlying 4 = some .bool := by kernel_rfl
theorem paramsL : Proofs.Try.f7.params.toList = [40] := by kernel_rfl
set_option maxRecDepth 100000 in
theorem walk (W : World) {H : Type} {enc : TypeId × Value → H} {f0 : Nat} {v0 : Value} {x0 : DataW H × List MemPlace} {held : Bool} {sp : Nat → Bool} (h0 : DataW.trod enc prog W 0 sp held f0 40 [v0] = some x0) :
    Calls prog 7 #[v0] W fun e W' => e = .returned (.bool true) ∧ Below W.heap.size W W' := by
  obtain ⟨y0, r0, g0⟩ := rd40 h0
  have hm : maxLen = 2 ^ 63 - 1 := rfl
  refine ((c7 y0 g0.1).2 W (allF W) #[v0] (fun c b h => h.2) (fun b h => by cases h.1) (ic r0 in0)).mono ?_
  rintro e W' ⟨v, F', rfl, hb, _, _, _, _, hv⟩
  rw [bo, IRep] at hv
  rw [hv.1]
  exact ⟨rfl, hb⟩
set_option maxRecDepth 100000 in
theorem lifted (os : Os) (started : os.Started) (H : Type) (enc : TypeId × Value → H) :
    ReturnsInHanded {} Proofs.Try.checked os 7 .any (Rows.pduOnceSpec.pre6 enc prog Proofs.Try.f7 Rows.pduOnceRow.domain false) (Rows.pduOnceSpec.post enc prog Proofs.Try.f7 false true false false) := by
  refine returnsInHanded_of_change (C := Proofs.Try.checked) own started (by kernel_rfl) (show prog.funcs[7]? = some Proofs.Try.f7 by kernel_rfl)
    (ChangeSpec.witness6 (enc := enc) (C := Proofs.Try.checked) false ⟨#[], #[.slice none 0 0], []⟩ 8 (by kernel_rfl) (by kernel_rfl) (by kernel_rfl) (by kernel_rfl)) ?_
  intro W base args ds gs before hval0 hW hcnd _
  have hval : ∀ (j : Nat) t v, Proofs.Try.f7.params[j]? = some t → args[j]? = some v → Value.okWide prog W .any base t v := hval0
  have hW' := hW
  obtain ⟨p, q, hA0, hV, rfl, hfz, hnd⟩ := hW
  have hA : DataW.TrodAll enc prog W 0 (fun _ => true) true Proofs.Try.f7.params.toList args.toList ds p := hA0
  rw [paramsL] at hA
  have hp0 : Proofs.Try.f7.params[0]? = some 40 := by kernel_rfl
  obtain ⟨u0, us0, d0, ds0, p0, q0, hargs, rfl, rfl, h0, r0⟩ := trodAll_cons hA
  obtain ⟨rfl, rfl, rfl⟩ := trodAll_nil r0
  obtain rfl : args = #[u0] := by cases args; simp_all
  obtain ⟨rfl, rfl⟩ := trodVars_none hV
  obtain ⟨fs0, uu0⟩ := ul40
  obtain ⟨a0, ln0, cp0, rfl⟩ := okWide_slice uu0 (hval 0 40 u0 hp0 rfl)
  have k0 := h0
  have lt0 : ∀ x ∈ p0, x.block < W.heap.size := by obtain ⟨m, hm⟩ := k0; exact DataW.trod_lt m _ _ _ hm
  obtain ⟨ff0, e0⟩ := h0
  clear hA0 hval0
  refine (walk W e0).mono fun e W' ⟨he, bel⟩ => ?_
  subst he
  exact ⟨_, rfl, _, _, _, [], _, [], hW', trodAll_mk1 (shut_bool ubool _),
    (trodAll_cons_mk (Below.trod laidOut (by kernel_rfl) (of_decide_eq_true (by kernel_rfl)) k0 bel lt0) trodAll_mk0), rfl, bel.frame _, fun h => by cases h⟩
theorem over : Rows.pduOnceRow.holds Ytnfdbpopcfcegaa.Try.pinned (OpenSpec.ofChange Rows.pduOnceSpec) :=
  OpenClaim.holds_of_wide 7 Proofs.Try.f7 rfl rfl rfl rfl rfl rfl rfl ⟨rfl, rfl, rfl, rfl, rfl⟩ rfl rfl rfl rfl rfl (by kernel_rfl) (show prog.funcs[7]? = some Proofs.Try.f7 by kernel_rfl) (by kernel_rfl)
    (of_decide_eq_true (by kernel_rfl)) (by unfold Func.isWrapper; first | (rw [if_pos (by decide +kernel)]; kernel_rfl) | (rw [if_neg (by decide +kernel)]; exact ⟨rfl, rfl⟩))
    (fun os started H enc _ => lifted os started H enc)
theorem proved : Rows.PduOnceSaid := over
end Gp
namespace Go.Proofs.Ytnfdbpopcfcegaa
theorem pduOnce_holds : Rows.PduOnceSaid := Gp.proved
#print axioms pduOnce_holds
end Go.Proofs.Ytnfdbpopcfcegaa
