/- Part 8 of the walk and of the plain law of PduCuts. -/
import Derived.Test.YtnfdbpopcfcegaaW7
set_option maxRecDepth 100000
set_option maxHeartbeats 0
set_option linter.unusedVariables false
set_option linter.unusedSimpArgs false
open Go Go.Abs
noncomputable section
namespace Gp
section
variable {H : Type} {enc : TypeId × Value → H} {w : World} {base : Nat} {spare : Nat → Bool} {held : Bool}
end
end Gp
namespace Gp
theorem orB (v b : Int) (hv : 0 ≤ v) (hv2 : v < 2 ^ 56) (hb : 0 ≤ b) (hb2 : b < 256) : ibits .u64 (· ||| ·) (IntKind.u64.wrap (v * 2 ^ 8)) (IntKind.u64.wrap b) = v * 256 + b := by
  have e1 : IntKind.u64.wrap (v * 2 ^ 8) = v * 256 := by
    show (v * 256) % 18446744073709551616 = _
    omega
  have e2 : IntKind.u64.wrap b = b := by
    show b % 18446744073709551616 = _
    omega
  rw [e1, e2]
  obtain ⟨v', rfl⟩ := Int.eq_ofNat_of_zero_le hv
  obtain ⟨b', rfl⟩ := Int.eq_ofNat_of_zero_le hb
  have k1 : (BitVec.ofInt 64 ((v' : Int) * 256)).toNat = v' * 256 := by
    rw [BitVec.toNat_ofInt]
    show (((v' : Int) * 256) % 18446744073709551616).toNat = _
    omega
  have k2 : (BitVec.ofInt 64 (b' : Int)).toNat = b' := by
    rw [BitVec.toNat_ofInt]
    show ((b' : Int) % 18446744073709551616).toNat = _
    omega
  have k3 : v' * 256 ||| b' = v' * 256 + b' := by
    have := Nat.two_pow_add_eq_or_of_lt (i := 8) (b := b') (by omega) v'
    rw [Nat.mul_comm v' 256]; exact this.symm
  show IntKind.u64.wrap ((BitVec.ofInt 64 ((v' : Int) * 256) ||| BitVec.ofInt 64 (b' : Int)).toNat : Int) = _
  rw [BitVec.toNat_or, k1, k2, k3]
  show ((v' * 256 + b' : Nat) : Int) % 18446744073709551616 = _
  omega
theorem getV4 (a b c d : Int) (r : List Int) (ha : 0 ≤ a ∧ a < 256) (hb : 0 ≤ b ∧ b < 256) (hc : 0 ≤ c ∧ c < 256) (hd : 0 ≤ d ∧ d < 256) : getV (a :: b :: c :: d :: r) 4 = ((a * 256 + b) * 256 + c) * 256 + d := by
  show ibits .u64 (· ||| ·) (IntKind.u64.wrap (ibits .u64 (· ||| ·) (IntKind.u64.wrap (ibits .u64 (· ||| ·) (IntKind.u64.wrap (ibits .u64 (· ||| ·) (IntKind.u64.wrap (0 * 2 ^ 8)) (IntKind.u64.wrap a) * 2 ^ 8)) (IntKind.u64.wrap b) * 2 ^ 8)) (IntKind.u64.wrap c) * 2 ^ 8)) (IntKind.u64.wrap d) = _
  rw [orB 0 a (by omega) (by omega) ha.1 ha.2, orB _ b (by omega) (by omega) hb.1 hb.2, orB _ c (by omega) (by omega) hc.1 hc.2, orB _ d (by omega) (by omega) hd.1 hd.2]
  omega
theorem byV_eq (x : Int) (k : Nat) (hk : k < 8) : byV x k = (x / 2 ^ (8 * k)) % 256 := by
  unfold byV
  have e1 : IntKind.i64.wrap (8 * (k : Int)) = 8 * k := IntWalk.i64_in _ (by omega)
  rw [e1]
  have e2 : min (8 * (k : Int)).toNat 64 = 8 * k := by omega
  rw [e2, Int.fdiv_eq_ediv_of_nonneg _ (Int.le_of_lt (Int.pow_pos (by omega)))]
  rfl
theorem num4 (x : Int) : num x 4 = [(x / 2 ^ 24) % 256, (x / 2 ^ 16) % 256, (x / 2 ^ 8) % 256, x % 256] := by
  rw [num_eq]
  show [byV x 3, byV x 2, byV x 1, byV x 0] = _
  rw [show byV x 3 = _ from byV_eq x 3 (by omega), show byV x 2 = _ from byV_eq x 2 (by omega), show byV x 1 = _ from byV_eq x 1 (by omega), show byV x 0 = _ from byV_eq x 0 (by omega)]
  simp
theorem getV_num4 (x : Int) (r : List Int) (h0 : 0 ≤ x) (h1 : x < 2 ^ 32) : getV (num x 4 ++ r) 4 = x := by
  rw [num4]
  show getV (_ :: _ :: _ :: _ :: r) 4 = x
  rw [getV4 _ _ _ _ r (by omega) (by omega) (by omega) (by omega)]
  omega
theorem rsL_le2 (p : Pdu) (h : small p) : (rsL p).length ≤ 4304 := by
  unfold small at h
  unfold rsL; repeat' split
  · simp only [rs57, List.length_append, flI_len, num_len]; split <;> simp [num_len]
  · simp only [rs60, rs49, List.length_append, num_len]; split <;> simp [num_len]
  · simp [rs64, num_len, rootL]
  · simp [rs69, num_len, bytesL]; omega
  · simp [rs73, num_len, pvL_len]; omega
  · simp [rs49, num_len]
  · simp
theorem enc_parts (p : Pdu) (h : small p) : ∃ a b c d : Int, encB p = a :: b :: c :: d :: (num ((encB p).length : Int) 4 ++ rsL p) := by
  have hl := rsL_le2 p h
  have e8 := encB_len p
  have e : w64 (IntKind.i64.wrap (8 + ((rsL p).length : Int))) = ((encB p).length : Int) := by
    rw [IntWalk.i64_in _ (by omega), e8]
    show (8 + ((rsL p).length : Int)) % 18446744073709551616 = _
    omega
  have h4 : (num (w64 p.version) 1 ++ num (w64 p.kind) 1 ++ hdL p).length = 4 := by simp [num_len, hdL_len]
  obtain ⟨a, b, c, d, hh⟩ : ∃ a b c d, num (w64 p.version) 1 ++ num (w64 p.kind) 1 ++ hdL p = [a, b, c, d] := by
    generalize num (w64 p.version) 1 ++ num (w64 p.kind) 1 ++ hdL p = l at h4
    match l, h4 with
    | [a, b, c, d], _ => exact ⟨a, b, c, d, rfl⟩
  refine ⟨a, b, c, d, ?_⟩
  have : encB p = [a, b, c, d] ++ num (w64 (IntKind.i64.wrap (8 + ((rsL p).length : Int)))) 4 ++ rsL p := by rw [← hh]; rfl
  rw [e] at this
  exact this
theorem dN_enc (p : Pdu) (h : small p) (more : List Int) : dN (encB p ++ more) = (encB p).length := by
  obtain ⟨a, b, c, d, hh⟩ := enc_parts p h
  have hl := rsL_le2 p h
  have e8 := encB_len p
  have e : ((encB p ++ more).take 8).drop 4 = num ((encB p).length : Int) 4 := by
    generalize ((encB p).length : Int) = N at hh
    rw [hh, num4]
    rfl
  unfold dN
  rw [e]
  have := getV_num4 ((encB p).length : Int) [] (by omega) (by omega)
  rw [List.append_nil] at this
  rw [this]
  exact IntWalk.i64_in _ (by omega)
theorem dec_enc (p : Pdu) (h : chk p = 0) (more : List Int) : decF (encB p ++ more) = (p, ((encB p).length : Int), 0) := by
  obtain ⟨k1, k2, k3, k4⟩ := chk_0 h
  have hN := dN_enc p k1 more
  have hl := rsL_le2 p k1
  have e8 := encB_len p
  have et : (encB p ++ more).take (dN (encB p ++ more)).toNat = encB p := by
    rw [hN, Int.toNat_natCast, List.take_left]
  rw [dec_5 (by rw [List.length_append]; omega) (by rw [hN]; omega) (by rw [hN, List.length_append]; omega) (by rw [et]; exact ⟨k3, by rw [← k4]; exact h⟩), et, hN, ← k4]
end Gp
namespace Gp
def kz : RKey := ⟨0, Vector.replicate 16 0, 0⟩
def qry : Pdu := ⟨1, 1, 7, 300, false, ⟨0, ⟨0, ⟨0, 0⟩, 0⟩, 0⟩, ⟨0, []⟩, kz, 0, 0, 0, 0, [], .empty⟩
def ann : Pdu := ⟨0, 4, 0, 0, true, ⟨64500, ⟨4, ⟨0, 167772160⟩, 8⟩, 24⟩, ⟨0, []⟩, kz, 0, 0, 0, 0, [], .empty⟩
def wq : List Int := [1, 1, 0, 7, 0, 0, 0, 12, 0, 0, 1, 44]
def wa : List Int := [0, 4, 0, 0, 0, 0, 0, 20, 1, 8, 24, 0, 10, 0, 0, 0, 0, 0, 251, 244]
theorem enc_q : encB qry = wq := by
  unfold encB hdL rsL hd48 rs49
  simp only [num_eq]
  kernel_rfl
theorem enc_a : encB ann = wa := by
  unfold encB hdL rsL hd52 rs57 flI
  simp only [num_eq]
  kernel_rfl
theorem rd_q : rdF wq = (qry, true) := by kernel_rfl
theorem rd_a : rdF wa = (ann, true) := by kernel_rfl
theorem small_q : small qry := by unfold small; simp [qry]
theorem small_a : small ann := by unfold small; simp [ann]
theorem chk_q : chk qry = 0 := chk_o small_q (by unfold isK qry; simp) (by show ¬ (2 : Int) < 1; omega) (by kernel_rfl) (by rw [enc_q, rd_q]) (by rw [enc_q, rd_q])
theorem chk_a : chk ann = 0 := chk_o small_a (by unfold isK ann; simp) (by show ¬ (2 : Int) < 0; omega) (by kernel_rfl) (by rw [enc_a, rd_a]) (by rw [enc_a, rd_a])
def T43 : Tell :=
  Tell.mk (fun x x_1 => false) (fun x x_1 => Orc.no) (fun x => Tree.fail 1000003 0) (fun x => 0) (fun x => ([],[])) (fun x x_1 x_2 => Orc.no) fun x x_1 => Tree.fail 1000003 0
theorem t43 : levF prog Proofs.Try.f43 [] T43 =
  Tree.done Exit.ret (lret (.agg [u8 1,u8 1,u16 7,u32 300,bo false,u32 0,u8 0,u64 0,u64 0,i64 0,i64 0,u32 0,nS,u32 0,u8 0,u8 0,u8 0,u8 0,u8 0,u8 0,u8 0,u8 0,u8 0,u8 0,u8 0,u8 0,u8 0,u8 0,u8 0,u8 0,i64 0,u32 0,u32 0,u32 0,u16 0,nS,st .empty])) := by kernel_rfl
def T20 : Tell :=
  Tell.mk (fun x x_1 => false) (fun x x_1 => Orc.no) (fun x => Tree.fail 1000003 0) (fun x => 0) (fun x => ([],[])) (fun x x_1 x_2 => Orc.no) fun x x_1 => Tree.fail 1000003 0
theorem t20 : levF prog Proofs.Try.f20 [] T20 =
  Tree.done Exit.ret (lret (.agg [u8 0,u8 4,u16 0,u32 0,bo true,u32 64500,u8 4,u64 0,u64 167772160,i64 8,i64 24,u32 0,nS,u32 0,u8 0,u8 0,u8 0,u8 0,u8 0,u8 0,u8 0,u8 0,u8 0,u8 0,u8 0,u8 0,u8 0,u8 0,u8 0,u8 0,i64 0,u32 0,u32 0,u32 0,u16 0,nS,st .empty])) := by kernel_rfl
theorem c43 : ASpec prog 43 [] (encD qry) := by
  refine ASpec.treeW Proofs.Try.f43 T43 (by kernel_rfl) (by kernel_rfl) t43 ?_
  exact ⟨_, rfl, ile_pdu qry _ _ (ile_n _ rfl) (ile_n' _ rfl)⟩
theorem c20 : ASpec prog 20 [] (encD ann) := by
  refine ASpec.treeW Proofs.Try.f20 T20 (by kernel_rfl) (by kernel_rfl) t20 ?_
  exact ⟨_, rfl, ile_pdu ann _ _ (ile_n _ rfl) (ile_n' _ rfl)⟩
end Gp
namespace Gp
def T19 (p : Pdu) (w : List Int) : Tell :=
  Tell.mk (fun x x_1 => false) (fun x x_1 => Orc.no) (fun x => Tree.fail 1000003 0) (fun x => 0) (fun x => ([],[])) (oget [(2,1,1,Orc.call [encD p] (.tup [slE 1 u8 (eO p),i64 (chk p)])),(9,2,3,Orc.call [slE 1 u8 (w ++ [0])] (decT (decF (w ++ [0])))),(21,3,5,Orc.call [lu8 (eO p),lu8 w] (bo (decide (eO p = w)))),(21,3,20,Orc.call [encD p,encD (decF (w ++ [0])).fst] (bo (decide (p = (decF (w ++ [0])).fst))))]) fun x x_1 => Tree.fail 1000003 0
theorem t19 (p : Pdu) (w : List Int) : levF prog Proofs.Try.f19 [encD p, .sl false true 1 (w.map u8)] (T19 p w) =
  (let q0 := List.map u8 w;
  Tree.need (ILeL [encD p] [encD p] ∧ ASpec prog 21 [encD p] (.tup [slE 1 u8 (eO p),i64 (chk p)])) (.need (askA (some (1 = 1)) (cellsOk q0 = true ∧ true = true ∧ List.length q0 + 1 ≤ 1000000)) (.need (ILeL [.sl (false || List.isEmpty q0) false 1 (List.map u8 w ++ [u8 0])] [slE 1 u8 (w ++ [0])] ∧ ASpec prog 22 [slE 1 u8 (w ++ [0])] (decT (decF (w ++ [0])))) (.br (decide (chk p = 0)) (.need (ILeL [slE 1 u8 (eO p),.sl false true 1 q0] [lu8 (eO p),lu8 w] ∧ ASpec prog 27 [lu8 (eO p),lu8 w] (bo (decide (eO p = w)))) (.br (decide (eO p = w)) (.br (decide ((decF (w ++ [0])).snd.snd = 0)) (.br (decide
  ((decF (w ++ [0])).snd.fst = (↑(List.length q0) : Int))) (.need (ILeL [encD p,encD (decF (w ++ [0])).fst] [encD p,encD (decF (w ++ [0])).fst] ∧ ASpec prog 17 [encD p,encD (decF (w ++ [0])).fst] (bo (decide (p = (decF (w ++ [0])).fst)))) (.done Exit.ret (lret (bo (decide (p = (decF (w ++ [0])).fst)))))) (.done Exit.ret (lret (bo false)))) (.done Exit.ret (lret (bo false)))) (.done Exit.ret (lret (bo false))))) (.done Exit.ret (lret (bo false))))))) := by kernel_rfl
def codF (p : Pdu) (w : List Int) : Bool := decide (chk p = 0) && (decide (eO p = w) && (decide ((decF (w ++ [0])).2.2 = 0) && (decide ((decF (w ++ [0])).2.1 = w.length) && decide (p = (decF (w ++ [0])).1))))
theorem eO_len (p : Pdu) : (eO p).length ≤ 4312 := by
  unfold eO; split
  · rename_i h
    have := rsL_le2 p (chk_0 h).1
    rw [encB_len]; omega
  · simp
theorem c19 (p : Pdu) (w : List Int) (hw : wfB p) (hb : byteL w) (hl : w.length ≤ 5000) (h1c : p.copy.length ≤ 2 ^ 62) (h2c : p.path.provs.length ≤ 2 ^ 62) : ASpec prog 19 [encD p, .sl false true 1 (w.map u8)] (bo (codF p w)) := by
  refine ASpec.treeW Proofs.Try.f19 (T19 p w) (by kernel_rfl) (by kernel_rfl) (t19 p w) ?_
  have hb0 : byteL (w ++ [0]) := byteL_app hb fun x hx => by simp at hx; omega
  refine need_sat ⟨ILeL.refl _, c21 p hw⟩ (need_sat ⟨⟨cellsOk_map u8 (fun _ => rfl) _, rfl, by rw [List.length_map]; omega⟩, rfl⟩ (need_sat ⟨.cons (.sl (fun h => by cases h) (fun h => h) ?_) (.refl _), c22 _ hb0 (by simp; omega)⟩ ⟨fun h1 => ?_, fun h1 => ⟨_, rfl, ile_bo (by unfold codF; rw [h1]; rfl)⟩⟩))
  · rw [List.map_append]; exact .refl _
  · refine need_sat ⟨.cons (.refl _) (.cons (.sl (fun h => h) (fun h => by cases h) (.refl _)) (.refl _)), c27 _ _ (by have := eO_len p; omega)⟩ ⟨fun h2 => ⟨fun h3 => ⟨fun h4 => need_sat ⟨ILeL.refl _, c17 _ _ h1c h2c⟩ ⟨_, rfl, ?_⟩, fun h4 => ⟨_, rfl, ?_⟩⟩, fun h3 => ⟨_, rfl, ?_⟩⟩, fun h2 => ⟨_, rfl, ?_⟩⟩
    · rw [List.length_map] at h4
      exact ile_bo (by unfold codF; rw [h1, h2, h3, h4]; rfl)
    · rw [List.length_map] at h4
      exact ile_bo (by unfold codF; rw [h1, h2, h3, h4]; rfl)
    · exact ile_bo (by unfold codF; rw [h1, h2, h3]; rfl)
    · exact ile_bo (by unfold codF; rw [h1, h2]; rfl)
theorem codF_t (p : Pdu) (w : List Int) (h : chk p = 0) (he : encB p = w) : codF p w = true := by
  have e1 : eO p = w := (if_pos h).trans he
  have e2 := dec_enc p h [0]
  rw [he] at e2
  unfold codF
  rw [e1, e2, h]
  simp
def T24 : Tell :=
  Tell.mk (fun r i => r == 1 && (i == 1 || i == 5)) (fun x x_1 => Orc.no) (fun x => Tree.fail 1000003 0) (fun x => 0) (fun x => ([],[])) (oget [(1,1,0,Orc.call [] (encD qry)),(1,1,2,Orc.call [encD qry,.sl false true 1 (List.map u8 [1,1,0,7,0,0,0,12,0,0,1,44])] (bo (codF qry [1,1,0,7,0,0,0,12,0,0,1,44]))),(1,1,4,Orc.call [] (encD ann)),(1,1,6,Orc.call [encD ann,.sl false true 1 (List.map u8 [0,4,0,0,0,0,0,20,1,8,24,0,10,0,0,0,0,0,251,244])] (bo (codF ann [0,4,0,0,0,0,0,20,1,8,24,0,10,0,0,0,0,0,251,244])))]) fun x x_1 => Tree.fail 1000003 0
theorem t24 : levF prog Proofs.Try.f24 [] T24 =
  Tree.need (ILeL [] [] ∧ ASpec prog 43 [] (encD qry)) (.need (ILeL [encD qry,.sl true true 1 [u8 1,u8 1,u8 0,u8 7,u8 0,u8 0,u8 0,u8 12,u8 0,u8 0,u8 1,u8 44]] [encD qry,.sl false true 1 [u8 1,u8 1,u8 0,u8 7,u8 0,u8 0,u8 0,u8 12,u8 0,u8 0,u8 1,u8 44]] ∧ ASpec prog 19 [encD qry,.sl false true 1 [u8 1,u8 1,u8 0,u8 7,u8 0,u8 0,u8 0,u8 12,u8 0,u8 0,u8 1,u8 44]] (bo (codF qry [1,1,0,7,0,0,0,12,0,0,1,44]))) (.br (codF qry [1,1,0,7,0,0,0,12,0,0,1,44]) (.need (ILeL [] [] ∧ ASpec prog 20 [] (encD ann)) (.need (ILeL [encD ann,.sl true true 1 [u8 0,u8 4,u8 0,u8 0,u8 0,u8 0,u8 0,u8 20,u8 1,u8 8,u8 24,u8 0,u8
  10,u8 0,u8 0,u8 0,u8 0,u8 0,u8 251,u8 244]] [encD ann,.sl false true 1 [u8 0,u8 4,u8 0,u8 0,u8 0,u8 0,u8 0,u8 20,u8 1,u8 8,u8 24,u8 0,u8 10,u8 0,u8 0,u8 0,u8 0,u8 0,u8 251,u8 244]] ∧ ASpec prog 19 [encD ann,.sl false true 1 [u8 0,u8 4,u8 0,u8 0,u8 0,u8 0,u8 0,u8 20,u8 1,u8 8,u8 24,u8 0,u8 10,u8 0,u8 0,u8 0,u8 0,u8 0,u8 251,u8 244]] (bo (codF ann [0,4,0,0,0,0,0,20,1,8,24,0,10,0,0,0,0,0,251,244]))) (.done Exit.ret (lret (bo (codF ann [0,4,0,0,0,0,0,20,1,8,24,0,10,0,0,0,0,0,251,244])))))) (.done Exit.ret (lret (bo false))))) := by kernel_rfl
theorem wf_kz : byteL (rootL kz) := fun x hx => by
  simp [rootL, kz] at hx
  omega
theorem byte_dec {l : List Int} (h : (l.all fun x => decide (0 ≤ x ∧ x < 256)) = true) : byteL l := fun x hx => of_decide_eq_true (List.all_eq_true.1 h x hx)
theorem c24 : ASpec prog 24 [] (bo true) := by
  refine ASpec.treeW Proofs.Try.f24 T24 (by kernel_rfl) (by kernel_rfl) t24 ?_
  have q1 := c19 qry wq ⟨byteL_nil, wf_kz⟩ (byte_dec rfl) (by decide) (by decide) (by decide)
  have q2 := c19 ann wa ⟨byteL_nil, wf_kz⟩ (byte_dec rfl) (by decide) (by decide) (by decide)
  have e1 : codF qry wq = true := codF_t qry wq chk_q enc_q
  have e2 : codF ann wa = true := codF_t ann wa chk_a enc_a
  refine need_sat ⟨ILeL.refl _, c43⟩ (need_sat ⟨.cons (.refl _) (.cons (.sl (fun h => by cases h) (fun h => h) (.refl _)) (.refl _)), q1⟩ ⟨fun h1 => ?_, fun h1 => ?_⟩)
  · refine need_sat ⟨ILeL.refl _, c20⟩ (need_sat ⟨.cons (.refl _) (.cons (.sl (fun h => by cases h) (fun h => h) (.refl _)) (.refl _)), q2⟩ ⟨_, rfl, ile_bo e2⟩)
  · exact absurd (e1.symm.trans h1) (by simp)
end Gp
namespace Gp
theorem getV1 (a : Int) (r : List Int) (ha : 0 ≤ a ∧ a < 256) : getV (a :: r) 1 = a := by
  show ibits .u64 (· ||| ·) (IntKind.u64.wrap (0 * 2 ^ 8)) (IntKind.u64.wrap a) = _
  rw [orB 0 a (by omega) (by omega) ha.1 ha.2]; omega
theorem getV2 (a b : Int) (r : List Int) (ha : 0 ≤ a ∧ a < 256) (hb : 0 ≤ b ∧ b < 256) : getV (a :: b :: r) 2 = a * 256 + b := by
  show ibits .u64 (· ||| ·) (IntKind.u64.wrap (ibits .u64 (· ||| ·) (IntKind.u64.wrap (0 * 2 ^ 8)) (IntKind.u64.wrap a) * 2 ^ 8)) (IntKind.u64.wrap b) = _
  rw [orB 0 a (by omega) (by omega) ha.1 ha.2, orB _ b (by omega) (by omega) hb.1 hb.2]; omega
theorem getV8 (a b c d e f g h : Int) (r : List Int) (ha : 0 ≤ a ∧ a < 256) (hb : 0 ≤ b ∧ b < 256) (hc : 0 ≤ c ∧ c < 256) (hd : 0 ≤ d ∧ d < 256) (he : 0 ≤ e ∧ e < 256) (hf : 0 ≤ f ∧ f < 256) (hg : 0 ≤ g ∧ g < 256) (hh : 0 ≤ h ∧ h < 256) :
    getV (a :: b :: c :: d :: e :: f :: g :: h :: r) 8 = ((((((a * 256 + b) * 256 + c) * 256 + d) * 256 + e) * 256 + f) * 256 + g) * 256 + h := by
  show ibits .u64 (· ||| ·) (IntKind.u64.wrap (ibits .u64 (· ||| ·) (IntKind.u64.wrap (ibits .u64 (· ||| ·) (IntKind.u64.wrap (ibits .u64 (· ||| ·) (IntKind.u64.wrap (ibits .u64 (· ||| ·) (IntKind.u64.wrap (ibits .u64 (· ||| ·) (IntKind.u64.wrap (ibits .u64 (· ||| ·) (IntKind.u64.wrap (ibits .u64 (· ||| ·) (IntKind.u64.wrap (0 * 2 ^ 8)) (IntKind.u64.wrap a) * 2 ^ 8)) (IntKind.u64.wrap b) * 2 ^ 8)) (IntKind.u64.wrap c) * 2 ^ 8)) (IntKind.u64.wrap d) * 2 ^ 8)) (IntKind.u64.wrap e) * 2 ^ 8)) (IntKind.u64.wrap f) * 2 ^ 8)) (IntKind.u64.wrap g) * 2 ^ 8)) (IntKind.u64.wrap h) = _
  rw [orB 0 a (by omega) (by omega) ha.1 ha.2, orB _ b (by omega) (by omega) hb.1 hb.2, orB _ c (by omega) (by omega) hc.1 hc.2, orB _ d (by omega) (by omega) hd.1 hd.2, orB _ e (by omega) (by omega) he.1 he.2, orB _ f (by omega) (by omega) hf.1 hf.2, orB _ g (by omega) (by omega) hg.1 hg.2, orB _ h (by omega) (by omega) hh.1 hh.2]
  omega
theorem num1 (x : Int) : num x 1 = [x % 256] := by
  rw [num_eq]
  show [byV x 0] = _
  rw [show byV x 0 = _ from byV_eq x 0 (by omega)]; simp
theorem num2 (x : Int) : num x 2 = [(x / 2 ^ 8) % 256, x % 256] := by
  rw [num_eq]
  show [byV x 1, byV x 0] = _
  rw [show byV x 1 = _ from byV_eq x 1 (by omega), show byV x 0 = _ from byV_eq x 0 (by omega)]; simp
theorem num8 (x : Int) : num x 8 = [(x / 2 ^ 56) % 256, (x / 2 ^ 48) % 256, (x / 2 ^ 40) % 256, (x / 2 ^ 32) % 256, (x / 2 ^ 24) % 256, (x / 2 ^ 16) % 256, (x / 2 ^ 8) % 256, x % 256] := by
  rw [num_eq]
  show [byV x 7, byV x 6, byV x 5, byV x 4, byV x 3, byV x 2, byV x 1, byV x 0] = _
  rw [show byV x 7 = _ from byV_eq x 7 (by omega), show byV x 6 = _ from byV_eq x 6 (by omega), show byV x 5 = _ from byV_eq x 5 (by omega), show byV x 4 = _ from byV_eq x 4 (by omega), show byV x 3 = _ from byV_eq x 3 (by omega), show byV x 2 = _ from byV_eq x 2 (by omega), show byV x 1 = _ from byV_eq x 1 (by omega), show byV x 0 = _ from byV_eq x 0 (by omega)]
  simp
theorem w64_id {x : Int} (h : 0 ≤ x) (h2 : x < 2 ^ 64) : w64 x = x := by
  show x % 18446744073709551616 = x
  omega
theorem bytesL_bstr {t : List Int} (h : byteL t) : bytesL (bstr t) = t := by
  unfold bytesL bstr
  rw [bstr_data]
  simp only [ByteArray.empty, List.map_append, List.map_map]
  show ([] : List Int) ++ _ = t
  rw [List.nil_append]
  refine List.ext_getElem (by simp) fun i h1 h2 => ?_
  simp only [List.getElem_map, Function.comp]
  have := h _ (List.getElem_mem h2)
  rw [UInt8.toNat_ofNat']
  omega
end Gp
namespace Gp
theorem rs_0 {p : Pdu} (h : p.kind = 0 ∨ p.kind = 1) : rsL p = rs49 p := by unfold rsL; rw [if_neg (by omega), if_neg (by omega), if_neg (by omega), if_neg (by omega), if_neg (by omega), if_pos h]
theorem rs_4 {p : Pdu} (h : p.kind = 4 ∨ p.kind = 6) : rsL p = rs57 p := by unfold rsL; rw [if_pos h]
theorem rs_7 {p : Pdu} (h : p.kind = 7) : rsL p = rs60 p := by unfold rsL; rw [if_neg (by omega), if_pos h]
theorem rs_9 {p : Pdu} (h : p.kind = 9) : rsL p = rs64 p := by unfold rsL; rw [if_neg (by omega), if_neg (by omega), if_pos h]
theorem rs_10 {p : Pdu} (h : p.kind = 10) : rsL p = rs69 p := by unfold rsL; rw [if_neg (by omega), if_neg (by omega), if_neg (by omega), if_pos h]
theorem rs_11 {p : Pdu} (h : p.kind = 11) : rsL p = rs73 p := by unfold rsL; rw [if_neg (by omega), if_neg (by omega), if_neg (by omega), if_neg (by omega), if_pos h]
theorem rs_2 {p : Pdu} (h : p.kind = 2 ∨ p.kind = 8 ∨ p.kind = 3) : rsL p = [] := by unfold rsL; rw [if_neg (by omega), if_neg (by omega), if_neg (by omega), if_neg (by omega), if_neg (by omega), if_neg (by omega)]
end Gp
namespace Gp
end Gp
namespace Gp
def oriF (o : Origin) (f : Int) : Bool := decide (ckP' o.pfx = 0) && (decide (o.pfx.fam = f) && (decide (o.pfx.len ≤ o.max) && decide (o.max ≤ width f)))
def pathF (p : Pdu) : Bool := if p.add = true then decide (ckPr' p.path = 0) else !decide (p.path.cust = 0) && decide (p.path.provs.length = 0)
def fldF (p : Pdu) : Bool := if p.kind = 0 ∨ p.kind = 1 ∨ p.kind = 2 ∨ p.kind = 8 ∨ p.kind = 3 then true else if p.kind = 4 then oriF p.origin 4 else if p.kind = 6 then oriF p.origin 6 else if p.kind = 7 then ck59 p else if p.kind = 9 then ck62 p else if p.kind = 10 then ck67 p else if p.kind = 11 then decide (p.version = 2) && pathF p else false
def bare (p : Pdu) : Pdu :=
  if p.kind = 0 ∨ p.kind = 1 then { z1 p.version p.kind p.session false 0 with serial := p.serial } else
  if p.kind = 3 then z1 p.version p.kind p.session false 0 else
  if p.kind = 4 ∨ p.kind = 6 then { z1 p.version p.kind 0 p.add 0 with origin := p.origin } else
  if p.kind = 7 then (if 0 < p.version then { z1 p.version p.kind p.session false 0 with serial := p.serial, refresh := p.refresh, retry := p.retry, expire := p.expire } else { z1 p.version p.kind p.session false 0 with serial := p.serial }) else
  if p.kind = 9 then { z1 p.version p.kind 0 p.add 0 with key := p.key } else
  if p.kind = 10 then { z1 p.version p.kind 0 false p.code with copy := p.copy, text := p.text } else
  if p.kind = 11 then { z1 p.version p.kind 0 p.add 0 with path := p.path } else z1 p.version p.kind 0 false 0
theorem bare0 {p : Pdu} (h : p.kind = 0 ∨ p.kind = 1) : bare p = { z1 p.version p.kind p.session false 0 with serial := p.serial } := if_pos h
theorem bare3 {p : Pdu} (h : p.kind = 3) : bare p = z1 p.version p.kind p.session false 0 := by
  rw [bare, if_neg (by omega), if_pos h]
theorem bare4 {p : Pdu} (h : p.kind = 4 ∨ p.kind = 6) : bare p = { z1 p.version p.kind 0 p.add 0 with origin := p.origin } := by
  rw [bare, if_neg (by omega), if_neg (by omega), if_pos h]
theorem bare7 {p : Pdu} (h : p.kind = 7) (hv : 0 < p.version) : bare p = { z1 p.version p.kind p.session false 0 with serial := p.serial, refresh := p.refresh, retry := p.retry, expire := p.expire } := by
  rw [bare, if_neg (by omega), if_neg (by omega), if_neg (by omega), if_pos h, if_pos hv]
theorem bare7' {p : Pdu} (h : p.kind = 7) (hv : ¬ 0 < p.version) : bare p = { z1 p.version p.kind p.session false 0 with serial := p.serial } := by
  rw [bare, if_neg (by omega), if_neg (by omega), if_neg (by omega), if_pos h, if_neg hv]
theorem bare9 {p : Pdu} (h : p.kind = 9) : bare p = { z1 p.version p.kind 0 p.add 0 with key := p.key } := by
  rw [bare, if_neg (by omega), if_neg (by omega), if_neg (by omega), if_neg (by omega), if_pos h]
theorem bare10 {p : Pdu} (h : p.kind = 10) : bare p = { z1 p.version p.kind 0 false p.code with copy := p.copy, text := p.text } := by
  rw [bare, if_neg (by omega), if_neg (by omega), if_neg (by omega), if_neg (by omega), if_neg (by omega), if_pos h]
theorem bare11 {p : Pdu} (h : p.kind = 11) : bare p = { z1 p.version p.kind 0 p.add 0 with path := p.path } := by
  rw [bare, if_neg (by omega), if_neg (by omega), if_neg (by omega), if_neg (by omega), if_neg (by omega), if_neg (by omega), if_pos h]
theorem bareN {p : Pdu} (h : ¬ (p.kind = 0 ∨ p.kind = 1 ∨ p.kind = 3 ∨ p.kind = 4 ∨ p.kind = 6 ∨ p.kind = 7 ∨ p.kind = 9 ∨ p.kind = 10 ∨ p.kind = 11)) : bare p = z1 p.version p.kind 0 false 0 := by
  rw [bare, if_neg (by omega), if_neg (by omega), if_neg (by omega), if_neg (by omega), if_neg (by omega), if_neg (by omega), if_neg (by omega)]
end Gp
namespace Gp
end Gp
namespace Gp
def Addr.rng (a : Addr) : Prop := (0 ≤ a.hi ∧ a.hi < 2 ^ 64) ∧ (0 ≤ a.lo ∧ a.lo < 2 ^ 64)
def Attest.rng (a : Attest) : Prop := 0 ≤ a.cust ∧ ∀ n ∈ a.provs, 0 ≤ n
theorem anyI_none {p : Nat → Bool} {n : Nat} : anyI p 0 n = false ↔ ∀ i, i < n → p i = false := by
  constructor
  · intro h i hi
    cases hp : p i with
    | false => rfl
    | true => rw [anyI_iff.2 ⟨i, hi, hp⟩] at h; cases h
  · intro h
    cases hn : anyI p 0 n with
    | false => rfl
    | true => obtain ⟨i, hi, hp⟩ := anyI_iff.1 hn; rw [h i hi] at hp; cases hp
theorem and64 (a b : Int) (ha : 0 ≤ a ∧ a < 2 ^ 64) (hb : 0 ≤ b ∧ b < 2 ^ 64) : ibits .u64 (· &&& ·) a b = ((a.toNat &&& b.toNat : Nat) : Int) := by
  have e : ∀ x : Int, 0 ≤ x ∧ x < 2 ^ 64 → (BitVec.ofInt 64 x).toNat = x.toNat := by
    intro x hx
    rw [BitVec.toNat_ofInt, Int.emod_eq_of_lt hx.1 (by simpa using hx.2)]
  unfold ibits
  show IntKind.u64.wrap (((BitVec.ofInt 64 a) &&& (BitVec.ofInt 64 b)).toNat : Int) = _
  rw [BitVec.toNat_and, e a ha, e b hb]
  have : a.toNat &&& b.toNat ≤ a.toNat := Nat.and_le_left
  rw [IntWalk.u64_in _ ⟨by omega, by omega⟩]
theorem hole_bit (n m k : Nat) (h : m ≤ n) : (2 ^ n - 2 ^ m).testBit k = decide (m ≤ k ∧ k < n) := by
  have e : 2 ^ n - 2 ^ m = (2 ^ (n - m) - 1) <<< m := by
    rw [Nat.shiftLeft_eq, Nat.sub_mul, ← Nat.pow_add, Nat.one_mul, Nat.sub_add_cancel h]
  rw [e, Nat.testBit_shiftLeft, Nat.testBit_two_pow_sub_one, Bool.eq_iff_iff]
  simp; omega
theorem and_hole (n m x : Nat) (h : m ≤ n) (hx : x < 2 ^ n) : x &&& (2 ^ n - 2 ^ m) = x ↔ ∀ k, k < m → x.testBit k = false := by
  constructor
  · intro e k hk
    have := congrArg (fun y => y.testBit k) e
    simp only [Nat.testBit_and, hole_bit n m k h] at this
    rw [← this, show decide (m ≤ k ∧ k < n) = false from by simp; omega, Bool.and_false]
  · intro hz
    refine Nat.eq_of_testBit_eq fun k => ?_
    rw [Nat.testBit_and, hole_bit n m k h]
    rcases Nat.lt_or_ge k m with hk | hk
    · rw [hz k hk]; rfl
    · rcases Nat.lt_or_ge k n with hn | hn
      · rw [show decide (m ≤ k ∧ k < n) = true from by simp; omega, Bool.and_true]
      · rw [Nat.testBit_lt_two_pow (Nat.lt_of_lt_of_le hx (Nat.pow_le_pow_right (by decide) hn))]; rfl
theorem shl_ones (m : Int) (h0 : 0 ≤ m) (h : m ≤ 64) : shl64 ones m = ((2 ^ 64 - 2 ^ m.toNat : Nat) : Int) := by
  unfold shl64 ones
  have hm : min m.toNat 64 = m.toNat := by omega
  rw [hm]
  have hp : (2 : Nat) ^ m.toNat ≤ 2 ^ 64 := Nat.pow_le_pow_right (by decide) (by omega)
  have hpos : 0 < (2 : Nat) ^ m.toNat := Nat.pos_of_ne_zero (by simp)
  generalize hq : (2 : Nat) ^ m.toNat = q at *
  have e : (2 : Int) ^ m.toNat = (q : Int) := by rw [← hq]; simp
  rw [e, IntKind.wrap]
  simp [IntKind.bits, IntKind.signed]
  omega
theorem bitV_eq (x k : Int) (hx : 0 ≤ x ∧ x < 2 ^ 64) (hk : 0 ≤ k) : bitV x k = if x.toNat.testBit k.toNat = true then 1 else 0 := by
  unfold bitV
  have e : x.tdiv (2 ^ k.toNat) = ((x.toNat / 2 ^ k.toNat : Nat) : Int) := by
    obtain ⟨n, rfl⟩ := Int.eq_ofNat_of_zero_le hx.1
    simp [Int.tdiv]
    rfl
  have hle : x.toNat / 2 ^ k.toNat ≤ x.toNat := Nat.div_le_self _ _
  rw [Nat.testBit_eq_decide_div_mod_eq, e]
  generalize x.toNat / 2 ^ k.toNat = q at hle
  rw [IntWalk.u64_in _ ⟨by omega, by omega⟩]
  have e2 : (q : Int).tmod 2 = ((q % 2 : Nat) : Int) := by simp [Int.tmod]
  rw [e2, IntWalk.i64_in _ ⟨by omega, by omega⟩]
  split
  · rename_i h; simp at h; omega
  · rename_i h; simp at h; omega
theorem mask_bits (x m : Int) (hx : 0 ≤ x ∧ x < 2 ^ 64) (h0 : 0 ≤ m) (h : m ≤ 64) : ibits .u64 (· &&& ·) x (shl64 ones m) = x ↔ ∀ k : Nat, (k : Int) < m → bitV x k = 0 := by
  rw [shl_ones m h0 h]
  have hp : (2 : Nat) ^ m.toNat ≤ 2 ^ 64 := Nat.pow_le_pow_right (by decide) (by omega)
  have hpos : 0 < (2 : Nat) ^ m.toNat := Nat.pos_of_ne_zero (by simp)
  rw [and64 x _ hx ⟨by omega, by omega⟩, Int.toNat_natCast]
  have hb := and_hole 64 m.toNat x.toNat (by omega) (by omega)
  constructor
  · intro he k hk
    rw [bitV_eq x k hx (by omega), Int.toNat_natCast]
    have h1 : x.toNat &&& (2 ^ 64 - 2 ^ m.toNat) = x.toNat := by omega
    rw [hb.1 h1 k (by omega)]; rfl
  · intro hz
    have h1 : x.toNat &&& (2 ^ 64 - 2 ^ m.toNat) = x.toNat := hb.2 fun k hk => by
      have := hz k (by omega)
      rw [bitV_eq x k hx (by omega), Int.toNat_natCast] at this
      cases hc : x.toNat.testBit k with
      | false => rfl
      | true => rw [hc] at this; simp at this
    rw [h1]; omega
theorem ones_eq : shl64 ones 0 = ones := by decide
theorem zero_bits (x : Int) (hx : 0 ≤ x ∧ x < 2 ^ 64) : x = 0 ↔ ∀ k : Nat, (k : Int) < 64 → bitV x k = 0 := by
  rw [← mask_bits x 64 hx (by omega) (by omega), shl_ones 64 (by omega) (by omega), show ((2 ^ 64 - 2 ^ (64 : Int).toNat : Nat) : Int) = 0 from rfl, and64 x 0 hx ⟨by omega, by omega⟩]
  simp; omega
def lowBit (a : Addr) (k : Nat) : Int := if 63 < k then bitV a.hi ((k : Int) - 64) else bitV a.lo k
theorem and_ones (x : Int) (hx : 0 ≤ x ∧ x < 2 ^ 64) : ibits .u64 (· &&& ·) x ones = x := by
  rw [← ones_eq]
  exact (mask_bits x 0 hx (by omega) (by omega)).2 fun k hk => by omega
theorem and_zero (x : Int) (hx : 0 ≤ x ∧ x < 2 ^ 64) : ibits .u64 (· &&& ·) x 0 = 0 := by
  rw [and64 x 0 hx ⟨by omega, by omega⟩]; simp
theorem mask6 (a : Addr) (n : Int) (ha : a.rng) (h0 : 0 ≤ n) (h : n ≤ 128) : andA a (mask 6 n) = a ↔ ∀ k : Nat, (k : Int) < 128 - n → lowBit a k = 0 := by
  have hw : mask 6 n = maskM 6 (128 - n) := rfl
  rw [hw, Addr.ext_iff]
  unfold andA maskM
  by_cases h64 : 64 ≤ 128 - n
  · rw [if_pos h64, if_neg (by decide)]
    simp only
    rw [mask_bits a.hi _ ha.1 (by omega) (by omega), and_zero a.lo ha.2, eq_comm, zero_bits a.lo ha.2]
    constructor
    · rintro ⟨h1, h2⟩ k hk
      unfold lowBit
      split
      · have := h1 (k - 64) (by omega)
        rwa [show ((k - 64 : Nat) : Int) = (k : Int) - 64 from by omega] at this
      · exact h2 k (by omega)
    · intro hz
      refine ⟨fun k hk => ?_, fun k hk => ?_⟩
      · have := hz (k + 64) (by omega)
        unfold lowBit at this
        rw [if_pos (by omega)] at this
        rwa [show ((k + 64 : Nat) : Int) - 64 = k from by omega] at this
      · have := hz k (by omega)
        unfold lowBit at this
        rwa [if_neg (by omega)] at this
  · rw [if_neg h64, if_neg (by decide)]
    simp only
    rw [and_ones a.hi ha.1, mask_bits a.lo _ ha.2 (by omega) (by omega)]
    constructor
    · rintro ⟨_, h2⟩ k hk
      unfold lowBit
      rw [if_neg (by omega)]; exact h2 k (by omega)
    · intro hz
      refine ⟨rfl, fun k hk => ?_⟩
      have := hz k (by omega)
      unfold lowBit at this
      rwa [if_neg (by omega)] at this
theorem mask4 (a : Addr) (n : Int) (ha : a.rng) (hh : a.hi = 0) (hl : a.lo < 2 ^ 32) (h0 : 0 ≤ n) (h : n ≤ 32) : andA a (mask 4 n) = a ↔ ∀ k : Nat, (k : Int) < 32 - n → lowBit a k = 0 := by
  have hw : mask 4 n = maskM 4 (32 - n) := rfl
  rw [hw, Addr.ext_iff]
  unfold andA maskM
  rw [if_neg (by omega), if_pos rfl]
  simp only
  have e0 : ibits .u64 (· &&& ·) a.hi 0 = a.hi := by rw [and_zero a.hi ha.1, hh]
  have hp : (2 : Nat) ^ (32 - n).toNat ≤ 2 ^ 64 := Nat.pow_le_pow_right (by decide) (by omega)
  have hp2 : (2 : Nat) ^ (32 - n).toNat ≤ 2 ^ 32 := Nat.pow_le_pow_right (by decide) (by omega)
  have hpos : 0 < (2 : Nat) ^ (32 - n).toNat := Nat.pos_of_ne_zero (by simp)
  have e1 : ibits .u64 (· &&& ·) (shl64 ones (32 - n)) 4294967295 = ((2 ^ 32 - 2 ^ (32 - n).toNat : Nat) : Int) := by
    rw [shl_ones _ (by omega) (by omega), and64 _ _ ⟨by omega, by omega⟩ ⟨by omega, by omega⟩]
    congr 1
    refine Nat.eq_of_testBit_eq fun k => ?_
    rw [Int.toNat_natCast, show (4294967295 : Int).toNat = 2 ^ 32 - 1 from rfl, Nat.testBit_and, hole_bit 64 _ k (by omega), Nat.testBit_two_pow_sub_one, hole_bit 32 _ k (by omega), Bool.eq_iff_iff]
    simp; omega
  rw [e0, e1, and64 a.lo _ ha.2 ⟨by omega, by omega⟩, Int.toNat_natCast]
  have hb := and_hole 32 (32 - n).toNat a.lo.toNat (by omega) (by omega)
  constructor
  · rintro ⟨_, he⟩ k hk
    unfold lowBit
    rw [if_neg (by omega), bitV_eq a.lo k ha.2 (by omega), Int.toNat_natCast]
    have h1 : a.lo.toNat &&& (2 ^ 32 - 2 ^ (32 - n).toNat) = a.lo.toNat := by omega
    rw [hb.1 h1 k (by omega)]; rfl
  · intro hz
    have h1 : a.lo.toNat &&& (2 ^ 32 - 2 ^ (32 - n).toNat) = a.lo.toNat := hb.2 fun k hk => by
      have := hz k (by omega)
      unfold lowBit at this
      rw [if_neg (by omega), bitV_eq a.lo k ha.2 (by omega), Int.toNat_natCast] at this
      cases hc : a.lo.toNat.testBit k with
      | false => rfl
      | true => rw [hc] at this; simp at this
    refine ⟨rfl, ?_⟩
    have := ha.2.1
    rw [h1]; omega
theorem ckP_eq (p : Pfx) (ha : p.addr.rng) : ckP p = ckP' p := by
  unfold ckP ckP'
  by_cases hw : width p.fam = 0
  · rw [if_pos hw, if_pos hw]
  rw [if_neg hw, if_neg hw]
  have key : ckA p.fam p.addr = true → 0 ≤ p.len → p.len ≤ width p.fam → (andA p.addr (mask p.fam p.len) = p.addr ↔ anyI (P90 p) 0 (width p.fam - p.len).toNat = false) := by
    intro hc h0 hl
    have hfam : p.fam = 4 ∨ p.fam = 6 := by
      unfold width at hw
      split at hw
      · left; assumption
      · split at hw
        · right; assumption
        · exact absurd rfl hw
    have hany : anyI (P90 p) 0 (width p.fam - p.len).toNat = false ↔ ∀ k : Nat, (k : Int) < width p.fam - p.len → lowBit p.addr k = 0 := by
      have hwl := width_le p.fam
      have hget : ∀ i : Nat, (i : Int) < width p.fam - p.len → (bitsL p.fam p.addr).getD (p.len + (i : Int)).toNat 0 = lowBit p.addr (width p.fam - 1 - p.len - i).toNat := by
        intro i hi
        have hlt : (p.len + (i : Int)).toNat < (width p.fam).toNat := by omega
        have e : (bitsL p.fam p.addr).getD (p.len + (i : Int)).toNat 0 = bitF p.fam p.addr (p.len + (i : Int)).toNat := by
          simp [bitsL, List.getD_eq_getElem?_getD, List.getElem?_eq_getElem, hlt]
        rw [e]
        unfold bitF lowBit
        have e1 : width p.fam - 1 - ((p.len + (i : Int)).toNat : Int) = width p.fam - 1 - p.len - i := by omega
        rw [e1]
        by_cases h63 : 63 < width p.fam - 1 - p.len - i
        · rw [if_pos h63, if_pos (by omega)]; congr 1; omega
        · rw [if_neg h63, if_neg (by omega)]; congr 1; omega
      constructor
      · intro hn k hk
        have h1 : P90 p (width p.fam - 1 - p.len - k).toNat = false := by
          cases hp : P90 p (width p.fam - 1 - p.len - k).toNat with
          | false => rfl
          | true => rw [anyI_iff.2 ⟨_, by omega, hp⟩] at hn; cases hn
        unfold P90 at h1
        rw [hget _ (by omega)] at h1
        have e2 : (width p.fam - 1 - p.len - ((width p.fam - 1 - p.len - k).toNat : Int)).toNat = k := by omega
        rw [e2] at h1
        simpa using h1
      · intro hz
        cases hn : anyI (P90 p) 0 (width p.fam - p.len).toNat with
        | false => rfl
        | true =>
          obtain ⟨i, hi, hp⟩ := anyI_iff.1 hn
          unfold P90 at hp
          rw [hget i (by omega), hz _ (by omega)] at hp
          simp at hp
    rw [hany]
    rcases hfam with h4 | h6
    · rw [h4] at hl hc ⊢
      have hw4 : width 4 = 32 := rfl
      rw [hw4] at hl ⊢
      simp [ckA] at hc
      exact mask4 p.addr p.len ha hc.1 (by omega) h0 hl
    · rw [h6] at hl ⊢
      have hw6 : width 6 = 128 := rfl
      rw [hw6] at hl ⊢
      exact mask6 p.addr p.len ha h0 hl
  by_cases hc : ckA p.fam p.addr = true
  · by_cases h0 : 0 ≤ p.len
    · by_cases hl : p.len ≤ width p.fam
      · have := key hc h0 hl
        by_cases hn : anyI (P90 p) 0 (width p.fam - p.len).toNat = false
        · rw [if_pos ⟨hc, h0, hl, this.2 hn⟩, if_pos (by simp [hc, h0, hl, hn])]
        · rw [if_neg (fun h => hn (this.1 h.2.2.2)), if_neg (by simp only [Bool.not_eq_false] at hn; simp [hn])]
      · rw [if_neg (fun h => hl h.2.2.1), if_neg (by simp [hl])]
    · rw [if_neg (fun h => h0 h.2.1), if_neg (by simp [h0])]
  · rw [if_neg (fun h => hc h.1), if_neg (by simp [hc])]
theorem strict_iff (l : List Int) : ∀ n, strict l n = true ↔ ∀ i, i < n → l.getD i 0 < l.getD (i + 1) 0
  | 0 => by simp [strict]
  | n + 1 => by
    rw [strict, Bool.and_eq_true, strict_iff l n, decide_eq_true_eq]
    constructor
    · rintro ⟨h1, h2⟩ i hi
      rcases Nat.lt_or_ge i n with h | h
      · exact h1 i h
      · obtain rfl : i = n := by omega
        exact h2
    · intro h; exact ⟨fun i hi => h i (by omega), h n (by omega)⟩
theorem getD_memI (l : List Int) (i : Nat) (h : i < l.length) : l.getD i 0 ∈ l := by
  simp [List.getD_eq_getElem?_getD, List.getElem?_eq_getElem h]
theorem ckPr_eq (a : Attest) (ha : a.rng) : ckPr a = ckPr' a := by
  unfold ckPr ckPr'
  by_cases h50 : 50 < a.provs.length
  · rw [if_pos h50, if_pos h50]
  rw [if_neg h50, if_neg h50]
  have hP : anyI (P92 a) 0 a.provs.length = false ↔ (a.cust ∉ a.provs ∧ ∀ i, i < a.provs.length - 1 → a.provs.getD i 0 < a.provs.getD (i + 1) 0) := by
    rw [anyI_none]
    constructor
    · intro h
      refine ⟨fun hm => ?_, fun i hi => ?_⟩
      · obtain ⟨i, hi, hx⟩ := List.mem_iff_getElem.1 hm
        have := h i hi
        simp [P92, List.getD_eq_getElem?_getD, List.getElem?_eq_getElem hi, hx] at this
      · have := h (i + 1) (by omega)
        simp only [P92, Bool.or_eq_false_iff, Bool.and_eq_false_imp, decide_eq_true_eq, decide_eq_false_iff_not, Nat.add_sub_cancel] at this
        have := this.2 (by omega); omega
    · rintro ⟨h1, h2⟩ i hi
      simp only [P92, Bool.or_eq_false_iff, Bool.and_eq_false_imp, decide_eq_true_eq, decide_eq_false_iff_not]
      refine ⟨fun he => h1 (he ▸ getD_memI a.provs i hi), fun h0 => ?_⟩
      have := h2 (i - 1) (by omega)
      rw [show i - 1 + 1 = i from by omega] at this; omega
  have hs := strict_iff a.provs (a.provs.length - 1)
  by_cases hg : (d89 a && strict a.provs (a.provs.length - 1)) = true
  · rw [if_pos hg]
    simp only [d89, b89, Bool.and_eq_true, Bool.or_eq_true, decide_eq_true_eq, Bool.not_eq_true', decide_eq_false_iff_not] at hg
    obtain ⟨⟨⟨⟨g1, g2⟩, g3⟩, g4⟩, g5⟩ := hg
    rw [if_neg]
    rintro (h | h | h | h)
    · omega
    · omega
    · omega
    · rw [hP.2 ⟨g3, hs.1 g5⟩] at h; cases h
  · rw [if_neg hg, if_pos]
    refine Classical.byContradiction fun hc => hg ?_
    simp only [not_or, Bool.not_eq_true] at hc
    obtain ⟨h1, h2, h3, h4⟩ := hc
    obtain ⟨p1, p2⟩ := hP.1 h4
    have hc0 := ha.1
    have h0 := ha.2 _ (getD_memI a.provs 0 (by omega))
    simp only [d89, b89, Bool.and_eq_true, Bool.or_eq_true, decide_eq_true_eq, Bool.not_eq_true', decide_eq_false_iff_not]
    refine ⟨⟨⟨⟨by omega, by omega⟩, p1⟩, ?_⟩, hs.2 p2⟩
    rcases Nat.lt_or_ge 1 a.provs.length with h | h
    · right
      have : ¬ a.provs.getD 0 0 = 0 := fun he => h3 ⟨h, he⟩
      omega
    · left; omega
structure Pdu.rng (p : Pdu) : Prop where
  v : 0 ≤ p.version ∧ p.version < 256
  k : 0 ≤ p.kind ∧ p.kind < 256
  s : 0 ≤ p.session ∧ p.session < 65536
  n : 0 ≤ p.serial ∧ p.serial < 4294967296
  oa : 0 ≤ p.origin.asn ∧ p.origin.asn < 4294967296
  ad : p.origin.pfx.addr.rng
  c : 0 ≤ p.path.cust ∧ p.path.cust < 4294967296
  ps : ∀ x ∈ p.path.provs, 0 ≤ x ∧ x < 4294967296
  ka : 0 ≤ p.key.asn ∧ p.key.asn < 4294967296
  t1 : 0 ≤ p.refresh ∧ p.refresh < 4294967296
  t2 : 0 ≤ p.retry ∧ p.retry < 4294967296
  t3 : 0 ≤ p.expire ∧ p.expire < 4294967296
  co : 0 ≤ p.code ∧ p.code < 65536
theorem Pdu.rng.path {p : Pdu} (h : p.rng) : p.path.rng := ⟨h.c.1, fun x hx => (h.ps x hx).1⟩
theorem ckD_eq (p : Pdu) (h : p.rng) (hk : isK p.kind) : ckD p = fldF p := by
  unfold isK at hk
  have hp := ckP_eq p.origin.pfx h.ad
  have hr := ckPr_eq p.path h.path
  have hc := h.c
  unfold ckD fldF
  by_cases h4 : p.kind = 4
  · rw [if_pos (.inl h4), if_neg (by omega), if_pos h4]
    unfold ck56 oriF
    rw [if_neg (by omega), hp]
    show _ = (decide (ckP' p.origin.pfx = 0) && (decide (p.origin.pfx.fam = 4) && (decide (p.origin.pfx.len ≤ p.origin.max) && decide (p.origin.max ≤ 32))))
    simp only [Bool.and_assoc]
  by_cases h6 : p.kind = 6
  · rw [if_pos (.inr h6), if_neg (by omega), if_neg h4, if_pos h6]
    unfold ck56 oriF
    rw [if_pos h6, hp]
    show _ = (decide (ckP' p.origin.pfx = 0) && (decide (p.origin.pfx.fam = 6) && (decide (p.origin.pfx.len ≤ p.origin.max) && decide (p.origin.max ≤ 128))))
    simp only [Bool.and_assoc]
  rw [if_neg (by omega)]
  by_cases h7 : p.kind = 7
  · rw [if_pos h7, if_neg (by omega), if_neg h4, if_neg h6, if_pos h7]
  rw [if_neg h7]
  by_cases h9 : p.kind = 9
  · rw [if_pos h9, if_neg (by omega), if_neg h4, if_neg h6, if_neg h7, if_pos h9]
  rw [if_neg h9]
  by_cases h10 : p.kind = 10
  · rw [if_pos h10, if_neg (by omega), if_neg h4, if_neg h6, if_neg h7, if_neg h9, if_pos h10]
  rw [if_neg h10]
  by_cases h11 : p.kind = 11
  · rw [if_pos h11, if_neg (by omega), if_neg h4, if_neg h6, if_neg h7, if_neg h9, if_neg h10, if_pos h11]
    unfold ck72 pathF
    rw [hr]
    have e : decide (0 < p.path.cust) = !decide (p.path.cust = 0) := by rw [Bool.eq_iff_iff]; simp; omega
    split
    · rfl
    · rw [e, Bool.and_assoc]
  rw [if_neg h11, if_pos (by omega)]
end Gp
