/- Part 8 of the walk and of the plain law of ClientTicks. -/
import Derived.Test.YtdbdfblneaokjaaW7

set_option maxRecDepth 100000
set_option maxHeartbeats 0
set_option linter.unusedVariables false
set_option linter.unusedSimpArgs false
open Go Go.Abs
namespace Gp
/-! the plain law: orders -/
theorem cmpI_lt (a b : Int) : cmpI a b < 0 ↔ a < b := by unfold cmpI; split; · simp [*]
                                                         split <;> simp [*]
theorem cmpI_eq (a b : Int) : cmpI a b = 0 ↔ a = b := by unfold cmpI; split; · simp; omega
                                                         split; · simp; omega
                                                         · simp; omega
theorem cmpA_lt (a b : Addr) : cmpA a b < 0 ↔ (a.hi < b.hi ∨ (a.hi = b.hi ∧ a.lo < b.lo)) := by
  unfold cmpA
  have h1 := cmpI_lt a.hi b.hi; have h2 := cmpI_eq a.hi b.hi; have h3 := cmpI_lt a.lo b.lo
  split
  · rw [h1]; omega
  · rw [h3]; omega
theorem cmpA_eq (a b : Addr) : cmpA a b = 0 ↔ a = b := by
  unfold cmpA
  have h2 := cmpI_eq a.hi b.hi; have h3 := cmpI_eq a.lo b.lo
  rw [Addr.ext_iff]
  split
  · omega
  · rw [h3]; omega
theorem cmpA'_lt (a b : Addr) : cmpA' a b < 0 ↔ (a.hi < b.hi ∨ (a.hi = b.hi ∧ a.lo < b.lo)) := by
  unfold cmpA'
  split
  · rename_i h; rw [Addr.ext_iff] at h; simp; omega
  · split
    · simp; omega
    · simp; omega
theorem orI_lt (x : Int) (l : List Int) : orI (x :: l) < 0 ↔ (x < 0 ∨ (x = 0 ∧ orI l < 0)) := by
  rw [orI]; split
  · rename_i h; simp [h]
  · rename_i h; simp only [ne_eq, Classical.not_not] at h; simp [h]
theorem orI_nil : orI [] < 0 ↔ False := by simp [orI]
theorem befO_eq (a b : Origin) : decide (0 ≤ cmpO a b) = !befO a b := by
  have a1 := cmpI_lt a.asn b.asn; have a2 := cmpI_eq a.asn b.asn
  have b1 := cmpI_lt a.pfx.fam b.pfx.fam; have b2 := cmpI_eq a.pfx.fam b.pfx.fam
  have c1 := cmpA_lt a.pfx.addr b.pfx.addr; have c2 := cmpA_eq a.pfx.addr b.pfx.addr; have c3 := cmpA'_lt a.pfx.addr b.pfx.addr
  have d1 := cmpI_lt a.pfx.len b.pfx.len; have d2 := cmpI_eq a.pfx.len b.pfx.len
  have e1 := cmpI_lt a.max b.max
  have ne : ∀ x : Int, decide (0 ≤ x) = !decide (x < 0) := fun x => by rw [Bool.eq_iff_iff]; simp
  have key : decide (cmpO a b < 0) = befO a b := by
    rw [Bool.eq_iff_iff, decide_eq_true_eq]
    unfold cmpO
    simp only [orI_lt, orI_nil, a1, a2, b1, b2, c1, c2, d1, d2, e1]
    unfold befO
    split
    · rename_i h; simp [h]
    · rename_i h; simp only [ne_eq, Classical.not_not] at h
      split
      · rename_i h2; simp [h, h2]
      · rename_i h2; simp only [ne_eq, Classical.not_not] at h2
        split
        · rename_i h3; simp [h, h2, h3, c3]
        · rename_i h3; simp only [ne_eq, Classical.not_not] at h3
          split
          · rename_i h4; simp [h, h2, h3, h4]
          · rename_i h4; simp only [ne_eq, Classical.not_not] at h4
            simp [h, h2, h3, h4]
  rw [ne, key]
theorem befT_eq (a b : Attest) : decide (0 ≤ cmpT a b) = !befT a b := by
  have a1 := cmpI_lt a.cust b.cust
  unfold cmpT befT
  rw [Bool.eq_iff_iff]; simp; omega
def byteI (n : Int) : Prop := 0 ≤ n ∧ n ≤ 255
theorem u8_of (n : Int) (h : byteI n) : ((UInt8.ofNat n.toNat).toNat : Int) = n := by
  obtain ⟨h1, h2⟩ := h
  rw [UInt8.toNat_ofNat']; omega
theorem u8_lt (a b : Int) (ha : byteI a) (hb : byteI b) : UInt8.ofNat a.toNat < UInt8.ofNat b.toNat ↔ a < b := by
  rw [UInt8.lt_iff_toNat_lt]
  have h1 := u8_of a ha; have h2 := u8_of b hb; omega
theorem cmpB_lex (e : Bool) : ∀ (x y : List Int), x.length = y.length → (∀ n ∈ x, byteI n) → (∀ n ∈ y, byteI n) → lexB (x.zip y) e = if cmpB x y ≠ 0 then decide (cmpB x y < 0) else e
  | [], [], _, _, _ => by simp [lexB, cmpB, Lib.bytesOf, Lib.compareBytes]
  | [], _ :: _, h, _, _ => by simp at h
  | _ :: _, [], h, _, _ => by simp at h
  | a :: x, b :: y, h, hx, hy => by
    have ih := cmpB_lex e x y (by simpa using h) (fun n hn => hx n (by simp [hn])) (fun n hn => hy n (by simp [hn]))
    have ha := hx a (by simp); have hb := hy b (by simp)
    have e1 : cmpB (a :: x) (b :: y) = if a < b then -1 else if b < a then 1 else cmpB x y := by
      show Lib.compareBytes (UInt8.ofNat a.toNat :: Lib.bytesOf x) (UInt8.ofNat b.toNat :: Lib.bytesOf y) = _
      rw [Lib.compareBytes]
      simp only [u8_lt a b ha hb, u8_lt b a hb ha]; rfl
    rw [List.zip_cons_cons, lexB, ih, e1]
    by_cases h1 : a < b
    · rw [if_pos (by omega), if_pos h1]; simp [h1]
    · by_cases h2 : b < a
      · rw [if_pos (by omega), if_neg h1, if_pos h2]; simp [h1]
      · rw [if_neg (by omega), if_neg h1, if_neg h2]
def RKey.rng (k : RKey) : Prop := ∀ n ∈ rootL k, byteI n
theorem befK_eq (a b : RKey) (ha : a.rng) (hb : b.rng) : decide (0 ≤ cmpK a b) = !befK a b := by
  have ne : ∀ x : Int, decide (0 ≤ x) = !decide (x < 0) := fun x => by rw [Bool.eq_iff_iff]; simp
  have hz : befK a b = if a.asn ≠ b.asn then decide (a.asn < b.asn) else lexB ((rootL a).zip (rootL b)) (decide (a.height < b.height)) := rfl
  have hl := cmpB_lex (decide (a.height < b.height)) (rootL a) (rootL b) rfl ha hb
  have a1 := cmpI_lt a.asn b.asn; have a2 := cmpI_eq a.asn b.asn
  have e1 := cmpI_lt a.height b.height
  have key : decide (cmpK a b < 0) = befK a b := by
    rw [hz, hl, Bool.eq_iff_iff, decide_eq_true_eq]
    unfold cmpK
    simp only [orI_lt, orI_nil, a1, a2, e1]
    split
    · rename_i h; simp [h]
    · rename_i h; simp only [ne_eq, Classical.not_not] at h
      split
      · rename_i h2; simp [h, h2]
      · rename_i h2; simp only [ne_eq, Classical.not_not] at h2
        simp [h, h2]
  rw [ne, key]
end Gp
namespace Gp
/-! the plain law: bits -/
theorem and64 (a b : Int) (ha : 0 ≤ a ∧ a < 2 ^ 64) (hb : 0 ≤ b ∧ b < 2 ^ 64) : ibits .u64 (· &&& ·) a b = ((a.toNat &&& b.toNat : Nat) : Int) := by
  have e : ∀ x : Int, 0 ≤ x ∧ x < 2 ^ 64 → (BitVec.ofInt 64 x).toNat = x.toNat := by
    intro x hx
    rw [BitVec.toNat_ofInt, Int.emod_eq_of_lt hx.1 (by simpa using hx.2)]
  unfold ibits
  show IntKind.u64.wrap (((BitVec.ofInt 64 a) &&& (BitVec.ofInt 64 b)).toNat : Int) = _
  rw [BitVec.toNat_and, e a ha, e b hb]
  have : a.toNat &&& b.toNat ≤ a.toNat := Nat.and_le_left
  rw [IntWalk.u64_in _ ⟨by omega, by omega⟩]
theorem hole_bit (n m k : Nat) (h : m ≤ n) : (2 ^ n - 2 ^ m).testBit k = decide (m ≤ k ∧ k < n) := by
  have e : 2 ^ n - 2 ^ m = (2 ^ (n - m) - 1) <<< m := by
    rw [Nat.shiftLeft_eq, Nat.sub_mul, ← Nat.pow_add, Nat.one_mul, Nat.sub_add_cancel h]
  rw [e, Nat.testBit_shiftLeft, Nat.testBit_two_pow_sub_one, Bool.eq_iff_iff]
  simp; omega
theorem and_hole (n m x : Nat) (h : m ≤ n) (hx : x < 2 ^ n) : x &&& (2 ^ n - 2 ^ m) = x ↔ ∀ k, k < m → x.testBit k = false := by
  constructor
  · intro e k hk
    have := congrArg (fun y => y.testBit k) e
    simp only [Nat.testBit_and, hole_bit n m k h] at this
    rw [← this, show decide (m ≤ k ∧ k < n) = false from by simp; omega, Bool.and_false]
  · intro hz
    refine Nat.eq_of_testBit_eq fun k => ?_
    rw [Nat.testBit_and, hole_bit n m k h]
    rcases Nat.lt_or_ge k m with hk | hk
    · rw [hz k hk]; rfl
    · rcases Nat.lt_or_ge k n with hn | hn
      · rw [show decide (m ≤ k ∧ k < n) = true from by simp; omega, Bool.and_true]
      · rw [Nat.testBit_lt_two_pow (Nat.lt_of_lt_of_le hx (Nat.pow_le_pow_right (by decide) hn))]; rfl
theorem shl_ones (m : Int) (h0 : 0 ≤ m) (h : m ≤ 64) : shl64 ones m = ((2 ^ 64 - 2 ^ m.toNat : Nat) : Int) := by
  unfold shl64 ones
  have hm : min m.toNat 64 = m.toNat := by omega
  rw [hm]
  have hp : (2 : Nat) ^ m.toNat ≤ 2 ^ 64 := Nat.pow_le_pow_right (by decide) (by omega)
  have hpos : 0 < (2 : Nat) ^ m.toNat := Nat.pos_of_ne_zero (by simp)
  generalize hq : (2 : Nat) ^ m.toNat = q at *
  have e : (2 : Int) ^ m.toNat = (q : Int) := by rw [← hq]; simp
  rw [e, IntKind.wrap]
  simp [IntKind.bits, IntKind.signed]
  omega
theorem bitV_eq (x k : Int) (hx : 0 ≤ x ∧ x < 2 ^ 64) (hk : 0 ≤ k) : bitV x k = if x.toNat.testBit k.toNat = true then 1 else 0 := by
  unfold bitV
  have e : x.tdiv (2 ^ k.toNat) = ((x.toNat / 2 ^ k.toNat : Nat) : Int) := by
    obtain ⟨n, rfl⟩ := Int.eq_ofNat_of_zero_le hx.1
    simp [Int.tdiv]
    rfl
  have hle : x.toNat / 2 ^ k.toNat ≤ x.toNat := Nat.div_le_self _ _
  rw [Nat.testBit_eq_decide_div_mod_eq, e]
  generalize x.toNat / 2 ^ k.toNat = q at hle
  rw [IntWalk.u64_in _ ⟨by omega, by omega⟩]
  have e2 : (q : Int).tmod 2 = ((q % 2 : Nat) : Int) := by simp [Int.tmod]
  rw [e2, IntWalk.i64_in _ ⟨by omega, by omega⟩]
  split
  · rename_i h; simp at h; omega
  · rename_i h; simp at h; omega
/-- Masked as it was: the low bits are none. -/
theorem mask_bits (x m : Int) (hx : 0 ≤ x ∧ x < 2 ^ 64) (h0 : 0 ≤ m) (h : m ≤ 64) : ibits .u64 (· &&& ·) x (shl64 ones m) = x ↔ ∀ k : Nat, (k : Int) < m → bitV x k = 0 := by
  rw [shl_ones m h0 h]
  have hp : (2 : Nat) ^ m.toNat ≤ 2 ^ 64 := Nat.pow_le_pow_right (by decide) (by omega)
  have hpos : 0 < (2 : Nat) ^ m.toNat := Nat.pos_of_ne_zero (by simp)
  rw [and64 x _ hx ⟨by omega, by omega⟩, Int.toNat_natCast]
  have hb := and_hole 64 m.toNat x.toNat (by omega) (by omega)
  constructor
  · intro he k hk
    rw [bitV_eq x k hx (by omega), Int.toNat_natCast]
    have h1 : x.toNat &&& (2 ^ 64 - 2 ^ m.toNat) = x.toNat := by omega
    rw [hb.1 h1 k (by omega)]; rfl
  · intro hz
    have h1 : x.toNat &&& (2 ^ 64 - 2 ^ m.toNat) = x.toNat := hb.2 fun k hk => by
      have := hz k (by omega)
      rw [bitV_eq x k hx (by omega), Int.toNat_natCast] at this
      cases hc : x.toNat.testBit k with
      | false => rfl
      | true => rw [hc] at this; simp at this
    rw [h1]; omega
theorem ones_eq : shl64 ones 0 = ones := by decide
theorem zero_bits (x : Int) (hx : 0 ≤ x ∧ x < 2 ^ 64) : x = 0 ↔ ∀ k : Nat, (k : Int) < 64 → bitV x k = 0 := by
  rw [← mask_bits x 64 hx (by omega) (by omega), shl_ones 64 (by omega) (by omega), show ((2 ^ 64 - 2 ^ (64 : Int).toNat : Nat) : Int) = 0 from rfl, and64 x 0 hx ⟨by omega, by omega⟩]
  simp; omega
def Addr.rng (a : Addr) : Prop := (0 ≤ a.hi ∧ a.hi < 2 ^ 64) ∧ (0 ≤ a.lo ∧ a.lo < 2 ^ 64)
def lowBit (a : Addr) (k : Nat) : Int := if 63 < k then bitV a.hi ((k : Int) - 64) else bitV a.lo k
theorem and_ones (x : Int) (hx : 0 ≤ x ∧ x < 2 ^ 64) : ibits .u64 (· &&& ·) x ones = x := by
  rw [← ones_eq]
  exact (mask_bits x 0 hx (by omega) (by omega)).2 fun k hk => by omega
theorem and_zero (x : Int) (hx : 0 ≤ x ∧ x < 2 ^ 64) : ibits .u64 (· &&& ·) x 0 = 0 := by
  rw [and64 x 0 hx ⟨by omega, by omega⟩]; simp
theorem mask6 (a : Addr) (n : Int) (ha : a.rng) (h0 : 0 ≤ n) (h : n ≤ 128) : andA a (mask 6 n) = a ↔ ∀ k : Nat, (k : Int) < 128 - n → lowBit a k = 0 := by
  have hw : mask 6 n = maskM 6 (128 - n) := rfl
  rw [hw, Addr.ext_iff]
  unfold andA maskM
  by_cases h64 : 64 ≤ 128 - n
  · rw [if_pos h64, if_neg (by decide)]
    simp only
    rw [mask_bits a.hi _ ha.1 (by omega) (by omega), and_zero a.lo ha.2, eq_comm, zero_bits a.lo ha.2]
    constructor
    · rintro ⟨h1, h2⟩ k hk
      unfold lowBit
      split
      · have := h1 (k - 64) (by omega)
        rwa [show ((k - 64 : Nat) : Int) = (k : Int) - 64 from by omega] at this
      · exact h2 k (by omega)
    · intro hz
      refine ⟨fun k hk => ?_, fun k hk => ?_⟩
      · have := hz (k + 64) (by omega)
        unfold lowBit at this
        rw [if_pos (by omega)] at this
        rwa [show ((k + 64 : Nat) : Int) - 64 = k from by omega] at this
      · have := hz k (by omega)
        unfold lowBit at this
        rwa [if_neg (by omega)] at this
  · rw [if_neg h64, if_neg (by decide)]
    simp only
    rw [and_ones a.hi ha.1, mask_bits a.lo _ ha.2 (by omega) (by omega)]
    constructor
    · rintro ⟨_, h2⟩ k hk
      unfold lowBit
      rw [if_neg (by omega)]; exact h2 k (by omega)
    · intro hz
      refine ⟨rfl, fun k hk => ?_⟩
      have := hz k (by omega)
      unfold lowBit at this
      rwa [if_neg (by omega)] at this
theorem mask4 (a : Addr) (n : Int) (ha : a.rng) (hh : a.hi = 0) (hl : a.lo < 2 ^ 32) (h0 : 0 ≤ n) (h : n ≤ 32) : andA a (mask 4 n) = a ↔ ∀ k : Nat, (k : Int) < 32 - n → lowBit a k = 0 := by
  have hw : mask 4 n = maskM 4 (32 - n) := rfl
  rw [hw, Addr.ext_iff]
  unfold andA maskM
  rw [if_neg (by omega), if_pos rfl]
  simp only
  have e0 : ibits .u64 (· &&& ·) a.hi 0 = a.hi := by rw [and_zero a.hi ha.1, hh]
  have hp : (2 : Nat) ^ (32 - n).toNat ≤ 2 ^ 64 := Nat.pow_le_pow_right (by decide) (by omega)
  have hp2 : (2 : Nat) ^ (32 - n).toNat ≤ 2 ^ 32 := Nat.pow_le_pow_right (by decide) (by omega)
  have hpos : 0 < (2 : Nat) ^ (32 - n).toNat := Nat.pos_of_ne_zero (by simp)
  have e1 : ibits .u64 (· &&& ·) (shl64 ones (32 - n)) 4294967295 = ((2 ^ 32 - 2 ^ (32 - n).toNat : Nat) : Int) := by
    rw [shl_ones _ (by omega) (by omega), and64 _ _ ⟨by omega, by omega⟩ ⟨by omega, by omega⟩]
    congr 1
    refine Nat.eq_of_testBit_eq fun k => ?_
    rw [Int.toNat_natCast, show (4294967295 : Int).toNat = 2 ^ 32 - 1 from rfl, Nat.testBit_and, hole_bit 64 _ k (by omega), Nat.testBit_two_pow_sub_one, hole_bit 32 _ k (by omega), Bool.eq_iff_iff]
    simp; omega
  rw [e0, e1, and64 a.lo _ ha.2 ⟨by omega, by omega⟩, Int.toNat_natCast]
  have hb := and_hole 32 (32 - n).toNat a.lo.toNat (by omega) (by omega)
  constructor
  · rintro ⟨_, he⟩ k hk
    unfold lowBit
    rw [if_neg (by omega), bitV_eq a.lo k ha.2 (by omega), Int.toNat_natCast]
    have h1 : a.lo.toNat &&& (2 ^ 32 - 2 ^ (32 - n).toNat) = a.lo.toNat := by omega
    rw [hb.1 h1 k (by omega)]; rfl
  · intro hz
    have h1 : a.lo.toNat &&& (2 ^ 32 - 2 ^ (32 - n).toNat) = a.lo.toNat := hb.2 fun k hk => by
      have := hz k (by omega)
      unfold lowBit at this
      rw [if_neg (by omega), bitV_eq a.lo k ha.2 (by omega), Int.toNat_natCast] at this
      cases hc : a.lo.toNat.testBit k with
      | false => rfl
      | true => rw [hc] at this; simp at this
    refine ⟨rfl, ?_⟩
    have := ha.2.1
    rw [h1]; omega
theorem ckP_eq (p : Pfx) (ha : p.addr.rng) : ckP p = ckP' p := by
  unfold ckP ckP'
  by_cases hw : width p.fam = 0
  · rw [if_pos hw, if_pos hw]
  rw [if_neg hw, if_neg hw]
  have key : ckA p.fam p.addr = true → 0 ≤ p.len → p.len ≤ width p.fam → (andA p.addr (mask p.fam p.len) = p.addr ↔ anyI (P72 p) 0 (width p.fam - p.len).toNat = false) := by
    intro hc h0 hl
    have hfam : p.fam = 4 ∨ p.fam = 6 := by
      unfold width at hw
      split at hw
      · left; assumption
      · split at hw
        · right; assumption
        · exact absurd rfl hw
    have hany : anyI (P72 p) 0 (width p.fam - p.len).toNat = false ↔ ∀ k : Nat, (k : Int) < width p.fam - p.len → lowBit p.addr k = 0 := by
      have hwl := width_le p.fam
      have hget : ∀ i : Nat, (i : Int) < width p.fam - p.len → (bitsL p.fam p.addr).getD (p.len + (i : Int)).toNat 0 = lowBit p.addr (width p.fam - 1 - p.len - i).toNat := by
        intro i hi
        have hlt : (p.len + (i : Int)).toNat < (width p.fam).toNat := by omega
        have e : (bitsL p.fam p.addr).getD (p.len + (i : Int)).toNat 0 = bitF p.fam p.addr (p.len + (i : Int)).toNat := by
          simp [bitsL, List.getD_eq_getElem?_getD, List.getElem?_eq_getElem, hlt]
        rw [e]
        unfold bitF lowBit
        have e1 : width p.fam - 1 - ((p.len + (i : Int)).toNat : Int) = width p.fam - 1 - p.len - i := by omega
        rw [e1]
        by_cases h63 : 63 < width p.fam - 1 - p.len - i
        · rw [if_pos h63, if_pos (by omega)]; congr 1; omega
        · rw [if_neg h63, if_neg (by omega)]; congr 1; omega
      constructor
      · intro hn k hk
        have h1 : P72 p (width p.fam - 1 - p.len - k).toNat = false := by
          cases hp : P72 p (width p.fam - 1 - p.len - k).toNat with
          | false => rfl
          | true => rw [anyI_iff.2 ⟨_, by omega, hp⟩] at hn; cases hn
        unfold P72 at h1
        rw [hget _ (by omega)] at h1
        have e2 : (width p.fam - 1 - p.len - ((width p.fam - 1 - p.len - k).toNat : Int)).toNat = k := by omega
        rw [e2] at h1
        simpa using h1
      · intro hz
        cases hn : anyI (P72 p) 0 (width p.fam - p.len).toNat with
        | false => rfl
        | true =>
          obtain ⟨i, hi, hp⟩ := anyI_iff.1 hn
          unfold P72 at hp
          rw [hget i (by omega), hz _ (by omega)] at hp
          simp at hp
    rw [hany]
    rcases hfam with h4 | h6
    · rw [h4] at hl hc ⊢
      have hw4 : width 4 = 32 := rfl
      rw [hw4] at hl ⊢
      simp [ckA] at hc
      exact mask4 p.addr p.len ha hc.1 (by omega) h0 hl
    · rw [h6] at hl ⊢
      have hw6 : width 6 = 128 := rfl
      rw [hw6] at hl ⊢
      exact mask6 p.addr p.len ha h0 hl
  by_cases hc : ckA p.fam p.addr = true
  · by_cases h0 : 0 ≤ p.len
    · by_cases hl : p.len ≤ width p.fam
      · have := key hc h0 hl
        by_cases hn : anyI (P72 p) 0 (width p.fam - p.len).toNat = false
        · rw [if_pos ⟨hc, h0, hl, this.2 hn⟩, if_pos (by simp [hc, h0, hl, hn])]
        · rw [if_neg (fun h => hn (this.1 h.2.2.2)), if_neg (by simp only [Bool.not_eq_false] at hn; simp [hn])]
      · rw [if_neg (fun h => hl h.2.2.1), if_neg (by simp [hl])]
    · rw [if_neg (fun h => h0 h.2.1), if_neg (by simp [h0])]
  · rw [if_neg (fun h => hc h.1), if_neg (by simp [hc])]
end Gp
namespace Gp
/-! the plain law: payloads -/
theorem strict_iff (l : List Int) : ∀ n, strict l n = true ↔ ∀ i, i < n → l.getD i 0 < l.getD (i + 1) 0
  | 0 => by simp [strict]
  | n + 1 => by
    rw [strict, Bool.and_eq_true, strict_iff l n, decide_eq_true_eq]
    constructor
    · rintro ⟨h1, h2⟩ i hi
      rcases Nat.lt_or_ge i n with h | h
      · exact h1 i h
      · obtain rfl : i = n := by omega
        exact h2
    · intro h; exact ⟨fun i hi => h i (by omega), h n (by omega)⟩
def Attest.rng (a : Attest) : Prop := 0 ≤ a.cust ∧ ∀ n ∈ a.provs, 0 ≤ n
theorem anyI_none {p : Nat → Bool} {n : Nat} : anyI p 0 n = false ↔ ∀ i, i < n → p i = false := by
  constructor
  · intro h i hi
    cases hp : p i with
    | false => rfl
    | true => rw [anyI_iff.2 ⟨i, hi, hp⟩] at h; cases h
  · intro h
    cases hn : anyI p 0 n with
    | false => rfl
    | true => obtain ⟨i, hi, hp⟩ := anyI_iff.1 hn; rw [h i hi] at hp; cases hp
theorem getD_memI (l : List Int) (i : Nat) (h : i < l.length) : l.getD i 0 ∈ l := by
  simp [List.getD_eq_getElem?_getD, List.getElem?_eq_getElem h]
theorem ckPr_eq (a : Attest) (ha : a.rng) : ckPr a = ckPr' a := by
  unfold ckPr ckPr'
  by_cases h50 : 50 < a.provs.length
  · rw [if_pos h50, if_pos h50]
  rw [if_neg h50, if_neg h50]
  have hP : anyI (P75 a) 0 a.provs.length = false ↔ (a.cust ∉ a.provs ∧ ∀ i, i < a.provs.length - 1 → a.provs.getD i 0 < a.provs.getD (i + 1) 0) := by
    rw [anyI_none]
    constructor
    · intro h
      refine ⟨fun hm => ?_, fun i hi => ?_⟩
      · obtain ⟨i, hi, hx⟩ := List.mem_iff_getElem.1 hm
        have := h i hi
        simp [P75, List.getD_eq_getElem?_getD, List.getElem?_eq_getElem hi, hx] at this
      · have := h (i + 1) (by omega)
        simp only [P75, Bool.or_eq_false_iff, Bool.and_eq_false_imp, decide_eq_true_eq, decide_eq_false_iff_not, Nat.add_sub_cancel] at this
        have := this.2 (by omega); omega
    · rintro ⟨h1, h2⟩ i hi
      simp only [P75, Bool.or_eq_false_iff, Bool.and_eq_false_imp, decide_eq_true_eq, decide_eq_false_iff_not]
      refine ⟨fun he => h1 (he ▸ getD_memI a.provs i hi), fun h0 => ?_⟩
      have := h2 (i - 1) (by omega)
      rw [show i - 1 + 1 = i from by omega] at this; omega
  have hs := strict_iff a.provs (a.provs.length - 1)
  by_cases hg : (d83 a && strict a.provs (a.provs.length - 1)) = true
  · rw [if_pos hg]
    simp only [d83, b83, Bool.and_eq_true, Bool.or_eq_true, decide_eq_true_eq, Bool.not_eq_true', decide_eq_false_iff_not] at hg
    obtain ⟨⟨⟨⟨g1, g2⟩, g3⟩, g4⟩, g5⟩ := hg
    rw [if_neg]
    rintro (h | h | h | h)
    · omega
    · omega
    · omega
    · rw [hP.2 ⟨g3, hs.1 g5⟩] at h; cases h
  · rw [if_neg hg, if_pos]
    refine Classical.byContradiction fun hc => hg ?_
    simp only [not_or, Bool.not_eq_true] at hc
    obtain ⟨h1, h2, h3, h4⟩ := hc
    obtain ⟨p1, p2⟩ := hP.1 h4
    have hc0 := ha.1
    have h0 := ha.2 _ (getD_memI a.provs 0 (by omega))
    simp only [d83, b83, Bool.and_eq_true, Bool.or_eq_true, decide_eq_true_eq, Bool.not_eq_true', decide_eq_false_iff_not]
    refine ⟨⟨⟨⟨by omega, by omega⟩, p1⟩, ?_⟩, hs.2 p2⟩
    rcases Nat.lt_or_ge 1 a.provs.length with h | h
    · right
      have : ¬ a.provs.getD 0 0 = 0 := fun he => h3 ⟨h, he⟩
      omega
    · left; omega
structure Payload.rng (p : Payload) : Prop where
  o : ∀ x ∈ p.origins, x.pfx.addr.rng
  t : ∀ x ∈ p.paths, x.rng
  k : ∀ x ∈ p.keys, x.rng
theorem goodO_eq (o : Origin) (h : o.pfx.addr.rng) : goodO o = goodO' o := by
  unfold goodO goodO'
  rw [ckP_eq _ h]
  by_cases hc : ckP' o.pfx = 0
  · have hwn : width o.pfx.fam ≠ 0 := fun h0 => by unfold ckP' at hc; rw [if_pos h0] at hc; cases hc
    have hw : o.pfx.fam = 4 ∨ o.pfx.fam = 6 := by
      unfold width at hwn
      split at hwn
      · left; assumption
      · split at hwn
        · right; assumption
        · exact absurd rfl hwn
    have : (if o.pfx.fam = 6 then (128 : Int) else 32) = width o.pfx.fam := by
      rcases hw with h | h <;> rw [h] <;> rfl
    rw [this]
  · simp [hc]
theorem bad_eq {α : Type} [Inhabited α] {order : α → α → Int} {good good' : α → Bool} {bef : α → α → Bool} {l : List α} (hg : ∀ x ∈ l, good x = good' x) (hb : ∀ x ∈ l, ∀ y ∈ l, decide (0 ≤ order x y) = !bef x y) (i : Nat) (hi : i < l.length) : bad order good default l i = badAt good' bef l i := by
  unfold bad badAt
  rw [hg _ (getD_memG l i hi)]
  rcases Nat.eq_zero_or_pos i with h | h
  · subst h; simp
  · rw [hb _ (getD_memG l (i - 1) (by omega)) _ (getD_memG l i hi)]
theorem rising_eq {α : Type} [Inhabited α] {order : α → α → Int} {good good' : α → Bool} {bef : α → α → Bool} {l : List α} (hg : ∀ x ∈ l, good x = good' x) (hb : ∀ x ∈ l, ∀ y ∈ l, decide (0 ≤ order x y) = !bef x y) : risingB order good default l = !anyI (badAt good' bef l) 0 l.length := by
  unfold risingB
  congr 1
  rw [Bool.eq_iff_iff, anyI_iff, anyI_iff]
  exact ⟨fun ⟨i, hi, h⟩ => ⟨i, hi, by rw [← bad_eq hg hb i hi]; exact h⟩, fun ⟨i, hi, h⟩ => ⟨i, hi, by rw [bad_eq hg hb i hi]; exact h⟩⟩
theorem many_eq (p : Payload) : manyP p = anyI (P44a p) 0 p.paths.length := by
  rw [Bool.eq_iff_iff, anyI_iff]
  simp only [manyP, decide_eq_true_eq]
  constructor
  · rintro ⟨a, hm, ha⟩
    obtain ⟨i, hi, hx⟩ := List.mem_iff_getElem.1 hm
    refine ⟨i, hi, ?_⟩
    simp [P44a, List.getD_eq_getElem?_getD, List.getElem?_eq_getElem hi, hx]; omega
  · rintro ⟨i, hi, hp⟩
    refine ⟨_, getD_mem p.paths i hi, ?_⟩
    simp only [P44a, decide_eq_true_eq] at hp; omega
theorem ckL_eq (p : Payload) (hp : p.rng) : ckL p = ckL' p := by
  have e1 : risingB cmpO goodO default p.origins = !anyI (P44b p) 0 p.origins.length := rising_eq (fun x hx => goodO_eq x (hp.o x hx)) (fun x _ y _ => befO_eq x y)
  have e2 : risingB cmpT goodT default p.paths = !anyI (P44c p) 0 p.paths.length := rising_eq (fun x hx => by unfold goodT goodT'; rw [ckPr_eq x (hp.t x hx)]) (fun x _ y _ => befT_eq x y)
  have e3 : risingB cmpK goodK default p.keys = !anyI (P44d p) 0 p.keys.length := rising_eq (fun x hx => by unfold goodK goodK'; rw [Bool.eq_iff_iff]; simp) (fun x hx y hy => befK_eq x y (hp.k x hx) (hp.k y hy))
  unfold ckL ckL'
  rw [many_eq, e1, e2, e3]
  split
  · rfl
  · cases anyI (P44b p) 0 p.origins.length <;> cases anyI (P44c p) 0 p.paths.length <;> cases anyI (P44d p) 0 p.keys.length <;> rfl
theorem holds_eq (p : Payload) (v : Int) (hp : p.rng) (hv : v ≤ 2) : holdsP p v = holdsP' p v := by
  unfold holdsP holdsP' cutP cutE
  rw [ckL_eq p hp, if_neg (fun h => by omega)]
  by_cases hc : ckL' p = 0
  · rw [if_pos hc, hc, Bool.eq_iff_iff]; simp [eq_comm]
  · simp [hc]
def Router.rng (r : Router) : Prop := r.data.rng ∧ r.build.rng
theorem agree {r : Router} (h : r.rng) : Agree r := ⟨fun hv => holds_eq _ _ h.1 hv, fun hv => holds_eq _ _ h.2 hv⟩
theorem law (r : Router) (v : Int) (t : Timers) (now : Int) (h1 : r.data.paths.length ≤ 2 ^ 63 - 1) (h2 : r.build.paths.length ≤ 2 ^ 63 - 1) (h : r.rng) : ASpec prog 3 [encR r, u8 v, encM t, i64 now] (bo true) :=
  c3 r v t now h1 h2 fun _ => agree h
end Gp
