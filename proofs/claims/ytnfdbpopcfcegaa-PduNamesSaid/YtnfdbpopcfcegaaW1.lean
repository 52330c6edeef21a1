/- Part 1 of the walk and of the plain law of PduCuts. -/
import Derived.Test.YtnfdbpopcfcegaaFw5
import Derived.Test.YtnfdbpopcfcegaaChecked
import Derived.KernelRfl
import Derived.IntWalk
import Derived.Lib.BytesEntry
import Derived.Lib.Bytealg
import Derived.Laws.Externs
set_option maxRecDepth 100000
set_option maxHeartbeats 0
set_option linter.unusedVariables false
set_option linter.unusedSimpArgs false
open Go Go.Abs
namespace Gp
def nS : IVal := .v (.slice none 0 0)
structure Addr where
  hi : Int
  lo : Int
  deriving DecidableEq, Inhabited
theorem Addr.ext_iff {a b : Addr} : a = b ↔ a.hi = b.hi ∧ a.lo = b.lo := by
  cases a; cases b; simp
structure Pfx where
  fam : Int
  addr : Addr
  len : Int
  deriving DecidableEq, Inhabited
structure Origin where
  asn : Int
  pfx : Pfx
  max : Int
  deriving DecidableEq, Inhabited
structure Attest where
  cust : Int
  provs : List Int
  deriving DecidableEq, Inhabited
def u8 (n : Int) : IVal := .v (.int .u8 n)
def u16 (n : Int) : IVal := .v (.int .u16 n)
def u32 (n : Int) : IVal := .v (.int .u32 n)
def u64 (n : Int) : IVal := .v (.int .u64 n)
def i64 (n : Int) : IVal := .v (.int .i64 n)
def bo (b : Bool) : IVal := .v (.bool b)
def encA (a : Addr) : IVal := .agg [u64 a.hi, u64 a.lo]
def encP (p : Pfx) : IVal := .agg [u8 p.fam, u64 p.addr.hi, u64 p.addr.lo, i64 p.len]
noncomputable abbrev prog := Proofs.Try.prog
def sl1 (l : List IVal) : IVal := .sl false false 1 l
theorem getD_map {α : Type} (f : α → IVal) (l : List α) (i : Nat) (d : α) (h : i < l.length) : (l.map f)[i]? = some (f (l.getD i d)) := by
  simp [List.getElem?_eq_getElem h, List.getD_eq_getElem?_getD]
theorem i64_small {n : Nat} {l : Nat} (h : n < l) (hl : l ≤ 2 ^ 62) : IntKind.i64.wrap ((n : Int) + 1) = ((n + 1 : Nat) : Int) := by
  rw [IntWalk.i64_in _ (by omega)]; omega
def width (f : Int) : Int := if f = 4 then 32 else if f = 6 then 128 else 0
theorem t94 (f : Int) : levF prog Proofs.Try.f94 [u8 f] {} =
  Tree.br (decide (f = 4)) (.done Exit.ret (lret (i64 32))) (.br (decide (f = 6)) (.done Exit.ret (lret (i64 128))) (.done Exit.ret (lret (i64 0)))) := by kernel_rfl
theorem c94 (f : Int) : ASpec prog 94 [u8 f] (i64 (width f)) := by
  refine ASpec.tree Proofs.Try.f94 {} (by kernel_rfl) (by kernel_rfl) (t94 f) ?_
  simp only [Tree.sat, i64, width]; grind
def andA (a b : Addr) : Addr := ⟨ibits .u64 (· &&& ·) a.hi b.hi, ibits .u64 (· &&& ·) a.lo b.lo⟩
theorem t96 (a b : Addr) : levF prog Proofs.Try.f96 [encA a, encA b] {} =
  Tree.done Exit.ret (lret (.agg [u64 (ibits IntKind.u64 (fun x1 x2 => x1 &&& x2) a.hi b.hi),u64 (ibits IntKind.u64 (fun x1 x2 => x1 &&& x2) a.lo b.lo)])) := by kernel_rfl
theorem c96 (a b : Addr) : ASpec prog 96 [encA a, encA b] (encA (andA a b)) := by
  refine ASpec.tree Proofs.Try.f96 {} (by kernel_rfl) (by kernel_rfl) (t96 a b) ?_
  rfl
def ckA (f : Int) (a : Addr) : Bool := decide (f = 6) || (decide (f = 4) && decide (a.hi = 0) && decide (a.lo < 4294967296))
theorem t95 (f : Int) (a : Addr) : levF prog Proofs.Try.f95 [u8 f, encA a] {} =
  Tree.br (decide (f = 6)) (.done Exit.ret (lret (bo true))) (.br (decide (f = 4)) (.br (decide (a.hi = 0)) (.done Exit.ret (lret (bo (decide (a.lo < 4294967296))))) (.done Exit.ret (lret (bo false)))) (.done Exit.ret (lret (bo false)))) := by kernel_rfl
theorem c95 (f : Int) (a : Addr) : ASpec prog 95 [u8 f, encA a] (bo (ckA f a)) := by
  refine ASpec.tree Proofs.Try.f95 {} (by kernel_rfl) (by kernel_rfl) (t95 f a) ?_
  simp only [Tree.sat, bo, ckA]; grind
def ones : Int := 18446744073709551615
def shl64 (a n : Int) : Int := IntKind.u64.wrap (a * 2 ^ (min n.toNat 64))
def maskM (f m : Int) : Addr :=
  if 64 ≤ m then (if f = 4 then ⟨0, ibits .u64 (· &&& ·) 0 4294967295⟩ else ⟨shl64 ones (m - 64), 0⟩) else if f = 4 then ⟨0, ibits .u64 (· &&& ·) (shl64 ones m) 4294967295⟩ else ⟨ones, shl64 ones m⟩
def mask (f n : Int) : Addr := maskM f (width f - n)
def T97 (f : Int) : Tell := { O := fun r i => match r, i with | 1, 1 => .call [u8 f] (i64 (width f)) | _, _ => .no }
theorem t97 (f n : Int) : levF prog Proofs.Try.f97 [u8 f, i64 n] (T97 f) =
  (let q0 := IntKind.wrap IntKind.u64 ((18446744073709551615 : Int) * (2 : Int) ^ min (Int.toNat (IntKind.wrap IntKind.i64 (width f - n))) 64); let q1 := IntKind.wrap IntKind.i64 (width f - n) - 64;
  Tree.need (ILeL [u8 f] [u8 f] ∧ ASpec prog 94 [u8 f] (i64 (width f))) (.br (decide (64 ≤ IntKind.wrap IntKind.i64 (width f - n))) (.need (0 ≤ IntKind.wrap IntKind.i64 q1) (.br (decide (f = 4)) (.done Exit.ret (lret (.agg [u64 0,u64 (ibits IntKind.u64 (fun x1 x2 => x1 &&& x2) 0 4294967295)]))) (.done Exit.ret (lret (.agg [u64 (IntKind.wrap IntKind.u64 ((18446744073709551615 : Int) * (2 : Int) ^ min (Int.toNat (IntKind.wrap IntKind.i64 q1)) 64)),u64 0]))))) (.need (0 ≤ IntKind.wrap IntKind.i64 (width f - n)) (.br (decide (f = 4)) (.done Exit.ret (lret (.agg [u64 0,u64 (ibits IntKind.u64 (fun x1
  x2 => x1 &&& x2) q0 4294967295)]))) (.done Exit.ret (lret (.agg [u64 18446744073709551615,u64 q0]))))))) := by kernel_rfl
theorem width_le (f : Int) : width f ≤ 128 := by
  unfold width
  by_cases h : f = 4
  · simp [h]
  · by_cases h6 : f = 6 <;> simp [h, h6]
theorem c97 (f n : Int) (h : 0 ≤ n) (h' : n ≤ width f) : ASpec prog 97 [u8 f, i64 n] (encA (mask f n)) := by
  refine ASpec.tree Proofs.Try.f97 (T97 f) (by kernel_rfl) (by kernel_rfl) (t97 f n) ?_
  have hw : width f ≤ 128 := width_le f
  have e1 : IntKind.i64.wrap (width f - n) = width f - n := IntWalk.i64_in _ (by omega)
  refine ⟨⟨ILeL.refl _, c94 f⟩, fun _ => ?_⟩
  rw [e1]
  refine ⟨fun hb => ?_, fun hb => ?_⟩
  · have hb : 64 ≤ width f - n := by simpa using hb
    have e2 : IntKind.i64.wrap (width f - n - 64) = width f - n - 64 := IntWalk.i64_in _ (by omega)
    rw [e2]
    refine ⟨by omega, fun _ => ⟨fun h4 => ?_, fun h4 => ?_⟩⟩
    · have hm : mask f n = ⟨0, ibits .u64 (· &&& ·) 0 4294967295⟩ := by unfold mask maskM; rw [if_pos hb, if_pos (by simpa using h4)]
      rw [hm]; rfl
    · have hm : mask f n = ⟨shl64 ones (width f - n - 64), 0⟩ := by unfold mask maskM; rw [if_pos hb, if_neg (by simpa using h4)]
      rw [hm]; rfl
  · have hb : ¬ 64 ≤ width f - n := by simpa using hb
    refine ⟨by omega, fun _ => ⟨fun h4 => ?_, fun h4 => ?_⟩⟩
    · have hm : mask f n = ⟨0, ibits .u64 (· &&& ·) (shl64 ones (width f - n)) 4294967295⟩ := by unfold mask maskM; rw [if_neg hb, if_pos (by simpa using h4)]
      rw [hm]; rfl
    · have hm : mask f n = ⟨ones, shl64 ones (width f - n)⟩ := by unfold mask maskM; rw [if_neg hb, if_neg (by simpa using h4)]
      rw [hm]; rfl
def ckP (p : Pfx) : Int :=
  if width p.fam = 0 then 2 else if ckA p.fam p.addr = true ∧ 0 ≤ p.len ∧ p.len ≤ width p.fam ∧ andA p.addr (mask p.fam p.len) = p.addr then 0 else 8
def T86 (p : Pfx) : Tell := { O := fun r i => match r, i with
  | 1, 2 => .call [u8 p.fam] (i64 (width p.fam)) | 3, 4 => .call [u8 p.fam, encA p.addr] (bo (ckA p.fam p.addr)) | 3, 16 => .call [u8 p.fam] (i64 (width p.fam)) | 3, 26 => .call [u8 p.fam, i64 p.len] (encA (mask p.fam p.len))
  | 3, 27 => .call [encA p.addr, encA (mask p.fam p.len)] (encA (andA p.addr (mask p.fam p.len))) | _, _ => .no }
theorem t86 (p : Pfx) : levF prog Proofs.Try.f86 [encP p] (T86 p) =
  (let q0 := mask p.fam p.len; let q1 := andA p.addr q0;
  Tree.need (ILeL [u8 p.fam] [u8 p.fam] ∧ ASpec prog 94 [u8 p.fam] (i64 (width p.fam))) (.br (decide (width p.fam = 0)) (.done Exit.ret (lret (i64 2))) (.need (ILeL [u8 p.fam,.agg [u64 p.addr.hi,u64 p.addr.lo]] [u8 p.fam,encA p.addr] ∧ ASpec prog 95 [u8 p.fam,encA p.addr] (bo (ckA p.fam p.addr))) (.br (!ckA p.fam p.addr) (.done Exit.ret (lret (i64 8))) (.br (decide (p.len < 0)) (.done Exit.ret (lret (i64 8))) (.need (ILeL [u8 p.fam] [u8 p.fam] ∧ ASpec prog 94 [u8 p.fam] (i64 (width p.fam))) (.br (decide (width p.fam < p.len)) (.done Exit.ret (lret (i64 8))) (.need (ILeL [u8 p.fam,i64 p.len] [u8
  p.fam,i64 p.len] ∧ ASpec prog 97 [u8 p.fam,i64 p.len] (encA q0)) (.need (ILeL [.agg [u64 p.addr.hi,u64 p.addr.lo],encA q0] [encA p.addr,encA q0] ∧ ASpec prog 96 [encA p.addr,encA q0] (encA q1)) (.br (if BinOp.neq = BinOp.neq then !(decide (q1.hi = p.addr.hi) && (decide (q1.lo = p.addr.lo) && true)) else decide (q1.hi = p.addr.hi) && (decide (q1.lo = p.addr.lo) && true)) (.done Exit.ret (lret (i64 8))) (.done Exit.ret (lret (i64 0))))))))))))) := by kernel_rfl
theorem c86 (p : Pfx) : ASpec prog 86 [encP p] (i64 (ckP p)) := by
  refine ASpec.tree Proofs.Try.f86 (T86 p) (by kernel_rfl) (by kernel_rfl) (t86 p) ?_
  refine ⟨⟨ILeL.refl _, c94 _⟩, fun _ => ⟨fun h1 => ?_, fun h1 => ⟨⟨ILeL.refl _, c95 _ _⟩, fun _ => ⟨fun h2 => ?_, fun h2 => ⟨fun h3 => ?_, fun h3 => ⟨⟨ILeL.refl _, c94 _⟩, fun _ => ⟨fun h4 => ?_, fun h4 => ?_⟩⟩⟩⟩⟩⟩⟩
  · simp at h1; simp [Tree.sat, ckP, h1, i64]
  · simp at h1 h2; simp [Tree.sat, ckP, h1, h2, i64]
  · simp at h1 h2 h3; simp [Tree.sat, ckP, h1, i64]; grind
  · simp at h1 h2 h3 h4; simp [Tree.sat, ckP, h1, i64]; grind
  · simp at h1 h2 h3 h4
    refine ⟨⟨ILeL.refl _, c97 _ _ h3 h4⟩, fun _ => ⟨⟨ILeL.refl _, c96 _ _⟩, fun _ => ?_⟩⟩
    have : ∀ a b : Addr, a = b ↔ a.hi = b.hi ∧ a.lo = b.lo := by intro a b; cases a; cases b; simp
    simp [Tree.sat, ckP, h1, h2, h3, h4, i64, this]
    grind
def lu32 (l : List Int) : IVal := sl1 (l.map u32)
def encT (a : Attest) : IVal := .agg [u32 a.cust, lu32 a.provs]
def isAt (l : List Int) (x : Int) (i : Nat) : Bool := decide (x = l.getD i 0)
def I101 (l : List Int) (x : Int) (i : Nat) : LState := { t := [(8, .imm (i64 i)), (7, .imm (i64 l.length)), (0, .imm (lu32 l)), (1, .imm (u32 x))], s := [], m := 19, n := 0 }
def R101 (i : Nat) : LState := { t := [(4, .imm (i64 i))], s := [], m := 19, n := 0 }
def E101 : LState := { t := [], s := [], m := 19, n := 0 }
def T101 (l : List Int) (x : Int) : Tell := { Lp := fun _ => Lfirst (isAt l x) l.length 0 R101 E101, lv := fun _ => ([8, 7, 0, 1], []) }
def T101r (l : List Int) (i : Nat) : Tell := { O := fun r j => match r, j with | 4, 3 => .elem (u32 (l.getD i 0)) | _, _ => .no }
def fin101 : Exit → Fin
  | .normal => ⟨[], [8, 7, 0, 1], []⟩
  | .ret => ⟨[], [4], []⟩
  | _ => ⟨[], [], []⟩
theorem t101r (l : List Int) (x : Int) (i : Nat) : levL prog Proofs.Try.f101 2 (I101 l x i) (T101r l i) fin101 =
  Tree.br (decide ((↑i : Int) < (↑(List.length l) : Int))) (.need (0 ≤ (↑i : Int) ∧ (List.map u32 l)[Int.toNat (↑i : Int)]? = some (u32 (List.getD l i 0))) (.br (decide (x = List.getD l i 0)) (.done Exit.ret (LState.mk [(4,.imm (i64 (↑i : Int)))] [] 19 11 [])) (.done Exit.normal (LState.mk [(8,.imm (i64 (IntKind.wrap IntKind.i64 ((↑i : Int) + 1)))),(7,.imm (i64 (↑(List.length l) : Int))),(0,.imm (lu32 l)),(1,.imm (u32 x))] [] 19 11 [])))) (.done (Exit.exit 0) (LState.mk [] [] 19 1 [])) := by kernel_rfl
theorem t101 (l : List Int) (x : Int) : levF prog Proofs.Try.f101 [lu32 l, u32 x] (T101 l x) =
  (let q0 := List.length l;
  Tree.loop 2 (LState.mk [(8,.imm (i64 0)),(7,.imm (i64 (↑(List.length (List.map u32 l)) : Int))),(0,.imm (lu32 l)),(1,.imm (u32 x))] [] 19 4 []) (.br (anyI (isAt l x) 0 q0) (.done Exit.ret (R101 (firstI (isAt l x) 0 q0))) (.done (Exit.exit 0) E101)) (.br (anyI (isAt l x) 0 q0) (.done Exit.ret (lret (i64 (↑(firstI (isAt l x) 0 q0) : Int)))) (.done Exit.ret (lret (i64 (-1 : Int)))))) := by kernel_rfl
def indexI (l : List Int) (x : Int) : Int := if anyI (isAt l x) 0 l.length = true then firstI (isAt l x) 0 l.length else -1
theorem l101 (l : List Int) (x : Int) (hl : l.length ≤ 2 ^ 62) (σ : LState) (h : LSub σ (I101 l x 0)) : LoopOk prog [] (bodyOf Proofs.Try.f101) 2 σ (Lfirst (isAt l x) l.length 0 R101 E101) := by
  refine LoopOk.first (isAt l x) l.length 0 (I101 l x) R101 E101 (T101r l) fin101 (by kernel_rfl) h fun i hi hz => ?_
  rw [t101r]
  refine ⟨fun hb => ?_, fun hb => ?_⟩
  · have hlt : i < l.length := by simpa using hb
    refine ⟨⟨by omega, by rw [Int.toNat_natCast]; exact getD_map _ _ _ _ hlt⟩, fun _ => ⟨fun hb2 => ?_, fun hb2 => ?_⟩⟩
    · exact ⟨hlt, hb2, by simp [R101, LSub, tsub, ssub, tl, linT, linS, ainB]⟩
    · exact ⟨hlt, hb2, by simp [I101, LSub, tsub, ssub, tl, linT, linS, ainB, i64, i64_small hlt hl]⟩
  · have hge : l.length ≤ i := by simpa using hb
    exact ⟨rfl, hge, by simp [E101, LSub, tsub, ssub, linT, linS]⟩
theorem c101 (l : List Int) (x : Int) (hl : l.length ≤ 2 ^ 62) : ASpec prog 101 [lu32 l, u32 x] (i64 (indexI l x)) := by
  refine ASpec.tree Proofs.Try.f101 (T101 l x) (by kernel_rfl) (by kernel_rfl) (t101 l x) ?_
  refine ⟨l101 l x hl _ ?_, ?_⟩
  · simp [I101, LSub, tsub, ssub, tl, linT, linS, ainB, i64, lu32]
  · simp only [Tree.sat, indexI]
    grind [i64]
theorem index_iff (l : List Int) (x : Int) : (0 ≤ indexI l x) ↔ x ∈ l := by
  unfold indexI
  split
  · rename_i h
    refine ⟨fun _ => ?_, fun _ => by omega⟩
    obtain ⟨i, hi, hp⟩ := anyI_iff.1 h
    simp only [isAt, decide_eq_true_eq, List.getD_eq_getElem?_getD, List.getElem?_eq_getElem hi, Option.getD_some] at hp
    rw [hp]; exact List.getElem_mem hi
  · rename_i h
    refine ⟨fun h => by omega, fun hm => ?_⟩
    obtain ⟨i, hi, hx⟩ := List.mem_iff_getElem.1 hm
    exact absurd (anyI_iff.2 ⟨i, hi, by simp [isAt, List.getD_eq_getElem?_getD, List.getElem?_eq_getElem hi, hx]⟩) h
def T98 (l : List Int) (x : Int) : Tell := { O := fun r j => match r, j with | 1, 2 => .call [lu32 l, u32 x] (i64 (indexI l x)) | _, _ => .no }
theorem t98 (l : List Int) (x : Int) : levF prog Proofs.Try.f98 [lu32 l, u32 x] (T98 l x) =
  Tree.need (ILeL [lu32 l,u32 x] [lu32 l,u32 x] ∧ ASpec prog 101 [lu32 l,u32 x] (i64 (indexI l x))) (.done Exit.ret (lret (bo (decide (0 ≤ indexI l x))))) := by kernel_rfl
theorem c98 (l : List Int) (x : Int) (hl : l.length ≤ 2 ^ 62) : ASpec prog 98 [lu32 l, u32 x] (bo (decide (x ∈ l))) := by
  refine ASpec.tree Proofs.Try.f98 (T98 l x) (by kernel_rfl) (by kernel_rfl) (t98 l x) ?_
  refine ⟨⟨ILeL.refl _, c101 l x hl⟩, fun _ => ?_⟩
  simp only [Tree.sat, bo]
  refine lret_inj ?_
  simp [index_iff]
def strict (l : List Int) : Nat → Bool
  | 0 => true
  | i + 1 => strict l i && decide (l.getD i 0 < l.getD (i + 1) 0)
def b89 (a : Attest) : Bool := decide (0 < a.cust) && decide (0 < (a.provs.length : Int)) && !decide (a.cust ∈ a.provs)
def d89 (a : Attest) : Bool := b89 a && (decide ((a.provs.length : Int) = 1) || decide (0 < a.provs.getD 0 0))
def I89 (a : Attest) (i : Nat) : LState := { t := [(4, .imm (i64 (i + 1 : Nat))), (3, .imm (bo (d89 a && strict a.provs i))), (1, .ptr 0 0)], s := [(0, .box 112 (.imm (encT a)))], m := 64, n := 1 }
def E89 (a : Attest) : LState := { t := [(3, .imm (bo (d89 a && strict a.provs (a.provs.length - 1))))], s := [], m := 64, n := 1 }
def T89 (a : Attest) : Tell := { O := fun r j => match r, j with | 3, 14 => .call [lu32 a.provs, u32 a.cust] (bo (decide (a.cust ∈ a.provs))) | 4, 9 => .elem (u32 (a.provs.getD 0 0)) | _, _ => .no, Lp := fun _ => .done (.exit 0) (E89 a), lv := fun _ => ([4, 3, 1], [0]) }
def T89r (a : Attest) (i : Nat) : Tell := { O := fun r j => match r, j with | 8, 6 => .elem (u32 (a.provs.getD i 0)) | 8, 11 => .elem (u32 (a.provs.getD (i + 1) 0)) | _, _ => .no }
def fin89 : Exit → Fin
  | .normal => ⟨[], [4, 3, 1], [0]⟩
  | _ => ⟨[], [3], []⟩
theorem t89r (a : Attest) (i : Nat) : levL prog Proofs.Try.f89 6 (I89 a i) (T89r a i) fin89 =
  (let q0 := i64 (IntKind.wrap IntKind.i64 ((↑(i + 1) : Int) + 1)); let q1 := List.map u32 a.provs;
  Tree.br (decide ((↑(i + 1) : Int) < (↑(List.length q1) : Int))) (.br (d89 a && strict a.provs i) (.need (0 ≤ IntKind.wrap IntKind.i64 ((↑(i + 1) : Int) - 1) ∧ q1[Int.toNat (IntKind.wrap IntKind.i64 ((↑(i + 1) : Int) - 1))]? = some (u32 (List.getD a.provs i 0))) (.need (0 ≤ (↑(i + 1) : Int) ∧ q1[Int.toNat (↑(i + 1) : Int)]? = some (u32 (List.getD a.provs (i + 1) 0))) (.done Exit.normal (LState.mk [(4,.imm q0),(3,.imm (bo (decide (List.getD a.provs i 0 < List.getD a.provs (i + 1) 0)))),(1,.ptr 0 0)] [(0,Entry.box 112 (.imm (encT a)))] 64 25 [])))) (.done Exit.normal (LState.mk [(4,.imm
  q0),(3,.imm (bo false)),(1,.ptr 0 0)] [(0,Entry.box 112 (.imm (encT a)))] 64 25 []))) (.done (Exit.exit 0) (LState.mk [(3,.imm (bo (d89 a && strict a.provs i)))] [] 64 6 []))) := by kernel_rfl
theorem t89 (a : Attest) : levF prog Proofs.Try.f89 [encT a] (T89 a) =
  (let q0 := d89 a && strict a.provs (List.length a.provs - 1); let q1 := List.length (List.map u32 a.provs);
  Tree.br (decide (50 < (↑q1 : Int))) (.done Exit.ret (lret (i64 4))) (.br (decide (0 < a.cust)) (.br (decide (0 < (↑q1 : Int))) (.need (ILeL [lu32 a.provs,u32 a.cust] [lu32 a.provs,u32 a.cust] ∧ ASpec prog 98 [lu32 a.provs,u32 a.cust] (bo (decide (a.cust ∈ a.provs)))) (.br (!decide (a.cust ∈ a.provs)) (.br (decide ((↑q1 : Int) = 1)) (.loop 6 (LState.mk [(4,.imm (i64 1)),(3,.imm (bo true)),(1,.ptr 0 0)] [(0,Entry.box 112 (.imm (encT a)))] 64 40 []) (.done (Exit.exit 0) (E89 a)) (.br (!q0) (.done Exit.ret (lret (i64 8))) (.done Exit.ret (lret (i64 0))))) (.need ((0 : Int) ≤ (0 : Int) ∧ (List.map
  u32 a.provs)[0]? = some (u32 (List.getD a.provs 0 0))) (.loop 6 (LState.mk [(4,.imm (i64 1)),(3,.imm (bo (decide (0 < List.getD a.provs 0 0)))),(1,.ptr 0 0)] [(0,Entry.box 112 (.imm (encT a)))] 64 40 []) (.done (Exit.exit 0) (E89 a)) (.br (!q0) (.done Exit.ret (lret (i64 8))) (.done Exit.ret (lret (i64 0))))))) (.loop 6 (LState.mk [(4,.imm (i64 1)),(3,.imm (bo false)),(1,.ptr 0 0)] [(0,Entry.box 112 (.imm (encT a)))] 64 40 []) (.done (Exit.exit 0) (E89 a)) (.br (!q0) (.done Exit.ret (lret (i64 8))) (.done Exit.ret (lret (i64 0))))))) (.loop 6 (LState.mk [(4,.imm (i64 1)),(3,.imm (bo
  false)),(1,.ptr 0 0)] [(0,Entry.box 112 (.imm (encT a)))] 64 40 []) (.done (Exit.exit 0) (E89 a)) (.br (!q0) (.done Exit.ret (lret (i64 8))) (.done Exit.ret (lret (i64 0)))))) (.loop 6 (LState.mk [(4,.imm (i64 1)),(3,.imm (bo false)),(1,.ptr 0 0)] [(0,Entry.box 112 (.imm (encT a)))] 64 40 []) (.done (Exit.exit 0) (E89 a)) (.br (!q0) (.done Exit.ret (lret (i64 8))) (.done Exit.ret (lret (i64 0))))))) := by kernel_rfl
theorem l89 (a : Attest) (hl : a.provs.length ≤ 2 ^ 62) (σ : LState) (h : LSub σ (I89 a 0)) : LoopOk prog [] (bodyOf Proofs.Try.f89) 6 σ (.done (.exit 0) (E89 a)) := by
  refine LoopOk.of_levL (γ := { i : Nat // i ≤ a.provs.length - 1 }) (fun g => T89r a g.1) fin89 (fun g => I89 a g.1) (fun g => a.provs.length - g.1) ⟨0, by omega⟩ (by kernel_rfl) h ?_
  rintro ⟨i, hi⟩
  rw [t89r]
  refine ⟨fun hb => ?_, fun hb => ?_⟩
  · have hlt : i + 1 < a.provs.length := by simp at hb; omega
    have e2 : IntKind.i64.wrap ((i : Int) + 1 + 1) = (i : Int) + 1 + 1 := IntWalk.i64_in _ (by omega)
    have e1 : IntKind.i64.wrap (((i + 1 : Nat) : Int) - 1) = (i : Int) := by rw [IntWalk.i64_in _ (by omega)]; omega
    refine ⟨fun hc => ⟨⟨?_, ?_⟩, fun _ => ⟨⟨by omega, ?_⟩, fun _ => ?_⟩⟩, fun hc => ?_⟩
    · simp only [e1]; omega
    · simp only [e1, Int.toNat_natCast]; exact getD_map _ _ _ _ (by omega)
    · rw [Int.toNat_natCast]; exact getD_map _ _ _ _ hlt
    · refine ⟨⟨i + 1, by omega⟩, by simp only; omega, ?_⟩
      simp only at hc
      simp [I89, LSub, tsub, ssub, tl, sl, linT, linS, ainB, i64, bo, e2, strict, -List.getD_eq_getElem?_getD]
      simp at hc
      simp [hc]
    · refine ⟨⟨i + 1, by omega⟩, by simp only; omega, ?_⟩
      simp only at hc
      simp [I89, LSub, tsub, ssub, tl, sl, linT, linS, ainB, i64, bo, e2, strict, -List.getD_eq_getElem?_getD]
      cases hd : d89 a <;> simp_all
  · have hge : i = a.provs.length - 1 := by simp at hb; omega
    subst hge
    exact ⟨rfl, by simp [E89, LSub, tsub, ssub, tl, linT, linS, ainB]⟩
def ckPr (a : Attest) : Int := if 50 < a.provs.length then 4 else if (d89 a && strict a.provs (a.provs.length - 1)) = true then 0 else 8
theorem c89 (a : Attest) : ASpec prog 89 [encT a] (i64 (ckPr a)) := by
  refine ASpec.tree Proofs.Try.f89 (T89 a) (by kernel_rfl) (by kernel_rfl) (t89 a) ?_
  refine ⟨fun h => ?_, fun h => ?_⟩
  · have : 50 < a.provs.length := by simp at h; omega
    simp [Tree.sat, ckPr, this, i64]
  · have hle : a.provs.length ≤ 50 := by simp at h; omega
    have hl : a.provs.length ≤ 2 ^ 62 := by omega
    have fin : ∀ s : LState, s.t = [(4, .imm (i64 1)), (3, .imm (bo (d89 a))), (1, .ptr 0 0)] → s.s = [(0, .box 112 (.imm (encT a)))] → s.m = 64 → LoopOk prog [] (bodyOf Proofs.Try.f89) 6 s (.done (.exit 0) (E89 a)) := by
      intro s h1 h2 h3
      refine l89 a hl s ?_
      simp [I89, LSub, tsub, ssub, tl, sl, linT, linS, ainB, h1, h2, h3, strict]
    have last : (Tree.br (!(d89 a && strict a.provs (a.provs.length - 1))) (Tree.done Exit.ret (lret (IVal.v (Value.int IntKind.i64 8)))) (Tree.done Exit.ret (lret (IVal.v (Value.int IntKind.i64 0))))).sat (LoopOk prog [] (bodyOf Proofs.Try.f89)) (fun _ s => s = lret (i64 (ckPr a))) := by
      have hn : ¬ 50 < a.provs.length := by omega
      cases hh : (d89 a && strict a.provs (a.provs.length - 1)) with
      | false => exact ⟨fun _ => (by simp only [Tree.sat, ckPr, if_neg hn, hh]; rfl), fun hx => by cases hx⟩
      | true => exact ⟨fun hx => (by cases hx), fun _ => by simp only [Tree.sat, ckPr, if_neg hn, hh]; rfl⟩
    refine ⟨fun h1 => ⟨fun h2 => ⟨⟨ILeL.refl _, c98 _ _ hl⟩, fun _ => ⟨fun h3 => ⟨fun h4 => ⟨fin _ ?_ rfl rfl, last⟩, fun h4 => ⟨⟨by decide, ?_⟩, fun _ => ⟨fin _ ?_ rfl rfl, last⟩⟩⟩, fun h3 => ⟨fin _ ?_ rfl rfl, last⟩⟩⟩, fun h2 => ⟨fin _ ?_ rfl rfl, last⟩⟩, fun h1 => ⟨fin _ ?_ rfl rfl, last⟩⟩
    · have : d89 a = true := by simp [d89, b89] at *; grind
      rw [this] <;> rfl
    · exact getD_map _ _ _ _ (by simp at h2; omega)
    · have : d89 a = decide (0 < a.provs.getD 0 0) := by simp [d89, b89] at *; grind
      rw [this] <;> rfl
    · have : d89 a = false := by simp [d89, b89] at *; grind
      rw [this] <;> rfl
    · have : d89 a = false := by simp [d89, b89] at *; grind
      rw [this] <;> rfl
    · have : d89 a = false := by simp [d89, b89] at *; grind
      rw [this] <;> rfl
end Gp
namespace Gp
structure RKey where
  asn : Int
  root : Vector Int 16
  height : Int
  deriving DecidableEq, Inhabited
def rootL (k : RKey) : List Int := [k.root[0], k.root[1], k.root[2], k.root[3], k.root[4], k.root[5], k.root[6], k.root[7], k.root[8], k.root[9], k.root[10], k.root[11], k.root[12], k.root[13], k.root[14], k.root[15]]
variable {α : Type}
def fnV (f : Nat) : IVal := .v (.func (.func f) #[] #[])
def slE (k : Nat) (e : α → IVal) (l : List α) : IVal := .sl false false k (l.map e)
end Gp
namespace Gp
variable {α : Type}
def diffAt (ne : α → α → Bool) (d : α) (l r : List α) (i : Nat) : Bool := ne (l.getD i d) (r.getD i d)
def IQ (k : Nat) (e : α → IVal) (l r : List α) (i : Nat) : LState := { t := [(13, .imm (i64 i)), (12, .imm (i64 l.length)), (0, .imm (slE k e l)), (1, .imm (slE k e r))], s := [], m := 26, n := 0 }
def RQ (_ : Nat) : LState := { t := [(4, .imm (bo false))], s := [], m := 26, n := 0 }
def EQ : LState := { t := [], s := [], m := 26, n := 0 }
def TQ (ne : α → α → Bool) (d : α) (l r : List α) : Tell := { Lp := fun _ => Lfirst (diffAt ne d l r) l.length 0 RQ EQ, lv := fun _ => ([13, 12, 0, 1], []) }
def TQr (e : α → IVal) (d : α) (l r : List α) (i : Nat) : Tell := { O := fun r' j => match r', j with
  | 6, 2 => .elem (e (l.getD i d)) | 6, 6 => .elem (e (r.getD i d)) | _, _ => .no }
def finQ : Exit → Fin
  | .normal => ⟨[], [13, 12, 0, 1], []⟩
  | .ret => ⟨[], [4], []⟩
  | _ => ⟨[], [], []⟩
def QT (k : Nat) (e : α → IVal) (ne : α → α → Bool) (d : α) (l r : List α) (i : Nat) : Tree :=
  .br (decide ((i : Int) < (l.length : Int)))
    (.need (0 ≤ (i : Int) ∧ (l.map e)[Int.toNat (i : Int)]? = some (e (l.getD i d)))
      (.need (0 ≤ (i : Int) ∧ (r.map e)[Int.toNat (i : Int)]? = some (e (r.getD i d)))
        (.br (ne (l.getD i d) (r.getD i d)) (.done .ret ⟨[(4, .imm (.v (.bool false)))], [], 26, 13, []⟩)
          (.done .normal ⟨[(13, .imm (.v (.int .i64 (IntKind.i64.wrap ((i : Int) + 1))))), (12, .imm (i64 l.length)), (0, .imm (slE k e l)), (1, .imm (slE k e r))], [], 26, 14, []⟩))))
    (.done (.exit 0) ⟨[], [], 26, 1, []⟩)
def QF (k : Nat) (e : α → IVal) (ne : α → α → Bool) (d : α) (l r : List α) : Tree :=
  .br (!decide (((l.map e).length : Int) = ((r.map e).length : Int))) (.done .ret (lret (.v (.bool false))))
    (.loop 4 ⟨[(13, .imm (.v (.int .i64 0))), (12, .imm (.v (.int .i64 ((l.map e).length : Int)))), (0, .imm (slE k e l)), (1, .imm (slE k e r))], [], 26, 9, []⟩ (Lfirst (diffAt ne d l r) l.length 0 RQ EQ)
      (.br (anyI (diffAt ne d l r) 0 l.length) (.done .ret (lret (bo false))) (.done .ret (lret (.v (.bool true))))))
theorem equal_loop {fn : Func} {k : Nat} {e : α → IVal} {ne : α → α → Bool} {d : α} {l r : List α} (hlr : l.length = r.length) (ht : ∀ i, levL prog fn 4 (IQ k e l r i) (TQr e d l r i) finQ = QT k e ne d l r i)
    (h1 : loopOne (bodyOf fn) 4 = true) (hl : l.length ≤ 2 ^ 62) (σ : LState) (h : LSub σ (IQ k e l r 0)) : LoopOk prog [] (bodyOf fn) 4 σ (Lfirst (diffAt ne d l r) l.length 0 RQ EQ) := by
  refine LoopOk.first (diffAt ne d l r) l.length 0 (IQ k e l r) RQ EQ (TQr e d l r) finQ h1 h fun i hi hz => ?_
  rw [ht]
  refine ⟨fun hb => ?_, fun hb => ?_⟩
  · have hlt : i < l.length := by simpa using hb
    refine ⟨⟨by omega, by rw [Int.toNat_natCast]; exact getD_map _ _ _ _ hlt⟩, fun _ => ⟨⟨by omega, by rw [Int.toNat_natCast]; exact getD_map _ _ _ _ (by omega)⟩, fun _ => ⟨fun h2 => ⟨hlt, h2, ?_⟩, fun h2 => ⟨hlt, h2, ?_⟩⟩⟩⟩
    · simp [RQ, LSub, tsub, ssub, tl, linT, linS, ainB, bo]
    · simp [IQ, LSub, tsub, ssub, tl, linT, linS, ainB, i64, i64_small hlt hl]
  · have hge : l.length ≤ i := by simpa using hb
    exact ⟨rfl, hge, by simp [EQ, LSub, tsub, ssub, linT, linS]⟩
def sameL (ne : α → α → Bool) (d : α) (l r : List α) : Bool := decide (l.length = r.length) && !anyI (diffAt ne d l r) 0 l.length
theorem equal_spec {f : Nat} {fn : Func} {k : Nat} {e : α → IVal} {ne : α → α → Bool} {d : α} {l r : List α} (hf : prog.funcs[f]? = some fn) (hk : okF fn 2 = true)
    (ht : ∀ i, levL prog fn 4 (IQ k e l r i) (TQr e d l r i) finQ = QT k e ne d l r i) (h1 : loopOne (bodyOf fn) 4 = true) (h2 : levF prog fn [slE k e l, slE k e r] (TQ ne d l r) = QF k e ne d l r) (hl : l.length ≤ 2 ^ 62) :
    ASpec prog f [slE k e l, slE k e r] (bo (sameL ne d l r)) := by
  refine ASpec.tree fn (TQ ne d l r) hf hk h2 ⟨fun hx => ?_, fun hx => ?_⟩
  · have : ¬ l.length = r.length := by simp at hx; omega
    simp [Tree.sat, sameL, this, bo]
  · have hlr : l.length = r.length := by simp at hx; omega
    refine ⟨equal_loop hlr ht h1 hl _ ?_, fun hy => ?_, fun hy => ?_⟩
    · simp [IQ, LSub, tsub, ssub, tl, linT, linS, ainB, i64]
    · rw [show sameL ne d l r = false from by unfold sameL; rw [hy]; simp]; rfl
    · rw [show sameL ne d l r = true from by unfold sameL; rw [hy]; simp [hlr]]; rfl
theorem sameL_iff {ne : α → α → Bool} {d : α} {l r : List α} (hne : ∀ a b, ne a b = false ↔ a = b) : sameL ne d l r = true ↔ l = r := by
  unfold sameL
  simp only [Bool.and_eq_true, decide_eq_true_eq, Bool.not_eq_true']
  constructor
  · rintro ⟨h1, h2⟩
    refine List.ext_getElem h1 fun i h3 h4 => ?_
    have : diffAt ne d l r i = false := by
      cases hd : diffAt ne d l r i with
      | false => rfl
      | true => rw [anyI_iff.2 ⟨i, h3, hd⟩] at h2; cases h2
    have := (hne _ _).1 this
    simpa [List.getD_eq_getElem?_getD, List.getElem?_eq_getElem h3, List.getElem?_eq_getElem h4] using this
  · rintro rfl
    refine ⟨rfl, ?_⟩
    cases ha : anyI (diffAt ne d l l) 0 l.length with
    | false => rfl
    | true => obtain ⟨i, _, hp⟩ := anyI_iff.1 ha; rw [diffAt, (hne _ _).2 rfl] at hp; cases hp
def neO (a b : Origin) : Bool := !(decide (a.asn = b.asn) && (decide (a.pfx.fam = b.pfx.fam) && (decide (a.pfx.addr.hi = b.pfx.addr.hi) && (decide (a.pfx.addr.lo = b.pfx.addr.lo) && (decide (a.pfx.len = b.pfx.len) && (decide (a.max = b.max) && true))))))
def neI (a b : Int) : Bool := !decide (a = b)
theorem neO_iff (a b : Origin) : neO a b = false ↔ a = b := by
  obtain ⟨_, ⟨_, ⟨_, _⟩, _⟩, _⟩ := a; obtain ⟨_, ⟨_, ⟨_, _⟩, _⟩, _⟩ := b
  simp [neO, and_assoc]
theorem t39 (l r : List Int) : levF prog Proofs.Try.f39 [slE 1 u32 l, slE 1 u32 r] (TQ neI 0 l r) = QF 1 u32 neI 0 l r := by kernel_rfl
theorem t39r (l r : List Int) (i : Nat) : levL prog Proofs.Try.f39 4 (IQ 1 u32 l r i) (TQr u32 0 l r i) finQ = QT 1 u32 neI 0 l r i := by kernel_rfl
theorem c39 (l r : List Int) (hl : l.length ≤ 2 ^ 62) : ASpec prog 39 [slE 1 u32 l, slE 1 u32 r] (bo (decide (l = r))) := by
  have := equal_spec (f := 39) (by kernel_rfl) (by kernel_rfl) (t39r l r) (by kernel_rfl) (t39 l r) hl
  rwa [show sameL neI 0 l r = decide (l = r) from by rw [Bool.eq_iff_iff, sameL_iff (fun a b => by simp [neI])]; simp] at this
def neK (a b : RKey) : Bool := !(decide (a.asn = b.asn) && (decide (a.root[0] = b.root[0]) && (decide (a.root[1] = b.root[1]) && (decide (a.root[2] = b.root[2]) && (decide (a.root[3] = b.root[3]) && (decide (a.root[4] = b.root[4]) && (decide (a.root[5] = b.root[5]) && (decide (a.root[6] = b.root[6]) && (decide (a.root[7] = b.root[7]) && (decide (a.root[8] = b.root[8]) && (decide (a.root[9] = b.root[9]) && (decide (a.root[10] = b.root[10]) && (decide (a.root[11] = b.root[11]) && (decide (a.root[12] = b.root[12]) && (decide (a.root[13] = b.root[13]) && (decide (a.root[14] = b.root[14]) && (decide (a.root[15] = b.root[15]) && (decide (a.height = b.height) && true))))))))))))))))))
theorem neK_iff (a b : RKey) : neK a b = false ↔ a = b := by
  obtain ⟨x, v, y⟩ := a; obtain ⟨x', v', y'⟩ := b
  simp only [neK, Bool.not_eq_false', Bool.and_eq_true, decide_eq_true_eq, and_true, RKey.mk.injEq]
  constructor
  · rintro ⟨h, h0, h1, h2, h3, h4, h5, h6, h7, h8, h9, h10, h11, h12, h13, h14, h15, hh⟩
    refine ⟨h, Vector.ext fun i hi => ?_, hh⟩
    match i, hi with
    | 0, _ => exact h0
    | 1, _ => exact h1
    | 2, _ => exact h2
    | 3, _ => exact h3
    | 4, _ => exact h4
    | 5, _ => exact h5
    | 6, _ => exact h6
    | 7, _ => exact h7
    | 8, _ => exact h8
    | 9, _ => exact h9
    | 10, _ => exact h10
    | 11, _ => exact h11
    | 12, _ => exact h12
    | 13, _ => exact h13
    | 14, _ => exact h14
    | 15, _ => exact h15
    | n + 16, hn => omega
  · rintro ⟨rfl, rfl, rfl⟩; simp
end Gp
namespace Gp
variable {α : Type}
def slF (k : Nat) (e : α → IVal) (l : List α) : IVal := .sl true false k (l.map e)
def CT (k : Nat) (e : α → IVal) (l : List α) : Tree :=
  .alt (l.map e).isEmpty (.done .ret (lret (.v (.slice none 0 0)))) (.need (cellsOk [] = true ∧ cellsOk (l.map e) = true ∧ ([] : List IVal).length + (l.map e).length ≤ lim) (.done .ret (lret (.sl true false k ([] ++ l.map e)))))
def TC : Tell := { fz := fun _ _ => true }
theorem clone_spec {f : Nat} {fn : Func} {k : Nat} {e : α → IVal} {l : List α} (hf : prog.funcs[f]? = some fn) (hk : okF fn 1 = true) (ht : levF prog fn [slE k e l] TC = CT k e l) (he : ∀ x, (icells (e x)).isSome = true) (hl : l.length ≤ 1000000) :
    ASpec prog f [slE k e l] (slF k e l) := by
  refine ASpec.treeW fn TC hf hk ht ⟨fun h => ?_, ⟨rfl, cellsOk_map e he l, by simp [lim]; exact hl⟩, fun _ => ⟨_, rfl, ILe.refl _⟩⟩
  have : l = [] := by simpa using h
  subst this
  exact ⟨_, rfl, ILe.nil _ _ _⟩
def okT (a : Attest) : Prop := a.provs.length ≤ 1000000
structure Payload where
  origins : List Origin
  paths : List Attest
  keys : List RKey
  deriving DecidableEq, Inhabited
structure Payload.ok (p : Payload) : Prop where
  o : p.origins.length ≤ 100000
  t : p.paths.length ≤ 100000
  k : p.keys.length ≤ 100000
  p : ∀ a ∈ p.paths, okT a
end Gp
namespace Gp
structure Timers where
  refresh : Int
  retry : Int
  expire : Int
  deriving DecidableEq, Inhabited
end Gp
namespace Gp
open Go Go.Abs Go.RowKit
def lu8 (l : List Int) : IVal := sl1 (l.map u8)
end Gp
namespace Gp
end Gp
namespace Gp
end Gp
namespace Gp
theorem ile_eq {d r : IVal} (h : d = r) : ILe d r := h ▸ ILe.refl _
theorem ile_bo {a b : Bool} (h : a = b) : ILe (.v (.bool a)) (bo b) := h ▸ ILe.refl _
end Gp
namespace Gp
def bitV (x k : Int) : Int := IntKind.i64.wrap ((IntKind.u64.wrap (x.tdiv (2 ^ k.toNat))).tmod 2)
def bitF (f : Int) (a : Addr) (i : Nat) : Int := if 63 < width f - 1 - i then bitV a.hi (width f - 1 - i - 64) else bitV a.lo (width f - 1 - i)
def bitsL (f : Int) (a : Addr) : List Int := (List.range (width f).toNat).map (bitF f a)
def P90 (p : Pfx) (i : Nat) : Bool := !decide ((bitsL p.fam p.addr).getD (p.len + (i : Int)).toNat 0 = 0)
def ckP' (p : Pfx) : Int :=
  if width p.fam = 0 then 2 else if (ckA p.fam p.addr && decide (0 ≤ p.len) && decide (p.len ≤ width p.fam) && !anyI (P90 p) 0 (width p.fam - p.len).toNat) = true then 0 else 8
end Gp
namespace Gp
def P92 (a : Attest) (i : Nat) : Bool := decide (a.provs.getD i 0 = a.cust) || (decide (0 < i) && decide (a.provs.getD i 0 ≤ a.provs.getD (i - 1) 0))
def ckPr' (a : Attest) : Int :=
  if 50 < a.provs.length then 4 else if a.provs.length = 0 ∨ a.cust = 0 ∨ (1 < a.provs.length ∧ a.provs.getD 0 0 = 0) ∨ anyI (P92 a) 0 a.provs.length = true then 8 else 0
end Gp
namespace Gp
structure Pdu where
  version : Int
  kind : Int
  session : Int
  serial : Int
  add : Bool
  origin : Origin
  path : Attest
  key : RKey
  refresh : Int
  retry : Int
  expire : Int
  code : Int
  copy : List Int
  text : ByteArray
  deriving DecidableEq
instance : Inhabited Pdu := ⟨⟨0, 0, 0, 0, false, default, default, default, 0, 0, 0, 0, [], .empty⟩⟩
def st (s : ByteArray) : IVal := .v (.string s)
def encD (m : Pdu) : IVal := .agg [u8 m.version, u8 m.kind, u16 m.session, u32 m.serial, bo m.add, u32 m.origin.asn, u8 m.origin.pfx.fam, u64 m.origin.pfx.addr.hi, u64 m.origin.pfx.addr.lo, i64 m.origin.pfx.len, i64 m.origin.max, u32 m.path.cust, lu32 m.path.provs,
  u32 m.key.asn, u8 m.key.root[0], u8 m.key.root[1], u8 m.key.root[2], u8 m.key.root[3], u8 m.key.root[4], u8 m.key.root[5], u8 m.key.root[6], u8 m.key.root[7], u8 m.key.root[8], u8 m.key.root[9], u8 m.key.root[10], u8 m.key.root[11], u8 m.key.root[12], u8 m.key.root[13], u8 m.key.root[14], u8 m.key.root[15], i64 m.key.height,
  u32 m.refresh, u32 m.retry, u32 m.expire, u16 m.code, lu8 m.copy, st m.text]
def T47 (m : Pdu) : Tell :=
  Tell.mk (fun x x_1 => false) (fun x x_1 => Orc.no) (fun x => Tree.fail 1000003 0) (fun x => 0) (fun x => ([],[])) (fun x x_1 x_2 => Orc.no) fun x x_1 => Tree.fail 1000003 0
theorem t47 (m : Pdu) : levF prog Proofs.Try.f47 [encD m] (T47 m) =
  Tree.done Exit.ret (lret (bo true)) := by kernel_rfl
def T56 (m : Pdu) : Tell :=
  Tell.mk (fun x x_1 => false) (fun x x_1 => Orc.no) (fun x => Tree.fail 1000003 0) (fun x => 0) (fun x => ([],[])) (oget [(15,5,2,Orc.call [encP m.origin.pfx] (i64 (ckP m.origin.pfx))),(13,5,2,Orc.call [encP m.origin.pfx] (i64 (ckP m.origin.pfx)))]) fun x x_1 => Tree.fail 1000003 0
theorem t56 (m : Pdu) : levF prog Proofs.Try.f56 [encD m] (T56 m) =
  (let q0 := decide (m.origin.pfx.len ≤ m.origin.max);
  Tree.br (decide (m.kind = 6)) (.need (ILeL [.agg [u8 m.origin.pfx.fam,u64 m.origin.pfx.addr.hi,u64 m.origin.pfx.addr.lo,i64 m.origin.pfx.len]] [encP m.origin.pfx] ∧ ASpec prog 86 [encP m.origin.pfx] (i64 (ckP m.origin.pfx))) (.br (decide (ckP m.origin.pfx = 0)) (.br (decide (m.origin.pfx.fam = 6)) (.br q0 (.done Exit.ret (lret (bo (decide (m.origin.max ≤ 128))))) (.done Exit.ret (lret (bo false)))) (.done Exit.ret (lret (bo false)))) (.done Exit.ret (lret (bo false))))) (.need (ILeL [.agg [u8 m.origin.pfx.fam,u64 m.origin.pfx.addr.hi,u64 m.origin.pfx.addr.lo,i64 m.origin.pfx.len]] [encP
  m.origin.pfx] ∧ ASpec prog 86 [encP m.origin.pfx] (i64 (ckP m.origin.pfx))) (.br (decide (ckP m.origin.pfx = 0)) (.br (decide (m.origin.pfx.fam = 4)) (.br q0 (.done Exit.ret (lret (bo (decide (m.origin.max ≤ 32))))) (.done Exit.ret (lret (bo false)))) (.done Exit.ret (lret (bo false)))) (.done Exit.ret (lret (bo false)))))) := by kernel_rfl
def T59 (m : Pdu) : Tell :=
  Tell.mk (fun x x_1 => false) (fun x x_1 => Orc.no) (fun x => Tree.fail 1000003 0) (fun x => 0) (fun x => ([],[])) (fun x x_1 x_2 => Orc.no) fun x x_1 => Tree.fail 1000003 0
theorem t59 (m : Pdu) : levF prog Proofs.Try.f59 [encD m] (T59 m) =
  Tree.br (decide (m.version = 0)) (.done Exit.ret (lret (bo true))) (.br (decide (1 ≤ if m.retry < m.refresh then m.retry else m.refresh)) (.br (decide (m.expire ≤ 1048576)) (.done Exit.ret (lret (bo (decide ((if m.retry > m.refresh then m.retry else m.refresh) ≤ m.expire))))) (.done Exit.ret (lret (bo false)))) (.done Exit.ret (lret (bo false)))) := by kernel_rfl
def T62 (m : Pdu) : Tell :=
  Tell.mk (fun x x_1 => false) (fun x x_1 => Orc.no) (fun x => Tree.fail 1000003 0) (fun x => 0) (fun x => ([],[])) (fun x x_1 x_2 => Orc.no) fun x x_1 => Tree.fail 1000003 0
theorem t62 (m : Pdu) : levF prog Proofs.Try.f62 [encD m] (T62 m) =
  Tree.br (decide (0 < m.version)) (.br (decide (0 ≤ m.key.height)) (.done Exit.ret (lret (bo (decide (m.key.height ≤ 4))))) (.done Exit.ret (lret (bo false)))) (.done Exit.ret (lret (bo false))) := by kernel_rfl
def T67 (m : Pdu) : Tell :=
  Tell.mk (fun x x_1 => false) (fun x x_1 => Orc.no) (fun x => Tree.fail 1000003 0) (fun x => 0) (fun x => ([],[])) (fun x x_1 x_2 => Orc.no) fun x x_1 => Tree.fail 1000003 0
theorem t67 (m : Pdu) : levF prog Proofs.Try.f67 [encD m] (T67 m) =
  Tree.done Exit.ret (lret (bo (decide (m.code ≤ 8)))) := by kernel_rfl
def T72 (m : Pdu) : Tell :=
  Tell.mk (fun x x_1 => false) (fun x x_1 => Orc.no) (fun x => Tree.fail 1000003 0) (fun x => 0) (fun x => ([],[])) (oget [(6,3,14,Orc.call [encT m.path] (i64 (ckPr m.path)))]) fun x x_1 => Tree.fail 1000003 0
theorem t72 (m : Pdu) : levF prog Proofs.Try.f72 [encD m] (T72 m) =
  Tree.br (!m.add) (.br (decide (m.version = 2)) (.br (decide (0 < m.path.cust)) (.done Exit.ret (lret (bo (decide ((↑(List.length (List.map u32 m.path.provs)) : Int) = 0))))) (.done Exit.ret (lret (bo false)))) (.done Exit.ret (lret (bo false)))) (.br (decide (m.version = 2)) (.need (ILeL [.agg [u32 m.path.cust,lu32 m.path.provs]] [encT m.path] ∧ ASpec prog 89 [encT m.path] (i64 (ckPr m.path))) (.done Exit.ret (lret (bo (decide (ckPr m.path = 0)))))) (.done Exit.ret (lret (bo false)))) := by kernel_rfl
end Gp
