/- Part 1 of the walk and of the plain law of DiffComposes. -/
import Derived.Test.YtcccdohpepnfjaaGreatFw5
import Derived.Test.YtcccdohpepnfjaaGreatChecked
import Derived.KernelRfl
import Derived.IntWalk
import Derived.Lib.BytesEntry
import Derived.Lib.Bytealg
import Derived.Laws.Externs
set_option maxRecDepth 100000
set_option maxHeartbeats 0
set_option linter.unusedVariables false
set_option linter.unusedSimpArgs false
open Go Go.Abs
namespace Gp
structure Addr where
  hi : Int
  lo : Int
  deriving DecidableEq, Inhabited
theorem Addr.ext_iff {a b : Addr} : a = b ↔ a.hi = b.hi ∧ a.lo = b.lo := by
  cases a; cases b; simp
structure Pfx where
  fam : Int
  addr : Addr
  len : Int
  deriving DecidableEq, Inhabited
structure Origin where
  asn : Int
  pfx : Pfx
  max : Int
  deriving DecidableEq, Inhabited
structure Attest where
  cust : Int
  provs : List Int
  deriving DecidableEq, Inhabited
def u8 (n : Int) : IVal := .v (.int .u8 n)
def u32 (n : Int) : IVal := .v (.int .u32 n)
def u64 (n : Int) : IVal := .v (.int .u64 n)
def i64 (n : Int) : IVal := .v (.int .i64 n)
def bo (b : Bool) : IVal := .v (.bool b)
def encA (a : Addr) : IVal := .agg [u64 a.hi, u64 a.lo]
def encP (p : Pfx) : IVal := .agg [u8 p.fam, u64 p.addr.hi, u64 p.addr.lo, i64 p.len]
def encO (o : Origin) : IVal := .agg [u32 o.asn, u8 o.pfx.fam, u64 o.pfx.addr.hi, u64 o.pfx.addr.lo, i64 o.pfx.len, i64 o.max]
noncomputable abbrev prog := Proofs.Tryz.prog
theorem t98 (a : Int) : levF prog Proofs.Tryz.f98 [u32 a] {} =
  Tree.done Exit.ret (lret (IVal.v (Value.bool !decide (a = a)))) := by kernel_rfl
theorem c98 (a : Int) : ASpec prog 98 [u32 a] (bo false) := by
  refine ASpec.tree Proofs.Tryz.f98 {} (by kernel_rfl) (by kernel_rfl) (t98 _) ?_
  simp [Tree.sat, bo]
theorem t99 (a : Int) : levF prog Proofs.Tryz.f99 [u8 a] {} =
  Tree.done Exit.ret (lret (IVal.v (Value.bool !decide (a = a)))) := by kernel_rfl
theorem c99 (a : Int) : ASpec prog 99 [u8 a] (bo false) := by
  refine ASpec.tree Proofs.Tryz.f99 {} (by kernel_rfl) (by kernel_rfl) (t99 _) ?_
  simp [Tree.sat, bo]
theorem t101 (a : Int) : levF prog Proofs.Tryz.f101 [i64 a] {} =
  Tree.done Exit.ret (lret (IVal.v (Value.bool !decide (a = a)))) := by kernel_rfl
theorem c101 (a : Int) : ASpec prog 101 [i64 a] (bo false) := by
  refine ASpec.tree Proofs.Tryz.f101 {} (by kernel_rfl) (by kernel_rfl) (t101 _) ?_
  simp [Tree.sat, bo]
theorem t115 (a : Int) : levF prog Proofs.Tryz.f115 [u64 a] {} =
  Tree.done Exit.ret (lret (IVal.v (Value.bool !decide (a = a)))) := by kernel_rfl
theorem c115 (a : Int) : ASpec prog 115 [u64 a] (bo false) := by
  refine ASpec.tree Proofs.Tryz.f115 {} (by kernel_rfl) (by kernel_rfl) (t115 _) ?_
  simp [Tree.sat, bo]
def cmpI (a b : Int) : Int := if a < b then -1 else if b < a then 1 else 0
def Tcmp (e : Int → IVal) (a b : Int) : Tell := { O := fun r i => match r, i with | 1, 1 => .call [e a] (bo false) | 2, 1 => .call [e b] (bo false) | _, _ => .no }
theorem t78 (a b : Int) : levF prog Proofs.Tryz.f78 [u32 a, u32 b] (Tcmp u32 a b) =
  Tree.need (ILeL [u32 a] [u32 a] ∧ ASpec prog 98 [u32 a] (bo false))
  (Tree.need (ILeL [u32 b] [u32 b] ∧ ASpec prog 98 [u32 b] (bo false))
  (Tree.br false (Tree.br false (Tree.done Exit.ret (lret (IVal.v (Value.int IntKind.i64 (0 : Int))))) (Tree.done Exit.ret (lret (IVal.v (Value.int IntKind.i64 (-1 : Int))))))
  (Tree.br false (Tree.done Exit.ret (lret (IVal.v (Value.int IntKind.i64 (1 : Int)))))
  (Tree.br (decide (a < b)) (Tree.done Exit.ret (lret (IVal.v (Value.int IntKind.i64 (-1 : Int)))))
  (Tree.br (decide (b < a)) (Tree.done Exit.ret (lret (IVal.v (Value.int IntKind.i64 (1 : Int))))) (Tree.done Exit.ret (lret (IVal.v (Value.int IntKind.i64 (0 : Int)))))))))) := by kernel_rfl
theorem c78 (a b : Int) : ASpec prog 78 [u32 a, u32 b] (i64 (cmpI a b)) := by
  refine ASpec.tree Proofs.Tryz.f78 (Tcmp u32 a b) (by kernel_rfl) (by kernel_rfl) (t78 a b) ?_
  refine ⟨⟨ILeL.refl _, c98 a⟩, fun _ => ⟨⟨ILeL.refl _, c98 b⟩, fun _ => ?_⟩⟩
  simp only [Tree.sat, i64, cmpI]
  grind
theorem t79 (a b : Int) : levF prog Proofs.Tryz.f79 [u8 a, u8 b] (Tcmp u8 a b) =
  Tree.need (ILeL [u8 a] [u8 a] ∧ ASpec prog 99 [u8 a] (bo false))
  (Tree.need (ILeL [u8 b] [u8 b] ∧ ASpec prog 99 [u8 b] (bo false))
  (Tree.br false (Tree.br false (Tree.done Exit.ret (lret (IVal.v (Value.int IntKind.i64 (0 : Int))))) (Tree.done Exit.ret (lret (IVal.v (Value.int IntKind.i64 (-1 : Int))))))
  (Tree.br false (Tree.done Exit.ret (lret (IVal.v (Value.int IntKind.i64 (1 : Int)))))
  (Tree.br (decide (a < b)) (Tree.done Exit.ret (lret (IVal.v (Value.int IntKind.i64 (-1 : Int)))))
  (Tree.br (decide (b < a)) (Tree.done Exit.ret (lret (IVal.v (Value.int IntKind.i64 (1 : Int))))) (Tree.done Exit.ret (lret (IVal.v (Value.int IntKind.i64 (0 : Int)))))))))) := by kernel_rfl
theorem c79 (a b : Int) : ASpec prog 79 [u8 a, u8 b] (i64 (cmpI a b)) := by
  refine ASpec.tree Proofs.Tryz.f79 (Tcmp u8 a b) (by kernel_rfl) (by kernel_rfl) (t79 a b) ?_
  refine ⟨⟨ILeL.refl _, c99 a⟩, fun _ => ⟨⟨ILeL.refl _, c99 b⟩, fun _ => ?_⟩⟩
  simp only [Tree.sat, i64, cmpI]
  grind
theorem t81 (a b : Int) : levF prog Proofs.Tryz.f81 [i64 a, i64 b] (Tcmp i64 a b) =
  Tree.need (ILeL [i64 a] [i64 a] ∧ ASpec prog 101 [i64 a] (bo false))
  (Tree.need (ILeL [i64 b] [i64 b] ∧ ASpec prog 101 [i64 b] (bo false))
  (Tree.br false (Tree.br false (Tree.done Exit.ret (lret (IVal.v (Value.int IntKind.i64 (0 : Int))))) (Tree.done Exit.ret (lret (IVal.v (Value.int IntKind.i64 (-1 : Int))))))
  (Tree.br false (Tree.done Exit.ret (lret (IVal.v (Value.int IntKind.i64 (1 : Int)))))
  (Tree.br (decide (a < b)) (Tree.done Exit.ret (lret (IVal.v (Value.int IntKind.i64 (-1 : Int)))))
  (Tree.br (decide (b < a)) (Tree.done Exit.ret (lret (IVal.v (Value.int IntKind.i64 (1 : Int))))) (Tree.done Exit.ret (lret (IVal.v (Value.int IntKind.i64 (0 : Int)))))))))) := by kernel_rfl
theorem c81 (a b : Int) : ASpec prog 81 [i64 a, i64 b] (i64 (cmpI a b)) := by
  refine ASpec.tree Proofs.Tryz.f81 (Tcmp i64 a b) (by kernel_rfl) (by kernel_rfl) (t81 a b) ?_
  refine ⟨⟨ILeL.refl _, c101 a⟩, fun _ => ⟨⟨ILeL.refl _, c101 b⟩, fun _ => ?_⟩⟩
  simp only [Tree.sat, i64, cmpI]
  grind
theorem t100 (a b : Int) : levF prog Proofs.Tryz.f100 [u64 a, u64 b] (Tcmp u64 a b) =
  Tree.need (ILeL [u64 a] [u64 a] ∧ ASpec prog 115 [u64 a] (bo false))
  (Tree.need (ILeL [u64 b] [u64 b] ∧ ASpec prog 115 [u64 b] (bo false))
  (Tree.br false (Tree.br false (Tree.done Exit.ret (lret (IVal.v (Value.int IntKind.i64 (0 : Int))))) (Tree.done Exit.ret (lret (IVal.v (Value.int IntKind.i64 (-1 : Int))))))
  (Tree.br false (Tree.done Exit.ret (lret (IVal.v (Value.int IntKind.i64 (1 : Int)))))
  (Tree.br (decide (a < b)) (Tree.done Exit.ret (lret (IVal.v (Value.int IntKind.i64 (-1 : Int)))))
  (Tree.br (decide (b < a)) (Tree.done Exit.ret (lret (IVal.v (Value.int IntKind.i64 (1 : Int))))) (Tree.done Exit.ret (lret (IVal.v (Value.int IntKind.i64 (0 : Int)))))))))) := by kernel_rfl
theorem c100 (a b : Int) : ASpec prog 100 [u64 a, u64 b] (i64 (cmpI a b)) := by
  refine ASpec.tree Proofs.Tryz.f100 (Tcmp u64 a b) (by kernel_rfl) (by kernel_rfl) (t100 a b) ?_
  refine ⟨⟨ILeL.refl _, c115 a⟩, fun _ => ⟨⟨ILeL.refl _, c115 b⟩, fun _ => ?_⟩⟩
  simp only [Tree.sat, i64, cmpI]
  grind
def cmpA (a b : Addr) : Int := if cmpI a.hi b.hi ≠ 0 then cmpI a.hi b.hi else cmpI a.lo b.lo
def T80 (a b : Addr) : Tell := { O := fun r i => match r, i with | 1, 4 => .call [u64 a.hi, u64 b.hi] (i64 (cmpI a.hi b.hi)) | 4, 4 => .call [u64 a.lo, u64 b.lo] (i64 (cmpI a.lo b.lo)) | _, _ => .no }
theorem t80 (a b : Addr) : levF prog Proofs.Tryz.f80 [encA a, encA b] (T80 a b) =
  Tree.need (ILeL [u64 a.hi, u64 b.hi] [u64 a.hi, u64 b.hi] ∧ ASpec prog 100 [u64 a.hi, u64 b.hi] (i64 (cmpI a.hi b.hi)))
  (Tree.br (!decide (cmpI a.hi b.hi = (0 : Int))) (Tree.done Exit.ret (lret (IVal.v (Value.int IntKind.i64 (cmpI a.hi b.hi)))))
  (Tree.need (ILeL [u64 a.lo, u64 b.lo] [u64 a.lo, u64 b.lo] ∧ ASpec prog 100 [u64 a.lo, u64 b.lo] (i64 (cmpI a.lo b.lo))) (Tree.done Exit.ret (lret (IVal.v (Value.int IntKind.i64 (cmpI a.lo b.lo))))))) := by kernel_rfl
theorem c80 (a b : Addr) : ASpec prog 80 [encA a, encA b] (i64 (cmpA a b)) := by
  refine ASpec.tree Proofs.Tryz.f80 (T80 a b) (by kernel_rfl) (by kernel_rfl) (t80 a b) ?_
  refine ⟨⟨ILeL.refl _, c100 _ _⟩, fun _ => ?_⟩
  simp only [Tree.sat, i64, cmpA]
  have := c100 a.lo b.lo
  grind [ILeL.refl, i64]
def orI : List Int → Int
  | [] => 0
  | x :: l => if x ≠ 0 then x else orI l
def sl1 (l : List IVal) : IVal := .sl false false 1 l
def I77 (l : List Int) (i : Nat) : LState := { t := [(8, .imm (i64 i)), (7, .imm (i64 l.length)), (6, .imm (sl1 (l.map i64))), (3, .imm (i64 0))], s := [], m := 18, n := 0 }
def L77 (l : List Int) : Tree := .br (decide (orI l = 0)) (.done (.exit 0) { t := [(3, .imm (i64 0))], s := [], m := 18, n := 0 }) (.done .ret { t := [(2, .imm (i64 (orI l)))], s := [], m := 18, n := 0 })
def T77 (l : List Int) : Tell := { Lp := fun _ => L77 l, lv := fun _ => ([8, 7, 6, 3], []) }
def T77r (l : List Int) (i : Nat) : Tell := { O := fun r j => match r, j with | 4, 0 => .elem (i64 (l.getD i 0)) | _, _ => .no }
def fin77 : Exit → Fin
  | .normal => ⟨[], [8, 7, 6, 3], []⟩
  | .ret => ⟨[], [2], []⟩
  | _ => ⟨[], [3], []⟩
theorem t77r (l : List Int) (i : Nat) : levL prog Proofs.Tryz.f77 3 (I77 l i) (T77r l i) fin77 =
  Tree.br (decide ((↑i : Int) < (↑(List.length l) : Int)))
  (Tree.need ((0 : Int) ≤ (↑i : Int) ∧ (List.map i64 l)[Int.toNat (↑i : Int)]? = some (i64 (List.getD l i (0 : Int))))
  (Tree.br (!decide (List.getD l i (0 : Int) = (0 : Int))) (Tree.done Exit.ret (LState.mk [(2, AVal.imm (i64 (List.getD l i (0 : Int))))] [] 18 9 []))
  (Tree.done Exit.normal
  (LState.mk
  [(8, AVal.imm (IVal.v (Value.int IntKind.i64 (IntKind.wrap IntKind.i64 ((↑i : Int) + (1 : Int)))))), (7, AVal.imm (i64 (↑(List.length l) : Int))), (6, AVal.imm (sl1 (List.map i64 l))),
  (3, AVal.imm (i64 (0 : Int)))]
  [] 18 9 []))))
  (Tree.done (Exit.exit 0) (LState.mk [(3, AVal.imm (i64 (0 : Int)))] [] 18 1 [])) := by kernel_rfl
theorem t77 (l : List Int) : levF prog Proofs.Tryz.f77 [sl1 (l.map i64)] (T77 l) =
  Tree.loop 3
  (LState.mk
  [(8, AVal.imm (IVal.v (Value.int IntKind.i64 (0 : Int)))), (7, AVal.imm (IVal.v (Value.int IntKind.i64 (↑(List.length (List.map i64 l)) : Int)))), (6, AVal.imm (sl1 (List.map i64 l))),
  (3, AVal.imm (IVal.v (Value.int IntKind.i64 (0 : Int))))]
  [] 18 5 [])
  (Tree.br (decide (orI l = (0 : Int))) (Tree.done (Exit.exit 0) (LState.mk [(3, AVal.imm (i64 (0 : Int)))] [] 18 0 []))
  (Tree.done Exit.ret (LState.mk [(2, AVal.imm (i64 (orI l)))] [] 18 0 [])))
  (Tree.br (decide (orI l = (0 : Int))) (Tree.done Exit.ret (lret (IVal.v (Value.int IntKind.i64 (0 : Int))))) (Tree.done Exit.ret (lret (IVal.v (Value.int IntKind.i64 (orI l)))))) := by kernel_rfl
theorem getD_map {α : Type} (f : α → IVal) (l : List α) (i : Nat) (d : α) (h : i < l.length) : (l.map f)[i]? = some (f (l.getD i d)) := by
  simp [List.getElem?_eq_getElem h, List.getD_eq_getElem?_getD]
theorem i64_small {n : Nat} {l : Nat} (h : n < l) (hl : l ≤ 2 ^ 62) : IntKind.i64.wrap ((n : Int) + 1) = ((n + 1 : Nat) : Int) := by
  rw [IntWalk.i64_in _ (by omega)]; omega
theorem orI_drop (l : List Int) (i : Nat) (h : ∀ j, j < i → l.getD j 0 = 0) : orI l = orI (l.drop i) := by
  induction i generalizing l with
  | zero => rfl
  | succ i ih =>
    cases l with
    | nil => rfl
    | cons x l =>
      have h0 : x = 0 := by simpa using h 0 (by omega)
      simp only [orI, h0, ne_eq, not_true_eq_false, if_false, List.drop_succ_cons]
      exact ih l (fun j hj => by simpa using h (j + 1) (by omega))
theorem l77 (l : List Int) (hl : l.length ≤ 2 ^ 62) (σ : LState) (h : LSub σ (I77 l 0)) : LoopOk prog [] (bodyOf Proofs.Tryz.f77) 3 σ (L77 l) := by
  refine LoopOk.of_levL (γ := { i : Nat // i ≤ l.length ∧ ∀ j, j < i → l.getD j 0 = 0 }) (fun g => T77r l g.1) fin77 (fun g => I77 l g.1) (fun g => l.length - g.1) ⟨0, by omega, by omega⟩ (by kernel_rfl) h ?_
  rintro ⟨i, hi, hz⟩
  rw [t77r]
  have hd := orI_drop l i hz
  refine ⟨fun hb => ⟨⟨by omega, ?_⟩, fun _ => ⟨fun hb2 => ?_, fun hb2 => ?_⟩⟩, fun hb => ?_⟩
  · rw [Int.toNat_natCast]; exact getD_map _ _ _ _ (by simpa using hb)
  · have hlt : i < l.length := by simpa using hb
    rw [List.drop_eq_getElem_cons hlt] at hd
    have hx : l.getD i 0 = l[i] := by simp [List.getD_eq_getElem?_getD, List.getElem?_eq_getElem hlt]
    have hne : l[i] ≠ 0 := by rw [← hx]; intro h0; simp only [h0] at hb2; cases hb2
    simp only [orI, hne, ne_eq, not_false_eq_true, if_true] at hd
    simp [Tree.sat, L77, Tree.has, LSub, tsub, ssub, tl, linT, linS, ainB, hd, hne, hx, -List.getD_eq_getElem?_getD]
  · have hlt : i < l.length := by simpa using hb
    have hx : l.getD i 0 = 0 := by simpa using hb2
    refine ⟨⟨i + 1, by omega, fun j hj => ?_⟩, by simp only; omega, ?_⟩
    · by_cases hji : j = i
      · rw [hji]; exact hx
      · exact hz j (by omega)
    · simp [I77, LSub, tsub, ssub, tl, linT, linS, ainB, i64, i64_small hlt hl]
  · have hge : l.length ≤ i := by simpa using hb
    rw [List.drop_eq_nil_of_le hge] at hd
    simp [Tree.sat, L77, Tree.has, LSub, tsub, ssub, tl, linT, linS, ainB, hd, orI]
theorem c77 (l : List Int) (hl : l.length ≤ 2 ^ 62) : ASpec prog 77 [sl1 (l.map i64)] (i64 (orI l)) := by
  refine ASpec.tree Proofs.Tryz.f77 (T77 l) (by kernel_rfl) (by kernel_rfl) (t77 l) ?_
  refine ⟨l77 l hl _ ?_, ?_⟩
  · simp [I77, LSub, tsub, ssub, tl, linT, linS, ainB, i64]
  · refine ⟨fun h => ?_, fun h => rfl⟩
    have h0 : orI l = 0 := by simpa using h
    rw [h0]; rfl
def width (f : Int) : Int := if f = 4 then 32 else if f = 6 then 128 else 0
theorem t102 (f : Int) : levF prog Proofs.Tryz.f102 [u8 f] {} =
  Tree.br (decide (f = (4 : Int))) (Tree.done Exit.ret (lret (IVal.v (Value.int IntKind.i64 (32 : Int)))))
  (Tree.br (decide (f = (6 : Int))) (Tree.done Exit.ret (lret (IVal.v (Value.int IntKind.i64 (128 : Int))))) (Tree.done Exit.ret (lret (IVal.v (Value.int IntKind.i64 (0 : Int)))))) := by kernel_rfl
theorem c102 (f : Int) : ASpec prog 102 [u8 f] (i64 (width f)) := by
  refine ASpec.tree Proofs.Tryz.f102 {} (by kernel_rfl) (by kernel_rfl) (t102 f) ?_
  simp only [Tree.sat, i64, width]; grind
def andA (a b : Addr) : Addr := ⟨ibits .u64 (· &&& ·) a.hi b.hi, ibits .u64 (· &&& ·) a.lo b.lo⟩
theorem t104 (a b : Addr) : levF prog Proofs.Tryz.f104 [encA a, encA b] {} =
  Tree.done Exit.ret (lret (IVal.agg [IVal.v (Value.int IntKind.u64 (ibits IntKind.u64 (fun x1 x2 => x1 &&& x2) a.hi b.hi)), IVal.v (Value.int IntKind.u64 (ibits IntKind.u64 (fun x1 x2 => x1 &&& x2) a.lo b.lo))])) := by kernel_rfl
theorem c104 (a b : Addr) : ASpec prog 104 [encA a, encA b] (encA (andA a b)) := by
  refine ASpec.tree Proofs.Tryz.f104 {} (by kernel_rfl) (by kernel_rfl) (t104 a b) ?_
  rfl
def ckA (f : Int) (a : Addr) : Bool := decide (f = 6) || (decide (f = 4) && decide (a.hi = 0) && decide (a.lo < 4294967296))
theorem t103 (f : Int) (a : Addr) : levF prog Proofs.Tryz.f103 [u8 f, encA a] {} =
  Tree.br (decide (f = (6 : Int))) (Tree.done Exit.ret (lret (IVal.v (Value.bool true))))
  (Tree.br (decide (f = (4 : Int))) (Tree.br (decide (a.hi = (0 : Int))) (Tree.done Exit.ret (lret (IVal.v (Value.bool (decide (a.lo < (4294967296 : Int))))))) (Tree.done Exit.ret (lret (IVal.v (Value.bool false)))))
  (Tree.done Exit.ret (lret (IVal.v (Value.bool false))))) := by kernel_rfl
theorem c103 (f : Int) (a : Addr) : ASpec prog 103 [u8 f, encA a] (bo (ckA f a)) := by
  refine ASpec.tree Proofs.Tryz.f103 {} (by kernel_rfl) (by kernel_rfl) (t103 f a) ?_
  simp only [Tree.sat, bo, ckA]; grind
def ones : Int := 18446744073709551615
def shl64 (a n : Int) : Int := IntKind.u64.wrap (a * 2 ^ (min n.toNat 64))
def maskM (f m : Int) : Addr :=
  if 64 ≤ m then (if f = 4 then ⟨0, ibits .u64 (· &&& ·) 0 4294967295⟩ else ⟨shl64 ones (m - 64), 0⟩) else if f = 4 then ⟨0, ibits .u64 (· &&& ·) (shl64 ones m) 4294967295⟩ else ⟨ones, shl64 ones m⟩
def mask (f n : Int) : Addr := maskM f (width f - n)
def T105 (f : Int) : Tell := { O := fun r i => match r, i with | 1, 1 => .call [u8 f] (i64 (width f)) | _, _ => .no }
theorem t105 (f n : Int) : levF prog Proofs.Tryz.f105 [u8 f, i64 n] (T105 f) =
  Tree.need (ILeL [u8 f] [u8 f] ∧ ASpec prog 102 [u8 f] (i64 (width f)))
  (Tree.br (decide ((64 : Int) ≤ IntKind.wrap IntKind.i64 (width f - n)))
  (Tree.need ((0 : Int) ≤ IntKind.wrap IntKind.i64 (IntKind.wrap IntKind.i64 (width f - n) - (64 : Int)))
  (Tree.br (decide (f = (4 : Int))) (Tree.done Exit.ret (lret (IVal.agg [IVal.v (Value.int IntKind.u64 (0 : Int)), IVal.v (Value.int IntKind.u64 (ibits IntKind.u64 (fun x1 x2 => x1 &&& x2) (0 : Int) (4294967295 : Int)))])))
  (Tree.done Exit.ret
  (lret
  (IVal.agg
  [IVal.v (Value.int IntKind.u64 (IntKind.wrap IntKind.u64 ((18446744073709551615 : Int) * (2 : Int) ^ min (Int.toNat (IntKind.wrap IntKind.i64 (IntKind.wrap IntKind.i64 (width f - n) - (64 : Int)))) 64))),
  IVal.v (Value.int IntKind.u64 (0 : Int))])))))
  (Tree.need ((0 : Int) ≤ IntKind.wrap IntKind.i64 (width f - n))
  (Tree.br (decide (f = (4 : Int)))
  (Tree.done Exit.ret
  (lret
  (IVal.agg
  [IVal.v (Value.int IntKind.u64 (0 : Int)),
  IVal.v
  (Value.int IntKind.u64
  (ibits IntKind.u64 (fun x1 x2 => x1 &&& x2) (IntKind.wrap IntKind.u64 ((18446744073709551615 : Int) * (2 : Int) ^ min (Int.toNat (IntKind.wrap IntKind.i64 (width f - n))) 64)) (4294967295 : Int)))])))
  (Tree.done Exit.ret
  (lret
  (IVal.agg
  [IVal.v (Value.int IntKind.u64 (18446744073709551615 : Int)),
  IVal.v (Value.int IntKind.u64 (IntKind.wrap IntKind.u64 ((18446744073709551615 : Int) * (2 : Int) ^ min (Int.toNat (IntKind.wrap IntKind.i64 (width f - n))) 64)))])))))) := by kernel_rfl
theorem width_le (f : Int) : width f ≤ 128 := by
  unfold width
  by_cases h : f = 4
  · simp [h]
  · by_cases h6 : f = 6 <;> simp [h, h6]
theorem c105 (f n : Int) (h : 0 ≤ n) (h' : n ≤ width f) : ASpec prog 105 [u8 f, i64 n] (encA (mask f n)) := by
  refine ASpec.tree Proofs.Tryz.f105 (T105 f) (by kernel_rfl) (by kernel_rfl) (t105 f n) ?_
  have hw : width f ≤ 128 := width_le f
  have e1 : IntKind.i64.wrap (width f - n) = width f - n := IntWalk.i64_in _ (by omega)
  refine ⟨⟨ILeL.refl _, c102 f⟩, fun _ => ?_⟩
  rw [e1]
  refine ⟨fun hb => ?_, fun hb => ?_⟩
  · have hb : 64 ≤ width f - n := by simpa using hb
    have e2 : IntKind.i64.wrap (width f - n - 64) = width f - n - 64 := IntWalk.i64_in _ (by omega)
    rw [e2]
    refine ⟨by omega, fun _ => ⟨fun h4 => ?_, fun h4 => ?_⟩⟩
    · have hm : mask f n = ⟨0, ibits .u64 (· &&& ·) 0 4294967295⟩ := by unfold mask maskM; rw [if_pos hb, if_pos (by simpa using h4)]
      rw [hm]; rfl
    · have hm : mask f n = ⟨shl64 ones (width f - n - 64), 0⟩ := by unfold mask maskM; rw [if_pos hb, if_neg (by simpa using h4)]
      rw [hm]; rfl
  · have hb : ¬ 64 ≤ width f - n := by simpa using hb
    refine ⟨by omega, fun _ => ⟨fun h4 => ?_, fun h4 => ?_⟩⟩
    · have hm : mask f n = ⟨0, ibits .u64 (· &&& ·) (shl64 ones (width f - n)) 4294967295⟩ := by unfold mask maskM; rw [if_neg hb, if_pos (by simpa using h4)]
      rw [hm]; rfl
    · have hm : mask f n = ⟨ones, shl64 ones (width f - n)⟩ := by unfold mask maskM; rw [if_neg hb, if_neg (by simpa using h4)]
      rw [hm]; rfl
def ckP (p : Pfx) : Int :=
  if width p.fam = 0 then 2 else if ckA p.fam p.addr = true ∧ 0 ≤ p.len ∧ p.len ≤ width p.fam ∧ andA p.addr (mask p.fam p.len) = p.addr then 0 else 8
def T82 (p : Pfx) : Tell := { O := fun r i => match r, i with
  | 1, 2 => .call [u8 p.fam] (i64 (width p.fam)) | 3, 4 => .call [u8 p.fam, encA p.addr] (bo (ckA p.fam p.addr)) | 3, 16 => .call [u8 p.fam] (i64 (width p.fam)) | 3, 26 => .call [u8 p.fam, i64 p.len] (encA (mask p.fam p.len))
  | 3, 27 => .call [encA p.addr, encA (mask p.fam p.len)] (encA (andA p.addr (mask p.fam p.len))) | _, _ => .no }
theorem t82 (p : Pfx) : levF prog Proofs.Tryz.f82 [encP p] (T82 p) =
  Tree.need (ILeL [u8 p.fam] [u8 p.fam] ∧ ASpec prog 102 [u8 p.fam] (i64 (width p.fam)))
  (Tree.br (decide (width p.fam = (0 : Int))) (Tree.done Exit.ret (lret (IVal.v (Value.int IntKind.i64 (2 : Int)))))
  (Tree.need (ILeL [u8 p.fam, IVal.agg [u64 p.addr.hi, u64 p.addr.lo]] [u8 p.fam, encA p.addr] ∧ ASpec prog 103 [u8 p.fam, encA p.addr] (bo (ckA p.fam p.addr)))
  (Tree.br (!ckA p.fam p.addr) (Tree.done Exit.ret (lret (IVal.v (Value.int IntKind.i64 (8 : Int)))))
  (Tree.br (decide (p.len < (0 : Int))) (Tree.done Exit.ret (lret (IVal.v (Value.int IntKind.i64 (8 : Int)))))
  (Tree.need (ILeL [u8 p.fam] [u8 p.fam] ∧ ASpec prog 102 [u8 p.fam] (i64 (width p.fam)))
  (Tree.br (decide (width p.fam < p.len)) (Tree.done Exit.ret (lret (IVal.v (Value.int IntKind.i64 (8 : Int)))))
  (Tree.need (ILeL [u8 p.fam, i64 p.len] [u8 p.fam, i64 p.len] ∧ ASpec prog 105 [u8 p.fam, i64 p.len] (encA (mask p.fam p.len)))
  (Tree.need
  (ILeL [IVal.agg [u64 p.addr.hi, u64 p.addr.lo], encA (mask p.fam p.len)] [encA p.addr, encA (mask p.fam p.len)] ∧ ASpec prog 104 [encA p.addr, encA (mask p.fam p.len)] (encA (andA p.addr (mask p.fam p.len))))
  (Tree.br
  (if BinOp.neq = BinOp.neq then !(decide ((andA p.addr (mask p.fam p.len)).hi = p.addr.hi) && (decide ((andA p.addr (mask p.fam p.len)).lo = p.addr.lo) && true))
  else decide ((andA p.addr (mask p.fam p.len)).hi = p.addr.hi) && (decide ((andA p.addr (mask p.fam p.len)).lo = p.addr.lo) && true))
  (Tree.done Exit.ret (lret (IVal.v (Value.int IntKind.i64 (8 : Int))))) (Tree.done Exit.ret (lret (IVal.v (Value.int IntKind.i64 (0 : Int)))))))))))))) := by kernel_rfl
def cmpO (a b : Origin) : Int := orI [cmpI a.asn b.asn, cmpI a.pfx.fam b.pfx.fam, cmpA a.pfx.addr b.pfx.addr, cmpI a.pfx.len b.pfx.len, cmpI a.max b.max]
def T48 (a b : Origin) : Tell := { O := fun r i => match r, i with
  | 1, 4 => .call [u32 a.asn, u32 b.asn] (i64 (cmpI a.asn b.asn)) | 1, 11 => .call [u8 a.pfx.fam, u8 b.pfx.fam] (i64 (cmpI a.pfx.fam b.pfx.fam)) | 1, 18 => .call [encA a.pfx.addr, encA b.pfx.addr] (i64 (cmpA a.pfx.addr b.pfx.addr))
  | 1, 25 => .call [i64 a.pfx.len, i64 b.pfx.len] (i64 (cmpI a.pfx.len b.pfx.len)) | 1, 30 => .call [i64 a.max, i64 b.max] (i64 (cmpI a.max b.max))
  | 1, 32 => .call [sl1 ([cmpI a.asn b.asn, cmpI a.pfx.fam b.pfx.fam, cmpA a.pfx.addr b.pfx.addr, cmpI a.pfx.len b.pfx.len, cmpI a.max b.max].map i64)] (i64 (cmpO a b)) | _, _ => .no }
theorem t48 (a b : Origin) : levF prog Proofs.Tryz.f48 [encO a, encO b] (T48 a b) =
  Tree.need (ILeL [u32 a.asn, u32 b.asn] [u32 a.asn, u32 b.asn] ∧ ASpec prog 78 [u32 a.asn, u32 b.asn] (i64 (cmpI a.asn b.asn)))
  (Tree.need (ILeL [u8 a.pfx.fam, u8 b.pfx.fam] [u8 a.pfx.fam, u8 b.pfx.fam] ∧ ASpec prog 79 [u8 a.pfx.fam, u8 b.pfx.fam] (i64 (cmpI a.pfx.fam b.pfx.fam)))
  (Tree.need
  (ILeL [IVal.agg [u64 a.pfx.addr.hi, u64 a.pfx.addr.lo], IVal.agg [u64 b.pfx.addr.hi, u64 b.pfx.addr.lo]] [encA a.pfx.addr, encA b.pfx.addr] ∧ ASpec prog 80 [encA a.pfx.addr, encA b.pfx.addr] (i64 (cmpA a.pfx.addr b.pfx.addr)))
  (Tree.need (ILeL [i64 a.pfx.len, i64 b.pfx.len] [i64 a.pfx.len, i64 b.pfx.len] ∧ ASpec prog 81 [i64 a.pfx.len, i64 b.pfx.len] (i64 (cmpI a.pfx.len b.pfx.len)))
  (Tree.need (ILeL [i64 a.max, i64 b.max] [i64 a.max, i64 b.max] ∧ ASpec prog 81 [i64 a.max, i64 b.max] (i64 (cmpI a.max b.max)))
  (Tree.need
  (ILeL [IVal.sl false false 1 [i64 (cmpI a.asn b.asn), i64 (cmpI a.pfx.fam b.pfx.fam), i64 (cmpA a.pfx.addr b.pfx.addr), i64 (cmpI a.pfx.len b.pfx.len), i64 (cmpI a.max b.max)]]
  [sl1 [i64 (cmpI a.asn b.asn), i64 (cmpI a.pfx.fam b.pfx.fam), i64 (cmpA a.pfx.addr b.pfx.addr), i64 (cmpI a.pfx.len b.pfx.len), i64 (cmpI a.max b.max)]] ∧
  ASpec prog 77 [sl1 [i64 (cmpI a.asn b.asn), i64 (cmpI a.pfx.fam b.pfx.fam), i64 (cmpA a.pfx.addr b.pfx.addr), i64 (cmpI a.pfx.len b.pfx.len), i64 (cmpI a.max b.max)]] (i64 (cmpO a b)) ∧ true = true)
  (Tree.done Exit.ret (lret (IVal.v (Value.int IntKind.i64 (cmpO a b)))))))))) := by kernel_rfl
theorem c82 (p : Pfx) : ASpec prog 82 [encP p] (i64 (ckP p)) := by
  refine ASpec.tree Proofs.Tryz.f82 (T82 p) (by kernel_rfl) (by kernel_rfl) (t82 p) ?_
  refine ⟨⟨ILeL.refl _, c102 _⟩, fun _ => ⟨fun h1 => ?_, fun h1 => ⟨⟨ILeL.refl _, c103 _ _⟩, fun _ => ⟨fun h2 => ?_, fun h2 => ⟨fun h3 => ?_, fun h3 => ⟨⟨ILeL.refl _, c102 _⟩, fun _ => ⟨fun h4 => ?_, fun h4 => ?_⟩⟩⟩⟩⟩⟩⟩
  · simp at h1; simp [Tree.sat, ckP, h1, i64]
  · simp at h1 h2; simp [Tree.sat, ckP, h1, h2, i64]
  · simp at h1 h2 h3; simp [Tree.sat, ckP, h1, i64]; grind
  · simp at h1 h2 h3 h4; simp [Tree.sat, ckP, h1, i64]; grind
  · simp at h1 h2 h3 h4
    refine ⟨⟨ILeL.refl _, c105 _ _ h3 h4⟩, fun _ => ⟨⟨ILeL.refl _, c104 _ _⟩, fun _ => ?_⟩⟩
    have : ∀ a b : Addr, a = b ↔ a.hi = b.hi ∧ a.lo = b.lo := by intro a b; cases a; cases b; simp
    simp [Tree.sat, ckP, h1, h2, h3, h4, i64, this]
    grind
theorem c48 (a b : Origin) : ASpec prog 48 [encO a, encO b] (i64 (cmpO a b)) := by
  refine ASpec.tree Proofs.Tryz.f48 (T48 a b) (by kernel_rfl) (by kernel_rfl) (t48 a b) ?_
  refine ⟨⟨ILeL.refl _, c78 _ _⟩, fun _ => ⟨⟨ILeL.refl _, c79 _ _⟩, fun _ => ⟨⟨ILeL.refl _, c80 _ _⟩, fun _ => ⟨⟨ILeL.refl _, c81 _ _⟩, fun _ => ⟨⟨ILeL.refl _, c81 _ _⟩, fun _ => ⟨⟨ILeL.refl _, c77 [cmpI a.asn b.asn, cmpI a.pfx.fam b.pfx.fam, cmpA a.pfx.addr b.pfx.addr, cmpI a.pfx.len b.pfx.len, cmpI a.max b.max] (by simp), rfl⟩, fun _ => rfl⟩⟩⟩⟩⟩⟩
def lu32 (l : List Int) : IVal := sl1 (l.map u32)
def encT (a : Attest) : IVal := .agg [u32 a.cust, lu32 a.provs]
def isAt (l : List Int) (x : Int) (i : Nat) : Bool := decide (x = l.getD i 0)
def I116 (l : List Int) (x : Int) (i : Nat) : LState := { t := [(8, .imm (i64 i)), (7, .imm (i64 l.length)), (0, .imm (lu32 l)), (1, .imm (u32 x))], s := [], m := 19, n := 0 }
def R116 (i : Nat) : LState := { t := [(4, .imm (i64 i))], s := [], m := 19, n := 0 }
def E116 : LState := { t := [], s := [], m := 19, n := 0 }
def T116 (l : List Int) (x : Int) : Tell := { Lp := fun _ => Lfirst (isAt l x) l.length 0 R116 E116, lv := fun _ => ([8, 7, 0, 1], []) }
def T116r (l : List Int) (i : Nat) : Tell := { O := fun r j => match r, j with | 4, 3 => .elem (u32 (l.getD i 0)) | _, _ => .no }
def fin116 : Exit → Fin
  | .normal => ⟨[], [8, 7, 0, 1], []⟩
  | .ret => ⟨[], [4], []⟩
  | _ => ⟨[], [], []⟩
theorem t116r (l : List Int) (x : Int) (i : Nat) : levL prog Proofs.Tryz.f116 2 (I116 l x i) (T116r l i) fin116 =
  Tree.br (decide ((↑i : Int) < (↑(List.length l) : Int)))
  (Tree.need ((0 : Int) ≤ (↑i : Int) ∧ (List.map u32 l)[Int.toNat (↑i : Int)]? = some (u32 (List.getD l i (0 : Int))))
  (Tree.br (decide (x = List.getD l i (0 : Int))) (Tree.done Exit.ret (LState.mk [(4, AVal.imm (i64 (↑i : Int)))] [] 19 11 []))
  (Tree.done Exit.normal
  (LState.mk
  [(8, AVal.imm (IVal.v (Value.int IntKind.i64 (IntKind.wrap IntKind.i64 ((↑i : Int) + (1 : Int)))))), (7, AVal.imm (i64 (↑(List.length l) : Int))), (0, AVal.imm (lu32 l)), (1, AVal.imm (u32 x))] []
  19 11 []))))
  (Tree.done (Exit.exit 0) (LState.mk [] [] 19 1 [])) := by kernel_rfl
theorem t116 (l : List Int) (x : Int) : levF prog Proofs.Tryz.f116 [lu32 l, u32 x] (T116 l x) =
  Tree.loop 2
  (LState.mk [(8, AVal.imm (IVal.v (Value.int IntKind.i64 (0 : Int)))), (7, AVal.imm (IVal.v (Value.int IntKind.i64 (↑(List.length (List.map u32 l)) : Int)))), (0, AVal.imm (lu32 l)), (1, AVal.imm (u32 x))]
  [] 19 4 [])
  (Tree.br (anyI (isAt l x) 0 (List.length l)) (Tree.done Exit.ret (R116 (firstI (isAt l x) 0 (List.length l)))) (Tree.done (Exit.exit 0) E116))
  (Tree.br (anyI (isAt l x) 0 (List.length l)) (Tree.done Exit.ret (lret (IVal.v (Value.int IntKind.i64 (↑(firstI (isAt l x) 0 (List.length l)) : Int)))))
  (Tree.done Exit.ret (lret (IVal.v (Value.int IntKind.i64 (-1 : Int)))))) := by kernel_rfl
def indexI (l : List Int) (x : Int) : Int := if anyI (isAt l x) 0 l.length = true then firstI (isAt l x) 0 l.length else -1
theorem l116 (l : List Int) (x : Int) (hl : l.length ≤ 2 ^ 62) (σ : LState) (h : LSub σ (I116 l x 0)) : LoopOk prog [] (bodyOf Proofs.Tryz.f116) 2 σ (Lfirst (isAt l x) l.length 0 R116 E116) := by
  refine LoopOk.first (isAt l x) l.length 0 (I116 l x) R116 E116 (T116r l) fin116 (by kernel_rfl) h fun i hi hz => ?_
  rw [t116r]
  refine ⟨fun hb => ?_, fun hb => ?_⟩
  · have hlt : i < l.length := by simpa using hb
    refine ⟨⟨by omega, by rw [Int.toNat_natCast]; exact getD_map _ _ _ _ hlt⟩, fun _ => ⟨fun hb2 => ?_, fun hb2 => ?_⟩⟩
    · exact ⟨hlt, hb2, by simp [R116, LSub, tsub, ssub, tl, linT, linS, ainB]⟩
    · exact ⟨hlt, hb2, by simp [I116, LSub, tsub, ssub, tl, linT, linS, ainB, i64, i64_small hlt hl]⟩
  · have hge : l.length ≤ i := by simpa using hb
    exact ⟨rfl, hge, by simp [E116, LSub, tsub, ssub, linT, linS]⟩
theorem c116 (l : List Int) (x : Int) (hl : l.length ≤ 2 ^ 62) : ASpec prog 116 [lu32 l, u32 x] (i64 (indexI l x)) := by
  refine ASpec.tree Proofs.Tryz.f116 (T116 l x) (by kernel_rfl) (by kernel_rfl) (t116 l x) ?_
  refine ⟨l116 l x hl _ ?_, ?_⟩
  · simp [I116, LSub, tsub, ssub, tl, linT, linS, ainB, i64, lu32]
  · simp only [Tree.sat, indexI]
    grind [i64]
theorem index_iff (l : List Int) (x : Int) : (0 ≤ indexI l x) ↔ x ∈ l := by
  unfold indexI
  split
  · rename_i h
    refine ⟨fun _ => ?_, fun _ => by omega⟩
    obtain ⟨i, hi, hp⟩ := anyI_iff.1 h
    simp only [isAt, decide_eq_true_eq, List.getD_eq_getElem?_getD, List.getElem?_eq_getElem hi, Option.getD_some] at hp
    rw [hp]; exact List.getElem_mem hi
  · rename_i h
    refine ⟨fun h => by omega, fun hm => ?_⟩
    obtain ⟨i, hi, hx⟩ := List.mem_iff_getElem.1 hm
    exact absurd (anyI_iff.2 ⟨i, hi, by simp [isAt, List.getD_eq_getElem?_getD, List.getElem?_eq_getElem hi, hx]⟩) h
def T106 (l : List Int) (x : Int) : Tell := { O := fun r j => match r, j with | 1, 2 => .call [lu32 l, u32 x] (i64 (indexI l x)) | _, _ => .no }
theorem t106 (l : List Int) (x : Int) : levF prog Proofs.Tryz.f106 [lu32 l, u32 x] (T106 l x) =
  Tree.need (ILeL [lu32 l, u32 x] [lu32 l, u32 x] ∧ ASpec prog 116 [lu32 l, u32 x] (i64 (indexI l x))) (Tree.done Exit.ret (lret (IVal.v (Value.bool (decide ((0 : Int) ≤ indexI l x)))))) := by kernel_rfl
theorem c106 (l : List Int) (x : Int) (hl : l.length ≤ 2 ^ 62) : ASpec prog 106 [lu32 l, u32 x] (bo (decide (x ∈ l))) := by
  refine ASpec.tree Proofs.Tryz.f106 (T106 l x) (by kernel_rfl) (by kernel_rfl) (t106 l x) ?_
  refine ⟨⟨ILeL.refl _, c116 l x hl⟩, fun _ => ?_⟩
  simp only [Tree.sat, bo]
  refine lret_inj ?_
  simp [index_iff]
def strict (l : List Int) : Nat → Bool
  | 0 => true
  | i + 1 => strict l i && decide (l.getD i 0 < l.getD (i + 1) 0)
def b83 (a : Attest) : Bool := decide (0 < a.cust) && decide (0 < (a.provs.length : Int)) && !decide (a.cust ∈ a.provs)
def d83 (a : Attest) : Bool := b83 a && (decide ((a.provs.length : Int) = 1) || decide (0 < a.provs.getD 0 0))
def I83 (a : Attest) (i : Nat) : LState := { t := [(4, .imm (i64 (i + 1 : Nat))), (3, .imm (bo (d83 a && strict a.provs i))), (1, .ptr 0 0)], s := [(0, .box 112 (.imm (encT a)))], m := 64, n := 1 }
def E83 (a : Attest) : LState := { t := [(3, .imm (bo (d83 a && strict a.provs (a.provs.length - 1))))], s := [], m := 64, n := 1 }
def T83 (a : Attest) : Tell := { O := fun r j => match r, j with | 3, 14 => .call [lu32 a.provs, u32 a.cust] (bo (decide (a.cust ∈ a.provs))) | 4, 9 => .elem (u32 (a.provs.getD 0 0)) | _, _ => .no, Lp := fun _ => .done (.exit 0) (E83 a), lv := fun _ => ([4, 3, 1], [0]) }
def T83r (a : Attest) (i : Nat) : Tell := { O := fun r j => match r, j with | 8, 6 => .elem (u32 (a.provs.getD i 0)) | 8, 11 => .elem (u32 (a.provs.getD (i + 1) 0)) | _, _ => .no }
def fin83 : Exit → Fin
  | .normal => ⟨[], [4, 3, 1], [0]⟩
  | _ => ⟨[], [3], []⟩
theorem t83r (a : Attest) (i : Nat) : levL prog Proofs.Tryz.f83 6 (I83 a i) (T83r a i) fin83 =
  Tree.br (decide ((↑(i + 1) : Int) < (↑(List.length (List.map u32 a.provs)) : Int)))
  (Tree.br (d83 a && strict a.provs i)
  (Tree.need ((0 : Int) ≤ IntKind.wrap IntKind.i64 ((↑(i + 1) : Int) - (1 : Int)) ∧ (List.map u32 a.provs)[Int.toNat (IntKind.wrap IntKind.i64 ((↑(i + 1) : Int) - (1 : Int)))]? = some (u32 (List.getD a.provs i (0 : Int))))
  (Tree.need ((0 : Int) ≤ (↑(i + 1) : Int) ∧ (List.map u32 a.provs)[Int.toNat (↑(i + 1) : Int)]? = some (u32 (List.getD a.provs (i + 1) (0 : Int))))
  (Tree.done Exit.normal
  (LState.mk
  [(4, AVal.imm (IVal.v (Value.int IntKind.i64 (IntKind.wrap IntKind.i64 ((↑(i + 1) : Int) + (1 : Int)))))),
  (3, AVal.imm (IVal.v (Value.bool (decide (List.getD a.provs i (0 : Int) < List.getD a.provs (i + 1) (0 : Int)))))), (1, AVal.ptr 0 0)]
  [(0, Entry.box 112 (AVal.imm (encT a)))] 64 25 []))))
  (Tree.done Exit.normal
  (LState.mk [(4, AVal.imm (IVal.v (Value.int IntKind.i64 (IntKind.wrap IntKind.i64 ((↑(i + 1) : Int) + (1 : Int)))))), (3, AVal.imm (IVal.v (Value.bool false))), (1, AVal.ptr 0 0)]
  [(0, Entry.box 112 (AVal.imm (encT a)))] 64 25 [])))
  (Tree.done (Exit.exit 0) (LState.mk [(3, AVal.imm (bo (d83 a && strict a.provs i)))] [] 64 6 [])) := by kernel_rfl
theorem t83 (a : Attest) : levF prog Proofs.Tryz.f83 [encT a] (T83 a) =
  Tree.br (decide ((50 : Int) < (↑(List.length (List.map u32 a.provs)) : Int))) (Tree.done Exit.ret (lret (IVal.v (Value.int IntKind.i64 (4 : Int)))))
  (Tree.br (decide ((0 : Int) < a.cust))
  (Tree.br (decide ((0 : Int) < (↑(List.length (List.map u32 a.provs)) : Int)))
  (Tree.need (ILeL [lu32 a.provs, u32 a.cust] [lu32 a.provs, u32 a.cust] ∧ ASpec prog 106 [lu32 a.provs, u32 a.cust] (bo (decide (a.cust ∈ a.provs))))
  (Tree.br (!decide (a.cust ∈ a.provs))
  (Tree.br (decide ((↑(List.length (List.map u32 a.provs)) : Int) = (1 : Int)))
  (Tree.loop 6
  (LState.mk [(4, AVal.imm (IVal.v (Value.int IntKind.i64 (1 : Int)))), (3, AVal.imm (IVal.v (Value.bool true))), (1, AVal.ptr 0 0)]
  [(0, Entry.box 112 (AVal.imm (encT a)))] 64 40 [])
  (Tree.done (Exit.exit 0) (E83 a))
  (Tree.br (!(d83 a && strict a.provs (List.length a.provs - 1))) (Tree.done Exit.ret (lret (IVal.v (Value.int IntKind.i64 (8 : Int))))) (Tree.done Exit.ret (lret (IVal.v (Value.int IntKind.i64 (0 : Int)))))))
  (Tree.need ((0 : Int) ≤ (0 : Int) ∧ (List.map u32 a.provs)[0]? = some (u32 (List.getD a.provs 0 (0 : Int))))
  (Tree.loop 6
  (LState.mk
  [(4, AVal.imm (IVal.v (Value.int IntKind.i64 (1 : Int)))), (3, AVal.imm (IVal.v (Value.bool (decide ((0 : Int) < List.getD a.provs 0 (0 : Int)))))), (1, AVal.ptr 0 0)]
  [(0, Entry.box 112 (AVal.imm (encT a)))] 64 40 [])
  (Tree.done (Exit.exit 0) (E83 a))
  (Tree.br (!(d83 a && strict a.provs (List.length a.provs - 1))) (Tree.done Exit.ret (lret (IVal.v (Value.int IntKind.i64 (8 : Int))))) (Tree.done Exit.ret (lret (IVal.v (Value.int IntKind.i64 (0 : Int)))))))))
  (Tree.loop 6
  (LState.mk [(4, AVal.imm (IVal.v (Value.int IntKind.i64 (1 : Int)))), (3, AVal.imm (IVal.v (Value.bool false))), (1, AVal.ptr 0 0)] [(0, Entry.box 112 (AVal.imm (encT a)))]
  64 40 [])
  (Tree.done (Exit.exit 0) (E83 a))
  (Tree.br (!(d83 a && strict a.provs (List.length a.provs - 1))) (Tree.done Exit.ret (lret (IVal.v (Value.int IntKind.i64 (8 : Int))))) (Tree.done Exit.ret (lret (IVal.v (Value.int IntKind.i64 (0 : Int)))))))))
  (Tree.loop 6
  (LState.mk [(4, AVal.imm (IVal.v (Value.int IntKind.i64 (1 : Int)))), (3, AVal.imm (IVal.v (Value.bool false))), (1, AVal.ptr 0 0)] [(0, Entry.box 112 (AVal.imm (encT a)))]
  64 40 [])
  (Tree.done (Exit.exit 0) (E83 a))
  (Tree.br (!(d83 a && strict a.provs (List.length a.provs - 1))) (Tree.done Exit.ret (lret (IVal.v (Value.int IntKind.i64 (8 : Int))))) (Tree.done Exit.ret (lret (IVal.v (Value.int IntKind.i64 (0 : Int))))))))
  (Tree.loop 6
  (LState.mk [(4, AVal.imm (IVal.v (Value.int IntKind.i64 (1 : Int)))), (3, AVal.imm (IVal.v (Value.bool false))), (1, AVal.ptr 0 0)] [(0, Entry.box 112 (AVal.imm (encT a)))]
  64 40 [])
  (Tree.done (Exit.exit 0) (E83 a))
  (Tree.br (!(d83 a && strict a.provs (List.length a.provs - 1))) (Tree.done Exit.ret (lret (IVal.v (Value.int IntKind.i64 (8 : Int))))) (Tree.done Exit.ret (lret (IVal.v (Value.int IntKind.i64 (0 : Int)))))))) := by kernel_rfl
theorem l83 (a : Attest) (hl : a.provs.length ≤ 2 ^ 62) (σ : LState) (h : LSub σ (I83 a 0)) : LoopOk prog [] (bodyOf Proofs.Tryz.f83) 6 σ (.done (.exit 0) (E83 a)) := by
  refine LoopOk.of_levL (γ := { i : Nat // i ≤ a.provs.length - 1 }) (fun g => T83r a g.1) fin83 (fun g => I83 a g.1) (fun g => a.provs.length - g.1) ⟨0, by omega⟩ (by kernel_rfl) h ?_
  rintro ⟨i, hi⟩
  rw [t83r]
  refine ⟨fun hb => ?_, fun hb => ?_⟩
  · have hlt : i + 1 < a.provs.length := by simp at hb; omega
    have e2 : IntKind.i64.wrap ((i : Int) + 1 + 1) = (i : Int) + 1 + 1 := IntWalk.i64_in _ (by omega)
    have e1 : IntKind.i64.wrap (((i + 1 : Nat) : Int) - 1) = (i : Int) := by rw [IntWalk.i64_in _ (by omega)]; omega
    refine ⟨fun hc => ⟨⟨?_, ?_⟩, fun _ => ⟨⟨by omega, ?_⟩, fun _ => ?_⟩⟩, fun hc => ?_⟩
    · simp only [e1]; omega
    · simp only [e1, Int.toNat_natCast]; exact getD_map _ _ _ _ (by omega)
    · rw [Int.toNat_natCast]; exact getD_map _ _ _ _ hlt
    · refine ⟨⟨i + 1, by omega⟩, by simp only; omega, ?_⟩
      simp only at hc
      simp [I83, LSub, tsub, ssub, tl, sl, linT, linS, ainB, i64, bo, e2, strict, -List.getD_eq_getElem?_getD]
      simp at hc
      simp [hc]
    · refine ⟨⟨i + 1, by omega⟩, by simp only; omega, ?_⟩
      simp only at hc
      simp [I83, LSub, tsub, ssub, tl, sl, linT, linS, ainB, i64, bo, e2, strict, -List.getD_eq_getElem?_getD]
      cases hd : d83 a <;> simp_all
  · have hge : i = a.provs.length - 1 := by simp at hb; omega
    subst hge
    exact ⟨rfl, by simp [E83, LSub, tsub, ssub, tl, linT, linS, ainB]⟩
def ckPr (a : Attest) : Int := if 50 < a.provs.length then 4 else if (d83 a && strict a.provs (a.provs.length - 1)) = true then 0 else 8
theorem c83 (a : Attest) : ASpec prog 83 [encT a] (i64 (ckPr a)) := by
  refine ASpec.tree Proofs.Tryz.f83 (T83 a) (by kernel_rfl) (by kernel_rfl) (t83 a) ?_
  refine ⟨fun h => ?_, fun h => ?_⟩
  · have : 50 < a.provs.length := by simp at h; omega
    simp [Tree.sat, ckPr, this, i64]
  · have hle : a.provs.length ≤ 50 := by simp at h; omega
    have hl : a.provs.length ≤ 2 ^ 62 := by omega
    have fin : ∀ s : LState, s.t = [(4, .imm (i64 1)), (3, .imm (bo (d83 a))), (1, .ptr 0 0)] → s.s = [(0, .box 112 (.imm (encT a)))] → s.m = 64 → LoopOk prog [] (bodyOf Proofs.Tryz.f83) 6 s (.done (.exit 0) (E83 a)) := by
      intro s h1 h2 h3
      refine l83 a hl s ?_
      simp [I83, LSub, tsub, ssub, tl, sl, linT, linS, ainB, h1, h2, h3, strict]
    have last : (Tree.br (!(d83 a && strict a.provs (a.provs.length - 1))) (Tree.done Exit.ret (lret (IVal.v (Value.int IntKind.i64 8)))) (Tree.done Exit.ret (lret (IVal.v (Value.int IntKind.i64 0))))).sat (LoopOk prog [] (bodyOf Proofs.Tryz.f83)) (fun _ s => s = lret (i64 (ckPr a))) := by
      have hn : ¬ 50 < a.provs.length := by omega
      cases hh : (d83 a && strict a.provs (a.provs.length - 1)) with
      | false => exact ⟨fun _ => (by simp only [Tree.sat, ckPr, if_neg hn, hh]; rfl), fun hx => by cases hx⟩
      | true => exact ⟨fun hx => (by cases hx), fun _ => by simp only [Tree.sat, ckPr, if_neg hn, hh]; rfl⟩
    refine ⟨fun h1 => ⟨fun h2 => ⟨⟨ILeL.refl _, c106 _ _ hl⟩, fun _ => ⟨fun h3 => ⟨fun h4 => ⟨fin _ ?_ rfl rfl, last⟩, fun h4 => ⟨⟨by decide, ?_⟩, fun _ => ⟨fin _ ?_ rfl rfl, last⟩⟩⟩, fun h3 => ⟨fin _ ?_ rfl rfl, last⟩⟩⟩, fun h2 => ⟨fin _ ?_ rfl rfl, last⟩⟩, fun h1 => ⟨fin _ ?_ rfl rfl, last⟩⟩
    · have : d83 a = true := by simp [d83, b83] at *; grind
      rw [this]; rfl
    · exact getD_map _ _ _ _ (by simp at h2; omega)
    · have : d83 a = decide (0 < a.provs.getD 0 0) := by simp [d83, b83] at *; grind
      rw [this]; rfl
    · have : d83 a = false := by simp [d83, b83] at *; grind
      rw [this]; rfl
    · have : d83 a = false := by simp [d83, b83] at *; grind
      rw [this]; rfl
    · have : d83 a = false := by simp [d83, b83] at *; grind
      rw [this]; rfl
end Gp
namespace Gp
structure RKey where
  asn : Int
  root : Vector Int 16
  height : Int
  deriving DecidableEq, Inhabited
def rootL (k : RKey) : List Int := [k.root[0], k.root[1], k.root[2], k.root[3], k.root[4], k.root[5], k.root[6], k.root[7], k.root[8], k.root[9], k.root[10], k.root[11], k.root[12], k.root[13], k.root[14], k.root[15]]
def encK (k : RKey) : IVal := .agg [u32 k.asn, u8 k.root[0], u8 k.root[1], u8 k.root[2], u8 k.root[3], u8 k.root[4], u8 k.root[5], u8 k.root[6], u8 k.root[7], u8 k.root[8], u8 k.root[9], u8 k.root[10], u8 k.root[11], u8 k.root[12], u8 k.root[13], u8 k.root[14], u8 k.root[15], i64 k.height]
def goodO (o : Origin) : Bool := decide (ckP o.pfx = 0) && decide (o.pfx.len ≤ o.max) && decide (o.max ≤ if o.pfx.fam = 6 then 128 else 32)
def T49 (o : Origin) : Tell := { O := fun r i => match r, i with | 4, 2 => .call [encP o.pfx] (i64 (ckP o.pfx)) | _, _ => .no }
theorem t49 (o : Origin) : levF prog Proofs.Tryz.f49 [encO o] (T49 o) =
  Tree.br (decide (o.pfx.fam = (6 : Int)))
  (Tree.need (ILeL [IVal.agg [u8 o.pfx.fam, u64 o.pfx.addr.hi, u64 o.pfx.addr.lo, i64 o.pfx.len]] [encP o.pfx] ∧ ASpec prog 82 [encP o.pfx] (i64 (ckP o.pfx)))
  (Tree.br (decide (ckP o.pfx = (0 : Int))) (Tree.br (decide (o.pfx.len ≤ o.max)) (Tree.done Exit.ret (lret (IVal.v (Value.bool (decide (o.max ≤ (128 : Int))))))) (Tree.done Exit.ret (lret (IVal.v (Value.bool false)))))
  (Tree.done Exit.ret (lret (IVal.v (Value.bool false))))))
  (Tree.need (ILeL [IVal.agg [u8 o.pfx.fam, u64 o.pfx.addr.hi, u64 o.pfx.addr.lo, i64 o.pfx.len]] [encP o.pfx] ∧ ASpec prog 82 [encP o.pfx] (i64 (ckP o.pfx)))
  (Tree.br (decide (ckP o.pfx = (0 : Int))) (Tree.br (decide (o.pfx.len ≤ o.max)) (Tree.done Exit.ret (lret (IVal.v (Value.bool (decide (o.max ≤ (32 : Int))))))) (Tree.done Exit.ret (lret (IVal.v (Value.bool false)))))
  (Tree.done Exit.ret (lret (IVal.v (Value.bool false)))))) := by kernel_rfl
def T51 (a b : Attest) : Tell := { O := fun r i => match r, i with | 1, 4 => .call [u32 a.cust, u32 b.cust] (i64 (cmpI a.cust b.cust)) | _, _ => .no }
theorem t51 (a b : Attest) : levF prog Proofs.Tryz.f51 [encT a, encT b] (T51 a b) =
  Tree.need (ILeL [u32 a.cust, u32 b.cust] [u32 a.cust, u32 b.cust] ∧ ASpec prog 78 [u32 a.cust, u32 b.cust] (i64 (cmpI a.cust b.cust))) (Tree.done Exit.ret (lret (IVal.v (Value.int IntKind.i64 (cmpI a.cust b.cust))))) := by kernel_rfl
theorem c51 (a b : Attest) : ASpec prog 51 [encT a, encT b] (i64 (cmpI a.cust b.cust)) := by
  refine ASpec.tree Proofs.Tryz.f51 (T51 a b) (by kernel_rfl) (by kernel_rfl) (t51 a b) ?_
  exact ⟨⟨ILeL.refl _, c78 _ _⟩, fun _ => rfl⟩
def T52 (a : Attest) : Tell := { O := fun r i => match r, i with | 1, 5 => .call [encT a] (i64 (ckPr a)) | _, _ => .no }
theorem t52 (a : Attest) : levF prog Proofs.Tryz.f52 [encT a] (T52 a) =
  Tree.need (ILeL [IVal.agg [u32 a.cust, lu32 a.provs]] [encT a] ∧ ASpec prog 83 [encT a] (i64 (ckPr a))) (Tree.done Exit.ret (lret (IVal.v (Value.bool (decide (ckPr a = (0 : Int))))))) := by kernel_rfl
theorem c52 (a : Attest) : ASpec prog 52 [encT a] (bo (decide (ckPr a = 0))) := by
  refine ASpec.tree Proofs.Tryz.f52 (T52 a) (by kernel_rfl) (by kernel_rfl) (t52 a) ?_
  exact ⟨⟨ILeL.refl _, c83 _⟩, fun _ => rfl⟩
theorem t55 (k : RKey) : levF prog Proofs.Tryz.f55 [encK k] {} =
  Tree.br (decide ((0 : Int) ≤ k.height)) (Tree.done Exit.ret (lret (IVal.v (Value.bool (decide (k.height ≤ (4 : Int))))))) (Tree.done Exit.ret (lret (IVal.v (Value.bool false)))) := by kernel_rfl
theorem c55 (k : RKey) : ASpec prog 55 [encK k] (bo (decide (0 ≤ k.height) && decide (k.height ≤ 4))) := by
  refine ASpec.tree Proofs.Tryz.f55 {} (by kernel_rfl) (by kernel_rfl) (t55 k) ?_
  simp only [Tree.sat, bo]; grind
theorem t46 (a : Attest) : levF prog Proofs.Tryz.f46 [encT a] {} =
  Tree.done Exit.ret (lret (IVal.v (Value.bool (decide ((50 : Int) < (↑(List.length (List.map u32 a.provs)) : Int)))))) := by kernel_rfl
theorem c46 (a : Attest) : ASpec prog 46 [encT a] (bo (decide (50 < (a.provs.length : Int)))) := by
  refine ASpec.tree Proofs.Tryz.f46 {} (by kernel_rfl) (by kernel_rfl) (t46 a) ?_
  simp [Tree.sat, bo]
variable {α : Type}
def fnV (f : Nat) : IVal := .v (.func (.func f) #[] #[])
def slE (k : Nat) (e : α → IVal) (l : List α) : IVal := .sl false false k (l.map e)
def bad (order : α → α → Int) (good : α → Bool) (d : α) (l : List α) (i : Nat) : Bool := !good (l.getD i d) || (decide (0 < i) && decide (0 ≤ order (l.getD (i - 1) d) (l.getD i d)))
def IR (k : Nat) (e : α → IVal) (fo fg : Nat) (l : List α) (i : Nat) : LState := { t := [(11, .imm (i64 i)), (10, .imm (i64 l.length)), (9, .imm (slE k e l)), (2, .imm (fnV fg)), (1, .imm (fnV fo)), (0, .imm (slE k e l))], s := [], m := 36, n := 0 }
def RR (_ : Nat) : LState := { t := [(6, .imm (bo false))], s := [], m := 36, n := 0 }
def ER : LState := { t := [], s := [], m := 36, n := 0 }
def TR (k : Nat) (e : α → IVal) (order : α → α → Int) (good : α → Bool) (d : α) (l : List α) : Tell := { Lp := fun _ => Lfirst (bad order good d l) l.length 0 RR ER, lv := fun _ => ([11, 10, 9, 2, 1, 0], []) }
def TRr (e : α → IVal) (order : α → α → Int) (good : α → Bool) (d : α) (l : List α) (i : Nat) : Tell := { O := fun r j => match r, j with
  | 3, 1 => .elem (e (l.getD i d)) | 4, 2 => .call [e (l.getD i d)] (bo (good (l.getD i d))) | 4, 12 => .elem (e (l.getD (i - 1) d)) | 4, 15 => .call [e (l.getD (i - 1) d), e (l.getD i d)] (i64 (order (l.getD (i - 1) d) (l.getD i d))) | _, _ => .no }
def finR : Exit → Fin
  | .normal => ⟨[], [11, 10, 9, 2, 1, 0], []⟩
  | .ret => ⟨[], [6], []⟩
  | _ => ⟨[], [], []⟩
def RT (k : Nat) (e : α → IVal) (fo fg : Nat) (order : α → α → Int) (good : α → Bool) (d : α) (l : List α) (i : Nat) : Tree :=
  let nx : LState := ⟨[(11, .imm (.v (.int .i64 (IntKind.i64.wrap ((i : Int) + 1))))), (10, .imm (i64 l.length)), (9, .imm (slE k e l)), (2, .imm (fnV fg)), (1, .imm (fnV fo)), (0, .imm (slE k e l))], [], 36, 28, []⟩
  let no : Tree := .done .ret ⟨[(6, .imm (.v (.bool false)))], [], 36, 27, []⟩
  .br (decide ((i : Int) < (l.length : Int)))
    (.need (0 ≤ (i : Int) ∧ (l.map e)[Int.toNat (i : Int)]? = some (e (l.getD i d)))
      (.need (ILeL [e (l.getD i d)] [e (l.getD i d)] ∧ ASpec prog fg [e (l.getD i d)] (bo (good (l.getD i d))))
        (.br (!good (l.getD i d)) no
          (.br (decide ((0 : Int) < (i : Int)))
            (.need (0 ≤ IntKind.i64.wrap ((i : Int) - 1) ∧ (l.map e)[Int.toNat (IntKind.i64.wrap ((i : Int) - 1))]? = some (e (l.getD (i - 1) d)))
              (.need (ILeL [e (l.getD (i - 1) d), e (l.getD i d)] [e (l.getD (i - 1) d), e (l.getD i d)] ∧ ASpec prog fo [e (l.getD (i - 1) d), e (l.getD i d)] (i64 (order (l.getD (i - 1) d) (l.getD i d))))
                (.br (decide ((0 : Int) ≤ order (l.getD (i - 1) d) (l.getD i d))) no (.done .normal nx))))
            (.done .normal nx)))))
    (.done (.exit 0) ⟨[], [], 36, 1, []⟩)
theorem rising_loop {fn : Func} {k : Nat} {e : α → IVal} {fo fg : Nat} {order : α → α → Int} {good : α → Bool} {d : α} {l : List α} (ht : ∀ i, levL prog fn 2 (IR k e fo fg l i) (TRr e order good d l i) finR = RT k e fo fg order good d l i)
    (h1 : loopOne (bodyOf fn) 2 = true) (hg : ∀ a, ASpec prog fg [e a] (bo (good a))) (ho : ∀ a b, ASpec prog fo [e a, e b] (i64 (order a b))) (hl : l.length ≤ 2 ^ 62) (σ : LState) (h : LSub σ (IR k e fo fg l 0)) :
    LoopOk prog [] (bodyOf fn) 2 σ (Lfirst (bad order good d l) l.length 0 RR ER) := by
  refine LoopOk.first (bad order good d l) l.length 0 (IR k e fo fg l) RR ER (TRr e order good d l) finR h1 h fun i hi hz => ?_
  rw [ht]
  refine ⟨fun hb => ?_, fun hb => ?_⟩
  · have hlt : i < l.length := by simpa using hb
    have hno : ∀ b, bad order good d l i = b → b = true → Tree.sat (LoopOk prog [] (bodyOf fn)) (Qfirst (bad order good d l) l.length 0 (IR k e fo fg l) RR ER i) (.done .ret ⟨[(6, .imm (.v (.bool false)))], [], 36, 27, []⟩) := by
      intro b h1 h2
      exact ⟨hlt, by rw [h1, h2], by simp [RR, LSub, tsub, ssub, tl, linT, linS, ainB, bo]⟩
    have hnx : bad order good d l i = false → Tree.sat (LoopOk prog [] (bodyOf fn)) (Qfirst (bad order good d l) l.length 0 (IR k e fo fg l) RR ER i) (.done .normal ⟨[(11, .imm (.v (.int .i64 (IntKind.i64.wrap ((i : Int) + 1))))), (10, .imm (i64 l.length)), (9, .imm (slE k e l)), (2, .imm (fnV fg)), (1, .imm (fnV fo)), (0, .imm (slE k e l))], [], 36, 28, []⟩) := by
      intro h2
      exact ⟨hlt, h2, by simp [IR, LSub, tsub, ssub, tl, linT, linS, ainB, i64, i64_small hlt hl]⟩
    refine ⟨⟨by omega, by rw [Int.toNat_natCast]; exact getD_map _ _ _ _ hlt⟩, fun _ => ⟨⟨ILeL.refl _, hg _⟩, fun _ => ⟨fun h2 => hno _ rfl ?_, fun h2 => ⟨fun h3 => ?_, fun h3 => hnx ?_⟩⟩⟩⟩
    · unfold bad; rw [h2]; rfl
    · have h0 : 0 < i := by simpa using h3
      have e1 : IntKind.i64.wrap ((i : Int) - 1) = ((i - 1 : Nat) : Int) := by rw [IntWalk.i64_in _ (by omega)]; omega
      refine ⟨⟨by rw [e1]; omega, by rw [e1, Int.toNat_natCast]; exact getD_map _ _ _ _ (by omega)⟩, fun _ => ⟨⟨ILeL.refl _, ho _ _⟩, fun _ => ⟨fun h4 => hno _ rfl ?_, fun h4 => hnx ?_⟩⟩⟩
      · unfold bad; simp only [h4, decide_eq_true h0]; simp
      · unfold bad; simp only [h4, h2]; simp
    · have h0 : ¬ 0 < i := by simpa using h3
      unfold bad; simp only [h2, decide_eq_false h0]; rfl
  · have hge : l.length ≤ i := by simpa using hb
    exact ⟨rfl, hge, by simp [ER, LSub, tsub, ssub, linT, linS]⟩
def risingB (order : α → α → Int) (good : α → Bool) (d : α) (l : List α) : Bool := !anyI (bad order good d l) 0 l.length
def FT (k : Nat) (e : α → IVal) (fo fg : Nat) (order : α → α → Int) (good : α → Bool) (d : α) (l : List α) : Tree :=
  .loop 2 ⟨[(11, .imm (.v (.int .i64 0))), (10, .imm (.v (.int .i64 ((l.map e).length : Int)))), (9, .imm (slE k e l)), (2, .imm (fnV fg)), (1, .imm (fnV fo)), (0, .imm (slE k e l))], [], 36, 4, []⟩ (Lfirst (bad order good d l) l.length 0 RR ER)
    (.br (anyI (bad order good d l) 0 l.length) (.done .ret (lret (bo false))) (.done .ret (lret (.v (.bool true)))))
theorem rising_spec {f : Nat} {fn : Func} {k : Nat} {e : α → IVal} {fo fg : Nat} {order : α → α → Int} {good : α → Bool} {d : α} {l : List α} (hf : prog.funcs[f]? = some fn) (hk : okF fn 3 = true)
    (ht : ∀ i, levL prog fn 2 (IR k e fo fg l i) (TRr e order good d l i) finR = RT k e fo fg order good d l i) (h1 : loopOne (bodyOf fn) 2 = true) (h2 : levF prog fn [slE k e l, fnV fo, fnV fg] (TR k e order good d l) = FT k e fo fg order good d l)
    (hg : ∀ a, ASpec prog fg [e a] (bo (good a))) (ho : ∀ a b, ASpec prog fo [e a, e b] (i64 (order a b))) (hl : l.length ≤ 2 ^ 62) : ASpec prog f [slE k e l, fnV fo, fnV fg] (bo (risingB order good d l)) := by
  refine ASpec.tree fn (TR k e order good d l) hf hk h2 ⟨rising_loop ht h1 hg ho hl _ ?_, fun hx => ?_, fun hx => ?_⟩
  · simp [IR, LSub, tsub, ssub, tl, linT, linS, ainB, i64]
  · simp only [Tree.sat, risingB, hx]; rfl
  · simp only [Tree.sat, risingB, hx]; rfl
theorem c49 (o : Origin) : ASpec prog 49 [encO o] (bo (goodO o)) := by
  refine ASpec.tree Proofs.Tryz.f49 (T49 o) (by kernel_rfl) (by kernel_rfl) (t49 o) ?_
  have hc := c82 o.pfx
  refine ⟨fun h => ⟨⟨ILeL.refl _, hc⟩, fun _ => ?_⟩, fun h => ⟨⟨ILeL.refl _, hc⟩, fun _ => ?_⟩⟩
  · simp at h; simp only [Tree.sat, goodO, bo, h]; grind
  · simp at h; simp only [Tree.sat, goodO, bo, h]; grind
theorem t47 (l : List Origin) : levF prog Proofs.Tryz.f47 [slE 6 encO l, fnV 48, fnV 49] (TR 6 encO cmpO goodO default l) = FT 6 encO 48 49 cmpO goodO default l := by kernel_rfl
theorem t47r (l : List Origin) (i : Nat) : levL prog Proofs.Tryz.f47 2 (IR 6 encO 48 49 l i) (TRr encO cmpO goodO default l i) finR = RT 6 encO 48 49 cmpO goodO default l i := by kernel_rfl
theorem c47 (l : List Origin) (hl : l.length ≤ 2 ^ 62) : ASpec prog 47 [slE 6 encO l, fnV 48, fnV 49] (bo (risingB cmpO goodO default l)) :=
  rising_spec (by kernel_rfl) (by kernel_rfl) (t47r l) (by kernel_rfl) (t47 l) c49 c48 hl
def cmpT (a b : Attest) : Int := cmpI a.cust b.cust
def goodT (a : Attest) : Bool := decide (ckPr a = 0)
theorem t50 (l : List Attest) : levF prog Proofs.Tryz.f50 [slE 2 encT l, fnV 51, fnV 52] (TR 2 encT cmpT goodT default l) = FT 2 encT 51 52 cmpT goodT default l := by kernel_rfl
theorem t50r (l : List Attest) (i : Nat) : levL prog Proofs.Tryz.f50 2 (IR 2 encT 51 52 l i) (TRr encT cmpT goodT default l i) finR = RT 2 encT 51 52 cmpT goodT default l i := by kernel_rfl
theorem c50 (l : List Attest) (hl : l.length ≤ 2 ^ 62) : ASpec prog 50 [slE 2 encT l, fnV 51, fnV 52] (bo (risingB cmpT goodT default l)) :=
  rising_spec (by kernel_rfl) (by kernel_rfl) (t50r l) (by kernel_rfl) (t50 l) c52 c51 hl
end Gp
namespace Gp
variable {α : Type}
def diffAt (ne : α → α → Bool) (d : α) (l r : List α) (i : Nat) : Bool := ne (l.getD i d) (r.getD i d)
def IQ (k : Nat) (e : α → IVal) (l r : List α) (i : Nat) : LState := { t := [(13, .imm (i64 i)), (12, .imm (i64 l.length)), (0, .imm (slE k e l)), (1, .imm (slE k e r))], s := [], m := 26, n := 0 }
def RQ (_ : Nat) : LState := { t := [(4, .imm (bo false))], s := [], m := 26, n := 0 }
def EQ : LState := { t := [], s := [], m := 26, n := 0 }
def TQ (ne : α → α → Bool) (d : α) (l r : List α) : Tell := { Lp := fun _ => Lfirst (diffAt ne d l r) l.length 0 RQ EQ, lv := fun _ => ([13, 12, 0, 1], []) }
def TQr (e : α → IVal) (d : α) (l r : List α) (i : Nat) : Tell := { O := fun r' j => match r', j with
  | 6, 2 => .elem (e (l.getD i d)) | 6, 6 => .elem (e (r.getD i d)) | _, _ => .no }
def finQ : Exit → Fin
  | .normal => ⟨[], [13, 12, 0, 1], []⟩
  | .ret => ⟨[], [4], []⟩
  | _ => ⟨[], [], []⟩
def QT (k : Nat) (e : α → IVal) (ne : α → α → Bool) (d : α) (l r : List α) (i : Nat) : Tree :=
  .br (decide ((i : Int) < (l.length : Int)))
    (.need (0 ≤ (i : Int) ∧ (l.map e)[Int.toNat (i : Int)]? = some (e (l.getD i d)))
      (.need (0 ≤ (i : Int) ∧ (r.map e)[Int.toNat (i : Int)]? = some (e (r.getD i d)))
        (.br (ne (l.getD i d) (r.getD i d)) (.done .ret ⟨[(4, .imm (.v (.bool false)))], [], 26, 13, []⟩)
          (.done .normal ⟨[(13, .imm (.v (.int .i64 (IntKind.i64.wrap ((i : Int) + 1))))), (12, .imm (i64 l.length)), (0, .imm (slE k e l)), (1, .imm (slE k e r))], [], 26, 14, []⟩))))
    (.done (.exit 0) ⟨[], [], 26, 1, []⟩)
def QF (k : Nat) (e : α → IVal) (ne : α → α → Bool) (d : α) (l r : List α) : Tree :=
  .br (!decide (((l.map e).length : Int) = ((r.map e).length : Int))) (.done .ret (lret (.v (.bool false))))
    (.loop 4 ⟨[(13, .imm (.v (.int .i64 0))), (12, .imm (.v (.int .i64 ((l.map e).length : Int)))), (0, .imm (slE k e l)), (1, .imm (slE k e r))], [], 26, 9, []⟩ (Lfirst (diffAt ne d l r) l.length 0 RQ EQ)
      (.br (anyI (diffAt ne d l r) 0 l.length) (.done .ret (lret (bo false))) (.done .ret (lret (.v (.bool true))))))
theorem equal_loop {fn : Func} {k : Nat} {e : α → IVal} {ne : α → α → Bool} {d : α} {l r : List α} (hlr : l.length = r.length) (ht : ∀ i, levL prog fn 4 (IQ k e l r i) (TQr e d l r i) finQ = QT k e ne d l r i)
    (h1 : loopOne (bodyOf fn) 4 = true) (hl : l.length ≤ 2 ^ 62) (σ : LState) (h : LSub σ (IQ k e l r 0)) : LoopOk prog [] (bodyOf fn) 4 σ (Lfirst (diffAt ne d l r) l.length 0 RQ EQ) := by
  refine LoopOk.first (diffAt ne d l r) l.length 0 (IQ k e l r) RQ EQ (TQr e d l r) finQ h1 h fun i hi hz => ?_
  rw [ht]
  refine ⟨fun hb => ?_, fun hb => ?_⟩
  · have hlt : i < l.length := by simpa using hb
    refine ⟨⟨by omega, by rw [Int.toNat_natCast]; exact getD_map _ _ _ _ hlt⟩, fun _ => ⟨⟨by omega, by rw [Int.toNat_natCast]; exact getD_map _ _ _ _ (by omega)⟩, fun _ => ⟨fun h2 => ⟨hlt, h2, ?_⟩, fun h2 => ⟨hlt, h2, ?_⟩⟩⟩⟩
    · simp [RQ, LSub, tsub, ssub, tl, linT, linS, ainB, bo]
    · simp [IQ, LSub, tsub, ssub, tl, linT, linS, ainB, i64, i64_small hlt hl]
  · have hge : l.length ≤ i := by simpa using hb
    exact ⟨rfl, hge, by simp [EQ, LSub, tsub, ssub, linT, linS]⟩
def sameL (ne : α → α → Bool) (d : α) (l r : List α) : Bool := decide (l.length = r.length) && !anyI (diffAt ne d l r) 0 l.length
theorem equal_spec {f : Nat} {fn : Func} {k : Nat} {e : α → IVal} {ne : α → α → Bool} {d : α} {l r : List α} (hf : prog.funcs[f]? = some fn) (hk : okF fn 2 = true)
    (ht : ∀ i, levL prog fn 4 (IQ k e l r i) (TQr e d l r i) finQ = QT k e ne d l r i) (h1 : loopOne (bodyOf fn) 4 = true) (h2 : levF prog fn [slE k e l, slE k e r] (TQ ne d l r) = QF k e ne d l r) (hl : l.length ≤ 2 ^ 62) :
    ASpec prog f [slE k e l, slE k e r] (bo (sameL ne d l r)) := by
  refine ASpec.tree fn (TQ ne d l r) hf hk h2 ⟨fun hx => ?_, fun hx => ?_⟩
  · have : ¬ l.length = r.length := by simp at hx; omega
    simp [Tree.sat, sameL, this, bo]
  · have hlr : l.length = r.length := by simp at hx; omega
    refine ⟨equal_loop hlr ht h1 hl _ ?_, fun hy => ?_, fun hy => ?_⟩
    · simp [IQ, LSub, tsub, ssub, tl, linT, linS, ainB, i64]
    · rw [show sameL ne d l r = false from by unfold sameL; rw [hy]; simp]; rfl
    · rw [show sameL ne d l r = true from by unfold sameL; rw [hy]; simp [hlr]]; rfl
theorem sameL_iff {ne : α → α → Bool} {d : α} {l r : List α} (hne : ∀ a b, ne a b = false ↔ a = b) : sameL ne d l r = true ↔ l = r := by
  unfold sameL
  simp only [Bool.and_eq_true, decide_eq_true_eq, Bool.not_eq_true']
  constructor
  · rintro ⟨h1, h2⟩
    refine List.ext_getElem h1 fun i h3 h4 => ?_
    have : diffAt ne d l r i = false := by
      cases hd : diffAt ne d l r i with
      | false => rfl
      | true => rw [anyI_iff.2 ⟨i, h3, hd⟩] at h2; cases h2
    have := (hne _ _).1 this
    simpa [List.getD_eq_getElem?_getD, List.getElem?_eq_getElem h3, List.getElem?_eq_getElem h4] using this
  · rintro rfl
    refine ⟨rfl, ?_⟩
    cases ha : anyI (diffAt ne d l l) 0 l.length with
    | false => rfl
    | true => obtain ⟨i, _, hp⟩ := anyI_iff.1 ha; rw [diffAt, (hne _ _).2 rfl] at hp; cases hp
def neO (a b : Origin) : Bool := !(decide (a.asn = b.asn) && (decide (a.pfx.fam = b.pfx.fam) && (decide (a.pfx.addr.hi = b.pfx.addr.hi) && (decide (a.pfx.addr.lo = b.pfx.addr.lo) && (decide (a.pfx.len = b.pfx.len) && (decide (a.max = b.max) && true))))))
def neI (a b : Int) : Bool := !decide (a = b)
theorem neO_iff (a b : Origin) : neO a b = false ↔ a = b := by
  obtain ⟨_, ⟨_, ⟨_, _⟩, _⟩, _⟩ := a; obtain ⟨_, ⟨_, ⟨_, _⟩, _⟩, _⟩ := b
  simp [neO, and_assoc]
theorem t87 (l r : List Int) : levF prog Proofs.Tryz.f87 [slE 1 u32 l, slE 1 u32 r] (TQ neI 0 l r) = QF 1 u32 neI 0 l r := by kernel_rfl
theorem t87r (l r : List Int) (i : Nat) : levL prog Proofs.Tryz.f87 4 (IQ 1 u32 l r i) (TQr u32 0 l r i) finQ = QT 1 u32 neI 0 l r i := by kernel_rfl
theorem c87 (l r : List Int) (hl : l.length ≤ 2 ^ 62) : ASpec prog 87 [slE 1 u32 l, slE 1 u32 r] (bo (decide (l = r))) := by
  have := equal_spec (f := 87) (by kernel_rfl) (by kernel_rfl) (t87r l r) (by kernel_rfl) (t87 l r) hl
  rwa [show sameL neI 0 l r = decide (l = r) from by rw [Bool.eq_iff_iff, sameL_iff (fun a b => by simp [neI])]; simp] at this
def neK (a b : RKey) : Bool := !(decide (a.asn = b.asn) && (decide (a.root[0] = b.root[0]) && (decide (a.root[1] = b.root[1]) && (decide (a.root[2] = b.root[2]) && (decide (a.root[3] = b.root[3]) && (decide (a.root[4] = b.root[4]) && (decide (a.root[5] = b.root[5]) && (decide (a.root[6] = b.root[6]) && (decide (a.root[7] = b.root[7]) && (decide (a.root[8] = b.root[8]) && (decide (a.root[9] = b.root[9]) && (decide (a.root[10] = b.root[10]) && (decide (a.root[11] = b.root[11]) && (decide (a.root[12] = b.root[12]) && (decide (a.root[13] = b.root[13]) && (decide (a.root[14] = b.root[14]) && (decide (a.root[15] = b.root[15]) && (decide (a.height = b.height) && true))))))))))))))))))
theorem neK_iff (a b : RKey) : neK a b = false ↔ a = b := by
  obtain ⟨x, v, y⟩ := a; obtain ⟨x', v', y'⟩ := b
  simp only [neK, Bool.not_eq_false', Bool.and_eq_true, decide_eq_true_eq, and_true, RKey.mk.injEq]
  constructor
  · rintro ⟨h, h0, h1, h2, h3, h4, h5, h6, h7, h8, h9, h10, h11, h12, h13, h14, h15, hh⟩
    refine ⟨h, Vector.ext fun i hi => ?_, hh⟩
    match i, hi with
    | 0, _ => exact h0
    | 1, _ => exact h1
    | 2, _ => exact h2
    | 3, _ => exact h3
    | 4, _ => exact h4
    | 5, _ => exact h5
    | 6, _ => exact h6
    | 7, _ => exact h7
    | 8, _ => exact h8
    | 9, _ => exact h9
    | 10, _ => exact h10
    | 11, _ => exact h11
    | 12, _ => exact h12
    | 13, _ => exact h13
    | 14, _ => exact h14
    | 15, _ => exact h15
    | n + 16, hn => omega
  · rintro ⟨rfl, rfl, rfl⟩; simp
def T59 (a b : Attest) : Tell := { O := fun r i => match r, i with | 1, 10 => .call [lu32 a.provs, lu32 b.provs] (bo (decide (a.provs = b.provs))) | _, _ => .no }
theorem t59 (a b : Attest) : levF prog Proofs.Tryz.f59 [encT a, encT b] (T59 a b) =
  Tree.br (decide (a.cust = b.cust))
  (Tree.need (ILeL [lu32 a.provs, lu32 b.provs] [lu32 a.provs, lu32 b.provs] ∧ ASpec prog 87 [lu32 a.provs, lu32 b.provs] (bo (decide (a.provs = b.provs))))
  (Tree.done Exit.ret (lret (IVal.v (Value.bool (decide (a.provs = b.provs)))))))
  (Tree.done Exit.ret (lret (IVal.v (Value.bool false)))) := by kernel_rfl
theorem c59 (a b : Attest) (hl : a.provs.length ≤ 2 ^ 62) : ASpec prog 59 [encT a, encT b] (bo (decide (a = b))) := by
  refine ASpec.tree Proofs.Tryz.f59 (T59 a b) (by kernel_rfl) (by kernel_rfl) (t59 a b) ?_
  obtain ⟨c, p⟩ := a; obtain ⟨c', p'⟩ := b
  refine ⟨fun h => ⟨⟨ILeL.refl _, c87 _ _ hl⟩, fun _ => ?_⟩, fun h => ?_⟩
  · have hc : c = c' := by simpa using h
    subst hc
    show lret (bo (decide (p = p'))) = _
    simp
  · have hc : ¬ c = c' := by simpa using h
    show lret (bo false) = _
    simp [hc]
end Gp
namespace Gp
variable {α : Type}
def slF (k : Nat) (e : α → IVal) (l : List α) : IVal := .sl true false k (l.map e)
def CT (k : Nat) (e : α → IVal) (l : List α) : Tree :=
  .alt (l.map e).isEmpty (.done .ret (lret (.v (.slice none 0 0)))) (.need (cellsOk [] = true ∧ cellsOk (l.map e) = true ∧ ([] : List IVal).length + (l.map e).length ≤ lim) (.done .ret (lret (.sl true false k ([] ++ l.map e)))))
def TC : Tell := { fz := fun _ _ => true }
theorem clone_spec {f : Nat} {fn : Func} {k : Nat} {e : α → IVal} {l : List α} (hf : prog.funcs[f]? = some fn) (hk : okF fn 1 = true) (ht : levF prog fn [slE k e l] TC = CT k e l) (he : ∀ x, (icells (e x)).isSome = true) (hl : l.length ≤ 1000000) :
    ASpec prog f [slE k e l] (slF k e l) := by
  refine ASpec.treeW fn TC hf hk ht ⟨fun h => ?_, ⟨rfl, cellsOk_map e he l, by simp [lim]; exact hl⟩, fun _ => ⟨_, rfl, ILe.refl _⟩⟩
  have : l = [] := by simpa using h
  subst this
  exact ⟨_, rfl, ILe.nil _ _ _⟩
theorem c68 (l : List Origin) (hl : l.length ≤ 1000000) : ASpec prog 68 [slE 6 encO l] (slF 6 encO l) := clone_spec (fn := Proofs.Tryz.f68) (by kernel_rfl) (by kernel_rfl) (by kernel_rfl) (fun _ => rfl) hl
theorem c69 (l : List RKey) (hl : l.length ≤ 1000000) : ASpec prog 69 [slE 18 encK l] (slF 18 encK l) := clone_spec (fn := Proofs.Tryz.f69) (by kernel_rfl) (by kernel_rfl) (by kernel_rfl) (fun _ => rfl) hl
theorem c95 (l : List Int) (hl : l.length ≤ 1000000) : ASpec prog 95 [slE 1 u32 l] (slF 1 u32 l) := clone_spec (fn := Proofs.Tryz.f95) (by kernel_rfl) (by kernel_rfl) (by kernel_rfl) (fun _ => rfl) hl
def okT (a : Attest) : Prop := a.provs.length ≤ 1000000
theorem getD_mem (l : List Attest) (i : Nat) (h : i < l.length) : l.getD i default ∈ l := by
  simp [List.getD_eq_getElem?_getD, List.getElem?_eq_getElem h]
structure Payload where
  origins : List Origin
  paths : List Attest
  keys : List RKey
  deriving DecidableEq, Inhabited
def encL (p : Payload) : IVal := .agg [slE 6 encO p.origins, slE 2 encT p.paths, slE 18 encK p.keys]
structure Payload.ok (p : Payload) : Prop where
  o : p.origins.length ≤ 100000
  t : p.paths.length ≤ 100000
  k : p.keys.length ≤ 100000
  p : ∀ a ∈ p.paths, okT a
def T70 (a : Attest) : Tell := { O := fun r j => match r, j with | 1, 2 => .call [lu32 a.provs] (slF 1 u32 a.provs) | _, _ => .no }
theorem t70 (a : Attest) : levF prog Proofs.Tryz.f70 [encT a] (T70 a) =
  Tree.need (ILeL [lu32 a.provs] [lu32 a.provs] ∧ ASpec prog 95 [lu32 a.provs] (slF 1 u32 a.provs)) (Tree.done Exit.ret (lret (IVal.agg [u32 a.cust, slF 1 u32 a.provs]))) := by kernel_rfl
theorem c70 (a : Attest) (h : okT a) : ASpec prog 70 [encT a] (encT a) := by
  refine ASpec.treeW Proofs.Tryz.f70 (T70 a) (by kernel_rfl) (by kernel_rfl) (t70 a) ⟨⟨ILeL.refl _, c95 _ h⟩, fun _ => ⟨_, rfl, ?_⟩⟩
  exact ILe.agg (.cons (.refl _) (.cons (.sl (fun h => by cases h) (fun h => h) (.refl _)) (.refl _)))
def B34 (p : Payload) (c : AVal) : Entry := .box 26 (.agg [.imm (slF 6 encO p.origins), c, .imm (slF 18 encK p.keys)])
def Z34 : Entry := .box 26 (.imm (.agg [.v (.slice none 0 0), .v (.slice none 0 0), .v (.slice none 0 0)]))
def I34a (p : Payload) : LState := { t := [(16, .imm (i64 0)), (15, .imm (i64 p.paths.length)), (14, .imm (slE 2 encT p.paths)), (3, .ptr 9 0), (2, .ptr 1 0)], s := [(9, B34 p (.imm (.v (.slice none 0 0)))), (1, Z34)], m := 29, n := 60 }
def I34s (p : Payload) (i : Nat) : LState := { t := [(16, .imm (i64 i)), (15, .imm (i64 p.paths.length)), (14, .imm (slE 2 encT p.paths)), (3, .ptr 9 0), (2, .ptr 1 0)], s := [(9, B34 p (.own 50 i)), (50, .row 57 2 ((p.paths.take i).map encT)), (1, Z34)], m := 29, n := 60 }
def I34 (p : Payload) (i : Nat) : LState := if i = 0 then I34a p else I34s p i
def T34r (p : Payload) (i : Nat) : Tell := { O := fun r j => match r, j with | 4, 0 => .elem (encT (p.paths.getD i default)) | 5, 3 => .call [encT (p.paths.getD i default)] (encT (p.paths.getD i default)) | _, _ => .no, fz := fun r j => match r, j with | 5, 4 => true | _, _ => false }
def fin34 : Exit → Fin
  | .normal => ⟨[(50, 59), (70, 50)], [16, 15, 14, 3, 2], [9, 50, 1]⟩
  | _ => ⟨[], [3, 2], [9, 50, 1]⟩
theorem t34r0 (p : Payload) : levL prog Proofs.Tryz.f34 3 (I34a p) (T34r p 0) fin34 =
  Tree.br (decide ((0 : Int) < (↑(List.length p.paths) : Int)))
  (Tree.need ((0 : Int) ≤ (0 : Int) ∧ (List.map encT p.paths)[0]? = some (encT (List.getD p.paths 0 default)))
  (Tree.need (ILeL [encT (List.getD p.paths 0 default)] [encT (List.getD p.paths 0 default)] ∧ ASpec prog 70 [encT (List.getD p.paths 0 default)] (encT (List.getD p.paths 0 default)))
  (Tree.need (true = true ∧ 1 ≤ 1000000)
  (Tree.done Exit.normal
  (LState.mk
  [(16, AVal.imm (IVal.v (Value.int IntKind.i64 (1 : Int)))), (15, AVal.imm (i64 (↑(List.length p.paths) : Int))), (14, AVal.imm (slE 2 encT p.paths)), (3, AVal.ptr 9 0),
  (2, AVal.ptr 1 0)]
  [(9, Entry.box 26 (AVal.agg [AVal.imm (slF 6 encO p.origins), AVal.own 50 1, AVal.imm (slF 18 encK p.keys)])),
  (50, Entry.row 57 2 [encT (List.getD p.paths 0 default)]),
  (1, Entry.box 26 (AVal.imm (IVal.agg [IVal.v (Value.slice none 0 0), IVal.v (Value.slice none 0 0), IVal.v (Value.slice none 0 0)])))]
  29 75 [])))))
  (Tree.done (Exit.exit 0)
  (LState.mk [(3, AVal.ptr 9 0), (2, AVal.ptr 1 0)] [(9, B34 p (AVal.imm (IVal.v (Value.slice none 0 0)))), (1, Z34)] 29 61 [])) := by kernel_rfl
theorem t34r1 (p : Payload) (i : Nat) : levL prog Proofs.Tryz.f34 3 (I34s p i) (T34r p i) fin34 =
  Tree.br (decide ((↑i : Int) < (↑(List.length p.paths) : Int)))
  (Tree.need ((0 : Int) ≤ (↑i : Int) ∧ (List.map encT p.paths)[Int.toNat (↑i : Int)]? = some (encT (List.getD p.paths i default)))
  (Tree.need (ILeL [encT (List.getD p.paths i default)] [encT (List.getD p.paths i default)] ∧ ASpec prog 70 [encT (List.getD p.paths i default)] (encT (List.getD p.paths i default)))
  (Tree.need (List.length (List.map encT (List.take i p.paths)) = i ∧ cellsOk (List.map encT (List.take i p.paths)) = true ∧ true = true ∧ i + 1 ≤ 1000000)
  (Tree.done Exit.normal
  (LState.mk
  [(16, AVal.imm (IVal.v (Value.int IntKind.i64 (IntKind.wrap IntKind.i64 ((↑i : Int) + (1 : Int)))))), (15, AVal.imm (i64 (↑(List.length p.paths) : Int))), (14, AVal.imm (slE 2 encT p.paths)),
  (3, AVal.ptr 9 0), (2, AVal.ptr 1 0)]
  [(9, Entry.box 26 (AVal.agg [AVal.imm (slF 6 encO p.origins), AVal.own 50 (i + 1), AVal.imm (slF 18 encK p.keys)])),
  (50, Entry.row 57 2 (List.map encT (List.take i p.paths) ++ [encT (List.getD p.paths i default)])),
  (1, Entry.box 26 (AVal.imm (IVal.agg [IVal.v (Value.slice none 0 0), IVal.v (Value.slice none 0 0), IVal.v (Value.slice none 0 0)])))]
  29 75 [])))))
  (Tree.done (Exit.exit 0)
  (LState.mk [(3, AVal.ptr 9 0), (2, AVal.ptr 1 0)]
  [(9, B34 p (AVal.own 50 i)), (50, Entry.row 57 2 (List.map encT (List.take i p.paths))), (1, Z34)] 29 61 [])) := by kernel_rfl
def L34 (p : Payload) : Tree := .br p.paths.isEmpty (.done (.exit 0) { t := [(3, .ptr 9 0), (2, .ptr 1 0)], s := [(9, B34 p (.imm (.v (.slice none 0 0)))), (1, Z34)], m := 29, n := 60 })
  (.done (.exit 0) { t := [(3, .ptr 9 0), (2, .ptr 1 0)], s := [(9, B34 p (.own 50 p.paths.length)), (50, .row 57 2 (p.paths.map encT)), (1, Z34)], m := 29, n := 60 })
def T34 (p : Payload) : Tell := { O := fun r j => match r, j with | 1, 2 => .call [slE 6 encO p.origins] (slF 6 encO p.origins) | 1, 5 => .call [slE 18 encK p.keys] (slF 18 encK p.keys) | _, _ => .no, lv := fun _ => ([16, 15, 14, 3, 2], [9, 1]), Lp := fun _ => L34 p }
theorem t34x (p : Payload) : levF prog Proofs.Tryz.f34 [encL p] (T34 p) =
  Tree.need (ILeL [slE 6 encO p.origins] [slE 6 encO p.origins] ∧ ASpec prog 68 [slE 6 encO p.origins] (slF 6 encO p.origins))
  (Tree.need (ILeL [slE 18 encK p.keys] [slE 18 encK p.keys] ∧ ASpec prog 69 [slE 18 encK p.keys] (slF 18 encK p.keys))
  (Tree.loop 3
  (LState.mk
  [(16, AVal.imm (IVal.v (Value.int IntKind.i64 (0 : Int)))), (15, AVal.imm (IVal.v (Value.int IntKind.i64 (↑(List.length (List.map encT p.paths)) : Int)))), (14, AVal.imm (slE 2 encT p.paths)),
  (3, AVal.ptr 9 0), (2, AVal.ptr 1 0)]
  [(9, Entry.box 26 (AVal.agg [AVal.imm (slF 6 encO p.origins), AVal.imm (IVal.v (Value.slice none 0 0)), AVal.imm (slF 18 encK p.keys)])),
  (1, Entry.box 26 (AVal.imm (IVal.agg [IVal.v (Value.slice none 0 0), IVal.v (Value.slice none 0 0), IVal.v (Value.slice none 0 0)])))]
  29 15 [])
  (Tree.br (List.isEmpty p.paths)
  (Tree.done (Exit.exit 0)
  (LState.mk [(3, AVal.ptr 9 0), (2, AVal.ptr 1 0)] [(9, B34 p (AVal.imm (IVal.v (Value.slice none 0 0)))), (1, Z34)] 29 60 []))
  (Tree.done (Exit.exit 0)
  (LState.mk [(3, AVal.ptr 9 0), (2, AVal.ptr 1 0)]
  [(9, B34 p (AVal.own 50 (List.length p.paths))), (50, Entry.row 57 2 (List.map encT p.paths)), (1, Z34)] 29 60 [])))
  (Tree.br (List.isEmpty p.paths) (Tree.done Exit.ret (lret (IVal.agg [slF 6 encO p.origins, IVal.v (Value.slice none 0 0), slF 18 encK p.keys])))
  (Tree.need (eqs [(List.length p.paths, List.length (List.map encT p.paths))])
  (Tree.done Exit.ret (lret (IVal.agg [slF 6 encO p.origins, IVal.sl true false 2 (List.map encT p.paths), slF 18 encK p.keys]))))))) := by kernel_rfl
theorem take_succ (p : Payload) (i : Nat) (h : i < p.paths.length) : (p.paths.take i).map encT ++ [encT (p.paths.getD i default)] = (p.paths.take (i + 1)).map encT := by
  rw [List.take_add_one, List.map_append]
  simp [List.getD_eq_getElem?_getD, List.getElem?_eq_getElem h]
theorem l34 (p : Payload) (hp : p.ok) (σ : LState) (h : LSub σ (I34a p)) : LoopOk prog [] (bodyOf Proofs.Tryz.f34) 3 σ (L34 p) := by
  have hT := hp.t
  refine LoopOk.of_levL (γ := { i : Nat // i ≤ p.paths.length }) (fun g => T34r p g.1) fin34 (fun g => I34 p g.1) (fun g => p.paths.length - g.1) ⟨0, by omega⟩ (by kernel_rfl) h ?_
  rintro ⟨i, hi⟩
  have nx : ∀ (s : LState), i < p.paths.length → s.t = [(16, .imm (i64 (i + 1 : Nat))), (15, .imm (i64 p.paths.length)), (14, .imm (slE 2 encT p.paths)), (3, .ptr 9 0), (2, .ptr 1 0)] → s.s = [(9, B34 p (.own 50 (i + 1))), (50, .row 57 2 ((p.paths.take (i + 1)).map encT)), (1, Z34)] → s.m = 29 →
      ∃ g' : { i : Nat // i ≤ p.paths.length }, p.paths.length - g'.1 < p.paths.length - i ∧ LSub s (I34 p g'.1) := by
    intro s hlt h1 h2 h3
    refine ⟨⟨i + 1, by omega⟩, by simp only; omega, ?_⟩
    simp [I34, I34s, B34, Z34, LSub, tsub, ssub, tl, sl, linT, linS, ainB, ainBL, h1, h2, h3]
  by_cases h0 : i = 0
  · subst h0
    show Tree.sat _ _ (levL prog Proofs.Tryz.f34 3 (I34a p) (T34r p 0) fin34)
    rw [t34r0]
    refine ⟨fun hb => ?_, fun hb => ?_⟩
    · have hlt : 0 < p.paths.length := by simpa using hb
      refine ⟨⟨by decide, getD_map _ _ _ _ hlt⟩, fun _ => ⟨⟨ILeL.refl _, c70 _ (hp.p _ (getD_mem _ _ hlt))⟩, fun _ => ⟨⟨rfl, by decide⟩, fun _ => ?_⟩⟩⟩
      refine nx _ hlt rfl ?_ rfl
      rw [← take_succ p 0 hlt]; rfl
    · have he : p.paths = [] := by simpa using hb
      refine ⟨fun _ => ⟨rfl, ?_⟩, fun hx => by rw [he] at hx; cases hx⟩
      simp [LSub, tsub, ssub, tl, sl, linT, linS, ainB, ainBL, B34, Z34]
  · have hI : I34 p i = I34s p i := by unfold I34; rw [if_neg h0]
    show Tree.sat _ _ (levL prog Proofs.Tryz.f34 3 (I34 p i) (T34r p i) fin34)
    rw [hI, t34r1]
    refine ⟨fun hb => ?_, fun hb => ?_⟩
    · have hlt : i < p.paths.length := by simpa using hb
      refine ⟨⟨by omega, by rw [Int.toNat_natCast]; exact getD_map _ _ _ _ hlt⟩, fun _ => ⟨⟨ILeL.refl _, c70 _ (hp.p _ (getD_mem _ _ hlt))⟩, fun _ => ⟨⟨by simp; omega, cellsOk_map encT (fun _ => rfl) _, rfl, by omega⟩, fun _ => ?_⟩⟩⟩
      refine nx _ hlt ?_ ?_ rfl
      · simp only [i64_small hlt (by omega)]; rfl
      · simp only [take_succ p i hlt]; rfl
    · have he : i = p.paths.length := by simp at hb; omega
      subst he
      refine ⟨fun hx => ?_, fun _ => ⟨rfl, ?_⟩⟩
      · exact absurd (by simpa using hx) (fun hn : p.paths = [] => h0 (by rw [hn]; rfl))
      · simp [LSub, tsub, ssub, tl, sl, linT, linS, ainB, ainBL, B34, Z34]
theorem c34 (p : Payload) (hp : p.ok) : ASpec prog 34 [encL p] (encL p) := by
  have h1 := hp.o; have h2 := hp.k
  have hF : ∀ (d d' : IVal), ILe d d' → ILe (.agg [slF 6 encO p.origins, d, slF 18 encK p.keys]) (.agg [slE 6 encO p.origins, d', slE 18 encK p.keys]) := by
    intro d d' h
    exact .agg (.cons (.sl (fun h => by cases h) (fun h => h) (.refl _)) (.cons h (.cons (.sl (fun h => by cases h) (fun h => h) (.refl _)) (.refl _))))
  refine ASpec.treeW Proofs.Tryz.f34 (T34 p) (by kernel_rfl) (by kernel_rfl) (t34x p) ⟨⟨ILeL.refl _, c68 _ (by omega)⟩, fun _ => ⟨⟨ILeL.refl _, c69 _ (by omega)⟩, fun _ => ⟨l34 p hp _ ?_, fun he => ⟨_, rfl, ?_⟩, fun he => ⟨⟨by simp, trivial⟩, fun _ => ⟨_, rfl, ?_⟩⟩⟩⟩⟩
  · simp [I34a, B34, Z34, LSub, tsub, ssub, tl, sl, linT, linS, ainB, ainBL, i64]
  · have : p.paths = [] := by simpa using he
    rw [show encL p = .agg [slE 6 encO p.origins, slE 2 encT [], slE 18 encK p.keys] from by rw [encL, this]]
    exact hF _ _ (.nil _ _ _)
  · exact hF _ _ (.sl (fun h => by cases h) (fun h => h) (.refl _))
end Gp
namespace Gp
def sizeP (p : Payload) : Int := (p.origins.length : Int) + p.paths.length + p.keys.length
theorem t24 (p : Payload) : levF prog Proofs.Tryz.f24 [encL p] {} =
  Tree.done Exit.ret
  (lret
  (IVal.v (Value.int IntKind.i64 (IntKind.wrap IntKind.i64 (IntKind.wrap IntKind.i64 ((↑(List.length (List.map encO p.origins)) : Int) + (↑(List.length (List.map encT p.paths)) : Int)) + (↑(List.length (List.map encK p.keys)) : Int)))))) := by kernel_rfl
structure Timers where
  refresh : Int
  retry : Int
  expire : Int
  deriving DecidableEq, Inhabited
theorem size_wrap (p : Payload) (hp : p.ok) : IntKind.i64.wrap (IntKind.i64.wrap (((p.origins.map encO).length : Int) + ((p.paths.map encT).length : Int)) + ((p.keys.map encK).length : Int)) = sizeP p := by
  have h1 := hp.o; have h2 := hp.t; have h3 := hp.k
  simp only [List.length_map, sizeP]
  rw [IntWalk.i64_in ((p.origins.length : Int) + p.paths.length) (by omega), IntWalk.i64_in _ (by omega)]
theorem c24 (p : Payload) (hp : p.ok) : ASpec prog 24 [encL p] (i64 (sizeP p)) := by
  refine ASpec.tree Proofs.Tryz.f24 {} (by kernel_rfl) (by kernel_rfl) (t24 p) ?_
  rw [size_wrap p hp]; rfl
def manyB (a : Attest) : Bool := decide (50 < (a.provs.length : Int))
def manyAt (l : List Attest) (i : Nat) : Bool := manyB (l.getD i default)
def I76 (l : List Attest) (i : Nat) : LState := { t := [(8, .imm (i64 i)), (7, .imm (i64 l.length)), (0, .imm (slE 2 encT l)), (1, .imm (fnV 46))], s := [], m := 19, n := 0 }
def T76 (l : List Attest) : Tell := { Lp := fun _ => Lfirst (manyAt l) l.length 0 R116 E116, lv := fun _ => ([8, 7, 0, 1], []) }
def T76r (l : List Attest) (i : Nat) : Tell := { O := fun r j => match r, j with | 4, 3 => .elem (encT (l.getD i default)) | 4, 5 => .call [encT (l.getD i default)] (bo (manyB (l.getD i default))) | _, _ => .no }
theorem t76r (l : List Attest) (i : Nat) : levL prog Proofs.Tryz.f76 2 (I76 l i) (T76r l i) fin116 =
  Tree.br (decide ((↑i : Int) < (↑(List.length l) : Int)))
  (Tree.need ((0 : Int) ≤ (↑i : Int) ∧ (List.map encT l)[Int.toNat (↑i : Int)]? = some (encT (List.getD l i default)))
  (Tree.need (ILeL [encT (List.getD l i default)] [encT (List.getD l i default)] ∧ ASpec prog 46 [encT (List.getD l i default)] (bo (manyB (List.getD l i default))))
  (Tree.br (manyB (List.getD l i default)) (Tree.done Exit.ret (LState.mk [(4, AVal.imm (i64 (↑i : Int)))] [] 19 11 []))
  (Tree.done Exit.normal
  (LState.mk
  [(8, AVal.imm (IVal.v (Value.int IntKind.i64 (IntKind.wrap IntKind.i64 ((↑i : Int) + (1 : Int)))))), (7, AVal.imm (i64 (↑(List.length l) : Int))), (0, AVal.imm (slE 2 encT l)),
  (1, AVal.imm (fnV 46))]
  [] 19 11 [])))))
  (Tree.done (Exit.exit 0) (LState.mk [] [] 19 1 [])) := by kernel_rfl
theorem t76 (l : List Attest) : levF prog Proofs.Tryz.f76 [slE 2 encT l, fnV 46] (T76 l) =
  Tree.loop 2
  (LState.mk
  [(8, AVal.imm (IVal.v (Value.int IntKind.i64 (0 : Int)))), (7, AVal.imm (IVal.v (Value.int IntKind.i64 (↑(List.length (List.map encT l)) : Int)))), (0, AVal.imm (slE 2 encT l)),
  (1, AVal.imm (fnV 46))]
  [] 19 4 [])
  (Tree.br (anyI (manyAt l) 0 (List.length l)) (Tree.done Exit.ret (R116 (firstI (manyAt l) 0 (List.length l)))) (Tree.done (Exit.exit 0) E116))
  (Tree.br (anyI (manyAt l) 0 (List.length l)) (Tree.done Exit.ret (lret (IVal.v (Value.int IntKind.i64 (↑(firstI (manyAt l) 0 (List.length l)) : Int)))))
  (Tree.done Exit.ret (lret (IVal.v (Value.int IntKind.i64 (-1 : Int)))))) := by kernel_rfl
def index76 (l : List Attest) : Int := if anyI (manyAt l) 0 l.length = true then firstI (manyAt l) 0 l.length else -1
theorem l76 (l : List Attest) (hl : l.length ≤ 2 ^ 62) (σ : LState) (h : LSub σ (I76 l 0)) : LoopOk prog [] (bodyOf Proofs.Tryz.f76) 2 σ (Lfirst (manyAt l) l.length 0 R116 E116) := by
  refine LoopOk.first (manyAt l) l.length 0 (I76 l) R116 E116 (T76r l) fin116 (by kernel_rfl) h fun i hi hz => ?_
  rw [t76r]
  refine ⟨fun hb => ?_, fun hb => ?_⟩
  · have hlt : i < l.length := by simpa using hb
    refine ⟨⟨by omega, by rw [Int.toNat_natCast]; exact getD_map _ _ _ _ hlt⟩, fun _ => ⟨⟨ILeL.refl _, c46 _⟩, fun _ => ⟨fun hb2 => ?_, fun hb2 => ?_⟩⟩⟩
    · exact ⟨hlt, hb2, by simp [R116, LSub, tsub, ssub, tl, linT, linS, ainB]⟩
    · exact ⟨hlt, hb2, by simp [I76, LSub, tsub, ssub, tl, linT, linS, ainB, i64, i64_small hlt hl]⟩
  · have hge : l.length ≤ i := by simpa using hb
    exact ⟨rfl, hge, by simp [E116, LSub, tsub, ssub, linT, linS]⟩
theorem c76 (l : List Attest) (hl : l.length ≤ 2 ^ 62) : ASpec prog 76 [slE 2 encT l, fnV 46] (i64 (index76 l)) := by
  refine ASpec.tree Proofs.Tryz.f76 (T76 l) (by kernel_rfl) (by kernel_rfl) (t76 l) ⟨l76 l hl _ ?_, fun h => ?_, fun h => ?_⟩
  · simp [I76, LSub, tsub, ssub, tl, linT, linS, ainB, i64]
  · rw [show index76 l = firstI (manyAt l) 0 l.length from by unfold index76; rw [h]; rfl]; rfl
  · rw [show index76 l = -1 from by unfold index76; rw [h]; rfl]; rfl
def T45 (l : List Attest) : Tell := { O := fun r j => match r, j with | 1, 2 => .call [slE 2 encT l, fnV 46] (i64 (index76 l)) | _, _ => .no }
theorem t45 (l : List Attest) : levF prog Proofs.Tryz.f45 [slE 2 encT l, fnV 46] (T45 l) =
  Tree.need (ILeL [slE 2 encT l, fnV 46] [slE 2 encT l, fnV 46] ∧ ASpec prog 76 [slE 2 encT l, fnV 46] (i64 (index76 l)))
  (Tree.done Exit.ret (lret (IVal.v (Value.bool (decide ((0 : Int) ≤ index76 l)))))) := by kernel_rfl
theorem index76_iff (l : List Attest) : (0 ≤ index76 l) ↔ ∃ a ∈ l, 50 < a.provs.length := by
  unfold index76
  split
  · rename_i h
    refine ⟨fun _ => ?_, fun _ => by omega⟩
    obtain ⟨i, hi, hp⟩ := anyI_iff.1 h
    refine ⟨_, getD_mem l i hi, ?_⟩
    simp only [manyAt, manyB, decide_eq_true_eq] at hp; omega
  · rename_i h
    refine ⟨fun h => by omega, fun ⟨a, hm, ha⟩ => ?_⟩
    obtain ⟨i, hi, hx⟩ := List.mem_iff_getElem.1 hm
    refine absurd (anyI_iff.2 ⟨i, hi, ?_⟩) h
    simp [manyAt, manyB, List.getD_eq_getElem?_getD, List.getElem?_eq_getElem hi, hx]; omega
theorem c45 (l : List Attest) (hl : l.length ≤ 2 ^ 62) : ASpec prog 45 [slE 2 encT l, fnV 46] (bo (decide (∃ a ∈ l, 50 < a.provs.length))) := by
  refine ASpec.tree Proofs.Tryz.f45 (T45 l) (by kernel_rfl) (by kernel_rfl) (t45 l) ⟨⟨ILeL.refl _, c76 l hl⟩, fun _ => ?_⟩
  refine lret_inj ?_
  simp [bo, index76_iff]
end Gp
namespace Gp
open Go Go.Abs Go.RowKit
theorem bytes_cells {w : World} {F : Foot} {b off ty : Nat} {cs : Array Value} {fr : Nat × Nat} {l : List Int} {vs : List Value} (hb : w.heap[b]? = some (.cells cs ty fr)) (hr : IRepL w F (l.map u8) vs) (hl : Lay cs off 1 vs) :
    ∀ (j : Nat) (x : Int), l[j]? = some x → w.cell? ((⟨b, off, none⟩ : Go.Addr).add j) = some (.int .u8 x) := by
  intro j x hj
  have h1 : (l.map u8)[j]? = some (u8 x) := by simp [hj]
  obtain ⟨u, h2, h3⟩ := hr.at h1
  rw [u8, IRep] at h3
  obtain ⟨rfl, _⟩ := h3
  obtain ⟨h4, h5⟩ := hl.at h2
  rw [show (⟨b, off, none⟩ : Go.Addr).add j = ⟨b, off + j, none⟩ from by simp [Go.Addr.add], cell_of_row w b (off + j) cs ty fr hb]
  have h6 : cs[off + j]? = some (.int .u8 x) := by
    have h7 : ((cs.toList.drop (off + j * 1)).take 1)[0]? = some (.int .u8 x) := by rw [← h5]; rfl
    simpa using h7
  exact h6
theorem bytes_rep {P : Program} {w : World} {F : Foot} {l : List Int} {u : Value} (h : IRep w F (sl1 (l.map u8)) u) : (Extern.Bytes.bytesOf u).run P w = .ok ⟨(Lib.bytesOf l).toArray⟩ w := by
  rw [sl1, IRep] at h
  obtain ⟨a, cap, rfl, _, _, h4⟩ := h
  rw [List.length_map]
  cases l with
  | nil => cases a <;> simp [Extern.Bytes.bytesOf, Extern.Bytes.loadBytes, Lib.bytesOf] <;> rfl
  | cons x l =>
    obtain ⟨b, off, cs, ty, fr, vs, rfl, _, hb, hr, hl⟩ := h4 (by simp)
    have := Lib.run_loadBytesX (P := P) (w := w) (x :: l) ⟨b, off, none⟩ .empty (bytes_cells hb hr hl)
    simp only [Extern.Bytes.bytesOf]
    rw [this]; simp
def cmpB (a b : List Int) : Int := Lib.compareBytes (Lib.bytesOf a) (Lib.bytesOf b)
def lu8 (l : List Int) : IVal := sl1 (l.map u8)
theorem x107 (a b : List Int) : XSpec prog 107 [lu8 a, lu8 b] (i64 (cmpB a b)) := by
  intro w F vs h
  rw [IRepL] at h
  obtain ⟨u, us, e, h1, h2⟩ := h
  rw [IRepL] at h2
  obtain ⟨v, us', rfl, h3, h4⟩ := h2
  rw [IRepL] at h4
  subst h4
  obtain rfl : vs = #[u, v] := by rw [← Array.toList_inj]; exact e
  refine ⟨.int .i64 (cmpB a b), ?_, by rw [i64, IRep]; exact ⟨rfl, rfl⟩⟩
  rw [run_callFunc_extern (fn := Proofs.Tryz.f107) (by kernel_rfl) (by kernel_rfl) (by kernel_rfl) (by kernel_rfl) (e := Extern.BytealgCompare.compare) (by kernel_rfl)]
  have : (Extern.BytealgCompare.compare #[u, v]).run prog w = .ok (.int .i64 (cmpB a b)) w := by
    change Sem.run prog (do pure (goInt (Extern.BytealgCompare.cmp (← Extern.Bytes.bytesOf u) (← Extern.Bytes.bytesOf v)))) w = _
    simp only [Sem.run_bind, bytes_rep h1, bytes_rep h3, Result.andThen, Sem.run_pure]
    rw [Lib.cmp_eq]; rfl
  rw [this]; rfl
def T84 (a b : List Int) : Tell := { O := fun r i => match r, i with | 1, 2 => .ext [lu8 a, lu8 b] (i64 (cmpB a b)) | _, _ => .no }
theorem t84 (a b : List Int) : levF prog Proofs.Tryz.f84 [lu8 a, lu8 b] (T84 a b) =
  Tree.need (ILeL [lu8 a, lu8 b] [lu8 a, lu8 b] ∧ XSpec prog 107 [lu8 a, lu8 b] (i64 (cmpB a b)) ∧ true = true) (Tree.done Exit.ret (lret (IVal.v (Value.int IntKind.i64 (cmpB a b))))) := by kernel_rfl
theorem c84 (a b : List Int) : ASpec prog 84 [lu8 a, lu8 b] (i64 (cmpB a b)) := by
  refine ASpec.tree Proofs.Tryz.f84 (T84 a b) (by kernel_rfl) (by kernel_rfl) (t84 a b) ?_
  exact ⟨⟨ILeL.refl _, x107 a b, rfl⟩, fun _ => rfl⟩
def cmpK (a b : RKey) : Int := orI [cmpI a.asn b.asn, cmpB (rootL a) (rootL b), cmpI a.height b.height]
def T54 (a b : RKey) : Tell := { O := fun r i => match r, i with
  | 1, 4 => .call [u32 a.asn, u32 b.asn] (i64 (cmpI a.asn b.asn)) | 1, 11 => .call [lu8 (rootL a), lu8 (rootL b)] (i64 (cmpB (rootL a) (rootL b))) | 1, 18 => .call [i64 a.height, i64 b.height] (i64 (cmpI a.height b.height))
  | 1, 20 => .call [sl1 ([cmpI a.asn b.asn, cmpB (rootL a) (rootL b), cmpI a.height b.height].map i64)] (i64 (cmpK a b)) | _, _ => .no, fz := fun _ j => match j with | 7 => true | 10 => true | _ => false }
theorem t54 (a b : RKey) : levF prog Proofs.Tryz.f54 [encK a, encK b] (T54 a b) =
  Tree.need (ILeL [u32 a.asn, u32 b.asn] [u32 a.asn, u32 b.asn] ∧ ASpec prog 78 [u32 a.asn, u32 b.asn] (i64 (cmpI a.asn b.asn)))
  (Tree.need
  (ILeL
  [IVal.sl false false 1
  [u8 a.root[0], u8 a.root[1], u8 a.root[2], u8 a.root[3], u8 a.root[4], u8 a.root[5], u8 a.root[6], u8 a.root[7], u8 a.root[8], u8 a.root[9],
  u8 a.root[10], u8 a.root[11], u8 a.root[12], u8 a.root[13], u8 a.root[14], u8 a.root[15]],
  IVal.sl false false 1
  [u8 b.root[0], u8 b.root[1], u8 b.root[2], u8 b.root[3], u8 b.root[4], u8 b.root[5], u8 b.root[6], u8 b.root[7], u8 b.root[8], u8 b.root[9],
  u8 b.root[10], u8 b.root[11], u8 b.root[12], u8 b.root[13], u8 b.root[14], u8 b.root[15]]]
  [lu8 (rootL a), lu8 (rootL b)] ∧
  ASpec prog 84 [lu8 (rootL a), lu8 (rootL b)] (i64 (cmpB (rootL a) (rootL b))) ∧ true = true)
  (Tree.need (ILeL [i64 a.height, i64 b.height] [i64 a.height, i64 b.height] ∧ ASpec prog 81 [i64 a.height, i64 b.height] (i64 (cmpI a.height b.height)))
  (Tree.need
  (ILeL [IVal.sl false false 1 [i64 (cmpI a.asn b.asn), i64 (cmpB (rootL a) (rootL b)), i64 (cmpI a.height b.height)]] [sl1 [i64 (cmpI a.asn b.asn), i64 (cmpB (rootL a) (rootL b)), i64 (cmpI a.height b.height)]] ∧
  ASpec prog 77 [sl1 [i64 (cmpI a.asn b.asn), i64 (cmpB (rootL a) (rootL b)), i64 (cmpI a.height b.height)]] (i64 (cmpK a b)) ∧ true = true)
  (Tree.done Exit.ret (lret (IVal.v (Value.int IntKind.i64 (cmpK a b)))))))) := by kernel_rfl
theorem c54 (a b : RKey) : ASpec prog 54 [encK a, encK b] (i64 (cmpK a b)) := by
  refine ASpec.tree Proofs.Tryz.f54 (T54 a b) (by kernel_rfl) (by kernel_rfl) (t54 a b) ?_
  exact ⟨⟨ILeL.refl _, c78 _ _⟩, fun _ => ⟨⟨ILeL.refl _, c84 _ _, rfl⟩, fun _ => ⟨⟨ILeL.refl _, c81 _ _⟩, fun _ => ⟨⟨ILeL.refl _, c77 [cmpI a.asn b.asn, cmpB (rootL a) (rootL b), cmpI a.height b.height] (by simp), rfl⟩, fun _ => rfl⟩⟩⟩⟩
def goodK (k : RKey) : Bool := decide (0 ≤ k.height) && decide (k.height ≤ 4)
theorem t53 (l : List RKey) : levF prog Proofs.Tryz.f53 [slE 18 encK l, fnV 54, fnV 55] (TR 18 encK cmpK goodK default l) = FT 18 encK 54 55 cmpK goodK default l := by kernel_rfl
theorem t53r (l : List RKey) (i : Nat) : levL prog Proofs.Tryz.f53 2 (IR 18 encK 54 55 l i) (TRr encK cmpK goodK default l i) finR = RT 18 encK 54 55 cmpK goodK default l i := by kernel_rfl
theorem c53 (l : List RKey) (hl : l.length ≤ 2 ^ 62) : ASpec prog 53 [slE 18 encK l, fnV 54, fnV 55] (bo (risingB cmpK goodK default l)) :=
  rising_spec (by kernel_rfl) (by kernel_rfl) (t53r l) (by kernel_rfl) (t53 l) c55 c54 hl
end Gp
