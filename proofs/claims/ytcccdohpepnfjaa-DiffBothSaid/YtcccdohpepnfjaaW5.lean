/- Part 5 of the walk and of the plain law of DiffBoth. -/
import Derived.Test.YtcccdohpepnfjaaW4

set_option maxRecDepth 100000
set_option maxHeartbeats 0
set_option linter.unusedVariables false
set_option linter.unusedSimpArgs false
open Go Go.Abs
namespace Gp
theorem i64_half {i j : Nat} (h : i + j ≤ 2 ^ 62) : IntKind.i64.wrap (Int.fdiv (IntKind.u64.wrap (IntKind.i64.wrap ((i : Int) + (j : Int)))) 2) = (((i + j) / 2 : Nat) : Int) := by
  rw [i64_add h]
  have e1 : IntKind.u64.wrap ((i + j : Nat) : Int) = ((i + j : Nat) : Int) := by
    rw [IntWalk.u64_in _ (by omega)]
  rw [e1, Int.fdiv_eq_ediv_of_nonneg _ (by omega), IntWalk.i64_in _ (by omega)]
  omega
theorem i64_succ {n : Nat} (h : n + 1 ≤ 2 ^ 62) : IntKind.i64.wrap ((n : Int) + 1) = ((n + 1 : Nat) : Int) := by
  rw [IntWalk.i64_in _ (by omega)]; omega

def IA113 (l0 : Abs.Loc) (a i j : Nat) (x : List Origin) : LState := { t := [(11, .imm (i64 j)), (10, .imm (i64 i)), (4, .imm (fnV 35)), (1, .imm (i64 a)), (0, .own 0 x.length)], s := [(0, .brow l0 44 6 (x.map encO))], m := 220, n := 1 }
def EA113 (l0 : Abs.Loc) (a i : Nat) (x : List Origin) : LState := { t := [(10, .imm (i64 i)), (1, .imm (i64 a)), (0, .own 0 x.length)], s := [(0, .brow l0 44 6 (x.map encO))], m := 220, n := 1 }
def finA113 : Exit → Fin
  | .normal => ⟨[], [11, 10, 4, 1, 0], [0]⟩
  | _ => ⟨[], [10, 1, 0], [0]⟩
def TA113r (l0 : Abs.Loc) (a i j : Nat) (x : List Origin) : Tell :=
  Tell.mk (fun x x_1 => false) (fun x x_1 => Orc.no) (fun x => Tree.fail 1000003 0) (fun x => 0) (fun x => ([], []))
  (oget
  [(11, 5, 4, Orc.elem (encO (List.getD x (Int.toNat (IntKind.wrap IntKind.i64 (Int.fdiv (IntKind.wrap IntKind.u64 (IntKind.wrap IntKind.i64 ((↑i : Int) + (↑j : Int)))) (2 : Int)))) default))),
  (11, 5, 8, Orc.elem (encO (List.getD x a default))),
  (11, 5, 9,
  Orc.call [encO (List.getD x (Int.toNat (IntKind.wrap IntKind.i64 (Int.fdiv (IntKind.wrap IntKind.u64 (IntKind.wrap IntKind.i64 ((↑i : Int) + (↑j : Int)))) (2 : Int)))) default), encO (List.getD x a default)]
  (i64 (cmpO (List.getD x (Int.toNat (IntKind.wrap IntKind.i64 (Int.fdiv (IntKind.wrap IntKind.u64 (IntKind.wrap IntKind.i64 ((↑i : Int) + (↑j : Int)))) (2 : Int)))) default) (List.getD x a default))))])
  fun x x_1 => Tree.fail 1000003 0
theorem tA113r (l0 : Abs.Loc) (a i j : Nat) (x : List Origin) : levL prog Proofs.Try.f113 3 (IA113 l0 a i j x) (TA113r l0 a i j x) finA113 =
  Tree.br (decide ((↑i : Int) < (↑j : Int)))
  (Tree.need ((0 : Int) ≤ (1 : Int))
  (Tree.need
  ((0 : Int) ≤ IntKind.wrap IntKind.i64 (Int.fdiv (IntKind.wrap IntKind.u64 (IntKind.wrap IntKind.i64 ((↑i : Int) + (↑j : Int)))) (2 : Int)) ∧
  Int.toNat (IntKind.wrap IntKind.i64 (Int.fdiv (IntKind.wrap IntKind.u64 (IntKind.wrap IntKind.i64 ((↑i : Int) + (↑j : Int)))) (2 : Int))) < List.length x)
  (Tree.need
  ((List.map encO x)[Int.toNat (IntKind.wrap IntKind.i64 (Int.fdiv (IntKind.wrap IntKind.u64 (IntKind.wrap IntKind.i64 ((↑i : Int) + (↑j : Int)))) (2 : Int)))]? =
  some (encO (List.getD x (Int.toNat (IntKind.wrap IntKind.i64 (Int.fdiv (IntKind.wrap IntKind.u64 (IntKind.wrap IntKind.i64 ((↑i : Int) + (↑j : Int)))) (2 : Int)))) default)))
  (Tree.need ((0 : Int) ≤ (↑a : Int) ∧ a < List.length x)
  (Tree.need ((List.map encO x)[a]? = some (encO (List.getD x a default)))
  (Tree.need
  (ILeL [encO (List.getD x (Int.toNat (IntKind.wrap IntKind.i64 (Int.fdiv (IntKind.wrap IntKind.u64 (IntKind.wrap IntKind.i64 ((↑i : Int) + (↑j : Int)))) (2 : Int)))) default), encO (List.getD x a default)]
  [encO (List.getD x (Int.toNat (IntKind.wrap IntKind.i64 (Int.fdiv (IntKind.wrap IntKind.u64 (IntKind.wrap IntKind.i64 ((↑i : Int) + (↑j : Int)))) (2 : Int)))) default), encO (List.getD x a default)] ∧
  ASpec prog 35 [encO (List.getD x (Int.toNat (IntKind.wrap IntKind.i64 (Int.fdiv (IntKind.wrap IntKind.u64 (IntKind.wrap IntKind.i64 ((↑i : Int) + (↑j : Int)))) (2 : Int)))) default), encO (List.getD x a default)]
  (i64 (cmpO (List.getD x (Int.toNat (IntKind.wrap IntKind.i64 (Int.fdiv (IntKind.wrap IntKind.u64 (IntKind.wrap IntKind.i64 ((↑i : Int) + (↑j : Int)))) (2 : Int)))) default) (List.getD x a default))))
  (Tree.br (decide (cmpO (List.getD x (Int.toNat (IntKind.wrap IntKind.i64 (Int.fdiv (IntKind.wrap IntKind.u64 (IntKind.wrap IntKind.i64 ((↑i : Int) + (↑j : Int)))) (2 : Int)))) default) (List.getD x a default) < (0 : Int)))
  (Tree.done Exit.normal
  (LState.mk
  [(11, AVal.imm (i64 (↑j : Int))),
  (10,
  AVal.imm (IVal.v (Value.int IntKind.i64 (IntKind.wrap IntKind.i64 (IntKind.wrap IntKind.i64 (Int.fdiv (IntKind.wrap IntKind.u64 (IntKind.wrap IntKind.i64 ((↑i : Int) + (↑j : Int)))) (2 : Int)) + (1 : Int)))))),
  (4, AVal.imm (fnV 35)), (1, AVal.imm (i64 (↑a : Int))), (0, AVal.own 0 (List.length x))]
  [(0, Entry.brow l0 44 6 (List.map encO x))] 220 25 []))
  (Tree.done Exit.normal
  (LState.mk
  [(11, AVal.imm (IVal.v (Value.int IntKind.i64 (IntKind.wrap IntKind.i64 (Int.fdiv (IntKind.wrap IntKind.u64 (IntKind.wrap IntKind.i64 ((↑i : Int) + (↑j : Int)))) (2 : Int)))))),
  (10, AVal.imm (i64 (↑i : Int))), (4, AVal.imm (fnV 35)), (1, AVal.imm (i64 (↑a : Int))), (0, AVal.own 0 (List.length x))]
  [(0, Entry.brow l0 44 6 (List.map encO x))] 220 24 [])))))))))
  (Tree.done (Exit.exit 0)
  (LState.mk [(10, AVal.imm (i64 (↑i : Int))), (1, AVal.imm (i64 (↑a : Int))), (0, AVal.own 0 (List.length x))] [(0, Entry.brow l0 44 6 (List.map encO x))] 220 4 [])) := by kernel_rfl
def IB113 (l0 : Abs.Loc) (k i : Nat) (x : List Origin) : LState := { t := [(13, .imm (i64 k)), (10, .imm (i64 i)), (0, .own 0 x.length)], s := [(0, .brow l0 44 6 (x.map encO))], m := 220, n := 1 }
def ER113 (l0 : Abs.Loc) (x : List Origin) : LState := { t := [], s := [(0, .brow l0 44 6 (x.map encO))], m := 220, n := 1 }
def finB113 : Exit → Fin
  | .normal => ⟨[], [13, 10, 0], [0]⟩
  | _ => ⟨[], [], [0]⟩
def TB113r (l0 : Abs.Loc) (k i : Nat) (x : List Origin) : Tell :=
  Tell.mk (fun x x_1 => false) (fun x x_1 => Orc.no) (fun x => Tree.fail 1000003 0) (fun x => 0) (fun x => ([], []))
  (oget
  [(5, 11, 9, Orc.elem (encO (List.getD x (Int.toNat (IntKind.wrap IntKind.i64 ((↑k : Int) + (1 : Int)))) default))), (5, 11, 13, Orc.elem (encO (List.getD x k default))),
  (5, 11, 15, Orc.elem (IVal.tup [])), (5, 11, 17, Orc.elem (IVal.tup []))])
  fun x x_1 => Tree.fail 1000003 0
theorem tB113r (l0 : Abs.Loc) (k i : Nat) (x : List Origin) : levL prog Proofs.Try.f113 9 (IB113 l0 k i x) (TB113r l0 k i x) finB113 =
  Tree.br (decide ((↑k : Int) < IntKind.wrap IntKind.i64 ((↑i : Int) - (1 : Int))))
  (Tree.need ((0 : Int) ≤ IntKind.wrap IntKind.i64 ((↑k : Int) + (1 : Int)) ∧ Int.toNat (IntKind.wrap IntKind.i64 ((↑k : Int) + (1 : Int))) < List.length x)
  (Tree.need ((List.map encO x)[Int.toNat (IntKind.wrap IntKind.i64 ((↑k : Int) + (1 : Int)))]? = some (encO (List.getD x (Int.toNat (IntKind.wrap IntKind.i64 ((↑k : Int) + (1 : Int)))) default)))
  (Tree.need ((0 : Int) ≤ (↑k : Int) ∧ k < List.length x)
  (Tree.need ((List.map encO x)[k]? = some (encO (List.getD x k default)))
  (Tree.need ((0 : Int) ≤ (↑k : Int) ∧ k < List.length x)
  (Tree.need (k < List.length (List.map encO x))
  (Tree.need ((0 : Int) ≤ IntKind.wrap IntKind.i64 ((↑k : Int) + (1 : Int)) ∧ Int.toNat (IntKind.wrap IntKind.i64 ((↑k : Int) + (1 : Int))) < List.length x)
  (Tree.need (Int.toNat (IntKind.wrap IntKind.i64 ((↑k : Int) + (1 : Int))) < List.length (List.set (List.map encO x) k (encO (List.getD x (Int.toNat (IntKind.wrap IntKind.i64 ((↑k : Int) + (1 : Int)))) default))))
  (Tree.done Exit.normal
  (LState.mk [(13, AVal.imm (IVal.v (Value.int IntKind.i64 (IntKind.wrap IntKind.i64 ((↑k : Int) + (1 : Int)))))), (10, AVal.imm (i64 (↑i : Int))), (0, AVal.own 0 (List.length x))]
  [(0,
  Entry.brow l0 44 6
  (List.set (List.set (List.map encO x) k (encO (List.getD x (Int.toNat (IntKind.wrap IntKind.i64 ((↑k : Int) + (1 : Int)))) default))) (Int.toNat (IntKind.wrap IntKind.i64 ((↑k : Int) + (1 : Int))))
  (encO (List.getD x k default))))]
  220 26 []))))))))))
  (Tree.done (Exit.exit 2) (LState.mk [] [(0, Entry.brow l0 44 6 (List.map encO x))] 220 5 [])) := by kernel_rfl
def IC113 (l0 : Abs.Loc) (m i j : Nat) (x : List Origin) : LState := { t := [(15, .imm (i64 j)), (14, .imm (i64 i)), (4, .imm (fnV 35)), (2, .imm (i64 m)), (0, .own 0 x.length)], s := [(0, .brow l0 44 6 (x.map encO))], m := 220, n := 1 }
def EC113 (l0 : Abs.Loc) (m i : Nat) (x : List Origin) : LState := { t := [(14, .imm (i64 i)), (2, .imm (i64 m)), (0, .own 0 x.length)], s := [(0, .brow l0 44 6 (x.map encO))], m := 220, n := 1 }
def finC113 : Exit → Fin
  | .normal => ⟨[], [15, 14, 4, 2, 0], [0]⟩
  | _ => ⟨[], [14, 2, 0], [0]⟩
def TC113r (l0 : Abs.Loc) (m i j : Nat) (x : List Origin) : Tell :=
  Tell.mk (fun x x_1 => false) (fun x x_1 => Orc.no) (fun x => Tree.fail 1000003 0) (fun x => 0) (fun x => ([], []))
  (oget
  [(11, 17, 4, Orc.elem (encO (List.getD x m default))),
  (11, 17, 8, Orc.elem (encO (List.getD x (Int.toNat (IntKind.wrap IntKind.i64 (Int.fdiv (IntKind.wrap IntKind.u64 (IntKind.wrap IntKind.i64 ((↑i : Int) + (↑j : Int)))) (2 : Int)))) default))),
  (11, 17, 9,
  Orc.call [encO (List.getD x m default), encO (List.getD x (Int.toNat (IntKind.wrap IntKind.i64 (Int.fdiv (IntKind.wrap IntKind.u64 (IntKind.wrap IntKind.i64 ((↑i : Int) + (↑j : Int)))) (2 : Int)))) default)]
  (i64 (cmpO (List.getD x m default) (List.getD x (Int.toNat (IntKind.wrap IntKind.i64 (Int.fdiv (IntKind.wrap IntKind.u64 (IntKind.wrap IntKind.i64 ((↑i : Int) + (↑j : Int)))) (2 : Int)))) default))))])
  fun x x_1 => Tree.fail 1000003 0
theorem tC113r (l0 : Abs.Loc) (m i j : Nat) (x : List Origin) : levL prog Proofs.Try.f113 15 (IC113 l0 m i j x) (TC113r l0 m i j x) finC113 =
  Tree.br (decide ((↑i : Int) < (↑j : Int)))
  (Tree.need ((0 : Int) ≤ (1 : Int))
  (Tree.need ((0 : Int) ≤ (↑m : Int) ∧ m < List.length x)
  (Tree.need ((List.map encO x)[m]? = some (encO (List.getD x m default)))
  (Tree.need
  ((0 : Int) ≤ IntKind.wrap IntKind.i64 (Int.fdiv (IntKind.wrap IntKind.u64 (IntKind.wrap IntKind.i64 ((↑i : Int) + (↑j : Int)))) (2 : Int)) ∧
  Int.toNat (IntKind.wrap IntKind.i64 (Int.fdiv (IntKind.wrap IntKind.u64 (IntKind.wrap IntKind.i64 ((↑i : Int) + (↑j : Int)))) (2 : Int))) < List.length x)
  (Tree.need
  ((List.map encO x)[Int.toNat (IntKind.wrap IntKind.i64 (Int.fdiv (IntKind.wrap IntKind.u64 (IntKind.wrap IntKind.i64 ((↑i : Int) + (↑j : Int)))) (2 : Int)))]? =
  some (encO (List.getD x (Int.toNat (IntKind.wrap IntKind.i64 (Int.fdiv (IntKind.wrap IntKind.u64 (IntKind.wrap IntKind.i64 ((↑i : Int) + (↑j : Int)))) (2 : Int)))) default)))
  (Tree.need
  (ILeL [encO (List.getD x m default), encO (List.getD x (Int.toNat (IntKind.wrap IntKind.i64 (Int.fdiv (IntKind.wrap IntKind.u64 (IntKind.wrap IntKind.i64 ((↑i : Int) + (↑j : Int)))) (2 : Int)))) default)]
  [encO (List.getD x m default), encO (List.getD x (Int.toNat (IntKind.wrap IntKind.i64 (Int.fdiv (IntKind.wrap IntKind.u64 (IntKind.wrap IntKind.i64 ((↑i : Int) + (↑j : Int)))) (2 : Int)))) default)] ∧
  ASpec prog 35 [encO (List.getD x m default), encO (List.getD x (Int.toNat (IntKind.wrap IntKind.i64 (Int.fdiv (IntKind.wrap IntKind.u64 (IntKind.wrap IntKind.i64 ((↑i : Int) + (↑j : Int)))) (2 : Int)))) default)]
  (i64 (cmpO (List.getD x m default) (List.getD x (Int.toNat (IntKind.wrap IntKind.i64 (Int.fdiv (IntKind.wrap IntKind.u64 (IntKind.wrap IntKind.i64 ((↑i : Int) + (↑j : Int)))) (2 : Int)))) default))))
  (Tree.br (!decide (cmpO (List.getD x m default) (List.getD x (Int.toNat (IntKind.wrap IntKind.i64 (Int.fdiv (IntKind.wrap IntKind.u64 (IntKind.wrap IntKind.i64 ((↑i : Int) + (↑j : Int)))) (2 : Int)))) default) < (0 : Int)))
  (Tree.done Exit.normal
  (LState.mk
  [(15, AVal.imm (i64 (↑j : Int))),
  (14,
  AVal.imm (IVal.v (Value.int IntKind.i64 (IntKind.wrap IntKind.i64 (IntKind.wrap IntKind.i64 (Int.fdiv (IntKind.wrap IntKind.u64 (IntKind.wrap IntKind.i64 ((↑i : Int) + (↑j : Int)))) (2 : Int)) + (1 : Int)))))),
  (4, AVal.imm (fnV 35)), (2, AVal.imm (i64 (↑m : Int))), (0, AVal.own 0 (List.length x))]
  [(0, Entry.brow l0 44 6 (List.map encO x))] 220 26 []))
  (Tree.done Exit.normal
  (LState.mk
  [(15, AVal.imm (IVal.v (Value.int IntKind.i64 (IntKind.wrap IntKind.i64 (Int.fdiv (IntKind.wrap IntKind.u64 (IntKind.wrap IntKind.i64 ((↑i : Int) + (↑j : Int)))) (2 : Int)))))),
  (14, AVal.imm (i64 (↑i : Int))), (4, AVal.imm (fnV 35)), (2, AVal.imm (i64 (↑m : Int))), (0, AVal.own 0 (List.length x))]
  [(0, Entry.brow l0 44 6 (List.map encO x))] 220 25 [])))))))))
  (Tree.done (Exit.exit 4)
  (LState.mk [(14, AVal.imm (i64 (↑i : Int))), (2, AVal.imm (i64 (↑m : Int))), (0, AVal.own 0 (List.length x))] [(0, Entry.brow l0 44 6 (List.map encO x))] 220 4 [])) := by kernel_rfl
def ID113 (l0 : Abs.Loc) (k i : Nat) (x : List Origin) : LState := { t := [(17, .imm (i64 k)), (14, .imm (i64 i)), (0, .own 0 x.length)], s := [(0, .brow l0 44 6 (x.map encO))], m := 220, n := 1 }
def finD113 : Exit → Fin
  | .normal => ⟨[], [17, 14, 0], [0]⟩
  | _ => ⟨[], [], [0]⟩
def TD113r (l0 : Abs.Loc) (k i : Nat) (x : List Origin) : Tell :=
  Tell.mk (fun x x_1 => false) (fun x x_1 => Orc.no) (fun x => Tree.fail 1000003 0) (fun x => 0) (fun x => ([], []))
  (oget
  [(4, 23, 9, Orc.elem (encO (List.getD x (Int.toNat (IntKind.wrap IntKind.i64 ((↑k : Int) - (1 : Int)))) default))), (4, 23, 13, Orc.elem (encO (List.getD x k default))),
  (4, 23, 15, Orc.elem (IVal.tup [])), (4, 23, 17, Orc.elem (IVal.tup []))])
  fun x x_1 => Tree.fail 1000003 0
theorem tD113r (l0 : Abs.Loc) (k i : Nat) (x : List Origin) : levL prog Proofs.Try.f113 21 (ID113 l0 k i x) (TD113r l0 k i x) finD113 =
  Tree.br (decide ((↑i : Int) < (↑k : Int)))
  (Tree.need ((0 : Int) ≤ IntKind.wrap IntKind.i64 ((↑k : Int) - (1 : Int)) ∧ Int.toNat (IntKind.wrap IntKind.i64 ((↑k : Int) - (1 : Int))) < List.length x)
  (Tree.need ((List.map encO x)[Int.toNat (IntKind.wrap IntKind.i64 ((↑k : Int) - (1 : Int)))]? = some (encO (List.getD x (Int.toNat (IntKind.wrap IntKind.i64 ((↑k : Int) - (1 : Int)))) default)))
  (Tree.need ((0 : Int) ≤ (↑k : Int) ∧ k < List.length x)
  (Tree.need ((List.map encO x)[k]? = some (encO (List.getD x k default)))
  (Tree.need ((0 : Int) ≤ (↑k : Int) ∧ k < List.length x)
  (Tree.need (k < List.length (List.map encO x))
  (Tree.need ((0 : Int) ≤ IntKind.wrap IntKind.i64 ((↑k : Int) - (1 : Int)) ∧ Int.toNat (IntKind.wrap IntKind.i64 ((↑k : Int) - (1 : Int))) < List.length x)
  (Tree.need (Int.toNat (IntKind.wrap IntKind.i64 ((↑k : Int) - (1 : Int))) < List.length (List.set (List.map encO x) k (encO (List.getD x (Int.toNat (IntKind.wrap IntKind.i64 ((↑k : Int) - (1 : Int)))) default))))
  (Tree.done Exit.normal
  (LState.mk [(17, AVal.imm (IVal.v (Value.int IntKind.i64 (IntKind.wrap IntKind.i64 ((↑k : Int) - (1 : Int)))))), (14, AVal.imm (i64 (↑i : Int))), (0, AVal.own 0 (List.length x))]
  [(0,
  Entry.brow l0 44 6
  (List.set (List.set (List.map encO x) k (encO (List.getD x (Int.toNat (IntKind.wrap IntKind.i64 ((↑k : Int) - (1 : Int)))) default))) (Int.toNat (IntKind.wrap IntKind.i64 ((↑k : Int) - (1 : Int))))
  (encO (List.getD x k default))))]
  220 25 []))))))))))
  (Tree.done (Exit.exit 6) (LState.mk [] [(0, Entry.brow l0 44 6 (List.map encO x))] 220 4 [])) := by kernel_rfl
def IE113 (l0 : Abs.Loc) (a m b q n md i j : Nat) (x : List Origin) : LState := { t := [(22, .imm (i64 q)), (21, .imm (i64 j)), (20, .imm (i64 i)), (19, .imm (i64 n)), (18, .imm (i64 md)), (4, .imm (fnV 35)), (3, .imm (i64 b)), (2, .imm (i64 m)), (1, .imm (i64 a)), (0, .own 0 x.length)], s := [(0, .brow l0 44 6 (x.map encO))], m := 220, n := 1 }
def EE113 (l0 : Abs.Loc) (a m b n md i : Nat) (x : List Origin) : LState := { t := [(20, .imm (i64 i)), (19, .imm (i64 n)), (18, .imm (i64 md)), (4, .imm (fnV 35)), (3, .imm (i64 b)), (2, .imm (i64 m)), (1, .imm (i64 a)), (0, .own 0 x.length)], s := [(0, .brow l0 44 6 (x.map encO))], m := 220, n := 1 }
def finE113 : Exit → Fin
  | .normal => ⟨[], [22, 21, 20, 19, 18, 4, 3, 2, 1, 0], [0]⟩
  | _ => ⟨[], [20, 19, 18, 4, 3, 2, 1, 0], [0]⟩
def TE113r (l0 : Abs.Loc) (a m b q n md i j : Nat) (x : List Origin) : Tell :=
  Tell.mk (fun x x_1 => false) (fun x x_1 => Orc.no) (fun x => Tree.fail 1000003 0) (fun x => 0) (fun x => ([], []))
  (oget
  [(11, 35, 6,
  Orc.elem (encO (List.getD x (Int.toNat (IntKind.wrap IntKind.i64 ((↑q : Int) - IntKind.wrap IntKind.i64 (Int.fdiv (IntKind.wrap IntKind.u64 (IntKind.wrap IntKind.i64 ((↑i : Int) + (↑j : Int)))) (2 : Int))))) default))),
  (11, 35, 10, Orc.elem (encO (List.getD x (Int.toNat (IntKind.wrap IntKind.i64 (Int.fdiv (IntKind.wrap IntKind.u64 (IntKind.wrap IntKind.i64 ((↑i : Int) + (↑j : Int)))) (2 : Int)))) default))),
  (11, 35, 11,
  Orc.call
  [encO (List.getD x (Int.toNat (IntKind.wrap IntKind.i64 ((↑q : Int) - IntKind.wrap IntKind.i64 (Int.fdiv (IntKind.wrap IntKind.u64 (IntKind.wrap IntKind.i64 ((↑i : Int) + (↑j : Int)))) (2 : Int))))) default),
  encO (List.getD x (Int.toNat (IntKind.wrap IntKind.i64 (Int.fdiv (IntKind.wrap IntKind.u64 (IntKind.wrap IntKind.i64 ((↑i : Int) + (↑j : Int)))) (2 : Int)))) default)]
  (i64
  (cmpO (List.getD x (Int.toNat (IntKind.wrap IntKind.i64 ((↑q : Int) - IntKind.wrap IntKind.i64 (Int.fdiv (IntKind.wrap IntKind.u64 (IntKind.wrap IntKind.i64 ((↑i : Int) + (↑j : Int)))) (2 : Int))))) default)
  (List.getD x (Int.toNat (IntKind.wrap IntKind.i64 (Int.fdiv (IntKind.wrap IntKind.u64 (IntKind.wrap IntKind.i64 ((↑i : Int) + (↑j : Int)))) (2 : Int)))) default))))])
  fun x x_1 => Tree.fail 1000003 0
theorem tE113r (l0 : Abs.Loc) (a m b q n md i j : Nat) (x : List Origin) : levL prog Proofs.Try.f113 33 (IE113 l0 a m b q n md i j x) (TE113r l0 a m b q n md i j x) finE113 =
  Tree.br (decide ((↑i : Int) < (↑j : Int)))
  (Tree.need ((0 : Int) ≤ (1 : Int))
  (Tree.need
  ((0 : Int) ≤ IntKind.wrap IntKind.i64 ((↑q : Int) - IntKind.wrap IntKind.i64 (Int.fdiv (IntKind.wrap IntKind.u64 (IntKind.wrap IntKind.i64 ((↑i : Int) + (↑j : Int)))) (2 : Int))) ∧
  Int.toNat (IntKind.wrap IntKind.i64 ((↑q : Int) - IntKind.wrap IntKind.i64 (Int.fdiv (IntKind.wrap IntKind.u64 (IntKind.wrap IntKind.i64 ((↑i : Int) + (↑j : Int)))) (2 : Int)))) < List.length x)
  (Tree.need
  ((List.map encO x)[Int.toNat (IntKind.wrap IntKind.i64 ((↑q : Int) - IntKind.wrap IntKind.i64 (Int.fdiv (IntKind.wrap IntKind.u64 (IntKind.wrap IntKind.i64 ((↑i : Int) + (↑j : Int)))) (2 : Int))))]? =
  some (encO (List.getD x (Int.toNat (IntKind.wrap IntKind.i64 ((↑q : Int) - IntKind.wrap IntKind.i64 (Int.fdiv (IntKind.wrap IntKind.u64 (IntKind.wrap IntKind.i64 ((↑i : Int) + (↑j : Int)))) (2 : Int))))) default)))
  (Tree.need
  ((0 : Int) ≤ IntKind.wrap IntKind.i64 (Int.fdiv (IntKind.wrap IntKind.u64 (IntKind.wrap IntKind.i64 ((↑i : Int) + (↑j : Int)))) (2 : Int)) ∧
  Int.toNat (IntKind.wrap IntKind.i64 (Int.fdiv (IntKind.wrap IntKind.u64 (IntKind.wrap IntKind.i64 ((↑i : Int) + (↑j : Int)))) (2 : Int))) < List.length x)
  (Tree.need
  ((List.map encO x)[Int.toNat (IntKind.wrap IntKind.i64 (Int.fdiv (IntKind.wrap IntKind.u64 (IntKind.wrap IntKind.i64 ((↑i : Int) + (↑j : Int)))) (2 : Int)))]? =
  some (encO (List.getD x (Int.toNat (IntKind.wrap IntKind.i64 (Int.fdiv (IntKind.wrap IntKind.u64 (IntKind.wrap IntKind.i64 ((↑i : Int) + (↑j : Int)))) (2 : Int)))) default)))
  (Tree.need
  (ILeL
  [encO (List.getD x (Int.toNat (IntKind.wrap IntKind.i64 ((↑q : Int) - IntKind.wrap IntKind.i64 (Int.fdiv (IntKind.wrap IntKind.u64 (IntKind.wrap IntKind.i64 ((↑i : Int) + (↑j : Int)))) (2 : Int))))) default),
  encO (List.getD x (Int.toNat (IntKind.wrap IntKind.i64 (Int.fdiv (IntKind.wrap IntKind.u64 (IntKind.wrap IntKind.i64 ((↑i : Int) + (↑j : Int)))) (2 : Int)))) default)]
  [encO (List.getD x (Int.toNat (IntKind.wrap IntKind.i64 ((↑q : Int) - IntKind.wrap IntKind.i64 (Int.fdiv (IntKind.wrap IntKind.u64 (IntKind.wrap IntKind.i64 ((↑i : Int) + (↑j : Int)))) (2 : Int))))) default),
  encO (List.getD x (Int.toNat (IntKind.wrap IntKind.i64 (Int.fdiv (IntKind.wrap IntKind.u64 (IntKind.wrap IntKind.i64 ((↑i : Int) + (↑j : Int)))) (2 : Int)))) default)] ∧
  ASpec prog 35
  [encO (List.getD x (Int.toNat (IntKind.wrap IntKind.i64 ((↑q : Int) - IntKind.wrap IntKind.i64 (Int.fdiv (IntKind.wrap IntKind.u64 (IntKind.wrap IntKind.i64 ((↑i : Int) + (↑j : Int)))) (2 : Int))))) default),
  encO (List.getD x (Int.toNat (IntKind.wrap IntKind.i64 (Int.fdiv (IntKind.wrap IntKind.u64 (IntKind.wrap IntKind.i64 ((↑i : Int) + (↑j : Int)))) (2 : Int)))) default)]
  (i64
  (cmpO (List.getD x (Int.toNat (IntKind.wrap IntKind.i64 ((↑q : Int) - IntKind.wrap IntKind.i64 (Int.fdiv (IntKind.wrap IntKind.u64 (IntKind.wrap IntKind.i64 ((↑i : Int) + (↑j : Int)))) (2 : Int))))) default)
  (List.getD x (Int.toNat (IntKind.wrap IntKind.i64 (Int.fdiv (IntKind.wrap IntKind.u64 (IntKind.wrap IntKind.i64 ((↑i : Int) + (↑j : Int)))) (2 : Int)))) default))))
  (Tree.br
  (!decide
  (cmpO (List.getD x (Int.toNat (IntKind.wrap IntKind.i64 ((↑q : Int) - IntKind.wrap IntKind.i64 (Int.fdiv (IntKind.wrap IntKind.u64 (IntKind.wrap IntKind.i64 ((↑i : Int) + (↑j : Int)))) (2 : Int))))) default)
  (List.getD x (Int.toNat (IntKind.wrap IntKind.i64 (Int.fdiv (IntKind.wrap IntKind.u64 (IntKind.wrap IntKind.i64 ((↑i : Int) + (↑j : Int)))) (2 : Int)))) default) <
  (0 : Int)))
  (Tree.done Exit.normal
  (LState.mk
  [(22, AVal.imm (i64 (↑q : Int))), (21, AVal.imm (i64 (↑j : Int))),
  (20,
  AVal.imm (IVal.v (Value.int IntKind.i64 (IntKind.wrap IntKind.i64 (IntKind.wrap IntKind.i64 (Int.fdiv (IntKind.wrap IntKind.u64 (IntKind.wrap IntKind.i64 ((↑i : Int) + (↑j : Int)))) (2 : Int)) + (1 : Int)))))),
  (19, AVal.imm (i64 (↑n : Int))), (18, AVal.imm (i64 (↑md : Int))), (4, AVal.imm (fnV 35)), (3, AVal.imm (i64 (↑b : Int))), (2, AVal.imm (i64 (↑m : Int))),
  (1, AVal.imm (i64 (↑a : Int))), (0, AVal.own 0 (List.length x))]
  [(0, Entry.brow l0 44 6 (List.map encO x))] 220 28 []))
  (Tree.done Exit.normal
  (LState.mk
  [(22, AVal.imm (i64 (↑q : Int))),
  (21, AVal.imm (IVal.v (Value.int IntKind.i64 (IntKind.wrap IntKind.i64 (Int.fdiv (IntKind.wrap IntKind.u64 (IntKind.wrap IntKind.i64 ((↑i : Int) + (↑j : Int)))) (2 : Int)))))),
  (20, AVal.imm (i64 (↑i : Int))), (19, AVal.imm (i64 (↑n : Int))), (18, AVal.imm (i64 (↑md : Int))), (4, AVal.imm (fnV 35)), (3, AVal.imm (i64 (↑b : Int))),
  (2, AVal.imm (i64 (↑m : Int))), (1, AVal.imm (i64 (↑a : Int))), (0, AVal.own 0 (List.length x))]
  [(0, Entry.brow l0 44 6 (List.map encO x))] 220 27 [])))))))))
  (Tree.done (Exit.exit 8)
  (LState.mk
  [(20, AVal.imm (i64 (↑i : Int))), (19, AVal.imm (i64 (↑n : Int))), (18, AVal.imm (i64 (↑md : Int))), (4, AVal.imm (fnV 35)), (3, AVal.imm (i64 (↑b : Int))),
  (2, AVal.imm (i64 (↑m : Int))), (1, AVal.imm (i64 (↑a : Int))), (0, AVal.own 0 (List.length x))]
  [(0, Entry.brow l0 44 6 (List.map encO x))] 220 4 [])) := by kernel_rfl

theorem lA113 (l0 : Abs.Loc) (a i j f : Nat) (x : List Origin) (ha : a < x.length) (hij : i ≤ j) (hj : j ≤ x.length) (hl : x.length ≤ 2 ^ 61) (hf : j - i ≤ f) (σ : LState) (h : LSub σ (IA113 l0 a i j x)) :
    LoopOk prog [] (bodyOf Proofs.Try.f113) 3 σ (.done (.exit 0) (EA113 l0 a (bs (fun h => ltO (x.getD h default) (x.getD a default)) f i j) x)) := by
  refine LoopOk.of_levL (γ := { g : Nat × Nat × Nat // g.1 ≤ g.2.1 ∧ g.2.1 ≤ x.length ∧ g.2.1 - g.1 ≤ g.2.2 ∧ bs (fun h => ltO (x.getD h default) (x.getD a default)) g.2.2 g.1 g.2.1 = bs (fun h => ltO (x.getD h default) (x.getD a default)) f i j })
    (fun g => TA113r l0 a g.1.1 g.1.2.1 x) finA113 (fun g => IA113 l0 a g.1.1 g.1.2.1 x) (fun g => g.1.2.1 - g.1.1) ⟨(i, j, f), hij, hj, hf, rfl⟩ (by kernel_rfl) h ?_
  rintro ⟨⟨i, j, f'⟩, q1, q2, q3, q4⟩
  simp only at q1 q2 q3 q4
  simp only []
  have e1 := i64_half (i := i) (j := j) (by omega)
  rw [tA113r]
  simp only [e1, Int.toNat_natCast]
  refine ⟨fun h1 => ?_, fun h1 => ?_⟩
  · have hlt : i < j := by simp at h1; omega
    cases f' with
    | zero => omega
    | succ f' =>
      rw [bs, if_pos hlt] at q4
      refine ⟨by omega, fun _ => ⟨⟨by omega, by omega⟩, fun _ => ⟨getD_map _ _ _ _ (by omega), fun _ => ⟨⟨by omega, ha⟩, fun _ => ⟨getD_map _ _ _ _ ha, fun _ => ⟨⟨ILeL.refl _, c35 _ _⟩, fun _ => ⟨fun h2 => ?_, fun h2 => ?_⟩⟩⟩⟩⟩⟩⟩
      · rw [if_pos (show ltO _ _ = true from h2)] at q4
        refine ⟨⟨((i + j) / 2 + 1, j, f'), by simp only; omega, q2, by simp only; omega, q4⟩, by simp only; omega, ⟨rfl, ?_, rfl, rfl, rfl, trivial⟩, ⟨rfl, trivial⟩, rfl, rfl, rfl⟩
        exact congrArg (fun n => AVal.imm (i64 n)) (i64_succ (by omega))
      · rw [if_neg (fun hc => by rw [show ltO _ _ = false from h2] at hc; cases hc)] at q4
        exact ⟨⟨(i, (i + j) / 2, f'), by simp only; omega, by simp only; omega, by simp only; omega, q4⟩, by simp only; omega, ⟨rfl, rfl, rfl, rfl, rfl, trivial⟩, ⟨rfl, trivial⟩, rfl, rfl, rfl⟩
  · have hge : ¬ i < j := by simp at h1; omega
    have : bs (fun h => ltO (x.getD h default) (x.getD a default)) f' i j = i := by
      cases f' with
      | zero => rfl
      | succ f' => rw [bs, if_neg hge]
    rw [this] at q4
    rw [← q4]
    exact ⟨rfl, ⟨rfl, rfl, rfl, trivial⟩, ⟨rfl, trivial⟩, rfl, rfl, rfl⟩
theorem lC113 (l0 : Abs.Loc) (m i j f : Nat) (x : List Origin) (ha : m < x.length) (hij : i ≤ j) (hj : j ≤ x.length) (hl : x.length ≤ 2 ^ 61) (hf : j - i ≤ f) (σ : LState) (h : LSub σ (IC113 l0 m i j x)) :
    LoopOk prog [] (bodyOf Proofs.Try.f113) 15 σ (.done (.exit 4) (EC113 l0 m (bs (fun h => !ltO (x.getD m default) (x.getD h default)) f i j) x)) := by
  refine LoopOk.of_levL (γ := { g : Nat × Nat × Nat // g.1 ≤ g.2.1 ∧ g.2.1 ≤ x.length ∧ g.2.1 - g.1 ≤ g.2.2 ∧ bs (fun h => !ltO (x.getD m default) (x.getD h default)) g.2.2 g.1 g.2.1 = bs (fun h => !ltO (x.getD m default) (x.getD h default)) f i j })
    (fun g => TC113r l0 m g.1.1 g.1.2.1 x) finC113 (fun g => IC113 l0 m g.1.1 g.1.2.1 x) (fun g => g.1.2.1 - g.1.1) ⟨(i, j, f), hij, hj, hf, rfl⟩ (by kernel_rfl) h ?_
  rintro ⟨⟨i, j, f'⟩, q1, q2, q3, q4⟩
  simp only at q1 q2 q3 q4
  simp only []
  have e1 := i64_half (i := i) (j := j) (by omega)
  rw [tC113r]
  simp only [e1, Int.toNat_natCast]
  refine ⟨fun h1 => ?_, fun h1 => ?_⟩
  · have hlt : i < j := by simp at h1; omega
    cases f' with
    | zero => omega
    | succ f' =>
      rw [bs, if_pos hlt] at q4
      refine ⟨by omega, fun _ => ⟨⟨by omega, ha⟩, fun _ => ⟨getD_map _ _ _ _ ha, fun _ => ⟨⟨by omega, by omega⟩, fun _ => ⟨getD_map _ _ _ _ (by omega), fun _ => ⟨⟨ILeL.refl _, c35 _ _⟩, fun _ => ⟨fun h2 => ?_, fun h2 => ?_⟩⟩⟩⟩⟩⟩⟩
      · rw [if_pos (show (!ltO _ _) = true from h2)] at q4
        refine ⟨⟨((i + j) / 2 + 1, j, f'), by simp only; omega, q2, by simp only; omega, q4⟩, by simp only; omega, ⟨rfl, ?_, rfl, rfl, rfl, trivial⟩, ⟨rfl, trivial⟩, rfl, rfl, rfl⟩
        exact congrArg (fun n => AVal.imm (i64 n)) (i64_succ (by omega))
      · rw [if_neg (fun hc => by rw [show (!ltO _ _) = false from h2] at hc; cases hc)] at q4
        exact ⟨⟨(i, (i + j) / 2, f'), by simp only; omega, by simp only; omega, by simp only; omega, q4⟩, by simp only; omega, ⟨rfl, rfl, rfl, rfl, rfl, trivial⟩, ⟨rfl, trivial⟩, rfl, rfl, rfl⟩
  · have hge : ¬ i < j := by simp at h1; omega
    have : bs (fun h => !ltO (x.getD m default) (x.getD h default)) f' i j = i := by
      cases f' with
      | zero => rfl
      | succ f' => rw [bs, if_neg hge]
    rw [this] at q4
    rw [← q4]
    exact ⟨rfl, ⟨rfl, rfl, rfl, trivial⟩, ⟨rfl, trivial⟩, rfl, rfl, rfl⟩
theorem lE113 (l0 : Abs.Loc) (a m b q n md i j f : Nat) (x : List Origin) (hq : j ≤ q + 1) (hq2 : q < i + x.length) (hij : i ≤ j) (hj : j ≤ x.length) (hl : x.length ≤ 2 ^ 61) (hf : j - i ≤ f) (σ : LState) (h : LSub σ (IE113 l0 a m b q n md i j x)) :
    LoopOk prog [] (bodyOf Proofs.Try.f113) 33 σ (.done (.exit 8) (EE113 l0 a m b n md (bs (fun c => !ltO (x.getD (q - c) default) (x.getD c default)) f i j) x)) := by
  refine LoopOk.of_levL (γ := { g : Nat × Nat × Nat // i ≤ g.1 ∧ g.1 ≤ g.2.1 ∧ g.2.1 ≤ j ∧ g.2.1 - g.1 ≤ g.2.2 ∧ bs (fun c => !ltO (x.getD (q - c) default) (x.getD c default)) g.2.2 g.1 g.2.1 = bs (fun c => !ltO (x.getD (q - c) default) (x.getD c default)) f i j })
    (fun g => TE113r l0 a m b q n md g.1.1 g.1.2.1 x) finE113 (fun g => IE113 l0 a m b q n md g.1.1 g.1.2.1 x) (fun g => g.1.2.1 - g.1.1) ⟨(i, j, f), Nat.le_refl _, hij, Nat.le_refl _, hf, rfl⟩ (by kernel_rfl) h ?_
  rintro ⟨⟨i', j', f'⟩, q0, q1, q2, q3, q4⟩
  simp only at q0 q1 q2 q3 q4
  simp only []
  have e1 := i64_half (i := i') (j := j') (by omega)
  have e2 : i' < j' → IntKind.i64.wrap ((q : Int) - (((i' + j') / 2 : Nat) : Int)) = ((q - (i' + j') / 2 : Nat) : Int) := fun h => i64_sub (by omega) (by omega)
  rw [tE113r]
  simp only [e1, Int.toNat_natCast]
  refine ⟨fun h1 => ?_, fun h1 => ?_⟩
  · have hlt : i' < j' := by simp at h1; omega
    simp only [e2 hlt, Int.toNat_natCast]
    cases f' with
    | zero => omega
    | succ f' =>
      rw [bs, if_pos hlt] at q4
      refine ⟨by omega, fun _ => ⟨⟨by omega, by omega⟩, fun _ => ⟨getD_map _ _ _ _ (by omega), fun _ => ⟨⟨by omega, by omega⟩, fun _ => ⟨getD_map _ _ _ _ (by omega), fun _ => ⟨⟨ILeL.refl _, c35 _ _⟩, fun _ => ⟨fun h2 => ?_, fun h2 => ?_⟩⟩⟩⟩⟩⟩⟩
      · rw [if_pos (show (!ltO _ _) = true from h2)] at q4
        refine ⟨⟨((i' + j') / 2 + 1, j', f'), by simp only; omega, by simp only; omega, by simp only; omega, by simp only; omega, q4⟩, by simp only; omega, ⟨rfl, rfl, ?_, rfl, rfl, rfl, rfl, rfl, rfl, rfl, trivial⟩, ⟨rfl, trivial⟩, rfl, rfl, rfl⟩
        exact congrArg (fun n => AVal.imm (i64 n)) (i64_succ (by omega))
      · rw [if_neg (fun hc => by rw [show (!ltO _ _) = false from h2] at hc; cases hc)] at q4
        exact ⟨⟨(i', (i' + j') / 2, f'), q0, by simp only; omega, by simp only; omega, by simp only; omega, q4⟩, by simp only; omega, ⟨rfl, rfl, rfl, rfl, rfl, rfl, rfl, rfl, rfl, rfl, trivial⟩, ⟨rfl, trivial⟩, rfl, rfl, rfl⟩
  · have hge : ¬ i' < j' := by simp at h1; omega
    have : bs (fun c => !ltO (x.getD (q - c) default) (x.getD c default)) f' i' j' = i' := by
      cases f' with
      | zero => rfl
      | succ f' => rw [bs, if_neg hge]
    rw [this] at q4
    rw [← q4]
    exact ⟨rfl, ⟨rfl, rfl, rfl, rfl, rfl, rfl, rfl, rfl, trivial⟩, ⟨rfl, trivial⟩, rfl, rfl, rfl⟩
theorem lB113 (l0 : Abs.Loc) (a i : Nat) (l : List Origin) (ha : a < i) (hi : i ≤ l.length) (hl : l.length ≤ 2 ^ 61) (σ : LState) (h : LSub σ (IB113 l0 a i l)) : LoopOk prog [] (bodyOf Proofs.Try.f113) 9 σ (.done (.exit 2) (ER113 l0 (bubU a l (i - 1 - a)))) := by
  refine LoopOk.count (i - 1 - a) 2 (fun n => IB113 l0 (a + n) i (bubU a l n)) (ER113 l0 (bubU a l (i - 1 - a))) (fun n => TB113r l0 (a + n) i (bubU a l n)) finB113 (by kernel_rfl) h fun n hn => ?_
  have e1 : IntKind.i64.wrap ((i : Int) - 1) = ((i - 1 : Nat) : Int) := by rw [IntWalk.i64_in _ (by omega)]; omega
  have e2 : IntKind.i64.wrap (((a + n : Nat) : Int) + 1) = ((a + n + 1 : Nat) : Int) := by rw [IntWalk.i64_in _ (by omega)]; omega
  rw [tB113r]
  simp only [e1, e2, Int.toNat_natCast]
  refine ⟨fun h1 => ?_, fun h1 => ?_⟩
  · have hlt : a + n < i - 1 := by simp at h1; omega
    have hlen := (bubU_spec a l n (by omega)).1.len
    have g1 : a + n < (bubU a l n).length := by omega
    have g2 : a + n + 1 < (bubU a l n).length := by omega
    refine ⟨⟨by omega, g2⟩, fun _ => ⟨getD_map _ _ _ _ g2, fun _ => ⟨⟨by omega, g1⟩, fun _ => ⟨getD_map _ _ _ _ g1, fun _ => ⟨⟨by omega, g1⟩, fun _ => ⟨by simpa using g1, fun _ => ⟨⟨by omega, g2⟩, fun _ => ⟨by simpa using g2, fun _ => ?_⟩⟩⟩⟩⟩⟩⟩⟩
    refine ⟨by omega, ⟨rfl, rfl, congrArg (AVal.own 0) (by rw [bubU, swp_length]), trivial⟩, ⟨?_, trivial⟩, rfl, rfl, rfl⟩
    refine congrArg (fun l => some (Entry.brow l0 44 6 l)) ?_
    simp only [bubU, swp, List.map_set]
  · have : n = i - 1 - a := by simp at h1; omega
    subst this
    exact ⟨rfl, by omega, ⟨trivial, ⟨rfl, trivial⟩, rfl, rfl, rfl⟩⟩
theorem lD113 (l0 : Abs.Loc) (m i : Nat) (l : List Origin) (hm : m < l.length) (hi : i ≤ m) (hl : l.length ≤ 2 ^ 61) (σ : LState) (h : LSub σ (ID113 l0 m i l)) : LoopOk prog [] (bodyOf Proofs.Try.f113) 21 σ (.done (.exit 6) (ER113 l0 (bubD m l (m - i)))) := by
  refine LoopOk.count (m - i) 6 (fun n => ID113 l0 (m - n) i (bubD m l n)) (ER113 l0 (bubD m l (m - i))) (fun n => TD113r l0 (m - n) i (bubD m l n)) finD113 (by kernel_rfl) h fun n hn => ?_
  rw [tD113r]
  refine ⟨fun h1 => ?_, fun h1 => ?_⟩
  · have hlt : i < m - n := by simp at h1; omega
    have e1 : IntKind.i64.wrap (((m - n : Nat) : Int) - 1) = ((m - n - 1 : Nat) : Int) := by rw [IntWalk.i64_in _ (by omega)]; omega
    simp only [e1, Int.toNat_natCast]
    have hlen := (bubD_spec m l hm n (by omega)).1.len
    have g1 : m - n < (bubD m l n).length := by omega
    have g2 : m - n - 1 < (bubD m l n).length := by omega
    refine ⟨⟨by omega, g2⟩, fun _ => ⟨getD_map _ _ _ _ g2, fun _ => ⟨⟨by omega, g1⟩, fun _ => ⟨getD_map _ _ _ _ g1, fun _ => ⟨⟨by omega, g1⟩, fun _ => ⟨by simpa using g1, fun _ => ⟨⟨by omega, g2⟩, fun _ => ⟨by simpa using g2, fun _ => ?_⟩⟩⟩⟩⟩⟩⟩⟩
    refine ⟨by omega, ⟨rfl, rfl, congrArg (AVal.own 0) (by rw [bubD, swp_length]), trivial⟩, ⟨?_, trivial⟩, rfl, rfl, rfl⟩
    refine congrArg (fun l => some (Entry.brow l0 44 6 l)) ?_
    simp only [bubD, swp, List.map_set]
  · have : n = m - i := by simp at h1; omega
    subst this
    exact ⟨rfl, by omega, ⟨trivial, ⟨rfl, trivial⟩, rfl, rfl, rfl⟩⟩

def s113 (l : List Origin) (a m b : Int) : Prop := WSpec prog 113 44 6 (l.map encO) [i64 a, i64 m, i64 b, fnV 35] (.tup []) ((symF ltO a.toNat m.toNat b.toNat l).map encO)
def P113 (l0 : Abs.Loc) (a m b i1 i2 n md s : Nat) (l y1 y2 : List Origin) : Nat → Tree := fun k => match k with | 3 => .done (.exit 0) (EA113 l0 a i1 l) | 9 => .done (.exit 2) (ER113 l0 y1) | 15 => .done (.exit 4) (EC113 l0 m i2 l) | 21 => .done (.exit 6) (ER113 l0 y2) | _ => .done (.exit 8) (EE113 l0 a m b n md s l)
def R113 (a s md b n m : Nat) (l : List Origin) : List Origin := if a < s ∧ s < md then symF ltO a s md (symR m s (n - s) l) else symR m s (n - s) l
def B113 (l0 : Abs.Loc) (a m b i1 i2 n md s : Nat) (l y1 y2 : List Origin) : Tell := { Lp := P113 l0 a m b i1 i2 n md s l y1 y2, O := fun r i => match r, i with | 44, 5 => .callw [i64 md, i64 (n - s : Nat), i64 b, fnV 35] (.tup []) ((symF ltO md (n - s) b (R113 a s md b n m l)).map encO) | _, _ => .no, lv := fun k => match k with | 3 => ([11, 10, 4, 1, 0], [0]) | 9 => ([13, 10, 0], [0]) | 15 => ([15, 14, 4, 2, 0], [0]) | 21 => ([17, 14, 0], [0]) | _ => ([22, 21, 20, 19, 18, 4, 3, 2, 1, 0], [0]) }
def T113 (l0 : Abs.Loc) (a m b i1 i2 n md s : Nat) (l y1 y2 : List Origin) : Tell :=
  Tell.mk (fun x x_1 => false)
  (fun r i =>
  match r, i with
  | 44, 5 => Orc.callw [i64 (↑md : Int), i64 (↑(n - s) : Int), i64 (↑b : Int), fnV 35] (IVal.tup []) (List.map encO (symF ltO md (n - s) b (R113 a s md b n m l)))
  | x, x_1 => Orc.no)
  (P113 l0 a m b i1 i2 n md s l y1 y2) (fun x => 0)
  (fun k =>
  match k with
  | 3 => ([11, 10, 4, 1, 0], [0])
  | 9 => ([13, 10, 0], [0])
  | 15 => ([15, 14, 4, 2, 0], [0])
  | 21 => ([17, 14, 0], [0])
  | x => ([22, 21, 20, 19, 18, 4, 3, 2, 1, 0], [0]))
  (ogetO
  (fun r i =>
  match r, i with
  | 44, 5 => Orc.callw [i64 (↑md : Int), i64 (↑(n - s) : Int), i64 (↑b : Int), fnV 35] (IVal.tup []) (List.map encO (symF ltO md (n - s) b (R113 a s md b n m l)))
  | x, x_1 => Orc.no)
  [(13, 40, 5,
  Orc.callw [i64 (↑s : Int), i64 (↑m : Int), i64 (IntKind.wrap IntKind.i64 ((↑n : Int) - (↑s : Int))), fnV 35] (IVal.tup [])
  (List.map encO
  (rot (Int.toNat (↑m : Int)) (Int.toNat (IntKind.wrap IntKind.i64 ((↑n : Int) - (↑s : Int))) - Int.toNat (↑s : Int)) (Int.toNat (↑m : Int) - Int.toNat (↑s : Int))
  (Int.toNat (IntKind.wrap IntKind.i64 ((↑n : Int) - (↑s : Int))) - Int.toNat (↑m : Int)) l))),
  (21, 42, 5, Orc.callw [i64 (↑a : Int), i64 (↑s : Int), i64 (↑md : Int), fnV 35] (IVal.tup []) (List.map encO (symF ltO (Int.toNat (↑a : Int)) (Int.toNat (↑s : Int)) (Int.toNat (↑md : Int)) l))),
  (27, 42, 5,
  Orc.callw [i64 (↑a : Int), i64 (↑s : Int), i64 (↑md : Int), fnV 35] (IVal.tup [])
  (List.map encO
  (symF ltO (Int.toNat (↑a : Int)) (Int.toNat (↑s : Int)) (Int.toNat (↑md : Int))
  (rot m (Int.toNat (IntKind.wrap IntKind.i64 ((↑n : Int) - (↑s : Int))) - s) (m - s) (Int.toNat (IntKind.wrap IntKind.i64 ((↑n : Int) - (↑s : Int))) - m) l))))])
  fun x => P113 l0 a m b i1 i2 n md s l y1 y2
theorem t113 (l0 : Abs.Loc) (a m b i1 i2 n md s : Nat) (l y1 y2 : List Origin) : levW prog Proofs.Try.f113 l0 44 6 (l.map encO) [i64 a, i64 m, i64 b, fnV 35] (T113 l0 a m b i1 i2 n md s l y1 y2) =
  Tree.br (decide (IntKind.wrap IntKind.i64 ((↑m : Int) - (↑a : Int)) = (1 : Int)))
  (Tree.loop 3
  (LState.mk
  [(11, AVal.imm (i64 (↑b : Int))), (10, AVal.imm (i64 (↑m : Int))), (4, AVal.imm (fnV 35)), (1, AVal.imm (i64 (↑a : Int))), (0, AVal.own 0 (List.length (List.map encO l)))]
  [(0, Entry.brow l0 44 6 (List.map encO l))] 220 9 [])
  (Tree.done (Exit.exit 0) (EA113 l0 a i1 l))
  (Tree.loop 9
  (LState.mk [(13, AVal.imm (i64 (↑a : Int))), (10, AVal.imm (i64 (↑i1 : Int))), (0, AVal.own 0 (List.length l))] [(0, Entry.brow l0 44 6 (List.map encO l))] 220 3
  [])
  (Tree.done (Exit.exit 2) (ER113 l0 y1)) (Tree.need (eqs []) (Tree.done Exit.ret (lretW l0 44 6 (IVal.tup []) (List.map encO y1))))))
  (Tree.br (decide (IntKind.wrap IntKind.i64 ((↑b : Int) - (↑m : Int)) = (1 : Int)))
  (Tree.loop 15
  (LState.mk
  [(15, AVal.imm (i64 (↑m : Int))), (14, AVal.imm (i64 (↑a : Int))), (4, AVal.imm (fnV 35)), (2, AVal.imm (i64 (↑m : Int))), (0, AVal.own 0 (List.length (List.map encO l)))]
  [(0, Entry.brow l0 44 6 (List.map encO l))] 220 13 [])
  (Tree.done (Exit.exit 4) (EC113 l0 m i2 l))
  (Tree.loop 21
  (LState.mk [(17, AVal.imm (i64 (↑m : Int))), (14, AVal.imm (i64 (↑i2 : Int))), (0, AVal.own 0 (List.length l))] [(0, Entry.brow l0 44 6 (List.map encO l))] 220
  3 [])
  (Tree.done (Exit.exit 6) (ER113 l0 y2)) (Tree.need (eqs []) (Tree.done Exit.ret (lretW l0 44 6 (IVal.tup []) (List.map encO y2))))))
  (Tree.need ((0 : Int) ≤ (1 : Int))
  (Tree.br (decide (IntKind.wrap IntKind.i64 (Int.fdiv (IntKind.wrap IntKind.u64 (IntKind.wrap IntKind.i64 ((↑a : Int) + (↑b : Int)))) (2 : Int)) < (↑m : Int)))
  (Tree.loop 33
  (LState.mk
  [(22,
  AVal.imm
  (IVal.v
  (Value.int IntKind.i64
  (IntKind.wrap IntKind.i64 (IntKind.wrap IntKind.i64 (IntKind.wrap IntKind.i64 (Int.fdiv (IntKind.wrap IntKind.u64 (IntKind.wrap IntKind.i64 ((↑a : Int) + (↑b : Int)))) (2 : Int)) + (↑m : Int)) - (1 : Int)))))),
  (21, AVal.imm (IVal.v (Value.int IntKind.i64 (IntKind.wrap IntKind.i64 (Int.fdiv (IntKind.wrap IntKind.u64 (IntKind.wrap IntKind.i64 ((↑a : Int) + (↑b : Int)))) (2 : Int)))))),
  (20,
  AVal.imm
  (IVal.v
  (Value.int IntKind.i64
  (IntKind.wrap IntKind.i64 (IntKind.wrap IntKind.i64 (IntKind.wrap IntKind.i64 (Int.fdiv (IntKind.wrap IntKind.u64 (IntKind.wrap IntKind.i64 ((↑a : Int) + (↑b : Int)))) (2 : Int)) + (↑m : Int)) - (↑b : Int)))))),
  (19, AVal.imm (IVal.v (Value.int IntKind.i64 (IntKind.wrap IntKind.i64 (IntKind.wrap IntKind.i64 (Int.fdiv (IntKind.wrap IntKind.u64 (IntKind.wrap IntKind.i64 ((↑a : Int) + (↑b : Int)))) (2 : Int)) + (↑m : Int)))))),
  (18, AVal.imm (IVal.v (Value.int IntKind.i64 (IntKind.wrap IntKind.i64 (Int.fdiv (IntKind.wrap IntKind.u64 (IntKind.wrap IntKind.i64 ((↑a : Int) + (↑b : Int)))) (2 : Int)))))), (4, AVal.imm (fnV 35)),
  (3, AVal.imm (i64 (↑b : Int))), (2, AVal.imm (i64 (↑m : Int))), (1, AVal.imm (i64 (↑a : Int))), (0, AVal.own 0 (List.length (List.map encO l)))]
  [(0, Entry.brow l0 44 6 (List.map encO l))] 220 34 [])
  (Tree.done (Exit.exit 8) (EE113 l0 a m b n md s l))
  (Tree.br (decide ((↑s : Int) < (↑m : Int)))
  (Tree.br (decide ((↑m : Int) < IntKind.wrap IntKind.i64 ((↑n : Int) - (↑s : Int))))
  (Tree.need
  (List.length (List.map encO l) = List.length l ∧
  ILeL [i64 (↑s : Int), i64 (↑m : Int), IVal.v (Value.int IntKind.i64 (IntKind.wrap IntKind.i64 ((↑n : Int) - (↑s : Int)))), fnV 35]
  [i64 (↑s : Int), i64 (↑m : Int), i64 (IntKind.wrap IntKind.i64 ((↑n : Int) - (↑s : Int))), fnV 35] ∧
  WSpec prog 118 44 6 (List.map encO l) [i64 (↑s : Int), i64 (↑m : Int), i64 (IntKind.wrap IntKind.i64 ((↑n : Int) - (↑s : Int))), fnV 35] (IVal.tup [])
  (List.map encO (rot m (Int.toNat (IntKind.wrap IntKind.i64 ((↑n : Int) - (↑s : Int))) - s) (m - s) (Int.toNat (IntKind.wrap IntKind.i64 ((↑n : Int) - (↑s : Int))) - m) l)))
  (Tree.br (decide ((↑a : Int) < (↑s : Int)))
  (Tree.br (decide ((↑s : Int) < (↑md : Int)))
  (Tree.need
  (List.length (List.map encO (rot m (Int.toNat (IntKind.wrap IntKind.i64 ((↑n : Int) - (↑s : Int))) - s) (m - s) (Int.toNat (IntKind.wrap IntKind.i64 ((↑n : Int) - (↑s : Int))) - m) l)) = List.length l ∧
  ILeL [i64 (↑a : Int), i64 (↑s : Int), i64 (↑md : Int), fnV 35] [i64 (↑a : Int), i64 (↑s : Int), i64 (↑md : Int), fnV 35] ∧
  WSpec prog 113 44 6
  (List.map encO (rot m (Int.toNat (IntKind.wrap IntKind.i64 ((↑n : Int) - (↑s : Int))) - s) (m - s) (Int.toNat (IntKind.wrap IntKind.i64 ((↑n : Int) - (↑s : Int))) - m) l))
  [i64 (↑a : Int), i64 (↑s : Int), i64 (↑md : Int), fnV 35] (IVal.tup [])
  (List.map encO (symF ltO a s md (rot m (Int.toNat (IntKind.wrap IntKind.i64 ((↑n : Int) - (↑s : Int))) - s) (m - s) (Int.toNat (IntKind.wrap IntKind.i64 ((↑n : Int) - (↑s : Int))) - m) l))))
  (Tree.br (decide ((↑md : Int) < IntKind.wrap IntKind.i64 ((↑n : Int) - (↑s : Int))))
  (Tree.br (decide (IntKind.wrap IntKind.i64 ((↑n : Int) - (↑s : Int)) < (↑b : Int)))
  (Tree.need
  (List.length (List.map encO (symF ltO a s md (rot m (Int.toNat (IntKind.wrap IntKind.i64 ((↑n : Int) - (↑s : Int))) - s) (m - s) (Int.toNat (IntKind.wrap IntKind.i64 ((↑n : Int) - (↑s : Int))) - m) l))) =
  List.length l ∧
  ILeL [i64 (↑md : Int), IVal.v (Value.int IntKind.i64 (IntKind.wrap IntKind.i64 ((↑n : Int) - (↑s : Int)))), i64 (↑b : Int), fnV 35]
  [i64 (↑md : Int), i64 (↑(n - s) : Int), i64 (↑b : Int), fnV 35] ∧
  WSpec prog 113 44 6
  (List.map encO (symF ltO a s md (rot m (Int.toNat (IntKind.wrap IntKind.i64 ((↑n : Int) - (↑s : Int))) - s) (m - s) (Int.toNat (IntKind.wrap IntKind.i64 ((↑n : Int) - (↑s : Int))) - m) l)))
  [i64 (↑md : Int), i64 (↑(n - s) : Int), i64 (↑b : Int), fnV 35] (IVal.tup []) (List.map encO (symF ltO md (n - s) b (R113 a s md b n m l))))
  (Tree.need (eqs []) (Tree.done Exit.ret (lretW l0 44 6 (IVal.tup []) (List.map encO (symF ltO md (n - s) b (R113 a s md b n m l)))))))
  (Tree.need (eqs [])
  (Tree.done Exit.ret
  (lretW l0 44 6 (IVal.tup [])
  (List.map encO (symF ltO a s md (rot m (Int.toNat (IntKind.wrap IntKind.i64 ((↑n : Int) - (↑s : Int))) - s) (m - s) (Int.toNat (IntKind.wrap IntKind.i64 ((↑n : Int) - (↑s : Int))) - m) l)))))))
  (Tree.need (eqs [])
  (Tree.done Exit.ret
  (lretW l0 44 6 (IVal.tup [])
  (List.map encO (symF ltO a s md (rot m (Int.toNat (IntKind.wrap IntKind.i64 ((↑n : Int) - (↑s : Int))) - s) (m - s) (Int.toNat (IntKind.wrap IntKind.i64 ((↑n : Int) - (↑s : Int))) - m) l))))))))
  (Tree.br (decide ((↑md : Int) < IntKind.wrap IntKind.i64 ((↑n : Int) - (↑s : Int))))
  (Tree.br (decide (IntKind.wrap IntKind.i64 ((↑n : Int) - (↑s : Int)) < (↑b : Int)))
  (Tree.need
  (List.length (List.map encO (rot m (Int.toNat (IntKind.wrap IntKind.i64 ((↑n : Int) - (↑s : Int))) - s) (m - s) (Int.toNat (IntKind.wrap IntKind.i64 ((↑n : Int) - (↑s : Int))) - m) l)) = List.length l ∧
  ILeL [i64 (↑md : Int), IVal.v (Value.int IntKind.i64 (IntKind.wrap IntKind.i64 ((↑n : Int) - (↑s : Int)))), i64 (↑b : Int), fnV 35]
  [i64 (↑md : Int), i64 (↑(n - s) : Int), i64 (↑b : Int), fnV 35] ∧
  WSpec prog 113 44 6
  (List.map encO (rot m (Int.toNat (IntKind.wrap IntKind.i64 ((↑n : Int) - (↑s : Int))) - s) (m - s) (Int.toNat (IntKind.wrap IntKind.i64 ((↑n : Int) - (↑s : Int))) - m) l))
  [i64 (↑md : Int), i64 (↑(n - s) : Int), i64 (↑b : Int), fnV 35] (IVal.tup []) (List.map encO (symF ltO md (n - s) b (R113 a s md b n m l))))
  (Tree.need (eqs []) (Tree.done Exit.ret (lretW l0 44 6 (IVal.tup []) (List.map encO (symF ltO md (n - s) b (R113 a s md b n m l)))))))
  (Tree.need (eqs [])
  (Tree.done Exit.ret
  (lretW l0 44 6 (IVal.tup [])
  (List.map encO (rot m (Int.toNat (IntKind.wrap IntKind.i64 ((↑n : Int) - (↑s : Int))) - s) (m - s) (Int.toNat (IntKind.wrap IntKind.i64 ((↑n : Int) - (↑s : Int))) - m) l))))))
  (Tree.need (eqs [])
  (Tree.done Exit.ret
  (lretW l0 44 6 (IVal.tup [])
  (List.map encO (rot m (Int.toNat (IntKind.wrap IntKind.i64 ((↑n : Int) - (↑s : Int))) - s) (m - s) (Int.toNat (IntKind.wrap IntKind.i64 ((↑n : Int) - (↑s : Int))) - m) l)))))))
  (Tree.br (decide ((↑md : Int) < IntKind.wrap IntKind.i64 ((↑n : Int) - (↑s : Int))))
  (Tree.br (decide (IntKind.wrap IntKind.i64 ((↑n : Int) - (↑s : Int)) < (↑b : Int)))
  (Tree.need
  (List.length (List.map encO (rot m (Int.toNat (IntKind.wrap IntKind.i64 ((↑n : Int) - (↑s : Int))) - s) (m - s) (Int.toNat (IntKind.wrap IntKind.i64 ((↑n : Int) - (↑s : Int))) - m) l)) = List.length l ∧
  ILeL [i64 (↑md : Int), IVal.v (Value.int IntKind.i64 (IntKind.wrap IntKind.i64 ((↑n : Int) - (↑s : Int)))), i64 (↑b : Int), fnV 35] [i64 (↑md : Int), i64 (↑(n - s) : Int), i64 (↑b : Int), fnV 35] ∧
  WSpec prog 113 44 6
  (List.map encO (rot m (Int.toNat (IntKind.wrap IntKind.i64 ((↑n : Int) - (↑s : Int))) - s) (m - s) (Int.toNat (IntKind.wrap IntKind.i64 ((↑n : Int) - (↑s : Int))) - m) l))
  [i64 (↑md : Int), i64 (↑(n - s) : Int), i64 (↑b : Int), fnV 35] (IVal.tup []) (List.map encO (symF ltO md (n - s) b (R113 a s md b n m l))))
  (Tree.need (eqs []) (Tree.done Exit.ret (lretW l0 44 6 (IVal.tup []) (List.map encO (symF ltO md (n - s) b (R113 a s md b n m l)))))))
  (Tree.need (eqs [])
  (Tree.done Exit.ret
  (lretW l0 44 6 (IVal.tup [])
  (List.map encO (rot m (Int.toNat (IntKind.wrap IntKind.i64 ((↑n : Int) - (↑s : Int))) - s) (m - s) (Int.toNat (IntKind.wrap IntKind.i64 ((↑n : Int) - (↑s : Int))) - m) l))))))
  (Tree.need (eqs [])
  (Tree.done Exit.ret
  (lretW l0 44 6 (IVal.tup [])
  (List.map encO (rot m (Int.toNat (IntKind.wrap IntKind.i64 ((↑n : Int) - (↑s : Int))) - s) (m - s) (Int.toNat (IntKind.wrap IntKind.i64 ((↑n : Int) - (↑s : Int))) - m) l))))))))
  (Tree.br (decide ((↑a : Int) < (↑s : Int)))
  (Tree.br (decide ((↑s : Int) < (↑md : Int)))
  (Tree.need
  (List.length (List.map encO l) = List.length l ∧
  ILeL [i64 (↑a : Int), i64 (↑s : Int), i64 (↑md : Int), fnV 35] [i64 (↑a : Int), i64 (↑s : Int), i64 (↑md : Int), fnV 35] ∧
  WSpec prog 113 44 6 (List.map encO l) [i64 (↑a : Int), i64 (↑s : Int), i64 (↑md : Int), fnV 35] (IVal.tup []) (List.map encO (symF ltO a s md l)))
  (Tree.br (decide ((↑md : Int) < IntKind.wrap IntKind.i64 ((↑n : Int) - (↑s : Int))))
  (Tree.br (decide (IntKind.wrap IntKind.i64 ((↑n : Int) - (↑s : Int)) < (↑b : Int)))
  (Tree.need
  (List.length (List.map encO (symF ltO a s md l)) = List.length l ∧
  ILeL [i64 (↑md : Int), IVal.v (Value.int IntKind.i64 (IntKind.wrap IntKind.i64 ((↑n : Int) - (↑s : Int)))), i64 (↑b : Int), fnV 35]
  [i64 (↑md : Int), i64 (↑(n - s) : Int), i64 (↑b : Int), fnV 35] ∧
  WSpec prog 113 44 6 (List.map encO (symF ltO a s md l)) [i64 (↑md : Int), i64 (↑(n - s) : Int), i64 (↑b : Int), fnV 35] (IVal.tup [])
  (List.map encO (symF ltO md (n - s) b (R113 a s md b n m l))))
  (Tree.need (eqs []) (Tree.done Exit.ret (lretW l0 44 6 (IVal.tup []) (List.map encO (symF ltO md (n - s) b (R113 a s md b n m l)))))))
  (Tree.need (eqs []) (Tree.done Exit.ret (lretW l0 44 6 (IVal.tup []) (List.map encO (symF ltO a s md l))))))
  (Tree.need (eqs []) (Tree.done Exit.ret (lretW l0 44 6 (IVal.tup []) (List.map encO (symF ltO a s md l)))))))
  (Tree.br (decide ((↑md : Int) < IntKind.wrap IntKind.i64 ((↑n : Int) - (↑s : Int))))
  (Tree.br (decide (IntKind.wrap IntKind.i64 ((↑n : Int) - (↑s : Int)) < (↑b : Int)))
  (Tree.need
  (List.length (List.map encO l) = List.length l ∧
  ILeL [i64 (↑md : Int), IVal.v (Value.int IntKind.i64 (IntKind.wrap IntKind.i64 ((↑n : Int) - (↑s : Int)))), i64 (↑b : Int), fnV 35] [i64 (↑md : Int), i64 (↑(n - s) : Int), i64 (↑b : Int), fnV 35] ∧
  WSpec prog 113 44 6 (List.map encO l) [i64 (↑md : Int), i64 (↑(n - s) : Int), i64 (↑b : Int), fnV 35] (IVal.tup []) (List.map encO (symF ltO md (n - s) b (R113 a s md b n m l))))
  (Tree.need (eqs []) (Tree.done Exit.ret (lretW l0 44 6 (IVal.tup []) (List.map encO (symF ltO md (n - s) b (R113 a s md b n m l)))))))
  (Tree.need (eqs []) (Tree.done Exit.ret (lretW l0 44 6 (IVal.tup []) (List.map encO l)))))
  (Tree.need (eqs []) (Tree.done Exit.ret (lretW l0 44 6 (IVal.tup []) (List.map encO l))))))
  (Tree.br (decide ((↑md : Int) < IntKind.wrap IntKind.i64 ((↑n : Int) - (↑s : Int))))
  (Tree.br (decide (IntKind.wrap IntKind.i64 ((↑n : Int) - (↑s : Int)) < (↑b : Int)))
  (Tree.need
  (List.length (List.map encO l) = List.length l ∧
  ILeL [i64 (↑md : Int), IVal.v (Value.int IntKind.i64 (IntKind.wrap IntKind.i64 ((↑n : Int) - (↑s : Int)))), i64 (↑b : Int), fnV 35] [i64 (↑md : Int), i64 (↑(n - s) : Int), i64 (↑b : Int), fnV 35] ∧
  WSpec prog 113 44 6 (List.map encO l) [i64 (↑md : Int), i64 (↑(n - s) : Int), i64 (↑b : Int), fnV 35] (IVal.tup []) (List.map encO (symF ltO md (n - s) b (R113 a s md b n m l))))
  (Tree.need (eqs []) (Tree.done Exit.ret (lretW l0 44 6 (IVal.tup []) (List.map encO (symF ltO md (n - s) b (R113 a s md b n m l)))))))
  (Tree.need (eqs []) (Tree.done Exit.ret (lretW l0 44 6 (IVal.tup []) (List.map encO l)))))
  (Tree.need (eqs []) (Tree.done Exit.ret (lretW l0 44 6 (IVal.tup []) (List.map encO l)))))))
  (Tree.br (decide ((↑a : Int) < (↑s : Int)))
  (Tree.br (decide ((↑s : Int) < (↑md : Int)))
  (Tree.need
  (List.length (List.map encO l) = List.length l ∧
  ILeL [i64 (↑a : Int), i64 (↑s : Int), i64 (↑md : Int), fnV 35] [i64 (↑a : Int), i64 (↑s : Int), i64 (↑md : Int), fnV 35] ∧
  WSpec prog 113 44 6 (List.map encO l) [i64 (↑a : Int), i64 (↑s : Int), i64 (↑md : Int), fnV 35] (IVal.tup []) (List.map encO (symF ltO a s md l)))
  (Tree.br (decide ((↑md : Int) < IntKind.wrap IntKind.i64 ((↑n : Int) - (↑s : Int))))
  (Tree.br (decide (IntKind.wrap IntKind.i64 ((↑n : Int) - (↑s : Int)) < (↑b : Int)))
  (Tree.need
  (List.length (List.map encO (symF ltO a s md l)) = List.length l ∧
  ILeL [i64 (↑md : Int), IVal.v (Value.int IntKind.i64 (IntKind.wrap IntKind.i64 ((↑n : Int) - (↑s : Int)))), i64 (↑b : Int), fnV 35] [i64 (↑md : Int), i64 (↑(n - s) : Int), i64 (↑b : Int), fnV 35] ∧
  WSpec prog 113 44 6 (List.map encO (symF ltO a s md l)) [i64 (↑md : Int), i64 (↑(n - s) : Int), i64 (↑b : Int), fnV 35] (IVal.tup [])
  (List.map encO (symF ltO md (n - s) b (R113 a s md b n m l))))
  (Tree.need (eqs []) (Tree.done Exit.ret (lretW l0 44 6 (IVal.tup []) (List.map encO (symF ltO md (n - s) b (R113 a s md b n m l)))))))
  (Tree.need (eqs []) (Tree.done Exit.ret (lretW l0 44 6 (IVal.tup []) (List.map encO (symF ltO a s md l))))))
  (Tree.need (eqs []) (Tree.done Exit.ret (lretW l0 44 6 (IVal.tup []) (List.map encO (symF ltO a s md l)))))))
  (Tree.br (decide ((↑md : Int) < IntKind.wrap IntKind.i64 ((↑n : Int) - (↑s : Int))))
  (Tree.br (decide (IntKind.wrap IntKind.i64 ((↑n : Int) - (↑s : Int)) < (↑b : Int)))
  (Tree.need
  (List.length (List.map encO l) = List.length l ∧
  ILeL [i64 (↑md : Int), IVal.v (Value.int IntKind.i64 (IntKind.wrap IntKind.i64 ((↑n : Int) - (↑s : Int)))), i64 (↑b : Int), fnV 35] [i64 (↑md : Int), i64 (↑(n - s) : Int), i64 (↑b : Int), fnV 35] ∧
  WSpec prog 113 44 6 (List.map encO l) [i64 (↑md : Int), i64 (↑(n - s) : Int), i64 (↑b : Int), fnV 35] (IVal.tup []) (List.map encO (symF ltO md (n - s) b (R113 a s md b n m l))))
  (Tree.need (eqs []) (Tree.done Exit.ret (lretW l0 44 6 (IVal.tup []) (List.map encO (symF ltO md (n - s) b (R113 a s md b n m l)))))))
  (Tree.need (eqs []) (Tree.done Exit.ret (lretW l0 44 6 (IVal.tup []) (List.map encO l)))))
  (Tree.need (eqs []) (Tree.done Exit.ret (lretW l0 44 6 (IVal.tup []) (List.map encO l))))))
  (Tree.br (decide ((↑md : Int) < IntKind.wrap IntKind.i64 ((↑n : Int) - (↑s : Int))))
  (Tree.br (decide (IntKind.wrap IntKind.i64 ((↑n : Int) - (↑s : Int)) < (↑b : Int)))
  (Tree.need
  (List.length (List.map encO l) = List.length l ∧
  ILeL [i64 (↑md : Int), IVal.v (Value.int IntKind.i64 (IntKind.wrap IntKind.i64 ((↑n : Int) - (↑s : Int)))), i64 (↑b : Int), fnV 35] [i64 (↑md : Int), i64 (↑(n - s) : Int), i64 (↑b : Int), fnV 35] ∧
  WSpec prog 113 44 6 (List.map encO l) [i64 (↑md : Int), i64 (↑(n - s) : Int), i64 (↑b : Int), fnV 35] (IVal.tup []) (List.map encO (symF ltO md (n - s) b (R113 a s md b n m l))))
  (Tree.need (eqs []) (Tree.done Exit.ret (lretW l0 44 6 (IVal.tup []) (List.map encO (symF ltO md (n - s) b (R113 a s md b n m l)))))))
  (Tree.need (eqs []) (Tree.done Exit.ret (lretW l0 44 6 (IVal.tup []) (List.map encO l)))))
  (Tree.need (eqs []) (Tree.done Exit.ret (lretW l0 44 6 (IVal.tup []) (List.map encO l))))))))
  (Tree.loop 33
  (LState.mk
  [(22,
  AVal.imm
  (IVal.v
  (Value.int IntKind.i64
  (IntKind.wrap IntKind.i64 (IntKind.wrap IntKind.i64 (IntKind.wrap IntKind.i64 (Int.fdiv (IntKind.wrap IntKind.u64 (IntKind.wrap IntKind.i64 ((↑a : Int) + (↑b : Int)))) (2 : Int)) + (↑m : Int)) - (1 : Int)))))),
  (21, AVal.imm (i64 (↑m : Int))), (20, AVal.imm (i64 (↑a : Int))),
  (19, AVal.imm (IVal.v (Value.int IntKind.i64 (IntKind.wrap IntKind.i64 (IntKind.wrap IntKind.i64 (Int.fdiv (IntKind.wrap IntKind.u64 (IntKind.wrap IntKind.i64 ((↑a : Int) + (↑b : Int)))) (2 : Int)) + (↑m : Int)))))),
  (18, AVal.imm (IVal.v (Value.int IntKind.i64 (IntKind.wrap IntKind.i64 (Int.fdiv (IntKind.wrap IntKind.u64 (IntKind.wrap IntKind.i64 ((↑a : Int) + (↑b : Int)))) (2 : Int)))))), (4, AVal.imm (fnV 35)),
  (3, AVal.imm (i64 (↑b : Int))), (2, AVal.imm (i64 (↑m : Int))), (1, AVal.imm (i64 (↑a : Int))), (0, AVal.own 0 (List.length (List.map encO l)))]
  [(0, Entry.brow l0 44 6 (List.map encO l))] 220 32 [])
  (Tree.done (Exit.exit 8) (EE113 l0 a m b n md s l))
  (Tree.br (decide ((↑s : Int) < (↑m : Int)))
  (Tree.br (decide ((↑m : Int) < IntKind.wrap IntKind.i64 ((↑n : Int) - (↑s : Int))))
  (Tree.need
  (List.length (List.map encO l) = List.length l ∧
  ILeL [i64 (↑s : Int), i64 (↑m : Int), IVal.v (Value.int IntKind.i64 (IntKind.wrap IntKind.i64 ((↑n : Int) - (↑s : Int)))), fnV 35]
  [i64 (↑s : Int), i64 (↑m : Int), i64 (IntKind.wrap IntKind.i64 ((↑n : Int) - (↑s : Int))), fnV 35] ∧
  WSpec prog 118 44 6 (List.map encO l) [i64 (↑s : Int), i64 (↑m : Int), i64 (IntKind.wrap IntKind.i64 ((↑n : Int) - (↑s : Int))), fnV 35] (IVal.tup [])
  (List.map encO (rot m (Int.toNat (IntKind.wrap IntKind.i64 ((↑n : Int) - (↑s : Int))) - s) (m - s) (Int.toNat (IntKind.wrap IntKind.i64 ((↑n : Int) - (↑s : Int))) - m) l)))
  (Tree.br (decide ((↑a : Int) < (↑s : Int)))
  (Tree.br (decide ((↑s : Int) < (↑md : Int)))
  (Tree.need
  (List.length (List.map encO (rot m (Int.toNat (IntKind.wrap IntKind.i64 ((↑n : Int) - (↑s : Int))) - s) (m - s) (Int.toNat (IntKind.wrap IntKind.i64 ((↑n : Int) - (↑s : Int))) - m) l)) = List.length l ∧
  ILeL [i64 (↑a : Int), i64 (↑s : Int), i64 (↑md : Int), fnV 35] [i64 (↑a : Int), i64 (↑s : Int), i64 (↑md : Int), fnV 35] ∧
  WSpec prog 113 44 6
  (List.map encO (rot m (Int.toNat (IntKind.wrap IntKind.i64 ((↑n : Int) - (↑s : Int))) - s) (m - s) (Int.toNat (IntKind.wrap IntKind.i64 ((↑n : Int) - (↑s : Int))) - m) l))
  [i64 (↑a : Int), i64 (↑s : Int), i64 (↑md : Int), fnV 35] (IVal.tup [])
  (List.map encO (symF ltO a s md (rot m (Int.toNat (IntKind.wrap IntKind.i64 ((↑n : Int) - (↑s : Int))) - s) (m - s) (Int.toNat (IntKind.wrap IntKind.i64 ((↑n : Int) - (↑s : Int))) - m) l))))
  (Tree.br (decide ((↑md : Int) < IntKind.wrap IntKind.i64 ((↑n : Int) - (↑s : Int))))
  (Tree.br (decide (IntKind.wrap IntKind.i64 ((↑n : Int) - (↑s : Int)) < (↑b : Int)))
  (Tree.need
  (List.length (List.map encO (symF ltO a s md (rot m (Int.toNat (IntKind.wrap IntKind.i64 ((↑n : Int) - (↑s : Int))) - s) (m - s) (Int.toNat (IntKind.wrap IntKind.i64 ((↑n : Int) - (↑s : Int))) - m) l))) =
  List.length l ∧
  ILeL [i64 (↑md : Int), IVal.v (Value.int IntKind.i64 (IntKind.wrap IntKind.i64 ((↑n : Int) - (↑s : Int)))), i64 (↑b : Int), fnV 35]
  [i64 (↑md : Int), i64 (↑(n - s) : Int), i64 (↑b : Int), fnV 35] ∧
  WSpec prog 113 44 6
  (List.map encO (symF ltO a s md (rot m (Int.toNat (IntKind.wrap IntKind.i64 ((↑n : Int) - (↑s : Int))) - s) (m - s) (Int.toNat (IntKind.wrap IntKind.i64 ((↑n : Int) - (↑s : Int))) - m) l)))
  [i64 (↑md : Int), i64 (↑(n - s) : Int), i64 (↑b : Int), fnV 35] (IVal.tup []) (List.map encO (symF ltO md (n - s) b (R113 a s md b n m l))))
  (Tree.need (eqs []) (Tree.done Exit.ret (lretW l0 44 6 (IVal.tup []) (List.map encO (symF ltO md (n - s) b (R113 a s md b n m l)))))))
  (Tree.need (eqs [])
  (Tree.done Exit.ret
  (lretW l0 44 6 (IVal.tup [])
  (List.map encO (symF ltO a s md (rot m (Int.toNat (IntKind.wrap IntKind.i64 ((↑n : Int) - (↑s : Int))) - s) (m - s) (Int.toNat (IntKind.wrap IntKind.i64 ((↑n : Int) - (↑s : Int))) - m) l)))))))
  (Tree.need (eqs [])
  (Tree.done Exit.ret
  (lretW l0 44 6 (IVal.tup [])
  (List.map encO (symF ltO a s md (rot m (Int.toNat (IntKind.wrap IntKind.i64 ((↑n : Int) - (↑s : Int))) - s) (m - s) (Int.toNat (IntKind.wrap IntKind.i64 ((↑n : Int) - (↑s : Int))) - m) l))))))))
  (Tree.br (decide ((↑md : Int) < IntKind.wrap IntKind.i64 ((↑n : Int) - (↑s : Int))))
  (Tree.br (decide (IntKind.wrap IntKind.i64 ((↑n : Int) - (↑s : Int)) < (↑b : Int)))
  (Tree.need
  (List.length (List.map encO (rot m (Int.toNat (IntKind.wrap IntKind.i64 ((↑n : Int) - (↑s : Int))) - s) (m - s) (Int.toNat (IntKind.wrap IntKind.i64 ((↑n : Int) - (↑s : Int))) - m) l)) = List.length l ∧
  ILeL [i64 (↑md : Int), IVal.v (Value.int IntKind.i64 (IntKind.wrap IntKind.i64 ((↑n : Int) - (↑s : Int)))), i64 (↑b : Int), fnV 35]
  [i64 (↑md : Int), i64 (↑(n - s) : Int), i64 (↑b : Int), fnV 35] ∧
  WSpec prog 113 44 6
  (List.map encO (rot m (Int.toNat (IntKind.wrap IntKind.i64 ((↑n : Int) - (↑s : Int))) - s) (m - s) (Int.toNat (IntKind.wrap IntKind.i64 ((↑n : Int) - (↑s : Int))) - m) l))
  [i64 (↑md : Int), i64 (↑(n - s) : Int), i64 (↑b : Int), fnV 35] (IVal.tup []) (List.map encO (symF ltO md (n - s) b (R113 a s md b n m l))))
  (Tree.need (eqs []) (Tree.done Exit.ret (lretW l0 44 6 (IVal.tup []) (List.map encO (symF ltO md (n - s) b (R113 a s md b n m l)))))))
  (Tree.need (eqs [])
  (Tree.done Exit.ret
  (lretW l0 44 6 (IVal.tup [])
  (List.map encO (rot m (Int.toNat (IntKind.wrap IntKind.i64 ((↑n : Int) - (↑s : Int))) - s) (m - s) (Int.toNat (IntKind.wrap IntKind.i64 ((↑n : Int) - (↑s : Int))) - m) l))))))
  (Tree.need (eqs [])
  (Tree.done Exit.ret
  (lretW l0 44 6 (IVal.tup [])
  (List.map encO (rot m (Int.toNat (IntKind.wrap IntKind.i64 ((↑n : Int) - (↑s : Int))) - s) (m - s) (Int.toNat (IntKind.wrap IntKind.i64 ((↑n : Int) - (↑s : Int))) - m) l)))))))
  (Tree.br (decide ((↑md : Int) < IntKind.wrap IntKind.i64 ((↑n : Int) - (↑s : Int))))
  (Tree.br (decide (IntKind.wrap IntKind.i64 ((↑n : Int) - (↑s : Int)) < (↑b : Int)))
  (Tree.need
  (List.length (List.map encO (rot m (Int.toNat (IntKind.wrap IntKind.i64 ((↑n : Int) - (↑s : Int))) - s) (m - s) (Int.toNat (IntKind.wrap IntKind.i64 ((↑n : Int) - (↑s : Int))) - m) l)) = List.length l ∧
  ILeL [i64 (↑md : Int), IVal.v (Value.int IntKind.i64 (IntKind.wrap IntKind.i64 ((↑n : Int) - (↑s : Int)))), i64 (↑b : Int), fnV 35] [i64 (↑md : Int), i64 (↑(n - s) : Int), i64 (↑b : Int), fnV 35] ∧
  WSpec prog 113 44 6
  (List.map encO (rot m (Int.toNat (IntKind.wrap IntKind.i64 ((↑n : Int) - (↑s : Int))) - s) (m - s) (Int.toNat (IntKind.wrap IntKind.i64 ((↑n : Int) - (↑s : Int))) - m) l))
  [i64 (↑md : Int), i64 (↑(n - s) : Int), i64 (↑b : Int), fnV 35] (IVal.tup []) (List.map encO (symF ltO md (n - s) b (R113 a s md b n m l))))
  (Tree.need (eqs []) (Tree.done Exit.ret (lretW l0 44 6 (IVal.tup []) (List.map encO (symF ltO md (n - s) b (R113 a s md b n m l)))))))
  (Tree.need (eqs [])
  (Tree.done Exit.ret
  (lretW l0 44 6 (IVal.tup [])
  (List.map encO (rot m (Int.toNat (IntKind.wrap IntKind.i64 ((↑n : Int) - (↑s : Int))) - s) (m - s) (Int.toNat (IntKind.wrap IntKind.i64 ((↑n : Int) - (↑s : Int))) - m) l))))))
  (Tree.need (eqs [])
  (Tree.done Exit.ret
  (lretW l0 44 6 (IVal.tup [])
  (List.map encO (rot m (Int.toNat (IntKind.wrap IntKind.i64 ((↑n : Int) - (↑s : Int))) - s) (m - s) (Int.toNat (IntKind.wrap IntKind.i64 ((↑n : Int) - (↑s : Int))) - m) l))))))))
  (Tree.br (decide ((↑a : Int) < (↑s : Int)))
  (Tree.br (decide ((↑s : Int) < (↑md : Int)))
  (Tree.need
  (List.length (List.map encO l) = List.length l ∧
  ILeL [i64 (↑a : Int), i64 (↑s : Int), i64 (↑md : Int), fnV 35] [i64 (↑a : Int), i64 (↑s : Int), i64 (↑md : Int), fnV 35] ∧
  WSpec prog 113 44 6 (List.map encO l) [i64 (↑a : Int), i64 (↑s : Int), i64 (↑md : Int), fnV 35] (IVal.tup []) (List.map encO (symF ltO a s md l)))
  (Tree.br (decide ((↑md : Int) < IntKind.wrap IntKind.i64 ((↑n : Int) - (↑s : Int))))
  (Tree.br (decide (IntKind.wrap IntKind.i64 ((↑n : Int) - (↑s : Int)) < (↑b : Int)))
  (Tree.need
  (List.length (List.map encO (symF ltO a s md l)) = List.length l ∧
  ILeL [i64 (↑md : Int), IVal.v (Value.int IntKind.i64 (IntKind.wrap IntKind.i64 ((↑n : Int) - (↑s : Int)))), i64 (↑b : Int), fnV 35]
  [i64 (↑md : Int), i64 (↑(n - s) : Int), i64 (↑b : Int), fnV 35] ∧
  WSpec prog 113 44 6 (List.map encO (symF ltO a s md l)) [i64 (↑md : Int), i64 (↑(n - s) : Int), i64 (↑b : Int), fnV 35] (IVal.tup [])
  (List.map encO (symF ltO md (n - s) b (R113 a s md b n m l))))
  (Tree.need (eqs []) (Tree.done Exit.ret (lretW l0 44 6 (IVal.tup []) (List.map encO (symF ltO md (n - s) b (R113 a s md b n m l)))))))
  (Tree.need (eqs []) (Tree.done Exit.ret (lretW l0 44 6 (IVal.tup []) (List.map encO (symF ltO a s md l))))))
  (Tree.need (eqs []) (Tree.done Exit.ret (lretW l0 44 6 (IVal.tup []) (List.map encO (symF ltO a s md l)))))))
  (Tree.br (decide ((↑md : Int) < IntKind.wrap IntKind.i64 ((↑n : Int) - (↑s : Int))))
  (Tree.br (decide (IntKind.wrap IntKind.i64 ((↑n : Int) - (↑s : Int)) < (↑b : Int)))
  (Tree.need
  (List.length (List.map encO l) = List.length l ∧
  ILeL [i64 (↑md : Int), IVal.v (Value.int IntKind.i64 (IntKind.wrap IntKind.i64 ((↑n : Int) - (↑s : Int)))), i64 (↑b : Int), fnV 35] [i64 (↑md : Int), i64 (↑(n - s) : Int), i64 (↑b : Int), fnV 35] ∧
  WSpec prog 113 44 6 (List.map encO l) [i64 (↑md : Int), i64 (↑(n - s) : Int), i64 (↑b : Int), fnV 35] (IVal.tup []) (List.map encO (symF ltO md (n - s) b (R113 a s md b n m l))))
  (Tree.need (eqs []) (Tree.done Exit.ret (lretW l0 44 6 (IVal.tup []) (List.map encO (symF ltO md (n - s) b (R113 a s md b n m l)))))))
  (Tree.need (eqs []) (Tree.done Exit.ret (lretW l0 44 6 (IVal.tup []) (List.map encO l)))))
  (Tree.need (eqs []) (Tree.done Exit.ret (lretW l0 44 6 (IVal.tup []) (List.map encO l))))))
  (Tree.br (decide ((↑md : Int) < IntKind.wrap IntKind.i64 ((↑n : Int) - (↑s : Int))))
  (Tree.br (decide (IntKind.wrap IntKind.i64 ((↑n : Int) - (↑s : Int)) < (↑b : Int)))
  (Tree.need
  (List.length (List.map encO l) = List.length l ∧
  ILeL [i64 (↑md : Int), IVal.v (Value.int IntKind.i64 (IntKind.wrap IntKind.i64 ((↑n : Int) - (↑s : Int)))), i64 (↑b : Int), fnV 35] [i64 (↑md : Int), i64 (↑(n - s) : Int), i64 (↑b : Int), fnV 35] ∧
  WSpec prog 113 44 6 (List.map encO l) [i64 (↑md : Int), i64 (↑(n - s) : Int), i64 (↑b : Int), fnV 35] (IVal.tup []) (List.map encO (symF ltO md (n - s) b (R113 a s md b n m l))))
  (Tree.need (eqs []) (Tree.done Exit.ret (lretW l0 44 6 (IVal.tup []) (List.map encO (symF ltO md (n - s) b (R113 a s md b n m l)))))))
  (Tree.need (eqs []) (Tree.done Exit.ret (lretW l0 44 6 (IVal.tup []) (List.map encO l)))))
  (Tree.need (eqs []) (Tree.done Exit.ret (lretW l0 44 6 (IVal.tup []) (List.map encO l)))))))
  (Tree.br (decide ((↑a : Int) < (↑s : Int)))
  (Tree.br (decide ((↑s : Int) < (↑md : Int)))
  (Tree.need
  (List.length (List.map encO l) = List.length l ∧
  ILeL [i64 (↑a : Int), i64 (↑s : Int), i64 (↑md : Int), fnV 35] [i64 (↑a : Int), i64 (↑s : Int), i64 (↑md : Int), fnV 35] ∧
  WSpec prog 113 44 6 (List.map encO l) [i64 (↑a : Int), i64 (↑s : Int), i64 (↑md : Int), fnV 35] (IVal.tup []) (List.map encO (symF ltO a s md l)))
  (Tree.br (decide ((↑md : Int) < IntKind.wrap IntKind.i64 ((↑n : Int) - (↑s : Int))))
  (Tree.br (decide (IntKind.wrap IntKind.i64 ((↑n : Int) - (↑s : Int)) < (↑b : Int)))
  (Tree.need
  (List.length (List.map encO (symF ltO a s md l)) = List.length l ∧
  ILeL [i64 (↑md : Int), IVal.v (Value.int IntKind.i64 (IntKind.wrap IntKind.i64 ((↑n : Int) - (↑s : Int)))), i64 (↑b : Int), fnV 35] [i64 (↑md : Int), i64 (↑(n - s) : Int), i64 (↑b : Int), fnV 35] ∧
  WSpec prog 113 44 6 (List.map encO (symF ltO a s md l)) [i64 (↑md : Int), i64 (↑(n - s) : Int), i64 (↑b : Int), fnV 35] (IVal.tup [])
  (List.map encO (symF ltO md (n - s) b (R113 a s md b n m l))))
  (Tree.need (eqs []) (Tree.done Exit.ret (lretW l0 44 6 (IVal.tup []) (List.map encO (symF ltO md (n - s) b (R113 a s md b n m l)))))))
  (Tree.need (eqs []) (Tree.done Exit.ret (lretW l0 44 6 (IVal.tup []) (List.map encO (symF ltO a s md l))))))
  (Tree.need (eqs []) (Tree.done Exit.ret (lretW l0 44 6 (IVal.tup []) (List.map encO (symF ltO a s md l)))))))
  (Tree.br (decide ((↑md : Int) < IntKind.wrap IntKind.i64 ((↑n : Int) - (↑s : Int))))
  (Tree.br (decide (IntKind.wrap IntKind.i64 ((↑n : Int) - (↑s : Int)) < (↑b : Int)))
  (Tree.need
  (List.length (List.map encO l) = List.length l ∧
  ILeL [i64 (↑md : Int), IVal.v (Value.int IntKind.i64 (IntKind.wrap IntKind.i64 ((↑n : Int) - (↑s : Int)))), i64 (↑b : Int), fnV 35] [i64 (↑md : Int), i64 (↑(n - s) : Int), i64 (↑b : Int), fnV 35] ∧
  WSpec prog 113 44 6 (List.map encO l) [i64 (↑md : Int), i64 (↑(n - s) : Int), i64 (↑b : Int), fnV 35] (IVal.tup []) (List.map encO (symF ltO md (n - s) b (R113 a s md b n m l))))
  (Tree.need (eqs []) (Tree.done Exit.ret (lretW l0 44 6 (IVal.tup []) (List.map encO (symF ltO md (n - s) b (R113 a s md b n m l)))))))
  (Tree.need (eqs []) (Tree.done Exit.ret (lretW l0 44 6 (IVal.tup []) (List.map encO l)))))
  (Tree.need (eqs []) (Tree.done Exit.ret (lretW l0 44 6 (IVal.tup []) (List.map encO l))))))
  (Tree.br (decide ((↑md : Int) < IntKind.wrap IntKind.i64 ((↑n : Int) - (↑s : Int))))
  (Tree.br (decide (IntKind.wrap IntKind.i64 ((↑n : Int) - (↑s : Int)) < (↑b : Int)))
  (Tree.need
  (List.length (List.map encO l) = List.length l ∧
  ILeL [i64 (↑md : Int), IVal.v (Value.int IntKind.i64 (IntKind.wrap IntKind.i64 ((↑n : Int) - (↑s : Int)))), i64 (↑b : Int), fnV 35] [i64 (↑md : Int), i64 (↑(n - s) : Int), i64 (↑b : Int), fnV 35] ∧
  WSpec prog 113 44 6 (List.map encO l) [i64 (↑md : Int), i64 (↑(n - s) : Int), i64 (↑b : Int), fnV 35] (IVal.tup []) (List.map encO (symF ltO md (n - s) b (R113 a s md b n m l))))
  (Tree.need (eqs []) (Tree.done Exit.ret (lretW l0 44 6 (IVal.tup []) (List.map encO (symF ltO md (n - s) b (R113 a s md b n m l)))))))
  (Tree.need (eqs []) (Tree.done Exit.ret (lretW l0 44 6 (IVal.tup []) (List.map encO l)))))
  (Tree.need (eqs []) (Tree.done Exit.ret (lretW l0 44 6 (IVal.tup []) (List.map encO l))))))))))) := by kernel_rfl

def IA115 (l0 : Abs.Loc) (a i j : Nat) (x : List Attest) : LState := { t := [(11, .imm (i64 j)), (10, .imm (i64 i)), (4, .imm (fnV 38)), (1, .imm (i64 a)), (0, .own 0 x.length)], s := [(0, .brow l0 47 2 (x.map encT))], m := 220, n := 1 }
def EA115 (l0 : Abs.Loc) (a i : Nat) (x : List Attest) : LState := { t := [(10, .imm (i64 i)), (1, .imm (i64 a)), (0, .own 0 x.length)], s := [(0, .brow l0 47 2 (x.map encT))], m := 220, n := 1 }
def finA115 : Exit → Fin
  | .normal => ⟨[], [11, 10, 4, 1, 0], [0]⟩
  | _ => ⟨[], [10, 1, 0], [0]⟩
def TA115r (l0 : Abs.Loc) (a i j : Nat) (x : List Attest) : Tell :=
  Tell.mk (fun x x_1 => false) (fun x x_1 => Orc.no) (fun x => Tree.fail 1000003 0) (fun x => 0) (fun x => ([], []))
  (oget
  [(11, 5, 4, Orc.elem (encT (List.getD x (Int.toNat (IntKind.wrap IntKind.i64 (Int.fdiv (IntKind.wrap IntKind.u64 (IntKind.wrap IntKind.i64 ((↑i : Int) + (↑j : Int)))) (2 : Int)))) default))),
  (11, 5, 8, Orc.elem (encT (List.getD x a default))),
  (11, 5, 9,
  Orc.call [encT (List.getD x (Int.toNat (IntKind.wrap IntKind.i64 (Int.fdiv (IntKind.wrap IntKind.u64 (IntKind.wrap IntKind.i64 ((↑i : Int) + (↑j : Int)))) (2 : Int)))) default), encT (List.getD x a default)]
  (i64 (cmpI (List.getD x (Int.toNat (IntKind.wrap IntKind.i64 (Int.fdiv (IntKind.wrap IntKind.u64 (IntKind.wrap IntKind.i64 ((↑i : Int) + (↑j : Int)))) (2 : Int)))) default).cust (List.getD x a default).cust)))])
  fun x x_1 => Tree.fail 1000003 0
theorem tA115r (l0 : Abs.Loc) (a i j : Nat) (x : List Attest) : levL prog Proofs.Try.f115 3 (IA115 l0 a i j x) (TA115r l0 a i j x) finA115 =
  Tree.br (decide ((↑i : Int) < (↑j : Int)))
  (Tree.need ((0 : Int) ≤ (1 : Int))
  (Tree.need
  ((0 : Int) ≤ IntKind.wrap IntKind.i64 (Int.fdiv (IntKind.wrap IntKind.u64 (IntKind.wrap IntKind.i64 ((↑i : Int) + (↑j : Int)))) (2 : Int)) ∧
  Int.toNat (IntKind.wrap IntKind.i64 (Int.fdiv (IntKind.wrap IntKind.u64 (IntKind.wrap IntKind.i64 ((↑i : Int) + (↑j : Int)))) (2 : Int))) < List.length x)
  (Tree.need
  ((List.map encT x)[Int.toNat (IntKind.wrap IntKind.i64 (Int.fdiv (IntKind.wrap IntKind.u64 (IntKind.wrap IntKind.i64 ((↑i : Int) + (↑j : Int)))) (2 : Int)))]? =
  some (encT (List.getD x (Int.toNat (IntKind.wrap IntKind.i64 (Int.fdiv (IntKind.wrap IntKind.u64 (IntKind.wrap IntKind.i64 ((↑i : Int) + (↑j : Int)))) (2 : Int)))) default)))
  (Tree.need ((0 : Int) ≤ (↑a : Int) ∧ a < List.length x)
  (Tree.need ((List.map encT x)[a]? = some (encT (List.getD x a default)))
  (Tree.need
  (ILeL [encT (List.getD x (Int.toNat (IntKind.wrap IntKind.i64 (Int.fdiv (IntKind.wrap IntKind.u64 (IntKind.wrap IntKind.i64 ((↑i : Int) + (↑j : Int)))) (2 : Int)))) default), encT (List.getD x a default)]
  [encT (List.getD x (Int.toNat (IntKind.wrap IntKind.i64 (Int.fdiv (IntKind.wrap IntKind.u64 (IntKind.wrap IntKind.i64 ((↑i : Int) + (↑j : Int)))) (2 : Int)))) default), encT (List.getD x a default)] ∧
  ASpec prog 38 [encT (List.getD x (Int.toNat (IntKind.wrap IntKind.i64 (Int.fdiv (IntKind.wrap IntKind.u64 (IntKind.wrap IntKind.i64 ((↑i : Int) + (↑j : Int)))) (2 : Int)))) default), encT (List.getD x a default)]
  (i64 (cmpI (List.getD x (Int.toNat (IntKind.wrap IntKind.i64 (Int.fdiv (IntKind.wrap IntKind.u64 (IntKind.wrap IntKind.i64 ((↑i : Int) + (↑j : Int)))) (2 : Int)))) default).cust (List.getD x a default).cust)))
  (Tree.br
  (decide (cmpI (List.getD x (Int.toNat (IntKind.wrap IntKind.i64 (Int.fdiv (IntKind.wrap IntKind.u64 (IntKind.wrap IntKind.i64 ((↑i : Int) + (↑j : Int)))) (2 : Int)))) default).cust (List.getD x a default).cust < (0 : Int)))
  (Tree.done Exit.normal
  (LState.mk
  [(11, AVal.imm (i64 (↑j : Int))),
  (10,
  AVal.imm (IVal.v (Value.int IntKind.i64 (IntKind.wrap IntKind.i64 (IntKind.wrap IntKind.i64 (Int.fdiv (IntKind.wrap IntKind.u64 (IntKind.wrap IntKind.i64 ((↑i : Int) + (↑j : Int)))) (2 : Int)) + (1 : Int)))))),
  (4, AVal.imm (fnV 38)), (1, AVal.imm (i64 (↑a : Int))), (0, AVal.own 0 (List.length x))]
  [(0, Entry.brow l0 47 2 (List.map encT x))] 220 25 []))
  (Tree.done Exit.normal
  (LState.mk
  [(11, AVal.imm (IVal.v (Value.int IntKind.i64 (IntKind.wrap IntKind.i64 (Int.fdiv (IntKind.wrap IntKind.u64 (IntKind.wrap IntKind.i64 ((↑i : Int) + (↑j : Int)))) (2 : Int)))))),
  (10, AVal.imm (i64 (↑i : Int))), (4, AVal.imm (fnV 38)), (1, AVal.imm (i64 (↑a : Int))), (0, AVal.own 0 (List.length x))]
  [(0, Entry.brow l0 47 2 (List.map encT x))] 220 24 [])))))))))
  (Tree.done (Exit.exit 0)
  (LState.mk [(10, AVal.imm (i64 (↑i : Int))), (1, AVal.imm (i64 (↑a : Int))), (0, AVal.own 0 (List.length x))] [(0, Entry.brow l0 47 2 (List.map encT x))] 220 4 [])) := by kernel_rfl
def IB115 (l0 : Abs.Loc) (k i : Nat) (x : List Attest) : LState := { t := [(13, .imm (i64 k)), (10, .imm (i64 i)), (0, .own 0 x.length)], s := [(0, .brow l0 47 2 (x.map encT))], m := 220, n := 1 }
def ER115 (l0 : Abs.Loc) (x : List Attest) : LState := { t := [], s := [(0, .brow l0 47 2 (x.map encT))], m := 220, n := 1 }
def finB115 : Exit → Fin
  | .normal => ⟨[], [13, 10, 0], [0]⟩
  | _ => ⟨[], [], [0]⟩
def TB115r (l0 : Abs.Loc) (k i : Nat) (x : List Attest) : Tell :=
  Tell.mk (fun x x_1 => false) (fun x x_1 => Orc.no) (fun x => Tree.fail 1000003 0) (fun x => 0) (fun x => ([], []))
  (oget
  [(5, 11, 9, Orc.elem (encT (List.getD x (Int.toNat (IntKind.wrap IntKind.i64 ((↑k : Int) + (1 : Int)))) default))), (5, 11, 13, Orc.elem (encT (List.getD x k default))),
  (5, 11, 15, Orc.elem (IVal.tup [])), (5, 11, 17, Orc.elem (IVal.tup []))])
  fun x x_1 => Tree.fail 1000003 0
theorem tB115r (l0 : Abs.Loc) (k i : Nat) (x : List Attest) : levL prog Proofs.Try.f115 9 (IB115 l0 k i x) (TB115r l0 k i x) finB115 =
  Tree.br (decide ((↑k : Int) < IntKind.wrap IntKind.i64 ((↑i : Int) - (1 : Int))))
  (Tree.need ((0 : Int) ≤ IntKind.wrap IntKind.i64 ((↑k : Int) + (1 : Int)) ∧ Int.toNat (IntKind.wrap IntKind.i64 ((↑k : Int) + (1 : Int))) < List.length x)
  (Tree.need ((List.map encT x)[Int.toNat (IntKind.wrap IntKind.i64 ((↑k : Int) + (1 : Int)))]? = some (encT (List.getD x (Int.toNat (IntKind.wrap IntKind.i64 ((↑k : Int) + (1 : Int)))) default)))
  (Tree.need ((0 : Int) ≤ (↑k : Int) ∧ k < List.length x)
  (Tree.need ((List.map encT x)[k]? = some (encT (List.getD x k default)))
  (Tree.need ((0 : Int) ≤ (↑k : Int) ∧ k < List.length x)
  (Tree.need (k < List.length (List.map encT x))
  (Tree.need ((0 : Int) ≤ IntKind.wrap IntKind.i64 ((↑k : Int) + (1 : Int)) ∧ Int.toNat (IntKind.wrap IntKind.i64 ((↑k : Int) + (1 : Int))) < List.length x)
  (Tree.need (Int.toNat (IntKind.wrap IntKind.i64 ((↑k : Int) + (1 : Int))) < List.length (List.set (List.map encT x) k (encT (List.getD x (Int.toNat (IntKind.wrap IntKind.i64 ((↑k : Int) + (1 : Int)))) default))))
  (Tree.done Exit.normal
  (LState.mk [(13, AVal.imm (IVal.v (Value.int IntKind.i64 (IntKind.wrap IntKind.i64 ((↑k : Int) + (1 : Int)))))), (10, AVal.imm (i64 (↑i : Int))), (0, AVal.own 0 (List.length x))]
  [(0,
  Entry.brow l0 47 2
  (List.set (List.set (List.map encT x) k (encT (List.getD x (Int.toNat (IntKind.wrap IntKind.i64 ((↑k : Int) + (1 : Int)))) default))) (Int.toNat (IntKind.wrap IntKind.i64 ((↑k : Int) + (1 : Int))))
  (encT (List.getD x k default))))]
  220 26 []))))))))))
  (Tree.done (Exit.exit 2) (LState.mk [] [(0, Entry.brow l0 47 2 (List.map encT x))] 220 5 [])) := by kernel_rfl
def IC115 (l0 : Abs.Loc) (m i j : Nat) (x : List Attest) : LState := { t := [(15, .imm (i64 j)), (14, .imm (i64 i)), (4, .imm (fnV 38)), (2, .imm (i64 m)), (0, .own 0 x.length)], s := [(0, .brow l0 47 2 (x.map encT))], m := 220, n := 1 }
def EC115 (l0 : Abs.Loc) (m i : Nat) (x : List Attest) : LState := { t := [(14, .imm (i64 i)), (2, .imm (i64 m)), (0, .own 0 x.length)], s := [(0, .brow l0 47 2 (x.map encT))], m := 220, n := 1 }
def finC115 : Exit → Fin
  | .normal => ⟨[], [15, 14, 4, 2, 0], [0]⟩
  | _ => ⟨[], [14, 2, 0], [0]⟩
def TC115r (l0 : Abs.Loc) (m i j : Nat) (x : List Attest) : Tell :=
  Tell.mk (fun x x_1 => false) (fun x x_1 => Orc.no) (fun x => Tree.fail 1000003 0) (fun x => 0) (fun x => ([], []))
  (oget
  [(11, 17, 4, Orc.elem (encT (List.getD x m default))),
  (11, 17, 8, Orc.elem (encT (List.getD x (Int.toNat (IntKind.wrap IntKind.i64 (Int.fdiv (IntKind.wrap IntKind.u64 (IntKind.wrap IntKind.i64 ((↑i : Int) + (↑j : Int)))) (2 : Int)))) default))),
  (11, 17, 9,
  Orc.call [encT (List.getD x m default), encT (List.getD x (Int.toNat (IntKind.wrap IntKind.i64 (Int.fdiv (IntKind.wrap IntKind.u64 (IntKind.wrap IntKind.i64 ((↑i : Int) + (↑j : Int)))) (2 : Int)))) default)]
  (i64 (cmpI (List.getD x m default).cust (List.getD x (Int.toNat (IntKind.wrap IntKind.i64 (Int.fdiv (IntKind.wrap IntKind.u64 (IntKind.wrap IntKind.i64 ((↑i : Int) + (↑j : Int)))) (2 : Int)))) default).cust)))])
  fun x x_1 => Tree.fail 1000003 0
theorem tC115r (l0 : Abs.Loc) (m i j : Nat) (x : List Attest) : levL prog Proofs.Try.f115 15 (IC115 l0 m i j x) (TC115r l0 m i j x) finC115 =
  Tree.br (decide ((↑i : Int) < (↑j : Int)))
  (Tree.need ((0 : Int) ≤ (1 : Int))
  (Tree.need ((0 : Int) ≤ (↑m : Int) ∧ m < List.length x)
  (Tree.need ((List.map encT x)[m]? = some (encT (List.getD x m default)))
  (Tree.need
  ((0 : Int) ≤ IntKind.wrap IntKind.i64 (Int.fdiv (IntKind.wrap IntKind.u64 (IntKind.wrap IntKind.i64 ((↑i : Int) + (↑j : Int)))) (2 : Int)) ∧
  Int.toNat (IntKind.wrap IntKind.i64 (Int.fdiv (IntKind.wrap IntKind.u64 (IntKind.wrap IntKind.i64 ((↑i : Int) + (↑j : Int)))) (2 : Int))) < List.length x)
  (Tree.need
  ((List.map encT x)[Int.toNat (IntKind.wrap IntKind.i64 (Int.fdiv (IntKind.wrap IntKind.u64 (IntKind.wrap IntKind.i64 ((↑i : Int) + (↑j : Int)))) (2 : Int)))]? =
  some (encT (List.getD x (Int.toNat (IntKind.wrap IntKind.i64 (Int.fdiv (IntKind.wrap IntKind.u64 (IntKind.wrap IntKind.i64 ((↑i : Int) + (↑j : Int)))) (2 : Int)))) default)))
  (Tree.need
  (ILeL [encT (List.getD x m default), encT (List.getD x (Int.toNat (IntKind.wrap IntKind.i64 (Int.fdiv (IntKind.wrap IntKind.u64 (IntKind.wrap IntKind.i64 ((↑i : Int) + (↑j : Int)))) (2 : Int)))) default)]
  [encT (List.getD x m default), encT (List.getD x (Int.toNat (IntKind.wrap IntKind.i64 (Int.fdiv (IntKind.wrap IntKind.u64 (IntKind.wrap IntKind.i64 ((↑i : Int) + (↑j : Int)))) (2 : Int)))) default)] ∧
  ASpec prog 38 [encT (List.getD x m default), encT (List.getD x (Int.toNat (IntKind.wrap IntKind.i64 (Int.fdiv (IntKind.wrap IntKind.u64 (IntKind.wrap IntKind.i64 ((↑i : Int) + (↑j : Int)))) (2 : Int)))) default)]
  (i64 (cmpI (List.getD x m default).cust (List.getD x (Int.toNat (IntKind.wrap IntKind.i64 (Int.fdiv (IntKind.wrap IntKind.u64 (IntKind.wrap IntKind.i64 ((↑i : Int) + (↑j : Int)))) (2 : Int)))) default).cust)))
  (Tree.br
  (!decide (cmpI (List.getD x m default).cust (List.getD x (Int.toNat (IntKind.wrap IntKind.i64 (Int.fdiv (IntKind.wrap IntKind.u64 (IntKind.wrap IntKind.i64 ((↑i : Int) + (↑j : Int)))) (2 : Int)))) default).cust < (0 : Int)))
  (Tree.done Exit.normal
  (LState.mk
  [(15, AVal.imm (i64 (↑j : Int))),
  (14,
  AVal.imm (IVal.v (Value.int IntKind.i64 (IntKind.wrap IntKind.i64 (IntKind.wrap IntKind.i64 (Int.fdiv (IntKind.wrap IntKind.u64 (IntKind.wrap IntKind.i64 ((↑i : Int) + (↑j : Int)))) (2 : Int)) + (1 : Int)))))),
  (4, AVal.imm (fnV 38)), (2, AVal.imm (i64 (↑m : Int))), (0, AVal.own 0 (List.length x))]
  [(0, Entry.brow l0 47 2 (List.map encT x))] 220 26 []))
  (Tree.done Exit.normal
  (LState.mk
  [(15, AVal.imm (IVal.v (Value.int IntKind.i64 (IntKind.wrap IntKind.i64 (Int.fdiv (IntKind.wrap IntKind.u64 (IntKind.wrap IntKind.i64 ((↑i : Int) + (↑j : Int)))) (2 : Int)))))),
  (14, AVal.imm (i64 (↑i : Int))), (4, AVal.imm (fnV 38)), (2, AVal.imm (i64 (↑m : Int))), (0, AVal.own 0 (List.length x))]
  [(0, Entry.brow l0 47 2 (List.map encT x))] 220 25 [])))))))))
  (Tree.done (Exit.exit 4)
  (LState.mk [(14, AVal.imm (i64 (↑i : Int))), (2, AVal.imm (i64 (↑m : Int))), (0, AVal.own 0 (List.length x))] [(0, Entry.brow l0 47 2 (List.map encT x))] 220 4 [])) := by kernel_rfl
def ID115 (l0 : Abs.Loc) (k i : Nat) (x : List Attest) : LState := { t := [(17, .imm (i64 k)), (14, .imm (i64 i)), (0, .own 0 x.length)], s := [(0, .brow l0 47 2 (x.map encT))], m := 220, n := 1 }
def finD115 : Exit → Fin
  | .normal => ⟨[], [17, 14, 0], [0]⟩
  | _ => ⟨[], [], [0]⟩
def TD115r (l0 : Abs.Loc) (k i : Nat) (x : List Attest) : Tell :=
  Tell.mk (fun x x_1 => false) (fun x x_1 => Orc.no) (fun x => Tree.fail 1000003 0) (fun x => 0) (fun x => ([], []))
  (oget
  [(4, 23, 9, Orc.elem (encT (List.getD x (Int.toNat (IntKind.wrap IntKind.i64 ((↑k : Int) - (1 : Int)))) default))), (4, 23, 13, Orc.elem (encT (List.getD x k default))),
  (4, 23, 15, Orc.elem (IVal.tup [])), (4, 23, 17, Orc.elem (IVal.tup []))])
  fun x x_1 => Tree.fail 1000003 0
theorem tD115r (l0 : Abs.Loc) (k i : Nat) (x : List Attest) : levL prog Proofs.Try.f115 21 (ID115 l0 k i x) (TD115r l0 k i x) finD115 =
  Tree.br (decide ((↑i : Int) < (↑k : Int)))
  (Tree.need ((0 : Int) ≤ IntKind.wrap IntKind.i64 ((↑k : Int) - (1 : Int)) ∧ Int.toNat (IntKind.wrap IntKind.i64 ((↑k : Int) - (1 : Int))) < List.length x)
  (Tree.need ((List.map encT x)[Int.toNat (IntKind.wrap IntKind.i64 ((↑k : Int) - (1 : Int)))]? = some (encT (List.getD x (Int.toNat (IntKind.wrap IntKind.i64 ((↑k : Int) - (1 : Int)))) default)))
  (Tree.need ((0 : Int) ≤ (↑k : Int) ∧ k < List.length x)
  (Tree.need ((List.map encT x)[k]? = some (encT (List.getD x k default)))
  (Tree.need ((0 : Int) ≤ (↑k : Int) ∧ k < List.length x)
  (Tree.need (k < List.length (List.map encT x))
  (Tree.need ((0 : Int) ≤ IntKind.wrap IntKind.i64 ((↑k : Int) - (1 : Int)) ∧ Int.toNat (IntKind.wrap IntKind.i64 ((↑k : Int) - (1 : Int))) < List.length x)
  (Tree.need (Int.toNat (IntKind.wrap IntKind.i64 ((↑k : Int) - (1 : Int))) < List.length (List.set (List.map encT x) k (encT (List.getD x (Int.toNat (IntKind.wrap IntKind.i64 ((↑k : Int) - (1 : Int)))) default))))
  (Tree.done Exit.normal
  (LState.mk [(17, AVal.imm (IVal.v (Value.int IntKind.i64 (IntKind.wrap IntKind.i64 ((↑k : Int) - (1 : Int)))))), (14, AVal.imm (i64 (↑i : Int))), (0, AVal.own 0 (List.length x))]
  [(0,
  Entry.brow l0 47 2
  (List.set (List.set (List.map encT x) k (encT (List.getD x (Int.toNat (IntKind.wrap IntKind.i64 ((↑k : Int) - (1 : Int)))) default))) (Int.toNat (IntKind.wrap IntKind.i64 ((↑k : Int) - (1 : Int))))
  (encT (List.getD x k default))))]
  220 25 []))))))))))
  (Tree.done (Exit.exit 6) (LState.mk [] [(0, Entry.brow l0 47 2 (List.map encT x))] 220 4 [])) := by kernel_rfl
def IE115 (l0 : Abs.Loc) (a m b q n md i j : Nat) (x : List Attest) : LState := { t := [(22, .imm (i64 q)), (21, .imm (i64 j)), (20, .imm (i64 i)), (19, .imm (i64 n)), (18, .imm (i64 md)), (4, .imm (fnV 38)), (3, .imm (i64 b)), (2, .imm (i64 m)), (1, .imm (i64 a)), (0, .own 0 x.length)], s := [(0, .brow l0 47 2 (x.map encT))], m := 220, n := 1 }
def EE115 (l0 : Abs.Loc) (a m b n md i : Nat) (x : List Attest) : LState := { t := [(20, .imm (i64 i)), (19, .imm (i64 n)), (18, .imm (i64 md)), (4, .imm (fnV 38)), (3, .imm (i64 b)), (2, .imm (i64 m)), (1, .imm (i64 a)), (0, .own 0 x.length)], s := [(0, .brow l0 47 2 (x.map encT))], m := 220, n := 1 }
def finE115 : Exit → Fin
  | .normal => ⟨[], [22, 21, 20, 19, 18, 4, 3, 2, 1, 0], [0]⟩
  | _ => ⟨[], [20, 19, 18, 4, 3, 2, 1, 0], [0]⟩
def TE115r (l0 : Abs.Loc) (a m b q n md i j : Nat) (x : List Attest) : Tell :=
  Tell.mk (fun x x_1 => false) (fun x x_1 => Orc.no) (fun x => Tree.fail 1000003 0) (fun x => 0) (fun x => ([], []))
  (oget
  [(11, 35, 6,
  Orc.elem (encT (List.getD x (Int.toNat (IntKind.wrap IntKind.i64 ((↑q : Int) - IntKind.wrap IntKind.i64 (Int.fdiv (IntKind.wrap IntKind.u64 (IntKind.wrap IntKind.i64 ((↑i : Int) + (↑j : Int)))) (2 : Int))))) default))),
  (11, 35, 10, Orc.elem (encT (List.getD x (Int.toNat (IntKind.wrap IntKind.i64 (Int.fdiv (IntKind.wrap IntKind.u64 (IntKind.wrap IntKind.i64 ((↑i : Int) + (↑j : Int)))) (2 : Int)))) default))),
  (11, 35, 11,
  Orc.call
  [encT (List.getD x (Int.toNat (IntKind.wrap IntKind.i64 ((↑q : Int) - IntKind.wrap IntKind.i64 (Int.fdiv (IntKind.wrap IntKind.u64 (IntKind.wrap IntKind.i64 ((↑i : Int) + (↑j : Int)))) (2 : Int))))) default),
  encT (List.getD x (Int.toNat (IntKind.wrap IntKind.i64 (Int.fdiv (IntKind.wrap IntKind.u64 (IntKind.wrap IntKind.i64 ((↑i : Int) + (↑j : Int)))) (2 : Int)))) default)]
  (i64
  (cmpI (List.getD x (Int.toNat (IntKind.wrap IntKind.i64 ((↑q : Int) - IntKind.wrap IntKind.i64 (Int.fdiv (IntKind.wrap IntKind.u64 (IntKind.wrap IntKind.i64 ((↑i : Int) + (↑j : Int)))) (2 : Int))))) default).cust
  (List.getD x (Int.toNat (IntKind.wrap IntKind.i64 (Int.fdiv (IntKind.wrap IntKind.u64 (IntKind.wrap IntKind.i64 ((↑i : Int) + (↑j : Int)))) (2 : Int)))) default).cust)))])
  fun x x_1 => Tree.fail 1000003 0
theorem tE115r (l0 : Abs.Loc) (a m b q n md i j : Nat) (x : List Attest) : levL prog Proofs.Try.f115 33 (IE115 l0 a m b q n md i j x) (TE115r l0 a m b q n md i j x) finE115 =
  Tree.br (decide ((↑i : Int) < (↑j : Int)))
  (Tree.need ((0 : Int) ≤ (1 : Int))
  (Tree.need
  ((0 : Int) ≤ IntKind.wrap IntKind.i64 ((↑q : Int) - IntKind.wrap IntKind.i64 (Int.fdiv (IntKind.wrap IntKind.u64 (IntKind.wrap IntKind.i64 ((↑i : Int) + (↑j : Int)))) (2 : Int))) ∧
  Int.toNat (IntKind.wrap IntKind.i64 ((↑q : Int) - IntKind.wrap IntKind.i64 (Int.fdiv (IntKind.wrap IntKind.u64 (IntKind.wrap IntKind.i64 ((↑i : Int) + (↑j : Int)))) (2 : Int)))) < List.length x)
  (Tree.need
  ((List.map encT x)[Int.toNat (IntKind.wrap IntKind.i64 ((↑q : Int) - IntKind.wrap IntKind.i64 (Int.fdiv (IntKind.wrap IntKind.u64 (IntKind.wrap IntKind.i64 ((↑i : Int) + (↑j : Int)))) (2 : Int))))]? =
  some (encT (List.getD x (Int.toNat (IntKind.wrap IntKind.i64 ((↑q : Int) - IntKind.wrap IntKind.i64 (Int.fdiv (IntKind.wrap IntKind.u64 (IntKind.wrap IntKind.i64 ((↑i : Int) + (↑j : Int)))) (2 : Int))))) default)))
  (Tree.need
  ((0 : Int) ≤ IntKind.wrap IntKind.i64 (Int.fdiv (IntKind.wrap IntKind.u64 (IntKind.wrap IntKind.i64 ((↑i : Int) + (↑j : Int)))) (2 : Int)) ∧
  Int.toNat (IntKind.wrap IntKind.i64 (Int.fdiv (IntKind.wrap IntKind.u64 (IntKind.wrap IntKind.i64 ((↑i : Int) + (↑j : Int)))) (2 : Int))) < List.length x)
  (Tree.need
  ((List.map encT x)[Int.toNat (IntKind.wrap IntKind.i64 (Int.fdiv (IntKind.wrap IntKind.u64 (IntKind.wrap IntKind.i64 ((↑i : Int) + (↑j : Int)))) (2 : Int)))]? =
  some (encT (List.getD x (Int.toNat (IntKind.wrap IntKind.i64 (Int.fdiv (IntKind.wrap IntKind.u64 (IntKind.wrap IntKind.i64 ((↑i : Int) + (↑j : Int)))) (2 : Int)))) default)))
  (Tree.need
  (ILeL
  [encT (List.getD x (Int.toNat (IntKind.wrap IntKind.i64 ((↑q : Int) - IntKind.wrap IntKind.i64 (Int.fdiv (IntKind.wrap IntKind.u64 (IntKind.wrap IntKind.i64 ((↑i : Int) + (↑j : Int)))) (2 : Int))))) default),
  encT (List.getD x (Int.toNat (IntKind.wrap IntKind.i64 (Int.fdiv (IntKind.wrap IntKind.u64 (IntKind.wrap IntKind.i64 ((↑i : Int) + (↑j : Int)))) (2 : Int)))) default)]
  [encT (List.getD x (Int.toNat (IntKind.wrap IntKind.i64 ((↑q : Int) - IntKind.wrap IntKind.i64 (Int.fdiv (IntKind.wrap IntKind.u64 (IntKind.wrap IntKind.i64 ((↑i : Int) + (↑j : Int)))) (2 : Int))))) default),
  encT (List.getD x (Int.toNat (IntKind.wrap IntKind.i64 (Int.fdiv (IntKind.wrap IntKind.u64 (IntKind.wrap IntKind.i64 ((↑i : Int) + (↑j : Int)))) (2 : Int)))) default)] ∧
  ASpec prog 38
  [encT (List.getD x (Int.toNat (IntKind.wrap IntKind.i64 ((↑q : Int) - IntKind.wrap IntKind.i64 (Int.fdiv (IntKind.wrap IntKind.u64 (IntKind.wrap IntKind.i64 ((↑i : Int) + (↑j : Int)))) (2 : Int))))) default),
  encT (List.getD x (Int.toNat (IntKind.wrap IntKind.i64 (Int.fdiv (IntKind.wrap IntKind.u64 (IntKind.wrap IntKind.i64 ((↑i : Int) + (↑j : Int)))) (2 : Int)))) default)]
  (i64
  (cmpI (List.getD x (Int.toNat (IntKind.wrap IntKind.i64 ((↑q : Int) - IntKind.wrap IntKind.i64 (Int.fdiv (IntKind.wrap IntKind.u64 (IntKind.wrap IntKind.i64 ((↑i : Int) + (↑j : Int)))) (2 : Int))))) default).cust
  (List.getD x (Int.toNat (IntKind.wrap IntKind.i64 (Int.fdiv (IntKind.wrap IntKind.u64 (IntKind.wrap IntKind.i64 ((↑i : Int) + (↑j : Int)))) (2 : Int)))) default).cust)))
  (Tree.br
  (!decide
  (cmpI (List.getD x (Int.toNat (IntKind.wrap IntKind.i64 ((↑q : Int) - IntKind.wrap IntKind.i64 (Int.fdiv (IntKind.wrap IntKind.u64 (IntKind.wrap IntKind.i64 ((↑i : Int) + (↑j : Int)))) (2 : Int))))) default).cust
  (List.getD x (Int.toNat (IntKind.wrap IntKind.i64 (Int.fdiv (IntKind.wrap IntKind.u64 (IntKind.wrap IntKind.i64 ((↑i : Int) + (↑j : Int)))) (2 : Int)))) default).cust <
  (0 : Int)))
  (Tree.done Exit.normal
  (LState.mk
  [(22, AVal.imm (i64 (↑q : Int))), (21, AVal.imm (i64 (↑j : Int))),
  (20,
  AVal.imm (IVal.v (Value.int IntKind.i64 (IntKind.wrap IntKind.i64 (IntKind.wrap IntKind.i64 (Int.fdiv (IntKind.wrap IntKind.u64 (IntKind.wrap IntKind.i64 ((↑i : Int) + (↑j : Int)))) (2 : Int)) + (1 : Int)))))),
  (19, AVal.imm (i64 (↑n : Int))), (18, AVal.imm (i64 (↑md : Int))), (4, AVal.imm (fnV 38)), (3, AVal.imm (i64 (↑b : Int))), (2, AVal.imm (i64 (↑m : Int))),
  (1, AVal.imm (i64 (↑a : Int))), (0, AVal.own 0 (List.length x))]
  [(0, Entry.brow l0 47 2 (List.map encT x))] 220 28 []))
  (Tree.done Exit.normal
  (LState.mk
  [(22, AVal.imm (i64 (↑q : Int))),
  (21, AVal.imm (IVal.v (Value.int IntKind.i64 (IntKind.wrap IntKind.i64 (Int.fdiv (IntKind.wrap IntKind.u64 (IntKind.wrap IntKind.i64 ((↑i : Int) + (↑j : Int)))) (2 : Int)))))),
  (20, AVal.imm (i64 (↑i : Int))), (19, AVal.imm (i64 (↑n : Int))), (18, AVal.imm (i64 (↑md : Int))), (4, AVal.imm (fnV 38)), (3, AVal.imm (i64 (↑b : Int))),
  (2, AVal.imm (i64 (↑m : Int))), (1, AVal.imm (i64 (↑a : Int))), (0, AVal.own 0 (List.length x))]
  [(0, Entry.brow l0 47 2 (List.map encT x))] 220 27 [])))))))))
  (Tree.done (Exit.exit 8)
  (LState.mk
  [(20, AVal.imm (i64 (↑i : Int))), (19, AVal.imm (i64 (↑n : Int))), (18, AVal.imm (i64 (↑md : Int))), (4, AVal.imm (fnV 38)), (3, AVal.imm (i64 (↑b : Int))),
  (2, AVal.imm (i64 (↑m : Int))), (1, AVal.imm (i64 (↑a : Int))), (0, AVal.own 0 (List.length x))]
  [(0, Entry.brow l0 47 2 (List.map encT x))] 220 4 [])) := by kernel_rfl

theorem lA115 (l0 : Abs.Loc) (a i j f : Nat) (x : List Attest) (ha : a < x.length) (hij : i ≤ j) (hj : j ≤ x.length) (hl : x.length ≤ 2 ^ 61) (hf : j - i ≤ f) (σ : LState) (h : LSub σ (IA115 l0 a i j x)) :
    LoopOk prog [] (bodyOf Proofs.Try.f115) 3 σ (.done (.exit 0) (EA115 l0 a (bs (fun h => ltT (x.getD h default) (x.getD a default)) f i j) x)) := by
  refine LoopOk.of_levL (γ := { g : Nat × Nat × Nat // g.1 ≤ g.2.1 ∧ g.2.1 ≤ x.length ∧ g.2.1 - g.1 ≤ g.2.2 ∧ bs (fun h => ltT (x.getD h default) (x.getD a default)) g.2.2 g.1 g.2.1 = bs (fun h => ltT (x.getD h default) (x.getD a default)) f i j })
    (fun g => TA115r l0 a g.1.1 g.1.2.1 x) finA115 (fun g => IA115 l0 a g.1.1 g.1.2.1 x) (fun g => g.1.2.1 - g.1.1) ⟨(i, j, f), hij, hj, hf, rfl⟩ (by kernel_rfl) h ?_
  rintro ⟨⟨i, j, f'⟩, q1, q2, q3, q4⟩
  simp only at q1 q2 q3 q4
  simp only []
  have e1 := i64_half (i := i) (j := j) (by omega)
  rw [tA115r]
  simp only [e1, Int.toNat_natCast]
  refine ⟨fun h1 => ?_, fun h1 => ?_⟩
  · have hlt : i < j := by simp at h1; omega
    cases f' with
    | zero => omega
    | succ f' =>
      rw [bs, if_pos hlt] at q4
      refine ⟨by omega, fun _ => ⟨⟨by omega, by omega⟩, fun _ => ⟨getD_map _ _ _ _ (by omega), fun _ => ⟨⟨by omega, ha⟩, fun _ => ⟨getD_map _ _ _ _ ha, fun _ => ⟨⟨ILeL.refl _, c38 _ _⟩, fun _ => ⟨fun h2 => ?_, fun h2 => ?_⟩⟩⟩⟩⟩⟩⟩
      · rw [if_pos (show ltT _ _ = true from h2)] at q4
        refine ⟨⟨((i + j) / 2 + 1, j, f'), by simp only; omega, q2, by simp only; omega, q4⟩, by simp only; omega, ⟨rfl, ?_, rfl, rfl, rfl, trivial⟩, ⟨rfl, trivial⟩, rfl, rfl, rfl⟩
        exact congrArg (fun n => AVal.imm (i64 n)) (i64_succ (by omega))
      · rw [if_neg (fun hc => by rw [show ltT _ _ = false from h2] at hc; cases hc)] at q4
        exact ⟨⟨(i, (i + j) / 2, f'), by simp only; omega, by simp only; omega, by simp only; omega, q4⟩, by simp only; omega, ⟨rfl, rfl, rfl, rfl, rfl, trivial⟩, ⟨rfl, trivial⟩, rfl, rfl, rfl⟩
  · have hge : ¬ i < j := by simp at h1; omega
    have : bs (fun h => ltT (x.getD h default) (x.getD a default)) f' i j = i := by
      cases f' with
      | zero => rfl
      | succ f' => rw [bs, if_neg hge]
    rw [this] at q4
    rw [← q4]
    exact ⟨rfl, ⟨rfl, rfl, rfl, trivial⟩, ⟨rfl, trivial⟩, rfl, rfl, rfl⟩
theorem lC115 (l0 : Abs.Loc) (m i j f : Nat) (x : List Attest) (ha : m < x.length) (hij : i ≤ j) (hj : j ≤ x.length) (hl : x.length ≤ 2 ^ 61) (hf : j - i ≤ f) (σ : LState) (h : LSub σ (IC115 l0 m i j x)) :
    LoopOk prog [] (bodyOf Proofs.Try.f115) 15 σ (.done (.exit 4) (EC115 l0 m (bs (fun h => !ltT (x.getD m default) (x.getD h default)) f i j) x)) := by
  refine LoopOk.of_levL (γ := { g : Nat × Nat × Nat // g.1 ≤ g.2.1 ∧ g.2.1 ≤ x.length ∧ g.2.1 - g.1 ≤ g.2.2 ∧ bs (fun h => !ltT (x.getD m default) (x.getD h default)) g.2.2 g.1 g.2.1 = bs (fun h => !ltT (x.getD m default) (x.getD h default)) f i j })
    (fun g => TC115r l0 m g.1.1 g.1.2.1 x) finC115 (fun g => IC115 l0 m g.1.1 g.1.2.1 x) (fun g => g.1.2.1 - g.1.1) ⟨(i, j, f), hij, hj, hf, rfl⟩ (by kernel_rfl) h ?_
  rintro ⟨⟨i, j, f'⟩, q1, q2, q3, q4⟩
  simp only at q1 q2 q3 q4
  simp only []
  have e1 := i64_half (i := i) (j := j) (by omega)
  rw [tC115r]
  simp only [e1, Int.toNat_natCast]
  refine ⟨fun h1 => ?_, fun h1 => ?_⟩
  · have hlt : i < j := by simp at h1; omega
    cases f' with
    | zero => omega
    | succ f' =>
      rw [bs, if_pos hlt] at q4
      refine ⟨by omega, fun _ => ⟨⟨by omega, ha⟩, fun _ => ⟨getD_map _ _ _ _ ha, fun _ => ⟨⟨by omega, by omega⟩, fun _ => ⟨getD_map _ _ _ _ (by omega), fun _ => ⟨⟨ILeL.refl _, c38 _ _⟩, fun _ => ⟨fun h2 => ?_, fun h2 => ?_⟩⟩⟩⟩⟩⟩⟩
      · rw [if_pos (show (!ltT _ _) = true from h2)] at q4
        refine ⟨⟨((i + j) / 2 + 1, j, f'), by simp only; omega, q2, by simp only; omega, q4⟩, by simp only; omega, ⟨rfl, ?_, rfl, rfl, rfl, trivial⟩, ⟨rfl, trivial⟩, rfl, rfl, rfl⟩
        exact congrArg (fun n => AVal.imm (i64 n)) (i64_succ (by omega))
      · rw [if_neg (fun hc => by rw [show (!ltT _ _) = false from h2] at hc; cases hc)] at q4
        exact ⟨⟨(i, (i + j) / 2, f'), by simp only; omega, by simp only; omega, by simp only; omega, q4⟩, by simp only; omega, ⟨rfl, rfl, rfl, rfl, rfl, trivial⟩, ⟨rfl, trivial⟩, rfl, rfl, rfl⟩
  · have hge : ¬ i < j := by simp at h1; omega
    have : bs (fun h => !ltT (x.getD m default) (x.getD h default)) f' i j = i := by
      cases f' with
      | zero => rfl
      | succ f' => rw [bs, if_neg hge]
    rw [this] at q4
    rw [← q4]
    exact ⟨rfl, ⟨rfl, rfl, rfl, trivial⟩, ⟨rfl, trivial⟩, rfl, rfl, rfl⟩
theorem lE115 (l0 : Abs.Loc) (a m b q n md i j f : Nat) (x : List Attest) (hq : j ≤ q + 1) (hq2 : q < i + x.length) (hij : i ≤ j) (hj : j ≤ x.length) (hl : x.length ≤ 2 ^ 61) (hf : j - i ≤ f) (σ : LState) (h : LSub σ (IE115 l0 a m b q n md i j x)) :
    LoopOk prog [] (bodyOf Proofs.Try.f115) 33 σ (.done (.exit 8) (EE115 l0 a m b n md (bs (fun c => !ltT (x.getD (q - c) default) (x.getD c default)) f i j) x)) := by
  refine LoopOk.of_levL (γ := { g : Nat × Nat × Nat // i ≤ g.1 ∧ g.1 ≤ g.2.1 ∧ g.2.1 ≤ j ∧ g.2.1 - g.1 ≤ g.2.2 ∧ bs (fun c => !ltT (x.getD (q - c) default) (x.getD c default)) g.2.2 g.1 g.2.1 = bs (fun c => !ltT (x.getD (q - c) default) (x.getD c default)) f i j })
    (fun g => TE115r l0 a m b q n md g.1.1 g.1.2.1 x) finE115 (fun g => IE115 l0 a m b q n md g.1.1 g.1.2.1 x) (fun g => g.1.2.1 - g.1.1) ⟨(i, j, f), Nat.le_refl _, hij, Nat.le_refl _, hf, rfl⟩ (by kernel_rfl) h ?_
  rintro ⟨⟨i', j', f'⟩, q0, q1, q2, q3, q4⟩
  simp only at q0 q1 q2 q3 q4
  simp only []
  have e1 := i64_half (i := i') (j := j') (by omega)
  have e2 : i' < j' → IntKind.i64.wrap ((q : Int) - (((i' + j') / 2 : Nat) : Int)) = ((q - (i' + j') / 2 : Nat) : Int) := fun h => i64_sub (by omega) (by omega)
  rw [tE115r]
  simp only [e1, Int.toNat_natCast]
  refine ⟨fun h1 => ?_, fun h1 => ?_⟩
  · have hlt : i' < j' := by simp at h1; omega
    simp only [e2 hlt, Int.toNat_natCast]
    cases f' with
    | zero => omega
    | succ f' =>
      rw [bs, if_pos hlt] at q4
      refine ⟨by omega, fun _ => ⟨⟨by omega, by omega⟩, fun _ => ⟨getD_map _ _ _ _ (by omega), fun _ => ⟨⟨by omega, by omega⟩, fun _ => ⟨getD_map _ _ _ _ (by omega), fun _ => ⟨⟨ILeL.refl _, c38 _ _⟩, fun _ => ⟨fun h2 => ?_, fun h2 => ?_⟩⟩⟩⟩⟩⟩⟩
      · rw [if_pos (show (!ltT _ _) = true from h2)] at q4
        refine ⟨⟨((i' + j') / 2 + 1, j', f'), by simp only; omega, by simp only; omega, by simp only; omega, by simp only; omega, q4⟩, by simp only; omega, ⟨rfl, rfl, ?_, rfl, rfl, rfl, rfl, rfl, rfl, rfl, trivial⟩, ⟨rfl, trivial⟩, rfl, rfl, rfl⟩
        exact congrArg (fun n => AVal.imm (i64 n)) (i64_succ (by omega))
      · rw [if_neg (fun hc => by rw [show (!ltT _ _) = false from h2] at hc; cases hc)] at q4
        exact ⟨⟨(i', (i' + j') / 2, f'), q0, by simp only; omega, by simp only; omega, by simp only; omega, q4⟩, by simp only; omega, ⟨rfl, rfl, rfl, rfl, rfl, rfl, rfl, rfl, rfl, rfl, trivial⟩, ⟨rfl, trivial⟩, rfl, rfl, rfl⟩
  · have hge : ¬ i' < j' := by simp at h1; omega
    have : bs (fun c => !ltT (x.getD (q - c) default) (x.getD c default)) f' i' j' = i' := by
      cases f' with
      | zero => rfl
      | succ f' => rw [bs, if_neg hge]
    rw [this] at q4
    rw [← q4]
    exact ⟨rfl, ⟨rfl, rfl, rfl, rfl, rfl, rfl, rfl, rfl, trivial⟩, ⟨rfl, trivial⟩, rfl, rfl, rfl⟩
theorem lB115 (l0 : Abs.Loc) (a i : Nat) (l : List Attest) (ha : a < i) (hi : i ≤ l.length) (hl : l.length ≤ 2 ^ 61) (σ : LState) (h : LSub σ (IB115 l0 a i l)) : LoopOk prog [] (bodyOf Proofs.Try.f115) 9 σ (.done (.exit 2) (ER115 l0 (bubU a l (i - 1 - a)))) := by
  refine LoopOk.count (i - 1 - a) 2 (fun n => IB115 l0 (a + n) i (bubU a l n)) (ER115 l0 (bubU a l (i - 1 - a))) (fun n => TB115r l0 (a + n) i (bubU a l n)) finB115 (by kernel_rfl) h fun n hn => ?_
  have e1 : IntKind.i64.wrap ((i : Int) - 1) = ((i - 1 : Nat) : Int) := by rw [IntWalk.i64_in _ (by omega)]; omega
  have e2 : IntKind.i64.wrap (((a + n : Nat) : Int) + 1) = ((a + n + 1 : Nat) : Int) := by rw [IntWalk.i64_in _ (by omega)]; omega
  rw [tB115r]
  simp only [e1, e2, Int.toNat_natCast]
  refine ⟨fun h1 => ?_, fun h1 => ?_⟩
  · have hlt : a + n < i - 1 := by simp at h1; omega
    have hlen := (bubU_spec a l n (by omega)).1.len
    have g1 : a + n < (bubU a l n).length := by omega
    have g2 : a + n + 1 < (bubU a l n).length := by omega
    refine ⟨⟨by omega, g2⟩, fun _ => ⟨getD_map _ _ _ _ g2, fun _ => ⟨⟨by omega, g1⟩, fun _ => ⟨getD_map _ _ _ _ g1, fun _ => ⟨⟨by omega, g1⟩, fun _ => ⟨by simpa using g1, fun _ => ⟨⟨by omega, g2⟩, fun _ => ⟨by simpa using g2, fun _ => ?_⟩⟩⟩⟩⟩⟩⟩⟩
    refine ⟨by omega, ⟨rfl, rfl, congrArg (AVal.own 0) (by rw [bubU, swp_length]), trivial⟩, ⟨?_, trivial⟩, rfl, rfl, rfl⟩
    refine congrArg (fun l => some (Entry.brow l0 47 2 l)) ?_
    simp only [bubU, swp, List.map_set]
  · have : n = i - 1 - a := by simp at h1; omega
    subst this
    exact ⟨rfl, by omega, ⟨trivial, ⟨rfl, trivial⟩, rfl, rfl, rfl⟩⟩
theorem lD115 (l0 : Abs.Loc) (m i : Nat) (l : List Attest) (hm : m < l.length) (hi : i ≤ m) (hl : l.length ≤ 2 ^ 61) (σ : LState) (h : LSub σ (ID115 l0 m i l)) : LoopOk prog [] (bodyOf Proofs.Try.f115) 21 σ (.done (.exit 6) (ER115 l0 (bubD m l (m - i)))) := by
  refine LoopOk.count (m - i) 6 (fun n => ID115 l0 (m - n) i (bubD m l n)) (ER115 l0 (bubD m l (m - i))) (fun n => TD115r l0 (m - n) i (bubD m l n)) finD115 (by kernel_rfl) h fun n hn => ?_
  rw [tD115r]
  refine ⟨fun h1 => ?_, fun h1 => ?_⟩
  · have hlt : i < m - n := by simp at h1; omega
    have e1 : IntKind.i64.wrap (((m - n : Nat) : Int) - 1) = ((m - n - 1 : Nat) : Int) := by rw [IntWalk.i64_in _ (by omega)]; omega
    simp only [e1, Int.toNat_natCast]
    have hlen := (bubD_spec m l hm n (by omega)).1.len
    have g1 : m - n < (bubD m l n).length := by omega
    have g2 : m - n - 1 < (bubD m l n).length := by omega
    refine ⟨⟨by omega, g2⟩, fun _ => ⟨getD_map _ _ _ _ g2, fun _ => ⟨⟨by omega, g1⟩, fun _ => ⟨getD_map _ _ _ _ g1, fun _ => ⟨⟨by omega, g1⟩, fun _ => ⟨by simpa using g1, fun _ => ⟨⟨by omega, g2⟩, fun _ => ⟨by simpa using g2, fun _ => ?_⟩⟩⟩⟩⟩⟩⟩⟩
    refine ⟨by omega, ⟨rfl, rfl, congrArg (AVal.own 0) (by rw [bubD, swp_length]), trivial⟩, ⟨?_, trivial⟩, rfl, rfl, rfl⟩
    refine congrArg (fun l => some (Entry.brow l0 47 2 l)) ?_
    simp only [bubD, swp, List.map_set]
  · have : n = m - i := by simp at h1; omega
    subst this
    exact ⟨rfl, by omega, ⟨trivial, ⟨rfl, trivial⟩, rfl, rfl, rfl⟩⟩

def s115 (l : List Attest) (a m b : Int) : Prop := WSpec prog 115 47 2 (l.map encT) [i64 a, i64 m, i64 b, fnV 38] (.tup []) ((symF ltT a.toNat m.toNat b.toNat l).map encT)
def P115 (l0 : Abs.Loc) (a m b i1 i2 n md s : Nat) (l y1 y2 : List Attest) : Nat → Tree := fun k => match k with | 3 => .done (.exit 0) (EA115 l0 a i1 l) | 9 => .done (.exit 2) (ER115 l0 y1) | 15 => .done (.exit 4) (EC115 l0 m i2 l) | 21 => .done (.exit 6) (ER115 l0 y2) | _ => .done (.exit 8) (EE115 l0 a m b n md s l)
def R115 (a s md b n m : Nat) (l : List Attest) : List Attest := if a < s ∧ s < md then symF ltT a s md (symR m s (n - s) l) else symR m s (n - s) l
def B115 (l0 : Abs.Loc) (a m b i1 i2 n md s : Nat) (l y1 y2 : List Attest) : Tell := { Lp := P115 l0 a m b i1 i2 n md s l y1 y2, O := fun r i => match r, i with | 44, 5 => .callw [i64 md, i64 (n - s : Nat), i64 b, fnV 38] (.tup []) ((symF ltT md (n - s) b (R115 a s md b n m l)).map encT) | _, _ => .no, lv := fun k => match k with | 3 => ([11, 10, 4, 1, 0], [0]) | 9 => ([13, 10, 0], [0]) | 15 => ([15, 14, 4, 2, 0], [0]) | 21 => ([17, 14, 0], [0]) | _ => ([22, 21, 20, 19, 18, 4, 3, 2, 1, 0], [0]) }
def T115 (l0 : Abs.Loc) (a m b i1 i2 n md s : Nat) (l y1 y2 : List Attest) : Tell :=
  Tell.mk (fun x x_1 => false)
  (fun r i =>
  match r, i with
  | 44, 5 => Orc.callw [i64 (↑md : Int), i64 (↑(n - s) : Int), i64 (↑b : Int), fnV 38] (IVal.tup []) (List.map encT (symF ltT md (n - s) b (R115 a s md b n m l)))
  | x, x_1 => Orc.no)
  (P115 l0 a m b i1 i2 n md s l y1 y2) (fun x => 0)
  (fun k =>
  match k with
  | 3 => ([11, 10, 4, 1, 0], [0])
  | 9 => ([13, 10, 0], [0])
  | 15 => ([15, 14, 4, 2, 0], [0])
  | 21 => ([17, 14, 0], [0])
  | x => ([22, 21, 20, 19, 18, 4, 3, 2, 1, 0], [0]))
  (ogetO
  (fun r i =>
  match r, i with
  | 44, 5 => Orc.callw [i64 (↑md : Int), i64 (↑(n - s) : Int), i64 (↑b : Int), fnV 38] (IVal.tup []) (List.map encT (symF ltT md (n - s) b (R115 a s md b n m l)))
  | x, x_1 => Orc.no)
  [(13, 40, 5,
  Orc.callw [i64 (↑s : Int), i64 (↑m : Int), i64 (IntKind.wrap IntKind.i64 ((↑n : Int) - (↑s : Int))), fnV 38] (IVal.tup [])
  (List.map encT
  (rot (Int.toNat (↑m : Int)) (Int.toNat (IntKind.wrap IntKind.i64 ((↑n : Int) - (↑s : Int))) - Int.toNat (↑s : Int)) (Int.toNat (↑m : Int) - Int.toNat (↑s : Int))
  (Int.toNat (IntKind.wrap IntKind.i64 ((↑n : Int) - (↑s : Int))) - Int.toNat (↑m : Int)) l))),
  (21, 42, 5, Orc.callw [i64 (↑a : Int), i64 (↑s : Int), i64 (↑md : Int), fnV 38] (IVal.tup []) (List.map encT (symF ltT (Int.toNat (↑a : Int)) (Int.toNat (↑s : Int)) (Int.toNat (↑md : Int)) l))),
  (27, 42, 5,
  Orc.callw [i64 (↑a : Int), i64 (↑s : Int), i64 (↑md : Int), fnV 38] (IVal.tup [])
  (List.map encT
  (symF ltT (Int.toNat (↑a : Int)) (Int.toNat (↑s : Int)) (Int.toNat (↑md : Int))
  (rot m (Int.toNat (IntKind.wrap IntKind.i64 ((↑n : Int) - (↑s : Int))) - s) (m - s) (Int.toNat (IntKind.wrap IntKind.i64 ((↑n : Int) - (↑s : Int))) - m) l))))])
  fun x => P115 l0 a m b i1 i2 n md s l y1 y2
theorem t115 (l0 : Abs.Loc) (a m b i1 i2 n md s : Nat) (l y1 y2 : List Attest) : levW prog Proofs.Try.f115 l0 47 2 (l.map encT) [i64 a, i64 m, i64 b, fnV 38] (T115 l0 a m b i1 i2 n md s l y1 y2) =
  Tree.br (decide (IntKind.wrap IntKind.i64 ((↑m : Int) - (↑a : Int)) = (1 : Int)))
  (Tree.loop 3
  (LState.mk
  [(11, AVal.imm (i64 (↑b : Int))), (10, AVal.imm (i64 (↑m : Int))), (4, AVal.imm (fnV 38)), (1, AVal.imm (i64 (↑a : Int))), (0, AVal.own 0 (List.length (List.map encT l)))]
  [(0, Entry.brow l0 47 2 (List.map encT l))] 220 9 [])
  (Tree.done (Exit.exit 0) (EA115 l0 a i1 l))
  (Tree.loop 9
  (LState.mk [(13, AVal.imm (i64 (↑a : Int))), (10, AVal.imm (i64 (↑i1 : Int))), (0, AVal.own 0 (List.length l))] [(0, Entry.brow l0 47 2 (List.map encT l))] 220 3
  [])
  (Tree.done (Exit.exit 2) (ER115 l0 y1)) (Tree.need (eqs []) (Tree.done Exit.ret (lretW l0 47 2 (IVal.tup []) (List.map encT y1))))))
  (Tree.br (decide (IntKind.wrap IntKind.i64 ((↑b : Int) - (↑m : Int)) = (1 : Int)))
  (Tree.loop 15
  (LState.mk
  [(15, AVal.imm (i64 (↑m : Int))), (14, AVal.imm (i64 (↑a : Int))), (4, AVal.imm (fnV 38)), (2, AVal.imm (i64 (↑m : Int))), (0, AVal.own 0 (List.length (List.map encT l)))]
  [(0, Entry.brow l0 47 2 (List.map encT l))] 220 13 [])
  (Tree.done (Exit.exit 4) (EC115 l0 m i2 l))
  (Tree.loop 21
  (LState.mk [(17, AVal.imm (i64 (↑m : Int))), (14, AVal.imm (i64 (↑i2 : Int))), (0, AVal.own 0 (List.length l))] [(0, Entry.brow l0 47 2 (List.map encT l))] 220
  3 [])
  (Tree.done (Exit.exit 6) (ER115 l0 y2)) (Tree.need (eqs []) (Tree.done Exit.ret (lretW l0 47 2 (IVal.tup []) (List.map encT y2))))))
  (Tree.need ((0 : Int) ≤ (1 : Int))
  (Tree.br (decide (IntKind.wrap IntKind.i64 (Int.fdiv (IntKind.wrap IntKind.u64 (IntKind.wrap IntKind.i64 ((↑a : Int) + (↑b : Int)))) (2 : Int)) < (↑m : Int)))
  (Tree.loop 33
  (LState.mk
  [(22,
  AVal.imm
  (IVal.v
  (Value.int IntKind.i64
  (IntKind.wrap IntKind.i64 (IntKind.wrap IntKind.i64 (IntKind.wrap IntKind.i64 (Int.fdiv (IntKind.wrap IntKind.u64 (IntKind.wrap IntKind.i64 ((↑a : Int) + (↑b : Int)))) (2 : Int)) + (↑m : Int)) - (1 : Int)))))),
  (21, AVal.imm (IVal.v (Value.int IntKind.i64 (IntKind.wrap IntKind.i64 (Int.fdiv (IntKind.wrap IntKind.u64 (IntKind.wrap IntKind.i64 ((↑a : Int) + (↑b : Int)))) (2 : Int)))))),
  (20,
  AVal.imm
  (IVal.v
  (Value.int IntKind.i64
  (IntKind.wrap IntKind.i64 (IntKind.wrap IntKind.i64 (IntKind.wrap IntKind.i64 (Int.fdiv (IntKind.wrap IntKind.u64 (IntKind.wrap IntKind.i64 ((↑a : Int) + (↑b : Int)))) (2 : Int)) + (↑m : Int)) - (↑b : Int)))))),
  (19, AVal.imm (IVal.v (Value.int IntKind.i64 (IntKind.wrap IntKind.i64 (IntKind.wrap IntKind.i64 (Int.fdiv (IntKind.wrap IntKind.u64 (IntKind.wrap IntKind.i64 ((↑a : Int) + (↑b : Int)))) (2 : Int)) + (↑m : Int)))))),
  (18, AVal.imm (IVal.v (Value.int IntKind.i64 (IntKind.wrap IntKind.i64 (Int.fdiv (IntKind.wrap IntKind.u64 (IntKind.wrap IntKind.i64 ((↑a : Int) + (↑b : Int)))) (2 : Int)))))), (4, AVal.imm (fnV 38)),
  (3, AVal.imm (i64 (↑b : Int))), (2, AVal.imm (i64 (↑m : Int))), (1, AVal.imm (i64 (↑a : Int))), (0, AVal.own 0 (List.length (List.map encT l)))]
  [(0, Entry.brow l0 47 2 (List.map encT l))] 220 34 [])
  (Tree.done (Exit.exit 8) (EE115 l0 a m b n md s l))
  (Tree.br (decide ((↑s : Int) < (↑m : Int)))
  (Tree.br (decide ((↑m : Int) < IntKind.wrap IntKind.i64 ((↑n : Int) - (↑s : Int))))
  (Tree.need
  (List.length (List.map encT l) = List.length l ∧
  ILeL [i64 (↑s : Int), i64 (↑m : Int), IVal.v (Value.int IntKind.i64 (IntKind.wrap IntKind.i64 ((↑n : Int) - (↑s : Int)))), fnV 38]
  [i64 (↑s : Int), i64 (↑m : Int), i64 (IntKind.wrap IntKind.i64 ((↑n : Int) - (↑s : Int))), fnV 38] ∧
  WSpec prog 119 47 2 (List.map encT l) [i64 (↑s : Int), i64 (↑m : Int), i64 (IntKind.wrap IntKind.i64 ((↑n : Int) - (↑s : Int))), fnV 38] (IVal.tup [])
  (List.map encT (rot m (Int.toNat (IntKind.wrap IntKind.i64 ((↑n : Int) - (↑s : Int))) - s) (m - s) (Int.toNat (IntKind.wrap IntKind.i64 ((↑n : Int) - (↑s : Int))) - m) l)))
  (Tree.br (decide ((↑a : Int) < (↑s : Int)))
  (Tree.br (decide ((↑s : Int) < (↑md : Int)))
  (Tree.need
  (List.length (List.map encT (rot m (Int.toNat (IntKind.wrap IntKind.i64 ((↑n : Int) - (↑s : Int))) - s) (m - s) (Int.toNat (IntKind.wrap IntKind.i64 ((↑n : Int) - (↑s : Int))) - m) l)) = List.length l ∧
  ILeL [i64 (↑a : Int), i64 (↑s : Int), i64 (↑md : Int), fnV 38] [i64 (↑a : Int), i64 (↑s : Int), i64 (↑md : Int), fnV 38] ∧
  WSpec prog 115 47 2
  (List.map encT (rot m (Int.toNat (IntKind.wrap IntKind.i64 ((↑n : Int) - (↑s : Int))) - s) (m - s) (Int.toNat (IntKind.wrap IntKind.i64 ((↑n : Int) - (↑s : Int))) - m) l))
  [i64 (↑a : Int), i64 (↑s : Int), i64 (↑md : Int), fnV 38] (IVal.tup [])
  (List.map encT (symF ltT a s md (rot m (Int.toNat (IntKind.wrap IntKind.i64 ((↑n : Int) - (↑s : Int))) - s) (m - s) (Int.toNat (IntKind.wrap IntKind.i64 ((↑n : Int) - (↑s : Int))) - m) l))))
  (Tree.br (decide ((↑md : Int) < IntKind.wrap IntKind.i64 ((↑n : Int) - (↑s : Int))))
  (Tree.br (decide (IntKind.wrap IntKind.i64 ((↑n : Int) - (↑s : Int)) < (↑b : Int)))
  (Tree.need
  (List.length (List.map encT (symF ltT a s md (rot m (Int.toNat (IntKind.wrap IntKind.i64 ((↑n : Int) - (↑s : Int))) - s) (m - s) (Int.toNat (IntKind.wrap IntKind.i64 ((↑n : Int) - (↑s : Int))) - m) l))) =
  List.length l ∧
  ILeL [i64 (↑md : Int), IVal.v (Value.int IntKind.i64 (IntKind.wrap IntKind.i64 ((↑n : Int) - (↑s : Int)))), i64 (↑b : Int), fnV 38]
  [i64 (↑md : Int), i64 (↑(n - s) : Int), i64 (↑b : Int), fnV 38] ∧
  WSpec prog 115 47 2
  (List.map encT (symF ltT a s md (rot m (Int.toNat (IntKind.wrap IntKind.i64 ((↑n : Int) - (↑s : Int))) - s) (m - s) (Int.toNat (IntKind.wrap IntKind.i64 ((↑n : Int) - (↑s : Int))) - m) l)))
  [i64 (↑md : Int), i64 (↑(n - s) : Int), i64 (↑b : Int), fnV 38] (IVal.tup []) (List.map encT (symF ltT md (n - s) b (R115 a s md b n m l))))
  (Tree.need (eqs []) (Tree.done Exit.ret (lretW l0 47 2 (IVal.tup []) (List.map encT (symF ltT md (n - s) b (R115 a s md b n m l)))))))
  (Tree.need (eqs [])
  (Tree.done Exit.ret
  (lretW l0 47 2 (IVal.tup [])
  (List.map encT (symF ltT a s md (rot m (Int.toNat (IntKind.wrap IntKind.i64 ((↑n : Int) - (↑s : Int))) - s) (m - s) (Int.toNat (IntKind.wrap IntKind.i64 ((↑n : Int) - (↑s : Int))) - m) l)))))))
  (Tree.need (eqs [])
  (Tree.done Exit.ret
  (lretW l0 47 2 (IVal.tup [])
  (List.map encT (symF ltT a s md (rot m (Int.toNat (IntKind.wrap IntKind.i64 ((↑n : Int) - (↑s : Int))) - s) (m - s) (Int.toNat (IntKind.wrap IntKind.i64 ((↑n : Int) - (↑s : Int))) - m) l))))))))
  (Tree.br (decide ((↑md : Int) < IntKind.wrap IntKind.i64 ((↑n : Int) - (↑s : Int))))
  (Tree.br (decide (IntKind.wrap IntKind.i64 ((↑n : Int) - (↑s : Int)) < (↑b : Int)))
  (Tree.need
  (List.length (List.map encT (rot m (Int.toNat (IntKind.wrap IntKind.i64 ((↑n : Int) - (↑s : Int))) - s) (m - s) (Int.toNat (IntKind.wrap IntKind.i64 ((↑n : Int) - (↑s : Int))) - m) l)) = List.length l ∧
  ILeL [i64 (↑md : Int), IVal.v (Value.int IntKind.i64 (IntKind.wrap IntKind.i64 ((↑n : Int) - (↑s : Int)))), i64 (↑b : Int), fnV 38]
  [i64 (↑md : Int), i64 (↑(n - s) : Int), i64 (↑b : Int), fnV 38] ∧
  WSpec prog 115 47 2
  (List.map encT (rot m (Int.toNat (IntKind.wrap IntKind.i64 ((↑n : Int) - (↑s : Int))) - s) (m - s) (Int.toNat (IntKind.wrap IntKind.i64 ((↑n : Int) - (↑s : Int))) - m) l))
  [i64 (↑md : Int), i64 (↑(n - s) : Int), i64 (↑b : Int), fnV 38] (IVal.tup []) (List.map encT (symF ltT md (n - s) b (R115 a s md b n m l))))
  (Tree.need (eqs []) (Tree.done Exit.ret (lretW l0 47 2 (IVal.tup []) (List.map encT (symF ltT md (n - s) b (R115 a s md b n m l)))))))
  (Tree.need (eqs [])
  (Tree.done Exit.ret
  (lretW l0 47 2 (IVal.tup [])
  (List.map encT (rot m (Int.toNat (IntKind.wrap IntKind.i64 ((↑n : Int) - (↑s : Int))) - s) (m - s) (Int.toNat (IntKind.wrap IntKind.i64 ((↑n : Int) - (↑s : Int))) - m) l))))))
  (Tree.need (eqs [])
  (Tree.done Exit.ret
  (lretW l0 47 2 (IVal.tup [])
  (List.map encT (rot m (Int.toNat (IntKind.wrap IntKind.i64 ((↑n : Int) - (↑s : Int))) - s) (m - s) (Int.toNat (IntKind.wrap IntKind.i64 ((↑n : Int) - (↑s : Int))) - m) l)))))))
  (Tree.br (decide ((↑md : Int) < IntKind.wrap IntKind.i64 ((↑n : Int) - (↑s : Int))))
  (Tree.br (decide (IntKind.wrap IntKind.i64 ((↑n : Int) - (↑s : Int)) < (↑b : Int)))
  (Tree.need
  (List.length (List.map encT (rot m (Int.toNat (IntKind.wrap IntKind.i64 ((↑n : Int) - (↑s : Int))) - s) (m - s) (Int.toNat (IntKind.wrap IntKind.i64 ((↑n : Int) - (↑s : Int))) - m) l)) = List.length l ∧
  ILeL [i64 (↑md : Int), IVal.v (Value.int IntKind.i64 (IntKind.wrap IntKind.i64 ((↑n : Int) - (↑s : Int)))), i64 (↑b : Int), fnV 38] [i64 (↑md : Int), i64 (↑(n - s) : Int), i64 (↑b : Int), fnV 38] ∧
  WSpec prog 115 47 2
  (List.map encT (rot m (Int.toNat (IntKind.wrap IntKind.i64 ((↑n : Int) - (↑s : Int))) - s) (m - s) (Int.toNat (IntKind.wrap IntKind.i64 ((↑n : Int) - (↑s : Int))) - m) l))
  [i64 (↑md : Int), i64 (↑(n - s) : Int), i64 (↑b : Int), fnV 38] (IVal.tup []) (List.map encT (symF ltT md (n - s) b (R115 a s md b n m l))))
  (Tree.need (eqs []) (Tree.done Exit.ret (lretW l0 47 2 (IVal.tup []) (List.map encT (symF ltT md (n - s) b (R115 a s md b n m l)))))))
  (Tree.need (eqs [])
  (Tree.done Exit.ret
  (lretW l0 47 2 (IVal.tup [])
  (List.map encT (rot m (Int.toNat (IntKind.wrap IntKind.i64 ((↑n : Int) - (↑s : Int))) - s) (m - s) (Int.toNat (IntKind.wrap IntKind.i64 ((↑n : Int) - (↑s : Int))) - m) l))))))
  (Tree.need (eqs [])
  (Tree.done Exit.ret
  (lretW l0 47 2 (IVal.tup [])
  (List.map encT (rot m (Int.toNat (IntKind.wrap IntKind.i64 ((↑n : Int) - (↑s : Int))) - s) (m - s) (Int.toNat (IntKind.wrap IntKind.i64 ((↑n : Int) - (↑s : Int))) - m) l))))))))
  (Tree.br (decide ((↑a : Int) < (↑s : Int)))
  (Tree.br (decide ((↑s : Int) < (↑md : Int)))
  (Tree.need
  (List.length (List.map encT l) = List.length l ∧
  ILeL [i64 (↑a : Int), i64 (↑s : Int), i64 (↑md : Int), fnV 38] [i64 (↑a : Int), i64 (↑s : Int), i64 (↑md : Int), fnV 38] ∧
  WSpec prog 115 47 2 (List.map encT l) [i64 (↑a : Int), i64 (↑s : Int), i64 (↑md : Int), fnV 38] (IVal.tup []) (List.map encT (symF ltT a s md l)))
  (Tree.br (decide ((↑md : Int) < IntKind.wrap IntKind.i64 ((↑n : Int) - (↑s : Int))))
  (Tree.br (decide (IntKind.wrap IntKind.i64 ((↑n : Int) - (↑s : Int)) < (↑b : Int)))
  (Tree.need
  (List.length (List.map encT (symF ltT a s md l)) = List.length l ∧
  ILeL [i64 (↑md : Int), IVal.v (Value.int IntKind.i64 (IntKind.wrap IntKind.i64 ((↑n : Int) - (↑s : Int)))), i64 (↑b : Int), fnV 38]
  [i64 (↑md : Int), i64 (↑(n - s) : Int), i64 (↑b : Int), fnV 38] ∧
  WSpec prog 115 47 2 (List.map encT (symF ltT a s md l)) [i64 (↑md : Int), i64 (↑(n - s) : Int), i64 (↑b : Int), fnV 38] (IVal.tup [])
  (List.map encT (symF ltT md (n - s) b (R115 a s md b n m l))))
  (Tree.need (eqs []) (Tree.done Exit.ret (lretW l0 47 2 (IVal.tup []) (List.map encT (symF ltT md (n - s) b (R115 a s md b n m l)))))))
  (Tree.need (eqs []) (Tree.done Exit.ret (lretW l0 47 2 (IVal.tup []) (List.map encT (symF ltT a s md l))))))
  (Tree.need (eqs []) (Tree.done Exit.ret (lretW l0 47 2 (IVal.tup []) (List.map encT (symF ltT a s md l)))))))
  (Tree.br (decide ((↑md : Int) < IntKind.wrap IntKind.i64 ((↑n : Int) - (↑s : Int))))
  (Tree.br (decide (IntKind.wrap IntKind.i64 ((↑n : Int) - (↑s : Int)) < (↑b : Int)))
  (Tree.need
  (List.length (List.map encT l) = List.length l ∧
  ILeL [i64 (↑md : Int), IVal.v (Value.int IntKind.i64 (IntKind.wrap IntKind.i64 ((↑n : Int) - (↑s : Int)))), i64 (↑b : Int), fnV 38] [i64 (↑md : Int), i64 (↑(n - s) : Int), i64 (↑b : Int), fnV 38] ∧
  WSpec prog 115 47 2 (List.map encT l) [i64 (↑md : Int), i64 (↑(n - s) : Int), i64 (↑b : Int), fnV 38] (IVal.tup []) (List.map encT (symF ltT md (n - s) b (R115 a s md b n m l))))
  (Tree.need (eqs []) (Tree.done Exit.ret (lretW l0 47 2 (IVal.tup []) (List.map encT (symF ltT md (n - s) b (R115 a s md b n m l)))))))
  (Tree.need (eqs []) (Tree.done Exit.ret (lretW l0 47 2 (IVal.tup []) (List.map encT l)))))
  (Tree.need (eqs []) (Tree.done Exit.ret (lretW l0 47 2 (IVal.tup []) (List.map encT l))))))
  (Tree.br (decide ((↑md : Int) < IntKind.wrap IntKind.i64 ((↑n : Int) - (↑s : Int))))
  (Tree.br (decide (IntKind.wrap IntKind.i64 ((↑n : Int) - (↑s : Int)) < (↑b : Int)))
  (Tree.need
  (List.length (List.map encT l) = List.length l ∧
  ILeL [i64 (↑md : Int), IVal.v (Value.int IntKind.i64 (IntKind.wrap IntKind.i64 ((↑n : Int) - (↑s : Int)))), i64 (↑b : Int), fnV 38] [i64 (↑md : Int), i64 (↑(n - s) : Int), i64 (↑b : Int), fnV 38] ∧
  WSpec prog 115 47 2 (List.map encT l) [i64 (↑md : Int), i64 (↑(n - s) : Int), i64 (↑b : Int), fnV 38] (IVal.tup []) (List.map encT (symF ltT md (n - s) b (R115 a s md b n m l))))
  (Tree.need (eqs []) (Tree.done Exit.ret (lretW l0 47 2 (IVal.tup []) (List.map encT (symF ltT md (n - s) b (R115 a s md b n m l)))))))
  (Tree.need (eqs []) (Tree.done Exit.ret (lretW l0 47 2 (IVal.tup []) (List.map encT l)))))
  (Tree.need (eqs []) (Tree.done Exit.ret (lretW l0 47 2 (IVal.tup []) (List.map encT l)))))))
  (Tree.br (decide ((↑a : Int) < (↑s : Int)))
  (Tree.br (decide ((↑s : Int) < (↑md : Int)))
  (Tree.need
  (List.length (List.map encT l) = List.length l ∧
  ILeL [i64 (↑a : Int), i64 (↑s : Int), i64 (↑md : Int), fnV 38] [i64 (↑a : Int), i64 (↑s : Int), i64 (↑md : Int), fnV 38] ∧
  WSpec prog 115 47 2 (List.map encT l) [i64 (↑a : Int), i64 (↑s : Int), i64 (↑md : Int), fnV 38] (IVal.tup []) (List.map encT (symF ltT a s md l)))
  (Tree.br (decide ((↑md : Int) < IntKind.wrap IntKind.i64 ((↑n : Int) - (↑s : Int))))
  (Tree.br (decide (IntKind.wrap IntKind.i64 ((↑n : Int) - (↑s : Int)) < (↑b : Int)))
  (Tree.need
  (List.length (List.map encT (symF ltT a s md l)) = List.length l ∧
  ILeL [i64 (↑md : Int), IVal.v (Value.int IntKind.i64 (IntKind.wrap IntKind.i64 ((↑n : Int) - (↑s : Int)))), i64 (↑b : Int), fnV 38] [i64 (↑md : Int), i64 (↑(n - s) : Int), i64 (↑b : Int), fnV 38] ∧
  WSpec prog 115 47 2 (List.map encT (symF ltT a s md l)) [i64 (↑md : Int), i64 (↑(n - s) : Int), i64 (↑b : Int), fnV 38] (IVal.tup [])
  (List.map encT (symF ltT md (n - s) b (R115 a s md b n m l))))
  (Tree.need (eqs []) (Tree.done Exit.ret (lretW l0 47 2 (IVal.tup []) (List.map encT (symF ltT md (n - s) b (R115 a s md b n m l)))))))
  (Tree.need (eqs []) (Tree.done Exit.ret (lretW l0 47 2 (IVal.tup []) (List.map encT (symF ltT a s md l))))))
  (Tree.need (eqs []) (Tree.done Exit.ret (lretW l0 47 2 (IVal.tup []) (List.map encT (symF ltT a s md l)))))))
  (Tree.br (decide ((↑md : Int) < IntKind.wrap IntKind.i64 ((↑n : Int) - (↑s : Int))))
  (Tree.br (decide (IntKind.wrap IntKind.i64 ((↑n : Int) - (↑s : Int)) < (↑b : Int)))
  (Tree.need
  (List.length (List.map encT l) = List.length l ∧
  ILeL [i64 (↑md : Int), IVal.v (Value.int IntKind.i64 (IntKind.wrap IntKind.i64 ((↑n : Int) - (↑s : Int)))), i64 (↑b : Int), fnV 38] [i64 (↑md : Int), i64 (↑(n - s) : Int), i64 (↑b : Int), fnV 38] ∧
  WSpec prog 115 47 2 (List.map encT l) [i64 (↑md : Int), i64 (↑(n - s) : Int), i64 (↑b : Int), fnV 38] (IVal.tup []) (List.map encT (symF ltT md (n - s) b (R115 a s md b n m l))))
  (Tree.need (eqs []) (Tree.done Exit.ret (lretW l0 47 2 (IVal.tup []) (List.map encT (symF ltT md (n - s) b (R115 a s md b n m l)))))))
  (Tree.need (eqs []) (Tree.done Exit.ret (lretW l0 47 2 (IVal.tup []) (List.map encT l)))))
  (Tree.need (eqs []) (Tree.done Exit.ret (lretW l0 47 2 (IVal.tup []) (List.map encT l))))))
  (Tree.br (decide ((↑md : Int) < IntKind.wrap IntKind.i64 ((↑n : Int) - (↑s : Int))))
  (Tree.br (decide (IntKind.wrap IntKind.i64 ((↑n : Int) - (↑s : Int)) < (↑b : Int)))
  (Tree.need
  (List.length (List.map encT l) = List.length l ∧
  ILeL [i64 (↑md : Int), IVal.v (Value.int IntKind.i64 (IntKind.wrap IntKind.i64 ((↑n : Int) - (↑s : Int)))), i64 (↑b : Int), fnV 38] [i64 (↑md : Int), i64 (↑(n - s) : Int), i64 (↑b : Int), fnV 38] ∧
  WSpec prog 115 47 2 (List.map encT l) [i64 (↑md : Int), i64 (↑(n - s) : Int), i64 (↑b : Int), fnV 38] (IVal.tup []) (List.map encT (symF ltT md (n - s) b (R115 a s md b n m l))))
  (Tree.need (eqs []) (Tree.done Exit.ret (lretW l0 47 2 (IVal.tup []) (List.map encT (symF ltT md (n - s) b (R115 a s md b n m l)))))))
  (Tree.need (eqs []) (Tree.done Exit.ret (lretW l0 47 2 (IVal.tup []) (List.map encT l)))))
  (Tree.need (eqs []) (Tree.done Exit.ret (lretW l0 47 2 (IVal.tup []) (List.map encT l))))))))
  (Tree.loop 33
  (LState.mk
  [(22,
  AVal.imm
  (IVal.v
  (Value.int IntKind.i64
  (IntKind.wrap IntKind.i64 (IntKind.wrap IntKind.i64 (IntKind.wrap IntKind.i64 (Int.fdiv (IntKind.wrap IntKind.u64 (IntKind.wrap IntKind.i64 ((↑a : Int) + (↑b : Int)))) (2 : Int)) + (↑m : Int)) - (1 : Int)))))),
  (21, AVal.imm (i64 (↑m : Int))), (20, AVal.imm (i64 (↑a : Int))),
  (19, AVal.imm (IVal.v (Value.int IntKind.i64 (IntKind.wrap IntKind.i64 (IntKind.wrap IntKind.i64 (Int.fdiv (IntKind.wrap IntKind.u64 (IntKind.wrap IntKind.i64 ((↑a : Int) + (↑b : Int)))) (2 : Int)) + (↑m : Int)))))),
  (18, AVal.imm (IVal.v (Value.int IntKind.i64 (IntKind.wrap IntKind.i64 (Int.fdiv (IntKind.wrap IntKind.u64 (IntKind.wrap IntKind.i64 ((↑a : Int) + (↑b : Int)))) (2 : Int)))))), (4, AVal.imm (fnV 38)),
  (3, AVal.imm (i64 (↑b : Int))), (2, AVal.imm (i64 (↑m : Int))), (1, AVal.imm (i64 (↑a : Int))), (0, AVal.own 0 (List.length (List.map encT l)))]
  [(0, Entry.brow l0 47 2 (List.map encT l))] 220 32 [])
  (Tree.done (Exit.exit 8) (EE115 l0 a m b n md s l))
  (Tree.br (decide ((↑s : Int) < (↑m : Int)))
  (Tree.br (decide ((↑m : Int) < IntKind.wrap IntKind.i64 ((↑n : Int) - (↑s : Int))))
  (Tree.need
  (List.length (List.map encT l) = List.length l ∧
  ILeL [i64 (↑s : Int), i64 (↑m : Int), IVal.v (Value.int IntKind.i64 (IntKind.wrap IntKind.i64 ((↑n : Int) - (↑s : Int)))), fnV 38]
  [i64 (↑s : Int), i64 (↑m : Int), i64 (IntKind.wrap IntKind.i64 ((↑n : Int) - (↑s : Int))), fnV 38] ∧
  WSpec prog 119 47 2 (List.map encT l) [i64 (↑s : Int), i64 (↑m : Int), i64 (IntKind.wrap IntKind.i64 ((↑n : Int) - (↑s : Int))), fnV 38] (IVal.tup [])
  (List.map encT (rot m (Int.toNat (IntKind.wrap IntKind.i64 ((↑n : Int) - (↑s : Int))) - s) (m - s) (Int.toNat (IntKind.wrap IntKind.i64 ((↑n : Int) - (↑s : Int))) - m) l)))
  (Tree.br (decide ((↑a : Int) < (↑s : Int)))
  (Tree.br (decide ((↑s : Int) < (↑md : Int)))
  (Tree.need
  (List.length (List.map encT (rot m (Int.toNat (IntKind.wrap IntKind.i64 ((↑n : Int) - (↑s : Int))) - s) (m - s) (Int.toNat (IntKind.wrap IntKind.i64 ((↑n : Int) - (↑s : Int))) - m) l)) = List.length l ∧
  ILeL [i64 (↑a : Int), i64 (↑s : Int), i64 (↑md : Int), fnV 38] [i64 (↑a : Int), i64 (↑s : Int), i64 (↑md : Int), fnV 38] ∧
  WSpec prog 115 47 2
  (List.map encT (rot m (Int.toNat (IntKind.wrap IntKind.i64 ((↑n : Int) - (↑s : Int))) - s) (m - s) (Int.toNat (IntKind.wrap IntKind.i64 ((↑n : Int) - (↑s : Int))) - m) l))
  [i64 (↑a : Int), i64 (↑s : Int), i64 (↑md : Int), fnV 38] (IVal.tup [])
  (List.map encT (symF ltT a s md (rot m (Int.toNat (IntKind.wrap IntKind.i64 ((↑n : Int) - (↑s : Int))) - s) (m - s) (Int.toNat (IntKind.wrap IntKind.i64 ((↑n : Int) - (↑s : Int))) - m) l))))
  (Tree.br (decide ((↑md : Int) < IntKind.wrap IntKind.i64 ((↑n : Int) - (↑s : Int))))
  (Tree.br (decide (IntKind.wrap IntKind.i64 ((↑n : Int) - (↑s : Int)) < (↑b : Int)))
  (Tree.need
  (List.length (List.map encT (symF ltT a s md (rot m (Int.toNat (IntKind.wrap IntKind.i64 ((↑n : Int) - (↑s : Int))) - s) (m - s) (Int.toNat (IntKind.wrap IntKind.i64 ((↑n : Int) - (↑s : Int))) - m) l))) =
  List.length l ∧
  ILeL [i64 (↑md : Int), IVal.v (Value.int IntKind.i64 (IntKind.wrap IntKind.i64 ((↑n : Int) - (↑s : Int)))), i64 (↑b : Int), fnV 38]
  [i64 (↑md : Int), i64 (↑(n - s) : Int), i64 (↑b : Int), fnV 38] ∧
  WSpec prog 115 47 2
  (List.map encT (symF ltT a s md (rot m (Int.toNat (IntKind.wrap IntKind.i64 ((↑n : Int) - (↑s : Int))) - s) (m - s) (Int.toNat (IntKind.wrap IntKind.i64 ((↑n : Int) - (↑s : Int))) - m) l)))
  [i64 (↑md : Int), i64 (↑(n - s) : Int), i64 (↑b : Int), fnV 38] (IVal.tup []) (List.map encT (symF ltT md (n - s) b (R115 a s md b n m l))))
  (Tree.need (eqs []) (Tree.done Exit.ret (lretW l0 47 2 (IVal.tup []) (List.map encT (symF ltT md (n - s) b (R115 a s md b n m l)))))))
  (Tree.need (eqs [])
  (Tree.done Exit.ret
  (lretW l0 47 2 (IVal.tup [])
  (List.map encT (symF ltT a s md (rot m (Int.toNat (IntKind.wrap IntKind.i64 ((↑n : Int) - (↑s : Int))) - s) (m - s) (Int.toNat (IntKind.wrap IntKind.i64 ((↑n : Int) - (↑s : Int))) - m) l)))))))
  (Tree.need (eqs [])
  (Tree.done Exit.ret
  (lretW l0 47 2 (IVal.tup [])
  (List.map encT (symF ltT a s md (rot m (Int.toNat (IntKind.wrap IntKind.i64 ((↑n : Int) - (↑s : Int))) - s) (m - s) (Int.toNat (IntKind.wrap IntKind.i64 ((↑n : Int) - (↑s : Int))) - m) l))))))))
  (Tree.br (decide ((↑md : Int) < IntKind.wrap IntKind.i64 ((↑n : Int) - (↑s : Int))))
  (Tree.br (decide (IntKind.wrap IntKind.i64 ((↑n : Int) - (↑s : Int)) < (↑b : Int)))
  (Tree.need
  (List.length (List.map encT (rot m (Int.toNat (IntKind.wrap IntKind.i64 ((↑n : Int) - (↑s : Int))) - s) (m - s) (Int.toNat (IntKind.wrap IntKind.i64 ((↑n : Int) - (↑s : Int))) - m) l)) = List.length l ∧
  ILeL [i64 (↑md : Int), IVal.v (Value.int IntKind.i64 (IntKind.wrap IntKind.i64 ((↑n : Int) - (↑s : Int)))), i64 (↑b : Int), fnV 38]
  [i64 (↑md : Int), i64 (↑(n - s) : Int), i64 (↑b : Int), fnV 38] ∧
  WSpec prog 115 47 2
  (List.map encT (rot m (Int.toNat (IntKind.wrap IntKind.i64 ((↑n : Int) - (↑s : Int))) - s) (m - s) (Int.toNat (IntKind.wrap IntKind.i64 ((↑n : Int) - (↑s : Int))) - m) l))
  [i64 (↑md : Int), i64 (↑(n - s) : Int), i64 (↑b : Int), fnV 38] (IVal.tup []) (List.map encT (symF ltT md (n - s) b (R115 a s md b n m l))))
  (Tree.need (eqs []) (Tree.done Exit.ret (lretW l0 47 2 (IVal.tup []) (List.map encT (symF ltT md (n - s) b (R115 a s md b n m l)))))))
  (Tree.need (eqs [])
  (Tree.done Exit.ret
  (lretW l0 47 2 (IVal.tup [])
  (List.map encT (rot m (Int.toNat (IntKind.wrap IntKind.i64 ((↑n : Int) - (↑s : Int))) - s) (m - s) (Int.toNat (IntKind.wrap IntKind.i64 ((↑n : Int) - (↑s : Int))) - m) l))))))
  (Tree.need (eqs [])
  (Tree.done Exit.ret
  (lretW l0 47 2 (IVal.tup [])
  (List.map encT (rot m (Int.toNat (IntKind.wrap IntKind.i64 ((↑n : Int) - (↑s : Int))) - s) (m - s) (Int.toNat (IntKind.wrap IntKind.i64 ((↑n : Int) - (↑s : Int))) - m) l)))))))
  (Tree.br (decide ((↑md : Int) < IntKind.wrap IntKind.i64 ((↑n : Int) - (↑s : Int))))
  (Tree.br (decide (IntKind.wrap IntKind.i64 ((↑n : Int) - (↑s : Int)) < (↑b : Int)))
  (Tree.need
  (List.length (List.map encT (rot m (Int.toNat (IntKind.wrap IntKind.i64 ((↑n : Int) - (↑s : Int))) - s) (m - s) (Int.toNat (IntKind.wrap IntKind.i64 ((↑n : Int) - (↑s : Int))) - m) l)) = List.length l ∧
  ILeL [i64 (↑md : Int), IVal.v (Value.int IntKind.i64 (IntKind.wrap IntKind.i64 ((↑n : Int) - (↑s : Int)))), i64 (↑b : Int), fnV 38] [i64 (↑md : Int), i64 (↑(n - s) : Int), i64 (↑b : Int), fnV 38] ∧
  WSpec prog 115 47 2
  (List.map encT (rot m (Int.toNat (IntKind.wrap IntKind.i64 ((↑n : Int) - (↑s : Int))) - s) (m - s) (Int.toNat (IntKind.wrap IntKind.i64 ((↑n : Int) - (↑s : Int))) - m) l))
  [i64 (↑md : Int), i64 (↑(n - s) : Int), i64 (↑b : Int), fnV 38] (IVal.tup []) (List.map encT (symF ltT md (n - s) b (R115 a s md b n m l))))
  (Tree.need (eqs []) (Tree.done Exit.ret (lretW l0 47 2 (IVal.tup []) (List.map encT (symF ltT md (n - s) b (R115 a s md b n m l)))))))
  (Tree.need (eqs [])
  (Tree.done Exit.ret
  (lretW l0 47 2 (IVal.tup [])
  (List.map encT (rot m (Int.toNat (IntKind.wrap IntKind.i64 ((↑n : Int) - (↑s : Int))) - s) (m - s) (Int.toNat (IntKind.wrap IntKind.i64 ((↑n : Int) - (↑s : Int))) - m) l))))))
  (Tree.need (eqs [])
  (Tree.done Exit.ret
  (lretW l0 47 2 (IVal.tup [])
  (List.map encT (rot m (Int.toNat (IntKind.wrap IntKind.i64 ((↑n : Int) - (↑s : Int))) - s) (m - s) (Int.toNat (IntKind.wrap IntKind.i64 ((↑n : Int) - (↑s : Int))) - m) l))))))))
  (Tree.br (decide ((↑a : Int) < (↑s : Int)))
  (Tree.br (decide ((↑s : Int) < (↑md : Int)))
  (Tree.need
  (List.length (List.map encT l) = List.length l ∧
  ILeL [i64 (↑a : Int), i64 (↑s : Int), i64 (↑md : Int), fnV 38] [i64 (↑a : Int), i64 (↑s : Int), i64 (↑md : Int), fnV 38] ∧
  WSpec prog 115 47 2 (List.map encT l) [i64 (↑a : Int), i64 (↑s : Int), i64 (↑md : Int), fnV 38] (IVal.tup []) (List.map encT (symF ltT a s md l)))
  (Tree.br (decide ((↑md : Int) < IntKind.wrap IntKind.i64 ((↑n : Int) - (↑s : Int))))
  (Tree.br (decide (IntKind.wrap IntKind.i64 ((↑n : Int) - (↑s : Int)) < (↑b : Int)))
  (Tree.need
  (List.length (List.map encT (symF ltT a s md l)) = List.length l ∧
  ILeL [i64 (↑md : Int), IVal.v (Value.int IntKind.i64 (IntKind.wrap IntKind.i64 ((↑n : Int) - (↑s : Int)))), i64 (↑b : Int), fnV 38]
  [i64 (↑md : Int), i64 (↑(n - s) : Int), i64 (↑b : Int), fnV 38] ∧
  WSpec prog 115 47 2 (List.map encT (symF ltT a s md l)) [i64 (↑md : Int), i64 (↑(n - s) : Int), i64 (↑b : Int), fnV 38] (IVal.tup [])
  (List.map encT (symF ltT md (n - s) b (R115 a s md b n m l))))
  (Tree.need (eqs []) (Tree.done Exit.ret (lretW l0 47 2 (IVal.tup []) (List.map encT (symF ltT md (n - s) b (R115 a s md b n m l)))))))
  (Tree.need (eqs []) (Tree.done Exit.ret (lretW l0 47 2 (IVal.tup []) (List.map encT (symF ltT a s md l))))))
  (Tree.need (eqs []) (Tree.done Exit.ret (lretW l0 47 2 (IVal.tup []) (List.map encT (symF ltT a s md l)))))))
  (Tree.br (decide ((↑md : Int) < IntKind.wrap IntKind.i64 ((↑n : Int) - (↑s : Int))))
  (Tree.br (decide (IntKind.wrap IntKind.i64 ((↑n : Int) - (↑s : Int)) < (↑b : Int)))
  (Tree.need
  (List.length (List.map encT l) = List.length l ∧
  ILeL [i64 (↑md : Int), IVal.v (Value.int IntKind.i64 (IntKind.wrap IntKind.i64 ((↑n : Int) - (↑s : Int)))), i64 (↑b : Int), fnV 38] [i64 (↑md : Int), i64 (↑(n - s) : Int), i64 (↑b : Int), fnV 38] ∧
  WSpec prog 115 47 2 (List.map encT l) [i64 (↑md : Int), i64 (↑(n - s) : Int), i64 (↑b : Int), fnV 38] (IVal.tup []) (List.map encT (symF ltT md (n - s) b (R115 a s md b n m l))))
  (Tree.need (eqs []) (Tree.done Exit.ret (lretW l0 47 2 (IVal.tup []) (List.map encT (symF ltT md (n - s) b (R115 a s md b n m l)))))))
  (Tree.need (eqs []) (Tree.done Exit.ret (lretW l0 47 2 (IVal.tup []) (List.map encT l)))))
  (Tree.need (eqs []) (Tree.done Exit.ret (lretW l0 47 2 (IVal.tup []) (List.map encT l))))))
  (Tree.br (decide ((↑md : Int) < IntKind.wrap IntKind.i64 ((↑n : Int) - (↑s : Int))))
  (Tree.br (decide (IntKind.wrap IntKind.i64 ((↑n : Int) - (↑s : Int)) < (↑b : Int)))
  (Tree.need
  (List.length (List.map encT l) = List.length l ∧
  ILeL [i64 (↑md : Int), IVal.v (Value.int IntKind.i64 (IntKind.wrap IntKind.i64 ((↑n : Int) - (↑s : Int)))), i64 (↑b : Int), fnV 38] [i64 (↑md : Int), i64 (↑(n - s) : Int), i64 (↑b : Int), fnV 38] ∧
  WSpec prog 115 47 2 (List.map encT l) [i64 (↑md : Int), i64 (↑(n - s) : Int), i64 (↑b : Int), fnV 38] (IVal.tup []) (List.map encT (symF ltT md (n - s) b (R115 a s md b n m l))))
  (Tree.need (eqs []) (Tree.done Exit.ret (lretW l0 47 2 (IVal.tup []) (List.map encT (symF ltT md (n - s) b (R115 a s md b n m l)))))))
  (Tree.need (eqs []) (Tree.done Exit.ret (lretW l0 47 2 (IVal.tup []) (List.map encT l)))))
  (Tree.need (eqs []) (Tree.done Exit.ret (lretW l0 47 2 (IVal.tup []) (List.map encT l)))))))
  (Tree.br (decide ((↑a : Int) < (↑s : Int)))
  (Tree.br (decide ((↑s : Int) < (↑md : Int)))
  (Tree.need
  (List.length (List.map encT l) = List.length l ∧
  ILeL [i64 (↑a : Int), i64 (↑s : Int), i64 (↑md : Int), fnV 38] [i64 (↑a : Int), i64 (↑s : Int), i64 (↑md : Int), fnV 38] ∧
  WSpec prog 115 47 2 (List.map encT l) [i64 (↑a : Int), i64 (↑s : Int), i64 (↑md : Int), fnV 38] (IVal.tup []) (List.map encT (symF ltT a s md l)))
  (Tree.br (decide ((↑md : Int) < IntKind.wrap IntKind.i64 ((↑n : Int) - (↑s : Int))))
  (Tree.br (decide (IntKind.wrap IntKind.i64 ((↑n : Int) - (↑s : Int)) < (↑b : Int)))
  (Tree.need
  (List.length (List.map encT (symF ltT a s md l)) = List.length l ∧
  ILeL [i64 (↑md : Int), IVal.v (Value.int IntKind.i64 (IntKind.wrap IntKind.i64 ((↑n : Int) - (↑s : Int)))), i64 (↑b : Int), fnV 38] [i64 (↑md : Int), i64 (↑(n - s) : Int), i64 (↑b : Int), fnV 38] ∧
  WSpec prog 115 47 2 (List.map encT (symF ltT a s md l)) [i64 (↑md : Int), i64 (↑(n - s) : Int), i64 (↑b : Int), fnV 38] (IVal.tup [])
  (List.map encT (symF ltT md (n - s) b (R115 a s md b n m l))))
  (Tree.need (eqs []) (Tree.done Exit.ret (lretW l0 47 2 (IVal.tup []) (List.map encT (symF ltT md (n - s) b (R115 a s md b n m l)))))))
  (Tree.need (eqs []) (Tree.done Exit.ret (lretW l0 47 2 (IVal.tup []) (List.map encT (symF ltT a s md l))))))
  (Tree.need (eqs []) (Tree.done Exit.ret (lretW l0 47 2 (IVal.tup []) (List.map encT (symF ltT a s md l)))))))
  (Tree.br (decide ((↑md : Int) < IntKind.wrap IntKind.i64 ((↑n : Int) - (↑s : Int))))
  (Tree.br (decide (IntKind.wrap IntKind.i64 ((↑n : Int) - (↑s : Int)) < (↑b : Int)))
  (Tree.need
  (List.length (List.map encT l) = List.length l ∧
  ILeL [i64 (↑md : Int), IVal.v (Value.int IntKind.i64 (IntKind.wrap IntKind.i64 ((↑n : Int) - (↑s : Int)))), i64 (↑b : Int), fnV 38] [i64 (↑md : Int), i64 (↑(n - s) : Int), i64 (↑b : Int), fnV 38] ∧
  WSpec prog 115 47 2 (List.map encT l) [i64 (↑md : Int), i64 (↑(n - s) : Int), i64 (↑b : Int), fnV 38] (IVal.tup []) (List.map encT (symF ltT md (n - s) b (R115 a s md b n m l))))
  (Tree.need (eqs []) (Tree.done Exit.ret (lretW l0 47 2 (IVal.tup []) (List.map encT (symF ltT md (n - s) b (R115 a s md b n m l)))))))
  (Tree.need (eqs []) (Tree.done Exit.ret (lretW l0 47 2 (IVal.tup []) (List.map encT l)))))
  (Tree.need (eqs []) (Tree.done Exit.ret (lretW l0 47 2 (IVal.tup []) (List.map encT l))))))
  (Tree.br (decide ((↑md : Int) < IntKind.wrap IntKind.i64 ((↑n : Int) - (↑s : Int))))
  (Tree.br (decide (IntKind.wrap IntKind.i64 ((↑n : Int) - (↑s : Int)) < (↑b : Int)))
  (Tree.need
  (List.length (List.map encT l) = List.length l ∧
  ILeL [i64 (↑md : Int), IVal.v (Value.int IntKind.i64 (IntKind.wrap IntKind.i64 ((↑n : Int) - (↑s : Int)))), i64 (↑b : Int), fnV 38] [i64 (↑md : Int), i64 (↑(n - s) : Int), i64 (↑b : Int), fnV 38] ∧
  WSpec prog 115 47 2 (List.map encT l) [i64 (↑md : Int), i64 (↑(n - s) : Int), i64 (↑b : Int), fnV 38] (IVal.tup []) (List.map encT (symF ltT md (n - s) b (R115 a s md b n m l))))
  (Tree.need (eqs []) (Tree.done Exit.ret (lretW l0 47 2 (IVal.tup []) (List.map encT (symF ltT md (n - s) b (R115 a s md b n m l)))))))
  (Tree.need (eqs []) (Tree.done Exit.ret (lretW l0 47 2 (IVal.tup []) (List.map encT l)))))
  (Tree.need (eqs []) (Tree.done Exit.ret (lretW l0 47 2 (IVal.tup []) (List.map encT l))))))))))) := by kernel_rfl

def IA117 (l0 : Abs.Loc) (a i j : Nat) (x : List RKey) : LState := { t := [(11, .imm (i64 j)), (10, .imm (i64 i)), (4, .imm (fnV 41)), (1, .imm (i64 a)), (0, .own 0 x.length)], s := [(0, .brow l0 53 18 (x.map encK))], m := 220, n := 1 }
def EA117 (l0 : Abs.Loc) (a i : Nat) (x : List RKey) : LState := { t := [(10, .imm (i64 i)), (1, .imm (i64 a)), (0, .own 0 x.length)], s := [(0, .brow l0 53 18 (x.map encK))], m := 220, n := 1 }
def finA117 : Exit → Fin
  | .normal => ⟨[], [11, 10, 4, 1, 0], [0]⟩
  | _ => ⟨[], [10, 1, 0], [0]⟩
def TA117r (l0 : Abs.Loc) (a i j : Nat) (x : List RKey) : Tell :=
  Tell.mk (fun x x_1 => false) (fun x x_1 => Orc.no) (fun x => Tree.fail 1000003 0) (fun x => 0) (fun x => ([], []))
  (oget
  [(11, 5, 4, Orc.elem (encK (List.getD x (Int.toNat (IntKind.wrap IntKind.i64 (Int.fdiv (IntKind.wrap IntKind.u64 (IntKind.wrap IntKind.i64 ((↑i : Int) + (↑j : Int)))) (2 : Int)))) default))),
  (11, 5, 8, Orc.elem (encK (List.getD x a default))),
  (11, 5, 9,
  Orc.call [encK (List.getD x (Int.toNat (IntKind.wrap IntKind.i64 (Int.fdiv (IntKind.wrap IntKind.u64 (IntKind.wrap IntKind.i64 ((↑i : Int) + (↑j : Int)))) (2 : Int)))) default), encK (List.getD x a default)]
  (i64 (cmpK (List.getD x (Int.toNat (IntKind.wrap IntKind.i64 (Int.fdiv (IntKind.wrap IntKind.u64 (IntKind.wrap IntKind.i64 ((↑i : Int) + (↑j : Int)))) (2 : Int)))) default) (List.getD x a default))))])
  fun x x_1 => Tree.fail 1000003 0
theorem tA117r (l0 : Abs.Loc) (a i j : Nat) (x : List RKey) : levL prog Proofs.Try.f117 3 (IA117 l0 a i j x) (TA117r l0 a i j x) finA117 =
  Tree.br (decide ((↑i : Int) < (↑j : Int)))
  (Tree.need ((0 : Int) ≤ (1 : Int))
  (Tree.need
  ((0 : Int) ≤ IntKind.wrap IntKind.i64 (Int.fdiv (IntKind.wrap IntKind.u64 (IntKind.wrap IntKind.i64 ((↑i : Int) + (↑j : Int)))) (2 : Int)) ∧
  Int.toNat (IntKind.wrap IntKind.i64 (Int.fdiv (IntKind.wrap IntKind.u64 (IntKind.wrap IntKind.i64 ((↑i : Int) + (↑j : Int)))) (2 : Int))) < List.length x)
  (Tree.need
  ((List.map encK x)[Int.toNat (IntKind.wrap IntKind.i64 (Int.fdiv (IntKind.wrap IntKind.u64 (IntKind.wrap IntKind.i64 ((↑i : Int) + (↑j : Int)))) (2 : Int)))]? =
  some (encK (List.getD x (Int.toNat (IntKind.wrap IntKind.i64 (Int.fdiv (IntKind.wrap IntKind.u64 (IntKind.wrap IntKind.i64 ((↑i : Int) + (↑j : Int)))) (2 : Int)))) default)))
  (Tree.need ((0 : Int) ≤ (↑a : Int) ∧ a < List.length x)
  (Tree.need ((List.map encK x)[a]? = some (encK (List.getD x a default)))
  (Tree.need
  (ILeL [encK (List.getD x (Int.toNat (IntKind.wrap IntKind.i64 (Int.fdiv (IntKind.wrap IntKind.u64 (IntKind.wrap IntKind.i64 ((↑i : Int) + (↑j : Int)))) (2 : Int)))) default), encK (List.getD x a default)]
  [encK (List.getD x (Int.toNat (IntKind.wrap IntKind.i64 (Int.fdiv (IntKind.wrap IntKind.u64 (IntKind.wrap IntKind.i64 ((↑i : Int) + (↑j : Int)))) (2 : Int)))) default), encK (List.getD x a default)] ∧
  ASpec prog 41 [encK (List.getD x (Int.toNat (IntKind.wrap IntKind.i64 (Int.fdiv (IntKind.wrap IntKind.u64 (IntKind.wrap IntKind.i64 ((↑i : Int) + (↑j : Int)))) (2 : Int)))) default), encK (List.getD x a default)]
  (i64 (cmpK (List.getD x (Int.toNat (IntKind.wrap IntKind.i64 (Int.fdiv (IntKind.wrap IntKind.u64 (IntKind.wrap IntKind.i64 ((↑i : Int) + (↑j : Int)))) (2 : Int)))) default) (List.getD x a default))))
  (Tree.br (decide (cmpK (List.getD x (Int.toNat (IntKind.wrap IntKind.i64 (Int.fdiv (IntKind.wrap IntKind.u64 (IntKind.wrap IntKind.i64 ((↑i : Int) + (↑j : Int)))) (2 : Int)))) default) (List.getD x a default) < (0 : Int)))
  (Tree.done Exit.normal
  (LState.mk
  [(11, AVal.imm (i64 (↑j : Int))),
  (10,
  AVal.imm (IVal.v (Value.int IntKind.i64 (IntKind.wrap IntKind.i64 (IntKind.wrap IntKind.i64 (Int.fdiv (IntKind.wrap IntKind.u64 (IntKind.wrap IntKind.i64 ((↑i : Int) + (↑j : Int)))) (2 : Int)) + (1 : Int)))))),
  (4, AVal.imm (fnV 41)), (1, AVal.imm (i64 (↑a : Int))), (0, AVal.own 0 (List.length x))]
  [(0, Entry.brow l0 53 18 (List.map encK x))] 220 25 []))
  (Tree.done Exit.normal
  (LState.mk
  [(11, AVal.imm (IVal.v (Value.int IntKind.i64 (IntKind.wrap IntKind.i64 (Int.fdiv (IntKind.wrap IntKind.u64 (IntKind.wrap IntKind.i64 ((↑i : Int) + (↑j : Int)))) (2 : Int)))))),
  (10, AVal.imm (i64 (↑i : Int))), (4, AVal.imm (fnV 41)), (1, AVal.imm (i64 (↑a : Int))), (0, AVal.own 0 (List.length x))]
  [(0, Entry.brow l0 53 18 (List.map encK x))] 220 24 [])))))))))
  (Tree.done (Exit.exit 0)
  (LState.mk [(10, AVal.imm (i64 (↑i : Int))), (1, AVal.imm (i64 (↑a : Int))), (0, AVal.own 0 (List.length x))] [(0, Entry.brow l0 53 18 (List.map encK x))] 220 4
  [])) := by kernel_rfl
def IB117 (l0 : Abs.Loc) (k i : Nat) (x : List RKey) : LState := { t := [(13, .imm (i64 k)), (10, .imm (i64 i)), (0, .own 0 x.length)], s := [(0, .brow l0 53 18 (x.map encK))], m := 220, n := 1 }
def ER117 (l0 : Abs.Loc) (x : List RKey) : LState := { t := [], s := [(0, .brow l0 53 18 (x.map encK))], m := 220, n := 1 }
def finB117 : Exit → Fin
  | .normal => ⟨[], [13, 10, 0], [0]⟩
  | _ => ⟨[], [], [0]⟩
def TB117r (l0 : Abs.Loc) (k i : Nat) (x : List RKey) : Tell :=
  Tell.mk (fun x x_1 => false) (fun x x_1 => Orc.no) (fun x => Tree.fail 1000003 0) (fun x => 0) (fun x => ([], []))
  (oget
  [(5, 11, 9, Orc.elem (encK (List.getD x (Int.toNat (IntKind.wrap IntKind.i64 ((↑k : Int) + (1 : Int)))) default))), (5, 11, 13, Orc.elem (encK (List.getD x k default))),
  (5, 11, 15, Orc.elem (IVal.tup [])), (5, 11, 17, Orc.elem (IVal.tup []))])
  fun x x_1 => Tree.fail 1000003 0
theorem tB117r (l0 : Abs.Loc) (k i : Nat) (x : List RKey) : levL prog Proofs.Try.f117 9 (IB117 l0 k i x) (TB117r l0 k i x) finB117 =
  Tree.br (decide ((↑k : Int) < IntKind.wrap IntKind.i64 ((↑i : Int) - (1 : Int))))
  (Tree.need ((0 : Int) ≤ IntKind.wrap IntKind.i64 ((↑k : Int) + (1 : Int)) ∧ Int.toNat (IntKind.wrap IntKind.i64 ((↑k : Int) + (1 : Int))) < List.length x)
  (Tree.need ((List.map encK x)[Int.toNat (IntKind.wrap IntKind.i64 ((↑k : Int) + (1 : Int)))]? = some (encK (List.getD x (Int.toNat (IntKind.wrap IntKind.i64 ((↑k : Int) + (1 : Int)))) default)))
  (Tree.need ((0 : Int) ≤ (↑k : Int) ∧ k < List.length x)
  (Tree.need ((List.map encK x)[k]? = some (encK (List.getD x k default)))
  (Tree.need ((0 : Int) ≤ (↑k : Int) ∧ k < List.length x)
  (Tree.need (k < List.length (List.map encK x))
  (Tree.need ((0 : Int) ≤ IntKind.wrap IntKind.i64 ((↑k : Int) + (1 : Int)) ∧ Int.toNat (IntKind.wrap IntKind.i64 ((↑k : Int) + (1 : Int))) < List.length x)
  (Tree.need (Int.toNat (IntKind.wrap IntKind.i64 ((↑k : Int) + (1 : Int))) < List.length (List.set (List.map encK x) k (encK (List.getD x (Int.toNat (IntKind.wrap IntKind.i64 ((↑k : Int) + (1 : Int)))) default))))
  (Tree.done Exit.normal
  (LState.mk [(13, AVal.imm (IVal.v (Value.int IntKind.i64 (IntKind.wrap IntKind.i64 ((↑k : Int) + (1 : Int)))))), (10, AVal.imm (i64 (↑i : Int))), (0, AVal.own 0 (List.length x))]
  [(0,
  Entry.brow l0 53 18
  (List.set (List.set (List.map encK x) k (encK (List.getD x (Int.toNat (IntKind.wrap IntKind.i64 ((↑k : Int) + (1 : Int)))) default))) (Int.toNat (IntKind.wrap IntKind.i64 ((↑k : Int) + (1 : Int))))
  (encK (List.getD x k default))))]
  220 26 []))))))))))
  (Tree.done (Exit.exit 2) (LState.mk [] [(0, Entry.brow l0 53 18 (List.map encK x))] 220 5 [])) := by kernel_rfl
def IC117 (l0 : Abs.Loc) (m i j : Nat) (x : List RKey) : LState := { t := [(15, .imm (i64 j)), (14, .imm (i64 i)), (4, .imm (fnV 41)), (2, .imm (i64 m)), (0, .own 0 x.length)], s := [(0, .brow l0 53 18 (x.map encK))], m := 220, n := 1 }
def EC117 (l0 : Abs.Loc) (m i : Nat) (x : List RKey) : LState := { t := [(14, .imm (i64 i)), (2, .imm (i64 m)), (0, .own 0 x.length)], s := [(0, .brow l0 53 18 (x.map encK))], m := 220, n := 1 }
def finC117 : Exit → Fin
  | .normal => ⟨[], [15, 14, 4, 2, 0], [0]⟩
  | _ => ⟨[], [14, 2, 0], [0]⟩
def TC117r (l0 : Abs.Loc) (m i j : Nat) (x : List RKey) : Tell :=
  Tell.mk (fun x x_1 => false) (fun x x_1 => Orc.no) (fun x => Tree.fail 1000003 0) (fun x => 0) (fun x => ([], []))
  (oget
  [(11, 17, 4, Orc.elem (encK (List.getD x m default))),
  (11, 17, 8, Orc.elem (encK (List.getD x (Int.toNat (IntKind.wrap IntKind.i64 (Int.fdiv (IntKind.wrap IntKind.u64 (IntKind.wrap IntKind.i64 ((↑i : Int) + (↑j : Int)))) (2 : Int)))) default))),
  (11, 17, 9,
  Orc.call [encK (List.getD x m default), encK (List.getD x (Int.toNat (IntKind.wrap IntKind.i64 (Int.fdiv (IntKind.wrap IntKind.u64 (IntKind.wrap IntKind.i64 ((↑i : Int) + (↑j : Int)))) (2 : Int)))) default)]
  (i64 (cmpK (List.getD x m default) (List.getD x (Int.toNat (IntKind.wrap IntKind.i64 (Int.fdiv (IntKind.wrap IntKind.u64 (IntKind.wrap IntKind.i64 ((↑i : Int) + (↑j : Int)))) (2 : Int)))) default))))])
  fun x x_1 => Tree.fail 1000003 0
theorem tC117r (l0 : Abs.Loc) (m i j : Nat) (x : List RKey) : levL prog Proofs.Try.f117 15 (IC117 l0 m i j x) (TC117r l0 m i j x) finC117 =
  Tree.br (decide ((↑i : Int) < (↑j : Int)))
  (Tree.need ((0 : Int) ≤ (1 : Int))
  (Tree.need ((0 : Int) ≤ (↑m : Int) ∧ m < List.length x)
  (Tree.need ((List.map encK x)[m]? = some (encK (List.getD x m default)))
  (Tree.need
  ((0 : Int) ≤ IntKind.wrap IntKind.i64 (Int.fdiv (IntKind.wrap IntKind.u64 (IntKind.wrap IntKind.i64 ((↑i : Int) + (↑j : Int)))) (2 : Int)) ∧
  Int.toNat (IntKind.wrap IntKind.i64 (Int.fdiv (IntKind.wrap IntKind.u64 (IntKind.wrap IntKind.i64 ((↑i : Int) + (↑j : Int)))) (2 : Int))) < List.length x)
  (Tree.need
  ((List.map encK x)[Int.toNat (IntKind.wrap IntKind.i64 (Int.fdiv (IntKind.wrap IntKind.u64 (IntKind.wrap IntKind.i64 ((↑i : Int) + (↑j : Int)))) (2 : Int)))]? =
  some (encK (List.getD x (Int.toNat (IntKind.wrap IntKind.i64 (Int.fdiv (IntKind.wrap IntKind.u64 (IntKind.wrap IntKind.i64 ((↑i : Int) + (↑j : Int)))) (2 : Int)))) default)))
  (Tree.need
  (ILeL [encK (List.getD x m default), encK (List.getD x (Int.toNat (IntKind.wrap IntKind.i64 (Int.fdiv (IntKind.wrap IntKind.u64 (IntKind.wrap IntKind.i64 ((↑i : Int) + (↑j : Int)))) (2 : Int)))) default)]
  [encK (List.getD x m default), encK (List.getD x (Int.toNat (IntKind.wrap IntKind.i64 (Int.fdiv (IntKind.wrap IntKind.u64 (IntKind.wrap IntKind.i64 ((↑i : Int) + (↑j : Int)))) (2 : Int)))) default)] ∧
  ASpec prog 41 [encK (List.getD x m default), encK (List.getD x (Int.toNat (IntKind.wrap IntKind.i64 (Int.fdiv (IntKind.wrap IntKind.u64 (IntKind.wrap IntKind.i64 ((↑i : Int) + (↑j : Int)))) (2 : Int)))) default)]
  (i64 (cmpK (List.getD x m default) (List.getD x (Int.toNat (IntKind.wrap IntKind.i64 (Int.fdiv (IntKind.wrap IntKind.u64 (IntKind.wrap IntKind.i64 ((↑i : Int) + (↑j : Int)))) (2 : Int)))) default))))
  (Tree.br (!decide (cmpK (List.getD x m default) (List.getD x (Int.toNat (IntKind.wrap IntKind.i64 (Int.fdiv (IntKind.wrap IntKind.u64 (IntKind.wrap IntKind.i64 ((↑i : Int) + (↑j : Int)))) (2 : Int)))) default) < (0 : Int)))
  (Tree.done Exit.normal
  (LState.mk
  [(15, AVal.imm (i64 (↑j : Int))),
  (14,
  AVal.imm (IVal.v (Value.int IntKind.i64 (IntKind.wrap IntKind.i64 (IntKind.wrap IntKind.i64 (Int.fdiv (IntKind.wrap IntKind.u64 (IntKind.wrap IntKind.i64 ((↑i : Int) + (↑j : Int)))) (2 : Int)) + (1 : Int)))))),
  (4, AVal.imm (fnV 41)), (2, AVal.imm (i64 (↑m : Int))), (0, AVal.own 0 (List.length x))]
  [(0, Entry.brow l0 53 18 (List.map encK x))] 220 26 []))
  (Tree.done Exit.normal
  (LState.mk
  [(15, AVal.imm (IVal.v (Value.int IntKind.i64 (IntKind.wrap IntKind.i64 (Int.fdiv (IntKind.wrap IntKind.u64 (IntKind.wrap IntKind.i64 ((↑i : Int) + (↑j : Int)))) (2 : Int)))))),
  (14, AVal.imm (i64 (↑i : Int))), (4, AVal.imm (fnV 41)), (2, AVal.imm (i64 (↑m : Int))), (0, AVal.own 0 (List.length x))]
  [(0, Entry.brow l0 53 18 (List.map encK x))] 220 25 [])))))))))
  (Tree.done (Exit.exit 4)
  (LState.mk [(14, AVal.imm (i64 (↑i : Int))), (2, AVal.imm (i64 (↑m : Int))), (0, AVal.own 0 (List.length x))] [(0, Entry.brow l0 53 18 (List.map encK x))] 220 4
  [])) := by kernel_rfl
def ID117 (l0 : Abs.Loc) (k i : Nat) (x : List RKey) : LState := { t := [(17, .imm (i64 k)), (14, .imm (i64 i)), (0, .own 0 x.length)], s := [(0, .brow l0 53 18 (x.map encK))], m := 220, n := 1 }
def finD117 : Exit → Fin
  | .normal => ⟨[], [17, 14, 0], [0]⟩
  | _ => ⟨[], [], [0]⟩
def TD117r (l0 : Abs.Loc) (k i : Nat) (x : List RKey) : Tell :=
  Tell.mk (fun x x_1 => false) (fun x x_1 => Orc.no) (fun x => Tree.fail 1000003 0) (fun x => 0) (fun x => ([], []))
  (oget
  [(4, 23, 9, Orc.elem (encK (List.getD x (Int.toNat (IntKind.wrap IntKind.i64 ((↑k : Int) - (1 : Int)))) default))), (4, 23, 13, Orc.elem (encK (List.getD x k default))),
  (4, 23, 15, Orc.elem (IVal.tup [])), (4, 23, 17, Orc.elem (IVal.tup []))])
  fun x x_1 => Tree.fail 1000003 0
theorem tD117r (l0 : Abs.Loc) (k i : Nat) (x : List RKey) : levL prog Proofs.Try.f117 21 (ID117 l0 k i x) (TD117r l0 k i x) finD117 =
  Tree.br (decide ((↑i : Int) < (↑k : Int)))
  (Tree.need ((0 : Int) ≤ IntKind.wrap IntKind.i64 ((↑k : Int) - (1 : Int)) ∧ Int.toNat (IntKind.wrap IntKind.i64 ((↑k : Int) - (1 : Int))) < List.length x)
  (Tree.need ((List.map encK x)[Int.toNat (IntKind.wrap IntKind.i64 ((↑k : Int) - (1 : Int)))]? = some (encK (List.getD x (Int.toNat (IntKind.wrap IntKind.i64 ((↑k : Int) - (1 : Int)))) default)))
  (Tree.need ((0 : Int) ≤ (↑k : Int) ∧ k < List.length x)
  (Tree.need ((List.map encK x)[k]? = some (encK (List.getD x k default)))
  (Tree.need ((0 : Int) ≤ (↑k : Int) ∧ k < List.length x)
  (Tree.need (k < List.length (List.map encK x))
  (Tree.need ((0 : Int) ≤ IntKind.wrap IntKind.i64 ((↑k : Int) - (1 : Int)) ∧ Int.toNat (IntKind.wrap IntKind.i64 ((↑k : Int) - (1 : Int))) < List.length x)
  (Tree.need (Int.toNat (IntKind.wrap IntKind.i64 ((↑k : Int) - (1 : Int))) < List.length (List.set (List.map encK x) k (encK (List.getD x (Int.toNat (IntKind.wrap IntKind.i64 ((↑k : Int) - (1 : Int)))) default))))
  (Tree.done Exit.normal
  (LState.mk [(17, AVal.imm (IVal.v (Value.int IntKind.i64 (IntKind.wrap IntKind.i64 ((↑k : Int) - (1 : Int)))))), (14, AVal.imm (i64 (↑i : Int))), (0, AVal.own 0 (List.length x))]
  [(0,
  Entry.brow l0 53 18
  (List.set (List.set (List.map encK x) k (encK (List.getD x (Int.toNat (IntKind.wrap IntKind.i64 ((↑k : Int) - (1 : Int)))) default))) (Int.toNat (IntKind.wrap IntKind.i64 ((↑k : Int) - (1 : Int))))
  (encK (List.getD x k default))))]
  220 25 []))))))))))
  (Tree.done (Exit.exit 6) (LState.mk [] [(0, Entry.brow l0 53 18 (List.map encK x))] 220 4 [])) := by kernel_rfl
def IE117 (l0 : Abs.Loc) (a m b q n md i j : Nat) (x : List RKey) : LState := { t := [(22, .imm (i64 q)), (21, .imm (i64 j)), (20, .imm (i64 i)), (19, .imm (i64 n)), (18, .imm (i64 md)), (4, .imm (fnV 41)), (3, .imm (i64 b)), (2, .imm (i64 m)), (1, .imm (i64 a)), (0, .own 0 x.length)], s := [(0, .brow l0 53 18 (x.map encK))], m := 220, n := 1 }
def EE117 (l0 : Abs.Loc) (a m b n md i : Nat) (x : List RKey) : LState := { t := [(20, .imm (i64 i)), (19, .imm (i64 n)), (18, .imm (i64 md)), (4, .imm (fnV 41)), (3, .imm (i64 b)), (2, .imm (i64 m)), (1, .imm (i64 a)), (0, .own 0 x.length)], s := [(0, .brow l0 53 18 (x.map encK))], m := 220, n := 1 }
def finE117 : Exit → Fin
  | .normal => ⟨[], [22, 21, 20, 19, 18, 4, 3, 2, 1, 0], [0]⟩
  | _ => ⟨[], [20, 19, 18, 4, 3, 2, 1, 0], [0]⟩
def TE117r (l0 : Abs.Loc) (a m b q n md i j : Nat) (x : List RKey) : Tell :=
  Tell.mk (fun x x_1 => false) (fun x x_1 => Orc.no) (fun x => Tree.fail 1000003 0) (fun x => 0) (fun x => ([], []))
  (oget
  [(11, 35, 6,
  Orc.elem (encK (List.getD x (Int.toNat (IntKind.wrap IntKind.i64 ((↑q : Int) - IntKind.wrap IntKind.i64 (Int.fdiv (IntKind.wrap IntKind.u64 (IntKind.wrap IntKind.i64 ((↑i : Int) + (↑j : Int)))) (2 : Int))))) default))),
  (11, 35, 10, Orc.elem (encK (List.getD x (Int.toNat (IntKind.wrap IntKind.i64 (Int.fdiv (IntKind.wrap IntKind.u64 (IntKind.wrap IntKind.i64 ((↑i : Int) + (↑j : Int)))) (2 : Int)))) default))),
  (11, 35, 11,
  Orc.call
  [encK (List.getD x (Int.toNat (IntKind.wrap IntKind.i64 ((↑q : Int) - IntKind.wrap IntKind.i64 (Int.fdiv (IntKind.wrap IntKind.u64 (IntKind.wrap IntKind.i64 ((↑i : Int) + (↑j : Int)))) (2 : Int))))) default),
  encK (List.getD x (Int.toNat (IntKind.wrap IntKind.i64 (Int.fdiv (IntKind.wrap IntKind.u64 (IntKind.wrap IntKind.i64 ((↑i : Int) + (↑j : Int)))) (2 : Int)))) default)]
  (i64
  (cmpK (List.getD x (Int.toNat (IntKind.wrap IntKind.i64 ((↑q : Int) - IntKind.wrap IntKind.i64 (Int.fdiv (IntKind.wrap IntKind.u64 (IntKind.wrap IntKind.i64 ((↑i : Int) + (↑j : Int)))) (2 : Int))))) default)
  (List.getD x (Int.toNat (IntKind.wrap IntKind.i64 (Int.fdiv (IntKind.wrap IntKind.u64 (IntKind.wrap IntKind.i64 ((↑i : Int) + (↑j : Int)))) (2 : Int)))) default))))])
  fun x x_1 => Tree.fail 1000003 0
theorem tE117r (l0 : Abs.Loc) (a m b q n md i j : Nat) (x : List RKey) : levL prog Proofs.Try.f117 33 (IE117 l0 a m b q n md i j x) (TE117r l0 a m b q n md i j x) finE117 =
  Tree.br (decide ((↑i : Int) < (↑j : Int)))
  (Tree.need ((0 : Int) ≤ (1 : Int))
  (Tree.need
  ((0 : Int) ≤ IntKind.wrap IntKind.i64 ((↑q : Int) - IntKind.wrap IntKind.i64 (Int.fdiv (IntKind.wrap IntKind.u64 (IntKind.wrap IntKind.i64 ((↑i : Int) + (↑j : Int)))) (2 : Int))) ∧
  Int.toNat (IntKind.wrap IntKind.i64 ((↑q : Int) - IntKind.wrap IntKind.i64 (Int.fdiv (IntKind.wrap IntKind.u64 (IntKind.wrap IntKind.i64 ((↑i : Int) + (↑j : Int)))) (2 : Int)))) < List.length x)
  (Tree.need
  ((List.map encK x)[Int.toNat (IntKind.wrap IntKind.i64 ((↑q : Int) - IntKind.wrap IntKind.i64 (Int.fdiv (IntKind.wrap IntKind.u64 (IntKind.wrap IntKind.i64 ((↑i : Int) + (↑j : Int)))) (2 : Int))))]? =
  some (encK (List.getD x (Int.toNat (IntKind.wrap IntKind.i64 ((↑q : Int) - IntKind.wrap IntKind.i64 (Int.fdiv (IntKind.wrap IntKind.u64 (IntKind.wrap IntKind.i64 ((↑i : Int) + (↑j : Int)))) (2 : Int))))) default)))
  (Tree.need
  ((0 : Int) ≤ IntKind.wrap IntKind.i64 (Int.fdiv (IntKind.wrap IntKind.u64 (IntKind.wrap IntKind.i64 ((↑i : Int) + (↑j : Int)))) (2 : Int)) ∧
  Int.toNat (IntKind.wrap IntKind.i64 (Int.fdiv (IntKind.wrap IntKind.u64 (IntKind.wrap IntKind.i64 ((↑i : Int) + (↑j : Int)))) (2 : Int))) < List.length x)
  (Tree.need
  ((List.map encK x)[Int.toNat (IntKind.wrap IntKind.i64 (Int.fdiv (IntKind.wrap IntKind.u64 (IntKind.wrap IntKind.i64 ((↑i : Int) + (↑j : Int)))) (2 : Int)))]? =
  some (encK (List.getD x (Int.toNat (IntKind.wrap IntKind.i64 (Int.fdiv (IntKind.wrap IntKind.u64 (IntKind.wrap IntKind.i64 ((↑i : Int) + (↑j : Int)))) (2 : Int)))) default)))
  (Tree.need
  (ILeL
  [encK (List.getD x (Int.toNat (IntKind.wrap IntKind.i64 ((↑q : Int) - IntKind.wrap IntKind.i64 (Int.fdiv (IntKind.wrap IntKind.u64 (IntKind.wrap IntKind.i64 ((↑i : Int) + (↑j : Int)))) (2 : Int))))) default),
  encK (List.getD x (Int.toNat (IntKind.wrap IntKind.i64 (Int.fdiv (IntKind.wrap IntKind.u64 (IntKind.wrap IntKind.i64 ((↑i : Int) + (↑j : Int)))) (2 : Int)))) default)]
  [encK (List.getD x (Int.toNat (IntKind.wrap IntKind.i64 ((↑q : Int) - IntKind.wrap IntKind.i64 (Int.fdiv (IntKind.wrap IntKind.u64 (IntKind.wrap IntKind.i64 ((↑i : Int) + (↑j : Int)))) (2 : Int))))) default),
  encK (List.getD x (Int.toNat (IntKind.wrap IntKind.i64 (Int.fdiv (IntKind.wrap IntKind.u64 (IntKind.wrap IntKind.i64 ((↑i : Int) + (↑j : Int)))) (2 : Int)))) default)] ∧
  ASpec prog 41
  [encK (List.getD x (Int.toNat (IntKind.wrap IntKind.i64 ((↑q : Int) - IntKind.wrap IntKind.i64 (Int.fdiv (IntKind.wrap IntKind.u64 (IntKind.wrap IntKind.i64 ((↑i : Int) + (↑j : Int)))) (2 : Int))))) default),
  encK (List.getD x (Int.toNat (IntKind.wrap IntKind.i64 (Int.fdiv (IntKind.wrap IntKind.u64 (IntKind.wrap IntKind.i64 ((↑i : Int) + (↑j : Int)))) (2 : Int)))) default)]
  (i64
  (cmpK (List.getD x (Int.toNat (IntKind.wrap IntKind.i64 ((↑q : Int) - IntKind.wrap IntKind.i64 (Int.fdiv (IntKind.wrap IntKind.u64 (IntKind.wrap IntKind.i64 ((↑i : Int) + (↑j : Int)))) (2 : Int))))) default)
  (List.getD x (Int.toNat (IntKind.wrap IntKind.i64 (Int.fdiv (IntKind.wrap IntKind.u64 (IntKind.wrap IntKind.i64 ((↑i : Int) + (↑j : Int)))) (2 : Int)))) default))))
  (Tree.br
  (!decide
  (cmpK (List.getD x (Int.toNat (IntKind.wrap IntKind.i64 ((↑q : Int) - IntKind.wrap IntKind.i64 (Int.fdiv (IntKind.wrap IntKind.u64 (IntKind.wrap IntKind.i64 ((↑i : Int) + (↑j : Int)))) (2 : Int))))) default)
  (List.getD x (Int.toNat (IntKind.wrap IntKind.i64 (Int.fdiv (IntKind.wrap IntKind.u64 (IntKind.wrap IntKind.i64 ((↑i : Int) + (↑j : Int)))) (2 : Int)))) default) <
  (0 : Int)))
  (Tree.done Exit.normal
  (LState.mk
  [(22, AVal.imm (i64 (↑q : Int))), (21, AVal.imm (i64 (↑j : Int))),
  (20,
  AVal.imm (IVal.v (Value.int IntKind.i64 (IntKind.wrap IntKind.i64 (IntKind.wrap IntKind.i64 (Int.fdiv (IntKind.wrap IntKind.u64 (IntKind.wrap IntKind.i64 ((↑i : Int) + (↑j : Int)))) (2 : Int)) + (1 : Int)))))),
  (19, AVal.imm (i64 (↑n : Int))), (18, AVal.imm (i64 (↑md : Int))), (4, AVal.imm (fnV 41)), (3, AVal.imm (i64 (↑b : Int))), (2, AVal.imm (i64 (↑m : Int))),
  (1, AVal.imm (i64 (↑a : Int))), (0, AVal.own 0 (List.length x))]
  [(0, Entry.brow l0 53 18 (List.map encK x))] 220 28 []))
  (Tree.done Exit.normal
  (LState.mk
  [(22, AVal.imm (i64 (↑q : Int))),
  (21, AVal.imm (IVal.v (Value.int IntKind.i64 (IntKind.wrap IntKind.i64 (Int.fdiv (IntKind.wrap IntKind.u64 (IntKind.wrap IntKind.i64 ((↑i : Int) + (↑j : Int)))) (2 : Int)))))),
  (20, AVal.imm (i64 (↑i : Int))), (19, AVal.imm (i64 (↑n : Int))), (18, AVal.imm (i64 (↑md : Int))), (4, AVal.imm (fnV 41)), (3, AVal.imm (i64 (↑b : Int))),
  (2, AVal.imm (i64 (↑m : Int))), (1, AVal.imm (i64 (↑a : Int))), (0, AVal.own 0 (List.length x))]
  [(0, Entry.brow l0 53 18 (List.map encK x))] 220 27 [])))))))))
  (Tree.done (Exit.exit 8)
  (LState.mk
  [(20, AVal.imm (i64 (↑i : Int))), (19, AVal.imm (i64 (↑n : Int))), (18, AVal.imm (i64 (↑md : Int))), (4, AVal.imm (fnV 41)), (3, AVal.imm (i64 (↑b : Int))),
  (2, AVal.imm (i64 (↑m : Int))), (1, AVal.imm (i64 (↑a : Int))), (0, AVal.own 0 (List.length x))]
  [(0, Entry.brow l0 53 18 (List.map encK x))] 220 4 [])) := by kernel_rfl

theorem lA117 (l0 : Abs.Loc) (a i j f : Nat) (x : List RKey) (ha : a < x.length) (hij : i ≤ j) (hj : j ≤ x.length) (hl : x.length ≤ 2 ^ 61) (hf : j - i ≤ f) (σ : LState) (h : LSub σ (IA117 l0 a i j x)) :
    LoopOk prog [] (bodyOf Proofs.Try.f117) 3 σ (.done (.exit 0) (EA117 l0 a (bs (fun h => ltK (x.getD h default) (x.getD a default)) f i j) x)) := by
  refine LoopOk.of_levL (γ := { g : Nat × Nat × Nat // g.1 ≤ g.2.1 ∧ g.2.1 ≤ x.length ∧ g.2.1 - g.1 ≤ g.2.2 ∧ bs (fun h => ltK (x.getD h default) (x.getD a default)) g.2.2 g.1 g.2.1 = bs (fun h => ltK (x.getD h default) (x.getD a default)) f i j })
    (fun g => TA117r l0 a g.1.1 g.1.2.1 x) finA117 (fun g => IA117 l0 a g.1.1 g.1.2.1 x) (fun g => g.1.2.1 - g.1.1) ⟨(i, j, f), hij, hj, hf, rfl⟩ (by kernel_rfl) h ?_
  rintro ⟨⟨i, j, f'⟩, q1, q2, q3, q4⟩
  simp only at q1 q2 q3 q4
  simp only []
  have e1 := i64_half (i := i) (j := j) (by omega)
  rw [tA117r]
  simp only [e1, Int.toNat_natCast]
  refine ⟨fun h1 => ?_, fun h1 => ?_⟩
  · have hlt : i < j := by simp at h1; omega
    cases f' with
    | zero => omega
    | succ f' =>
      rw [bs, if_pos hlt] at q4
      refine ⟨by omega, fun _ => ⟨⟨by omega, by omega⟩, fun _ => ⟨getD_map _ _ _ _ (by omega), fun _ => ⟨⟨by omega, ha⟩, fun _ => ⟨getD_map _ _ _ _ ha, fun _ => ⟨⟨ILeL.refl _, c41 _ _⟩, fun _ => ⟨fun h2 => ?_, fun h2 => ?_⟩⟩⟩⟩⟩⟩⟩
      · rw [if_pos (show ltK _ _ = true from h2)] at q4
        refine ⟨⟨((i + j) / 2 + 1, j, f'), by simp only; omega, q2, by simp only; omega, q4⟩, by simp only; omega, ⟨rfl, ?_, rfl, rfl, rfl, trivial⟩, ⟨rfl, trivial⟩, rfl, rfl, rfl⟩
        exact congrArg (fun n => AVal.imm (i64 n)) (i64_succ (by omega))
      · rw [if_neg (fun hc => by rw [show ltK _ _ = false from h2] at hc; cases hc)] at q4
        exact ⟨⟨(i, (i + j) / 2, f'), by simp only; omega, by simp only; omega, by simp only; omega, q4⟩, by simp only; omega, ⟨rfl, rfl, rfl, rfl, rfl, trivial⟩, ⟨rfl, trivial⟩, rfl, rfl, rfl⟩
  · have hge : ¬ i < j := by simp at h1; omega
    have : bs (fun h => ltK (x.getD h default) (x.getD a default)) f' i j = i := by
      cases f' with
      | zero => rfl
      | succ f' => rw [bs, if_neg hge]
    rw [this] at q4
    rw [← q4]
    exact ⟨rfl, ⟨rfl, rfl, rfl, trivial⟩, ⟨rfl, trivial⟩, rfl, rfl, rfl⟩
theorem lC117 (l0 : Abs.Loc) (m i j f : Nat) (x : List RKey) (ha : m < x.length) (hij : i ≤ j) (hj : j ≤ x.length) (hl : x.length ≤ 2 ^ 61) (hf : j - i ≤ f) (σ : LState) (h : LSub σ (IC117 l0 m i j x)) :
    LoopOk prog [] (bodyOf Proofs.Try.f117) 15 σ (.done (.exit 4) (EC117 l0 m (bs (fun h => !ltK (x.getD m default) (x.getD h default)) f i j) x)) := by
  refine LoopOk.of_levL (γ := { g : Nat × Nat × Nat // g.1 ≤ g.2.1 ∧ g.2.1 ≤ x.length ∧ g.2.1 - g.1 ≤ g.2.2 ∧ bs (fun h => !ltK (x.getD m default) (x.getD h default)) g.2.2 g.1 g.2.1 = bs (fun h => !ltK (x.getD m default) (x.getD h default)) f i j })
    (fun g => TC117r l0 m g.1.1 g.1.2.1 x) finC117 (fun g => IC117 l0 m g.1.1 g.1.2.1 x) (fun g => g.1.2.1 - g.1.1) ⟨(i, j, f), hij, hj, hf, rfl⟩ (by kernel_rfl) h ?_
  rintro ⟨⟨i, j, f'⟩, q1, q2, q3, q4⟩
  simp only at q1 q2 q3 q4
  simp only []
  have e1 := i64_half (i := i) (j := j) (by omega)
  rw [tC117r]
  simp only [e1, Int.toNat_natCast]
  refine ⟨fun h1 => ?_, fun h1 => ?_⟩
  · have hlt : i < j := by simp at h1; omega
    cases f' with
    | zero => omega
    | succ f' =>
      rw [bs, if_pos hlt] at q4
      refine ⟨by omega, fun _ => ⟨⟨by omega, ha⟩, fun _ => ⟨getD_map _ _ _ _ ha, fun _ => ⟨⟨by omega, by omega⟩, fun _ => ⟨getD_map _ _ _ _ (by omega), fun _ => ⟨⟨ILeL.refl _, c41 _ _⟩, fun _ => ⟨fun h2 => ?_, fun h2 => ?_⟩⟩⟩⟩⟩⟩⟩
      · rw [if_pos (show (!ltK _ _) = true from h2)] at q4
        refine ⟨⟨((i + j) / 2 + 1, j, f'), by simp only; omega, q2, by simp only; omega, q4⟩, by simp only; omega, ⟨rfl, ?_, rfl, rfl, rfl, trivial⟩, ⟨rfl, trivial⟩, rfl, rfl, rfl⟩
        exact congrArg (fun n => AVal.imm (i64 n)) (i64_succ (by omega))
      · rw [if_neg (fun hc => by rw [show (!ltK _ _) = false from h2] at hc; cases hc)] at q4
        exact ⟨⟨(i, (i + j) / 2, f'), by simp only; omega, by simp only; omega, by simp only; omega, q4⟩, by simp only; omega, ⟨rfl, rfl, rfl, rfl, rfl, trivial⟩, ⟨rfl, trivial⟩, rfl, rfl, rfl⟩
  · have hge : ¬ i < j := by simp at h1; omega
    have : bs (fun h => !ltK (x.getD m default) (x.getD h default)) f' i j = i := by
      cases f' with
      | zero => rfl
      | succ f' => rw [bs, if_neg hge]
    rw [this] at q4
    rw [← q4]
    exact ⟨rfl, ⟨rfl, rfl, rfl, trivial⟩, ⟨rfl, trivial⟩, rfl, rfl, rfl⟩
theorem lE117 (l0 : Abs.Loc) (a m b q n md i j f : Nat) (x : List RKey) (hq : j ≤ q + 1) (hq2 : q < i + x.length) (hij : i ≤ j) (hj : j ≤ x.length) (hl : x.length ≤ 2 ^ 61) (hf : j - i ≤ f) (σ : LState) (h : LSub σ (IE117 l0 a m b q n md i j x)) :
    LoopOk prog [] (bodyOf Proofs.Try.f117) 33 σ (.done (.exit 8) (EE117 l0 a m b n md (bs (fun c => !ltK (x.getD (q - c) default) (x.getD c default)) f i j) x)) := by
  refine LoopOk.of_levL (γ := { g : Nat × Nat × Nat // i ≤ g.1 ∧ g.1 ≤ g.2.1 ∧ g.2.1 ≤ j ∧ g.2.1 - g.1 ≤ g.2.2 ∧ bs (fun c => !ltK (x.getD (q - c) default) (x.getD c default)) g.2.2 g.1 g.2.1 = bs (fun c => !ltK (x.getD (q - c) default) (x.getD c default)) f i j })
    (fun g => TE117r l0 a m b q n md g.1.1 g.1.2.1 x) finE117 (fun g => IE117 l0 a m b q n md g.1.1 g.1.2.1 x) (fun g => g.1.2.1 - g.1.1) ⟨(i, j, f), Nat.le_refl _, hij, Nat.le_refl _, hf, rfl⟩ (by kernel_rfl) h ?_
  rintro ⟨⟨i', j', f'⟩, q0, q1, q2, q3, q4⟩
  simp only at q0 q1 q2 q3 q4
  simp only []
  have e1 := i64_half (i := i') (j := j') (by omega)
  have e2 : i' < j' → IntKind.i64.wrap ((q : Int) - (((i' + j') / 2 : Nat) : Int)) = ((q - (i' + j') / 2 : Nat) : Int) := fun h => i64_sub (by omega) (by omega)
  rw [tE117r]
  simp only [e1, Int.toNat_natCast]
  refine ⟨fun h1 => ?_, fun h1 => ?_⟩
  · have hlt : i' < j' := by simp at h1; omega
    simp only [e2 hlt, Int.toNat_natCast]
    cases f' with
    | zero => omega
    | succ f' =>
      rw [bs, if_pos hlt] at q4
      refine ⟨by omega, fun _ => ⟨⟨by omega, by omega⟩, fun _ => ⟨getD_map _ _ _ _ (by omega), fun _ => ⟨⟨by omega, by omega⟩, fun _ => ⟨getD_map _ _ _ _ (by omega), fun _ => ⟨⟨ILeL.refl _, c41 _ _⟩, fun _ => ⟨fun h2 => ?_, fun h2 => ?_⟩⟩⟩⟩⟩⟩⟩
      · rw [if_pos (show (!ltK _ _) = true from h2)] at q4
        refine ⟨⟨((i' + j') / 2 + 1, j', f'), by simp only; omega, by simp only; omega, by simp only; omega, by simp only; omega, q4⟩, by simp only; omega, ⟨rfl, rfl, ?_, rfl, rfl, rfl, rfl, rfl, rfl, rfl, trivial⟩, ⟨rfl, trivial⟩, rfl, rfl, rfl⟩
        exact congrArg (fun n => AVal.imm (i64 n)) (i64_succ (by omega))
      · rw [if_neg (fun hc => by rw [show (!ltK _ _) = false from h2] at hc; cases hc)] at q4
        exact ⟨⟨(i', (i' + j') / 2, f'), q0, by simp only; omega, by simp only; omega, by simp only; omega, q4⟩, by simp only; omega, ⟨rfl, rfl, rfl, rfl, rfl, rfl, rfl, rfl, rfl, rfl, trivial⟩, ⟨rfl, trivial⟩, rfl, rfl, rfl⟩
  · have hge : ¬ i' < j' := by simp at h1; omega
    have : bs (fun c => !ltK (x.getD (q - c) default) (x.getD c default)) f' i' j' = i' := by
      cases f' with
      | zero => rfl
      | succ f' => rw [bs, if_neg hge]
    rw [this] at q4
    rw [← q4]
    exact ⟨rfl, ⟨rfl, rfl, rfl, rfl, rfl, rfl, rfl, rfl, trivial⟩, ⟨rfl, trivial⟩, rfl, rfl, rfl⟩
theorem lB117 (l0 : Abs.Loc) (a i : Nat) (l : List RKey) (ha : a < i) (hi : i ≤ l.length) (hl : l.length ≤ 2 ^ 61) (σ : LState) (h : LSub σ (IB117 l0 a i l)) : LoopOk prog [] (bodyOf Proofs.Try.f117) 9 σ (.done (.exit 2) (ER117 l0 (bubU a l (i - 1 - a)))) := by
  refine LoopOk.count (i - 1 - a) 2 (fun n => IB117 l0 (a + n) i (bubU a l n)) (ER117 l0 (bubU a l (i - 1 - a))) (fun n => TB117r l0 (a + n) i (bubU a l n)) finB117 (by kernel_rfl) h fun n hn => ?_
  have e1 : IntKind.i64.wrap ((i : Int) - 1) = ((i - 1 : Nat) : Int) := by rw [IntWalk.i64_in _ (by omega)]; omega
  have e2 : IntKind.i64.wrap (((a + n : Nat) : Int) + 1) = ((a + n + 1 : Nat) : Int) := by rw [IntWalk.i64_in _ (by omega)]; omega
  rw [tB117r]
  simp only [e1, e2, Int.toNat_natCast]
  refine ⟨fun h1 => ?_, fun h1 => ?_⟩
  · have hlt : a + n < i - 1 := by simp at h1; omega
    have hlen := (bubU_spec a l n (by omega)).1.len
    have g1 : a + n < (bubU a l n).length := by omega
    have g2 : a + n + 1 < (bubU a l n).length := by omega
    refine ⟨⟨by omega, g2⟩, fun _ => ⟨getD_map _ _ _ _ g2, fun _ => ⟨⟨by omega, g1⟩, fun _ => ⟨getD_map _ _ _ _ g1, fun _ => ⟨⟨by omega, g1⟩, fun _ => ⟨by simpa using g1, fun _ => ⟨⟨by omega, g2⟩, fun _ => ⟨by simpa using g2, fun _ => ?_⟩⟩⟩⟩⟩⟩⟩⟩
    refine ⟨by omega, ⟨rfl, rfl, congrArg (AVal.own 0) (by rw [bubU, swp_length]), trivial⟩, ⟨?_, trivial⟩, rfl, rfl, rfl⟩
    refine congrArg (fun l => some (Entry.brow l0 53 18 l)) ?_
    simp only [bubU, swp, List.map_set]
  · have : n = i - 1 - a := by simp at h1; omega
    subst this
    exact ⟨rfl, by omega, ⟨trivial, ⟨rfl, trivial⟩, rfl, rfl, rfl⟩⟩
theorem lD117 (l0 : Abs.Loc) (m i : Nat) (l : List RKey) (hm : m < l.length) (hi : i ≤ m) (hl : l.length ≤ 2 ^ 61) (σ : LState) (h : LSub σ (ID117 l0 m i l)) : LoopOk prog [] (bodyOf Proofs.Try.f117) 21 σ (.done (.exit 6) (ER117 l0 (bubD m l (m - i)))) := by
  refine LoopOk.count (m - i) 6 (fun n => ID117 l0 (m - n) i (bubD m l n)) (ER117 l0 (bubD m l (m - i))) (fun n => TD117r l0 (m - n) i (bubD m l n)) finD117 (by kernel_rfl) h fun n hn => ?_
  rw [tD117r]
  refine ⟨fun h1 => ?_, fun h1 => ?_⟩
  · have hlt : i < m - n := by simp at h1; omega
    have e1 : IntKind.i64.wrap (((m - n : Nat) : Int) - 1) = ((m - n - 1 : Nat) : Int) := by rw [IntWalk.i64_in _ (by omega)]; omega
    simp only [e1, Int.toNat_natCast]
    have hlen := (bubD_spec m l hm n (by omega)).1.len
    have g1 : m - n < (bubD m l n).length := by omega
    have g2 : m - n - 1 < (bubD m l n).length := by omega
    refine ⟨⟨by omega, g2⟩, fun _ => ⟨getD_map _ _ _ _ g2, fun _ => ⟨⟨by omega, g1⟩, fun _ => ⟨getD_map _ _ _ _ g1, fun _ => ⟨⟨by omega, g1⟩, fun _ => ⟨by simpa using g1, fun _ => ⟨⟨by omega, g2⟩, fun _ => ⟨by simpa using g2, fun _ => ?_⟩⟩⟩⟩⟩⟩⟩⟩
    refine ⟨by omega, ⟨rfl, rfl, congrArg (AVal.own 0) (by rw [bubD, swp_length]), trivial⟩, ⟨?_, trivial⟩, rfl, rfl, rfl⟩
    refine congrArg (fun l => some (Entry.brow l0 53 18 l)) ?_
    simp only [bubD, swp, List.map_set]
  · have : n = m - i := by simp at h1; omega
    subst this
    exact ⟨rfl, by omega, ⟨trivial, ⟨rfl, trivial⟩, rfl, rfl, rfl⟩⟩

def s117 (l : List RKey) (a m b : Int) : Prop := WSpec prog 117 53 18 (l.map encK) [i64 a, i64 m, i64 b, fnV 41] (.tup []) ((symF ltK a.toNat m.toNat b.toNat l).map encK)
def P117 (l0 : Abs.Loc) (a m b i1 i2 n md s : Nat) (l y1 y2 : List RKey) : Nat → Tree := fun k => match k with | 3 => .done (.exit 0) (EA117 l0 a i1 l) | 9 => .done (.exit 2) (ER117 l0 y1) | 15 => .done (.exit 4) (EC117 l0 m i2 l) | 21 => .done (.exit 6) (ER117 l0 y2) | _ => .done (.exit 8) (EE117 l0 a m b n md s l)
def R117 (a s md b n m : Nat) (l : List RKey) : List RKey := if a < s ∧ s < md then symF ltK a s md (symR m s (n - s) l) else symR m s (n - s) l
def B117 (l0 : Abs.Loc) (a m b i1 i2 n md s : Nat) (l y1 y2 : List RKey) : Tell := { Lp := P117 l0 a m b i1 i2 n md s l y1 y2, O := fun r i => match r, i with | 44, 5 => .callw [i64 md, i64 (n - s : Nat), i64 b, fnV 41] (.tup []) ((symF ltK md (n - s) b (R117 a s md b n m l)).map encK) | _, _ => .no, lv := fun k => match k with | 3 => ([11, 10, 4, 1, 0], [0]) | 9 => ([13, 10, 0], [0]) | 15 => ([15, 14, 4, 2, 0], [0]) | 21 => ([17, 14, 0], [0]) | _ => ([22, 21, 20, 19, 18, 4, 3, 2, 1, 0], [0]) }
def T117 (l0 : Abs.Loc) (a m b i1 i2 n md s : Nat) (l y1 y2 : List RKey) : Tell :=
  Tell.mk (fun x x_1 => false)
  (fun r i =>
  match r, i with
  | 44, 5 => Orc.callw [i64 (↑md : Int), i64 (↑(n - s) : Int), i64 (↑b : Int), fnV 41] (IVal.tup []) (List.map encK (symF ltK md (n - s) b (R117 a s md b n m l)))
  | x, x_1 => Orc.no)
  (P117 l0 a m b i1 i2 n md s l y1 y2) (fun x => 0)
  (fun k =>
  match k with
  | 3 => ([11, 10, 4, 1, 0], [0])
  | 9 => ([13, 10, 0], [0])
  | 15 => ([15, 14, 4, 2, 0], [0])
  | 21 => ([17, 14, 0], [0])
  | x => ([22, 21, 20, 19, 18, 4, 3, 2, 1, 0], [0]))
  (ogetO
  (fun r i =>
  match r, i with
  | 44, 5 => Orc.callw [i64 (↑md : Int), i64 (↑(n - s) : Int), i64 (↑b : Int), fnV 41] (IVal.tup []) (List.map encK (symF ltK md (n - s) b (R117 a s md b n m l)))
  | x, x_1 => Orc.no)
  [(13, 40, 5,
  Orc.callw [i64 (↑s : Int), i64 (↑m : Int), i64 (IntKind.wrap IntKind.i64 ((↑n : Int) - (↑s : Int))), fnV 41] (IVal.tup [])
  (List.map encK
  (rot (Int.toNat (↑m : Int)) (Int.toNat (IntKind.wrap IntKind.i64 ((↑n : Int) - (↑s : Int))) - Int.toNat (↑s : Int)) (Int.toNat (↑m : Int) - Int.toNat (↑s : Int))
  (Int.toNat (IntKind.wrap IntKind.i64 ((↑n : Int) - (↑s : Int))) - Int.toNat (↑m : Int)) l))),
  (21, 42, 5, Orc.callw [i64 (↑a : Int), i64 (↑s : Int), i64 (↑md : Int), fnV 41] (IVal.tup []) (List.map encK (symF ltK (Int.toNat (↑a : Int)) (Int.toNat (↑s : Int)) (Int.toNat (↑md : Int)) l))),
  (27, 42, 5,
  Orc.callw [i64 (↑a : Int), i64 (↑s : Int), i64 (↑md : Int), fnV 41] (IVal.tup [])
  (List.map encK
  (symF ltK (Int.toNat (↑a : Int)) (Int.toNat (↑s : Int)) (Int.toNat (↑md : Int))
  (rot m (Int.toNat (IntKind.wrap IntKind.i64 ((↑n : Int) - (↑s : Int))) - s) (m - s) (Int.toNat (IntKind.wrap IntKind.i64 ((↑n : Int) - (↑s : Int))) - m) l))))])
  fun x => P117 l0 a m b i1 i2 n md s l y1 y2
theorem t117 (l0 : Abs.Loc) (a m b i1 i2 n md s : Nat) (l y1 y2 : List RKey) : levW prog Proofs.Try.f117 l0 53 18 (l.map encK) [i64 a, i64 m, i64 b, fnV 41] (T117 l0 a m b i1 i2 n md s l y1 y2) =
  Tree.br (decide (IntKind.wrap IntKind.i64 ((↑m : Int) - (↑a : Int)) = (1 : Int)))
  (Tree.loop 3
  (LState.mk
  [(11, AVal.imm (i64 (↑b : Int))), (10, AVal.imm (i64 (↑m : Int))), (4, AVal.imm (fnV 41)), (1, AVal.imm (i64 (↑a : Int))), (0, AVal.own 0 (List.length (List.map encK l)))]
  [(0, Entry.brow l0 53 18 (List.map encK l))] 220 9 [])
  (Tree.done (Exit.exit 0) (EA117 l0 a i1 l))
  (Tree.loop 9
  (LState.mk [(13, AVal.imm (i64 (↑a : Int))), (10, AVal.imm (i64 (↑i1 : Int))), (0, AVal.own 0 (List.length l))] [(0, Entry.brow l0 53 18 (List.map encK l))] 220 3
  [])
  (Tree.done (Exit.exit 2) (ER117 l0 y1)) (Tree.need (eqs []) (Tree.done Exit.ret (lretW l0 53 18 (IVal.tup []) (List.map encK y1))))))
  (Tree.br (decide (IntKind.wrap IntKind.i64 ((↑b : Int) - (↑m : Int)) = (1 : Int)))
  (Tree.loop 15
  (LState.mk
  [(15, AVal.imm (i64 (↑m : Int))), (14, AVal.imm (i64 (↑a : Int))), (4, AVal.imm (fnV 41)), (2, AVal.imm (i64 (↑m : Int))), (0, AVal.own 0 (List.length (List.map encK l)))]
  [(0, Entry.brow l0 53 18 (List.map encK l))] 220 13 [])
  (Tree.done (Exit.exit 4) (EC117 l0 m i2 l))
  (Tree.loop 21
  (LState.mk [(17, AVal.imm (i64 (↑m : Int))), (14, AVal.imm (i64 (↑i2 : Int))), (0, AVal.own 0 (List.length l))] [(0, Entry.brow l0 53 18 (List.map encK l))] 220
  3 [])
  (Tree.done (Exit.exit 6) (ER117 l0 y2)) (Tree.need (eqs []) (Tree.done Exit.ret (lretW l0 53 18 (IVal.tup []) (List.map encK y2))))))
  (Tree.need ((0 : Int) ≤ (1 : Int))
  (Tree.br (decide (IntKind.wrap IntKind.i64 (Int.fdiv (IntKind.wrap IntKind.u64 (IntKind.wrap IntKind.i64 ((↑a : Int) + (↑b : Int)))) (2 : Int)) < (↑m : Int)))
  (Tree.loop 33
  (LState.mk
  [(22,
  AVal.imm
  (IVal.v
  (Value.int IntKind.i64
  (IntKind.wrap IntKind.i64 (IntKind.wrap IntKind.i64 (IntKind.wrap IntKind.i64 (Int.fdiv (IntKind.wrap IntKind.u64 (IntKind.wrap IntKind.i64 ((↑a : Int) + (↑b : Int)))) (2 : Int)) + (↑m : Int)) - (1 : Int)))))),
  (21, AVal.imm (IVal.v (Value.int IntKind.i64 (IntKind.wrap IntKind.i64 (Int.fdiv (IntKind.wrap IntKind.u64 (IntKind.wrap IntKind.i64 ((↑a : Int) + (↑b : Int)))) (2 : Int)))))),
  (20,
  AVal.imm
  (IVal.v
  (Value.int IntKind.i64
  (IntKind.wrap IntKind.i64 (IntKind.wrap IntKind.i64 (IntKind.wrap IntKind.i64 (Int.fdiv (IntKind.wrap IntKind.u64 (IntKind.wrap IntKind.i64 ((↑a : Int) + (↑b : Int)))) (2 : Int)) + (↑m : Int)) - (↑b : Int)))))),
  (19, AVal.imm (IVal.v (Value.int IntKind.i64 (IntKind.wrap IntKind.i64 (IntKind.wrap IntKind.i64 (Int.fdiv (IntKind.wrap IntKind.u64 (IntKind.wrap IntKind.i64 ((↑a : Int) + (↑b : Int)))) (2 : Int)) + (↑m : Int)))))),
  (18, AVal.imm (IVal.v (Value.int IntKind.i64 (IntKind.wrap IntKind.i64 (Int.fdiv (IntKind.wrap IntKind.u64 (IntKind.wrap IntKind.i64 ((↑a : Int) + (↑b : Int)))) (2 : Int)))))), (4, AVal.imm (fnV 41)),
  (3, AVal.imm (i64 (↑b : Int))), (2, AVal.imm (i64 (↑m : Int))), (1, AVal.imm (i64 (↑a : Int))), (0, AVal.own 0 (List.length (List.map encK l)))]
  [(0, Entry.brow l0 53 18 (List.map encK l))] 220 34 [])
  (Tree.done (Exit.exit 8) (EE117 l0 a m b n md s l))
  (Tree.br (decide ((↑s : Int) < (↑m : Int)))
  (Tree.br (decide ((↑m : Int) < IntKind.wrap IntKind.i64 ((↑n : Int) - (↑s : Int))))
  (Tree.need
  (List.length (List.map encK l) = List.length l ∧
  ILeL [i64 (↑s : Int), i64 (↑m : Int), IVal.v (Value.int IntKind.i64 (IntKind.wrap IntKind.i64 ((↑n : Int) - (↑s : Int)))), fnV 41]
  [i64 (↑s : Int), i64 (↑m : Int), i64 (IntKind.wrap IntKind.i64 ((↑n : Int) - (↑s : Int))), fnV 41] ∧
  WSpec prog 120 53 18 (List.map encK l) [i64 (↑s : Int), i64 (↑m : Int), i64 (IntKind.wrap IntKind.i64 ((↑n : Int) - (↑s : Int))), fnV 41] (IVal.tup [])
  (List.map encK (rot m (Int.toNat (IntKind.wrap IntKind.i64 ((↑n : Int) - (↑s : Int))) - s) (m - s) (Int.toNat (IntKind.wrap IntKind.i64 ((↑n : Int) - (↑s : Int))) - m) l)))
  (Tree.br (decide ((↑a : Int) < (↑s : Int)))
  (Tree.br (decide ((↑s : Int) < (↑md : Int)))
  (Tree.need
  (List.length (List.map encK (rot m (Int.toNat (IntKind.wrap IntKind.i64 ((↑n : Int) - (↑s : Int))) - s) (m - s) (Int.toNat (IntKind.wrap IntKind.i64 ((↑n : Int) - (↑s : Int))) - m) l)) = List.length l ∧
  ILeL [i64 (↑a : Int), i64 (↑s : Int), i64 (↑md : Int), fnV 41] [i64 (↑a : Int), i64 (↑s : Int), i64 (↑md : Int), fnV 41] ∧
  WSpec prog 117 53 18
  (List.map encK (rot m (Int.toNat (IntKind.wrap IntKind.i64 ((↑n : Int) - (↑s : Int))) - s) (m - s) (Int.toNat (IntKind.wrap IntKind.i64 ((↑n : Int) - (↑s : Int))) - m) l))
  [i64 (↑a : Int), i64 (↑s : Int), i64 (↑md : Int), fnV 41] (IVal.tup [])
  (List.map encK (symF ltK a s md (rot m (Int.toNat (IntKind.wrap IntKind.i64 ((↑n : Int) - (↑s : Int))) - s) (m - s) (Int.toNat (IntKind.wrap IntKind.i64 ((↑n : Int) - (↑s : Int))) - m) l))))
  (Tree.br (decide ((↑md : Int) < IntKind.wrap IntKind.i64 ((↑n : Int) - (↑s : Int))))
  (Tree.br (decide (IntKind.wrap IntKind.i64 ((↑n : Int) - (↑s : Int)) < (↑b : Int)))
  (Tree.need
  (List.length (List.map encK (symF ltK a s md (rot m (Int.toNat (IntKind.wrap IntKind.i64 ((↑n : Int) - (↑s : Int))) - s) (m - s) (Int.toNat (IntKind.wrap IntKind.i64 ((↑n : Int) - (↑s : Int))) - m) l))) =
  List.length l ∧
  ILeL [i64 (↑md : Int), IVal.v (Value.int IntKind.i64 (IntKind.wrap IntKind.i64 ((↑n : Int) - (↑s : Int)))), i64 (↑b : Int), fnV 41]
  [i64 (↑md : Int), i64 (↑(n - s) : Int), i64 (↑b : Int), fnV 41] ∧
  WSpec prog 117 53 18
  (List.map encK (symF ltK a s md (rot m (Int.toNat (IntKind.wrap IntKind.i64 ((↑n : Int) - (↑s : Int))) - s) (m - s) (Int.toNat (IntKind.wrap IntKind.i64 ((↑n : Int) - (↑s : Int))) - m) l)))
  [i64 (↑md : Int), i64 (↑(n - s) : Int), i64 (↑b : Int), fnV 41] (IVal.tup []) (List.map encK (symF ltK md (n - s) b (R117 a s md b n m l))))
  (Tree.need (eqs []) (Tree.done Exit.ret (lretW l0 53 18 (IVal.tup []) (List.map encK (symF ltK md (n - s) b (R117 a s md b n m l)))))))
  (Tree.need (eqs [])
  (Tree.done Exit.ret
  (lretW l0 53 18 (IVal.tup [])
  (List.map encK (symF ltK a s md (rot m (Int.toNat (IntKind.wrap IntKind.i64 ((↑n : Int) - (↑s : Int))) - s) (m - s) (Int.toNat (IntKind.wrap IntKind.i64 ((↑n : Int) - (↑s : Int))) - m) l)))))))
  (Tree.need (eqs [])
  (Tree.done Exit.ret
  (lretW l0 53 18 (IVal.tup [])
  (List.map encK (symF ltK a s md (rot m (Int.toNat (IntKind.wrap IntKind.i64 ((↑n : Int) - (↑s : Int))) - s) (m - s) (Int.toNat (IntKind.wrap IntKind.i64 ((↑n : Int) - (↑s : Int))) - m) l))))))))
  (Tree.br (decide ((↑md : Int) < IntKind.wrap IntKind.i64 ((↑n : Int) - (↑s : Int))))
  (Tree.br (decide (IntKind.wrap IntKind.i64 ((↑n : Int) - (↑s : Int)) < (↑b : Int)))
  (Tree.need
  (List.length (List.map encK (rot m (Int.toNat (IntKind.wrap IntKind.i64 ((↑n : Int) - (↑s : Int))) - s) (m - s) (Int.toNat (IntKind.wrap IntKind.i64 ((↑n : Int) - (↑s : Int))) - m) l)) = List.length l ∧
  ILeL [i64 (↑md : Int), IVal.v (Value.int IntKind.i64 (IntKind.wrap IntKind.i64 ((↑n : Int) - (↑s : Int)))), i64 (↑b : Int), fnV 41]
  [i64 (↑md : Int), i64 (↑(n - s) : Int), i64 (↑b : Int), fnV 41] ∧
  WSpec prog 117 53 18
  (List.map encK (rot m (Int.toNat (IntKind.wrap IntKind.i64 ((↑n : Int) - (↑s : Int))) - s) (m - s) (Int.toNat (IntKind.wrap IntKind.i64 ((↑n : Int) - (↑s : Int))) - m) l))
  [i64 (↑md : Int), i64 (↑(n - s) : Int), i64 (↑b : Int), fnV 41] (IVal.tup []) (List.map encK (symF ltK md (n - s) b (R117 a s md b n m l))))
  (Tree.need (eqs []) (Tree.done Exit.ret (lretW l0 53 18 (IVal.tup []) (List.map encK (symF ltK md (n - s) b (R117 a s md b n m l)))))))
  (Tree.need (eqs [])
  (Tree.done Exit.ret
  (lretW l0 53 18 (IVal.tup [])
  (List.map encK (rot m (Int.toNat (IntKind.wrap IntKind.i64 ((↑n : Int) - (↑s : Int))) - s) (m - s) (Int.toNat (IntKind.wrap IntKind.i64 ((↑n : Int) - (↑s : Int))) - m) l))))))
  (Tree.need (eqs [])
  (Tree.done Exit.ret
  (lretW l0 53 18 (IVal.tup [])
  (List.map encK (rot m (Int.toNat (IntKind.wrap IntKind.i64 ((↑n : Int) - (↑s : Int))) - s) (m - s) (Int.toNat (IntKind.wrap IntKind.i64 ((↑n : Int) - (↑s : Int))) - m) l)))))))
  (Tree.br (decide ((↑md : Int) < IntKind.wrap IntKind.i64 ((↑n : Int) - (↑s : Int))))
  (Tree.br (decide (IntKind.wrap IntKind.i64 ((↑n : Int) - (↑s : Int)) < (↑b : Int)))
  (Tree.need
  (List.length (List.map encK (rot m (Int.toNat (IntKind.wrap IntKind.i64 ((↑n : Int) - (↑s : Int))) - s) (m - s) (Int.toNat (IntKind.wrap IntKind.i64 ((↑n : Int) - (↑s : Int))) - m) l)) = List.length l ∧
  ILeL [i64 (↑md : Int), IVal.v (Value.int IntKind.i64 (IntKind.wrap IntKind.i64 ((↑n : Int) - (↑s : Int)))), i64 (↑b : Int), fnV 41] [i64 (↑md : Int), i64 (↑(n - s) : Int), i64 (↑b : Int), fnV 41] ∧
  WSpec prog 117 53 18
  (List.map encK (rot m (Int.toNat (IntKind.wrap IntKind.i64 ((↑n : Int) - (↑s : Int))) - s) (m - s) (Int.toNat (IntKind.wrap IntKind.i64 ((↑n : Int) - (↑s : Int))) - m) l))
  [i64 (↑md : Int), i64 (↑(n - s) : Int), i64 (↑b : Int), fnV 41] (IVal.tup []) (List.map encK (symF ltK md (n - s) b (R117 a s md b n m l))))
  (Tree.need (eqs []) (Tree.done Exit.ret (lretW l0 53 18 (IVal.tup []) (List.map encK (symF ltK md (n - s) b (R117 a s md b n m l)))))))
  (Tree.need (eqs [])
  (Tree.done Exit.ret
  (lretW l0 53 18 (IVal.tup [])
  (List.map encK (rot m (Int.toNat (IntKind.wrap IntKind.i64 ((↑n : Int) - (↑s : Int))) - s) (m - s) (Int.toNat (IntKind.wrap IntKind.i64 ((↑n : Int) - (↑s : Int))) - m) l))))))
  (Tree.need (eqs [])
  (Tree.done Exit.ret
  (lretW l0 53 18 (IVal.tup [])
  (List.map encK (rot m (Int.toNat (IntKind.wrap IntKind.i64 ((↑n : Int) - (↑s : Int))) - s) (m - s) (Int.toNat (IntKind.wrap IntKind.i64 ((↑n : Int) - (↑s : Int))) - m) l))))))))
  (Tree.br (decide ((↑a : Int) < (↑s : Int)))
  (Tree.br (decide ((↑s : Int) < (↑md : Int)))
  (Tree.need
  (List.length (List.map encK l) = List.length l ∧
  ILeL [i64 (↑a : Int), i64 (↑s : Int), i64 (↑md : Int), fnV 41] [i64 (↑a : Int), i64 (↑s : Int), i64 (↑md : Int), fnV 41] ∧
  WSpec prog 117 53 18 (List.map encK l) [i64 (↑a : Int), i64 (↑s : Int), i64 (↑md : Int), fnV 41] (IVal.tup []) (List.map encK (symF ltK a s md l)))
  (Tree.br (decide ((↑md : Int) < IntKind.wrap IntKind.i64 ((↑n : Int) - (↑s : Int))))
  (Tree.br (decide (IntKind.wrap IntKind.i64 ((↑n : Int) - (↑s : Int)) < (↑b : Int)))
  (Tree.need
  (List.length (List.map encK (symF ltK a s md l)) = List.length l ∧
  ILeL [i64 (↑md : Int), IVal.v (Value.int IntKind.i64 (IntKind.wrap IntKind.i64 ((↑n : Int) - (↑s : Int)))), i64 (↑b : Int), fnV 41]
  [i64 (↑md : Int), i64 (↑(n - s) : Int), i64 (↑b : Int), fnV 41] ∧
  WSpec prog 117 53 18 (List.map encK (symF ltK a s md l)) [i64 (↑md : Int), i64 (↑(n - s) : Int), i64 (↑b : Int), fnV 41] (IVal.tup [])
  (List.map encK (symF ltK md (n - s) b (R117 a s md b n m l))))
  (Tree.need (eqs []) (Tree.done Exit.ret (lretW l0 53 18 (IVal.tup []) (List.map encK (symF ltK md (n - s) b (R117 a s md b n m l)))))))
  (Tree.need (eqs []) (Tree.done Exit.ret (lretW l0 53 18 (IVal.tup []) (List.map encK (symF ltK a s md l))))))
  (Tree.need (eqs []) (Tree.done Exit.ret (lretW l0 53 18 (IVal.tup []) (List.map encK (symF ltK a s md l)))))))
  (Tree.br (decide ((↑md : Int) < IntKind.wrap IntKind.i64 ((↑n : Int) - (↑s : Int))))
  (Tree.br (decide (IntKind.wrap IntKind.i64 ((↑n : Int) - (↑s : Int)) < (↑b : Int)))
  (Tree.need
  (List.length (List.map encK l) = List.length l ∧
  ILeL [i64 (↑md : Int), IVal.v (Value.int IntKind.i64 (IntKind.wrap IntKind.i64 ((↑n : Int) - (↑s : Int)))), i64 (↑b : Int), fnV 41] [i64 (↑md : Int), i64 (↑(n - s) : Int), i64 (↑b : Int), fnV 41] ∧
  WSpec prog 117 53 18 (List.map encK l) [i64 (↑md : Int), i64 (↑(n - s) : Int), i64 (↑b : Int), fnV 41] (IVal.tup []) (List.map encK (symF ltK md (n - s) b (R117 a s md b n m l))))
  (Tree.need (eqs []) (Tree.done Exit.ret (lretW l0 53 18 (IVal.tup []) (List.map encK (symF ltK md (n - s) b (R117 a s md b n m l)))))))
  (Tree.need (eqs []) (Tree.done Exit.ret (lretW l0 53 18 (IVal.tup []) (List.map encK l)))))
  (Tree.need (eqs []) (Tree.done Exit.ret (lretW l0 53 18 (IVal.tup []) (List.map encK l))))))
  (Tree.br (decide ((↑md : Int) < IntKind.wrap IntKind.i64 ((↑n : Int) - (↑s : Int))))
  (Tree.br (decide (IntKind.wrap IntKind.i64 ((↑n : Int) - (↑s : Int)) < (↑b : Int)))
  (Tree.need
  (List.length (List.map encK l) = List.length l ∧
  ILeL [i64 (↑md : Int), IVal.v (Value.int IntKind.i64 (IntKind.wrap IntKind.i64 ((↑n : Int) - (↑s : Int)))), i64 (↑b : Int), fnV 41] [i64 (↑md : Int), i64 (↑(n - s) : Int), i64 (↑b : Int), fnV 41] ∧
  WSpec prog 117 53 18 (List.map encK l) [i64 (↑md : Int), i64 (↑(n - s) : Int), i64 (↑b : Int), fnV 41] (IVal.tup []) (List.map encK (symF ltK md (n - s) b (R117 a s md b n m l))))
  (Tree.need (eqs []) (Tree.done Exit.ret (lretW l0 53 18 (IVal.tup []) (List.map encK (symF ltK md (n - s) b (R117 a s md b n m l)))))))
  (Tree.need (eqs []) (Tree.done Exit.ret (lretW l0 53 18 (IVal.tup []) (List.map encK l)))))
  (Tree.need (eqs []) (Tree.done Exit.ret (lretW l0 53 18 (IVal.tup []) (List.map encK l)))))))
  (Tree.br (decide ((↑a : Int) < (↑s : Int)))
  (Tree.br (decide ((↑s : Int) < (↑md : Int)))
  (Tree.need
  (List.length (List.map encK l) = List.length l ∧
  ILeL [i64 (↑a : Int), i64 (↑s : Int), i64 (↑md : Int), fnV 41] [i64 (↑a : Int), i64 (↑s : Int), i64 (↑md : Int), fnV 41] ∧
  WSpec prog 117 53 18 (List.map encK l) [i64 (↑a : Int), i64 (↑s : Int), i64 (↑md : Int), fnV 41] (IVal.tup []) (List.map encK (symF ltK a s md l)))
  (Tree.br (decide ((↑md : Int) < IntKind.wrap IntKind.i64 ((↑n : Int) - (↑s : Int))))
  (Tree.br (decide (IntKind.wrap IntKind.i64 ((↑n : Int) - (↑s : Int)) < (↑b : Int)))
  (Tree.need
  (List.length (List.map encK (symF ltK a s md l)) = List.length l ∧
  ILeL [i64 (↑md : Int), IVal.v (Value.int IntKind.i64 (IntKind.wrap IntKind.i64 ((↑n : Int) - (↑s : Int)))), i64 (↑b : Int), fnV 41] [i64 (↑md : Int), i64 (↑(n - s) : Int), i64 (↑b : Int), fnV 41] ∧
  WSpec prog 117 53 18 (List.map encK (symF ltK a s md l)) [i64 (↑md : Int), i64 (↑(n - s) : Int), i64 (↑b : Int), fnV 41] (IVal.tup [])
  (List.map encK (symF ltK md (n - s) b (R117 a s md b n m l))))
  (Tree.need (eqs []) (Tree.done Exit.ret (lretW l0 53 18 (IVal.tup []) (List.map encK (symF ltK md (n - s) b (R117 a s md b n m l)))))))
  (Tree.need (eqs []) (Tree.done Exit.ret (lretW l0 53 18 (IVal.tup []) (List.map encK (symF ltK a s md l))))))
  (Tree.need (eqs []) (Tree.done Exit.ret (lretW l0 53 18 (IVal.tup []) (List.map encK (symF ltK a s md l)))))))
  (Tree.br (decide ((↑md : Int) < IntKind.wrap IntKind.i64 ((↑n : Int) - (↑s : Int))))
  (Tree.br (decide (IntKind.wrap IntKind.i64 ((↑n : Int) - (↑s : Int)) < (↑b : Int)))
  (Tree.need
  (List.length (List.map encK l) = List.length l ∧
  ILeL [i64 (↑md : Int), IVal.v (Value.int IntKind.i64 (IntKind.wrap IntKind.i64 ((↑n : Int) - (↑s : Int)))), i64 (↑b : Int), fnV 41] [i64 (↑md : Int), i64 (↑(n - s) : Int), i64 (↑b : Int), fnV 41] ∧
  WSpec prog 117 53 18 (List.map encK l) [i64 (↑md : Int), i64 (↑(n - s) : Int), i64 (↑b : Int), fnV 41] (IVal.tup []) (List.map encK (symF ltK md (n - s) b (R117 a s md b n m l))))
  (Tree.need (eqs []) (Tree.done Exit.ret (lretW l0 53 18 (IVal.tup []) (List.map encK (symF ltK md (n - s) b (R117 a s md b n m l)))))))
  (Tree.need (eqs []) (Tree.done Exit.ret (lretW l0 53 18 (IVal.tup []) (List.map encK l)))))
  (Tree.need (eqs []) (Tree.done Exit.ret (lretW l0 53 18 (IVal.tup []) (List.map encK l))))))
  (Tree.br (decide ((↑md : Int) < IntKind.wrap IntKind.i64 ((↑n : Int) - (↑s : Int))))
  (Tree.br (decide (IntKind.wrap IntKind.i64 ((↑n : Int) - (↑s : Int)) < (↑b : Int)))
  (Tree.need
  (List.length (List.map encK l) = List.length l ∧
  ILeL [i64 (↑md : Int), IVal.v (Value.int IntKind.i64 (IntKind.wrap IntKind.i64 ((↑n : Int) - (↑s : Int)))), i64 (↑b : Int), fnV 41] [i64 (↑md : Int), i64 (↑(n - s) : Int), i64 (↑b : Int), fnV 41] ∧
  WSpec prog 117 53 18 (List.map encK l) [i64 (↑md : Int), i64 (↑(n - s) : Int), i64 (↑b : Int), fnV 41] (IVal.tup []) (List.map encK (symF ltK md (n - s) b (R117 a s md b n m l))))
  (Tree.need (eqs []) (Tree.done Exit.ret (lretW l0 53 18 (IVal.tup []) (List.map encK (symF ltK md (n - s) b (R117 a s md b n m l)))))))
  (Tree.need (eqs []) (Tree.done Exit.ret (lretW l0 53 18 (IVal.tup []) (List.map encK l)))))
  (Tree.need (eqs []) (Tree.done Exit.ret (lretW l0 53 18 (IVal.tup []) (List.map encK l))))))))
  (Tree.loop 33
  (LState.mk
  [(22,
  AVal.imm
  (IVal.v
  (Value.int IntKind.i64
  (IntKind.wrap IntKind.i64 (IntKind.wrap IntKind.i64 (IntKind.wrap IntKind.i64 (Int.fdiv (IntKind.wrap IntKind.u64 (IntKind.wrap IntKind.i64 ((↑a : Int) + (↑b : Int)))) (2 : Int)) + (↑m : Int)) - (1 : Int)))))),
  (21, AVal.imm (i64 (↑m : Int))), (20, AVal.imm (i64 (↑a : Int))),
  (19, AVal.imm (IVal.v (Value.int IntKind.i64 (IntKind.wrap IntKind.i64 (IntKind.wrap IntKind.i64 (Int.fdiv (IntKind.wrap IntKind.u64 (IntKind.wrap IntKind.i64 ((↑a : Int) + (↑b : Int)))) (2 : Int)) + (↑m : Int)))))),
  (18, AVal.imm (IVal.v (Value.int IntKind.i64 (IntKind.wrap IntKind.i64 (Int.fdiv (IntKind.wrap IntKind.u64 (IntKind.wrap IntKind.i64 ((↑a : Int) + (↑b : Int)))) (2 : Int)))))), (4, AVal.imm (fnV 41)),
  (3, AVal.imm (i64 (↑b : Int))), (2, AVal.imm (i64 (↑m : Int))), (1, AVal.imm (i64 (↑a : Int))), (0, AVal.own 0 (List.length (List.map encK l)))]
  [(0, Entry.brow l0 53 18 (List.map encK l))] 220 32 [])
  (Tree.done (Exit.exit 8) (EE117 l0 a m b n md s l))
  (Tree.br (decide ((↑s : Int) < (↑m : Int)))
  (Tree.br (decide ((↑m : Int) < IntKind.wrap IntKind.i64 ((↑n : Int) - (↑s : Int))))
  (Tree.need
  (List.length (List.map encK l) = List.length l ∧
  ILeL [i64 (↑s : Int), i64 (↑m : Int), IVal.v (Value.int IntKind.i64 (IntKind.wrap IntKind.i64 ((↑n : Int) - (↑s : Int)))), fnV 41]
  [i64 (↑s : Int), i64 (↑m : Int), i64 (IntKind.wrap IntKind.i64 ((↑n : Int) - (↑s : Int))), fnV 41] ∧
  WSpec prog 120 53 18 (List.map encK l) [i64 (↑s : Int), i64 (↑m : Int), i64 (IntKind.wrap IntKind.i64 ((↑n : Int) - (↑s : Int))), fnV 41] (IVal.tup [])
  (List.map encK (rot m (Int.toNat (IntKind.wrap IntKind.i64 ((↑n : Int) - (↑s : Int))) - s) (m - s) (Int.toNat (IntKind.wrap IntKind.i64 ((↑n : Int) - (↑s : Int))) - m) l)))
  (Tree.br (decide ((↑a : Int) < (↑s : Int)))
  (Tree.br (decide ((↑s : Int) < (↑md : Int)))
  (Tree.need
  (List.length (List.map encK (rot m (Int.toNat (IntKind.wrap IntKind.i64 ((↑n : Int) - (↑s : Int))) - s) (m - s) (Int.toNat (IntKind.wrap IntKind.i64 ((↑n : Int) - (↑s : Int))) - m) l)) = List.length l ∧
  ILeL [i64 (↑a : Int), i64 (↑s : Int), i64 (↑md : Int), fnV 41] [i64 (↑a : Int), i64 (↑s : Int), i64 (↑md : Int), fnV 41] ∧
  WSpec prog 117 53 18
  (List.map encK (rot m (Int.toNat (IntKind.wrap IntKind.i64 ((↑n : Int) - (↑s : Int))) - s) (m - s) (Int.toNat (IntKind.wrap IntKind.i64 ((↑n : Int) - (↑s : Int))) - m) l))
  [i64 (↑a : Int), i64 (↑s : Int), i64 (↑md : Int), fnV 41] (IVal.tup [])
  (List.map encK (symF ltK a s md (rot m (Int.toNat (IntKind.wrap IntKind.i64 ((↑n : Int) - (↑s : Int))) - s) (m - s) (Int.toNat (IntKind.wrap IntKind.i64 ((↑n : Int) - (↑s : Int))) - m) l))))
  (Tree.br (decide ((↑md : Int) < IntKind.wrap IntKind.i64 ((↑n : Int) - (↑s : Int))))
  (Tree.br (decide (IntKind.wrap IntKind.i64 ((↑n : Int) - (↑s : Int)) < (↑b : Int)))
  (Tree.need
  (List.length (List.map encK (symF ltK a s md (rot m (Int.toNat (IntKind.wrap IntKind.i64 ((↑n : Int) - (↑s : Int))) - s) (m - s) (Int.toNat (IntKind.wrap IntKind.i64 ((↑n : Int) - (↑s : Int))) - m) l))) =
  List.length l ∧
  ILeL [i64 (↑md : Int), IVal.v (Value.int IntKind.i64 (IntKind.wrap IntKind.i64 ((↑n : Int) - (↑s : Int)))), i64 (↑b : Int), fnV 41]
  [i64 (↑md : Int), i64 (↑(n - s) : Int), i64 (↑b : Int), fnV 41] ∧
  WSpec prog 117 53 18
  (List.map encK (symF ltK a s md (rot m (Int.toNat (IntKind.wrap IntKind.i64 ((↑n : Int) - (↑s : Int))) - s) (m - s) (Int.toNat (IntKind.wrap IntKind.i64 ((↑n : Int) - (↑s : Int))) - m) l)))
  [i64 (↑md : Int), i64 (↑(n - s) : Int), i64 (↑b : Int), fnV 41] (IVal.tup []) (List.map encK (symF ltK md (n - s) b (R117 a s md b n m l))))
  (Tree.need (eqs []) (Tree.done Exit.ret (lretW l0 53 18 (IVal.tup []) (List.map encK (symF ltK md (n - s) b (R117 a s md b n m l)))))))
  (Tree.need (eqs [])
  (Tree.done Exit.ret
  (lretW l0 53 18 (IVal.tup [])
  (List.map encK (symF ltK a s md (rot m (Int.toNat (IntKind.wrap IntKind.i64 ((↑n : Int) - (↑s : Int))) - s) (m - s) (Int.toNat (IntKind.wrap IntKind.i64 ((↑n : Int) - (↑s : Int))) - m) l)))))))
  (Tree.need (eqs [])
  (Tree.done Exit.ret
  (lretW l0 53 18 (IVal.tup [])
  (List.map encK (symF ltK a s md (rot m (Int.toNat (IntKind.wrap IntKind.i64 ((↑n : Int) - (↑s : Int))) - s) (m - s) (Int.toNat (IntKind.wrap IntKind.i64 ((↑n : Int) - (↑s : Int))) - m) l))))))))
  (Tree.br (decide ((↑md : Int) < IntKind.wrap IntKind.i64 ((↑n : Int) - (↑s : Int))))
  (Tree.br (decide (IntKind.wrap IntKind.i64 ((↑n : Int) - (↑s : Int)) < (↑b : Int)))
  (Tree.need
  (List.length (List.map encK (rot m (Int.toNat (IntKind.wrap IntKind.i64 ((↑n : Int) - (↑s : Int))) - s) (m - s) (Int.toNat (IntKind.wrap IntKind.i64 ((↑n : Int) - (↑s : Int))) - m) l)) = List.length l ∧
  ILeL [i64 (↑md : Int), IVal.v (Value.int IntKind.i64 (IntKind.wrap IntKind.i64 ((↑n : Int) - (↑s : Int)))), i64 (↑b : Int), fnV 41]
  [i64 (↑md : Int), i64 (↑(n - s) : Int), i64 (↑b : Int), fnV 41] ∧
  WSpec prog 117 53 18
  (List.map encK (rot m (Int.toNat (IntKind.wrap IntKind.i64 ((↑n : Int) - (↑s : Int))) - s) (m - s) (Int.toNat (IntKind.wrap IntKind.i64 ((↑n : Int) - (↑s : Int))) - m) l))
  [i64 (↑md : Int), i64 (↑(n - s) : Int), i64 (↑b : Int), fnV 41] (IVal.tup []) (List.map encK (symF ltK md (n - s) b (R117 a s md b n m l))))
  (Tree.need (eqs []) (Tree.done Exit.ret (lretW l0 53 18 (IVal.tup []) (List.map encK (symF ltK md (n - s) b (R117 a s md b n m l)))))))
  (Tree.need (eqs [])
  (Tree.done Exit.ret
  (lretW l0 53 18 (IVal.tup [])
  (List.map encK (rot m (Int.toNat (IntKind.wrap IntKind.i64 ((↑n : Int) - (↑s : Int))) - s) (m - s) (Int.toNat (IntKind.wrap IntKind.i64 ((↑n : Int) - (↑s : Int))) - m) l))))))
  (Tree.need (eqs [])
  (Tree.done Exit.ret
  (lretW l0 53 18 (IVal.tup [])
  (List.map encK (rot m (Int.toNat (IntKind.wrap IntKind.i64 ((↑n : Int) - (↑s : Int))) - s) (m - s) (Int.toNat (IntKind.wrap IntKind.i64 ((↑n : Int) - (↑s : Int))) - m) l)))))))
  (Tree.br (decide ((↑md : Int) < IntKind.wrap IntKind.i64 ((↑n : Int) - (↑s : Int))))
  (Tree.br (decide (IntKind.wrap IntKind.i64 ((↑n : Int) - (↑s : Int)) < (↑b : Int)))
  (Tree.need
  (List.length (List.map encK (rot m (Int.toNat (IntKind.wrap IntKind.i64 ((↑n : Int) - (↑s : Int))) - s) (m - s) (Int.toNat (IntKind.wrap IntKind.i64 ((↑n : Int) - (↑s : Int))) - m) l)) = List.length l ∧
  ILeL [i64 (↑md : Int), IVal.v (Value.int IntKind.i64 (IntKind.wrap IntKind.i64 ((↑n : Int) - (↑s : Int)))), i64 (↑b : Int), fnV 41] [i64 (↑md : Int), i64 (↑(n - s) : Int), i64 (↑b : Int), fnV 41] ∧
  WSpec prog 117 53 18
  (List.map encK (rot m (Int.toNat (IntKind.wrap IntKind.i64 ((↑n : Int) - (↑s : Int))) - s) (m - s) (Int.toNat (IntKind.wrap IntKind.i64 ((↑n : Int) - (↑s : Int))) - m) l))
  [i64 (↑md : Int), i64 (↑(n - s) : Int), i64 (↑b : Int), fnV 41] (IVal.tup []) (List.map encK (symF ltK md (n - s) b (R117 a s md b n m l))))
  (Tree.need (eqs []) (Tree.done Exit.ret (lretW l0 53 18 (IVal.tup []) (List.map encK (symF ltK md (n - s) b (R117 a s md b n m l)))))))
  (Tree.need (eqs [])
  (Tree.done Exit.ret
  (lretW l0 53 18 (IVal.tup [])
  (List.map encK (rot m (Int.toNat (IntKind.wrap IntKind.i64 ((↑n : Int) - (↑s : Int))) - s) (m - s) (Int.toNat (IntKind.wrap IntKind.i64 ((↑n : Int) - (↑s : Int))) - m) l))))))
  (Tree.need (eqs [])
  (Tree.done Exit.ret
  (lretW l0 53 18 (IVal.tup [])
  (List.map encK (rot m (Int.toNat (IntKind.wrap IntKind.i64 ((↑n : Int) - (↑s : Int))) - s) (m - s) (Int.toNat (IntKind.wrap IntKind.i64 ((↑n : Int) - (↑s : Int))) - m) l))))))))
  (Tree.br (decide ((↑a : Int) < (↑s : Int)))
  (Tree.br (decide ((↑s : Int) < (↑md : Int)))
  (Tree.need
  (List.length (List.map encK l) = List.length l ∧
  ILeL [i64 (↑a : Int), i64 (↑s : Int), i64 (↑md : Int), fnV 41] [i64 (↑a : Int), i64 (↑s : Int), i64 (↑md : Int), fnV 41] ∧
  WSpec prog 117 53 18 (List.map encK l) [i64 (↑a : Int), i64 (↑s : Int), i64 (↑md : Int), fnV 41] (IVal.tup []) (List.map encK (symF ltK a s md l)))
  (Tree.br (decide ((↑md : Int) < IntKind.wrap IntKind.i64 ((↑n : Int) - (↑s : Int))))
  (Tree.br (decide (IntKind.wrap IntKind.i64 ((↑n : Int) - (↑s : Int)) < (↑b : Int)))
  (Tree.need
  (List.length (List.map encK (symF ltK a s md l)) = List.length l ∧
  ILeL [i64 (↑md : Int), IVal.v (Value.int IntKind.i64 (IntKind.wrap IntKind.i64 ((↑n : Int) - (↑s : Int)))), i64 (↑b : Int), fnV 41]
  [i64 (↑md : Int), i64 (↑(n - s) : Int), i64 (↑b : Int), fnV 41] ∧
  WSpec prog 117 53 18 (List.map encK (symF ltK a s md l)) [i64 (↑md : Int), i64 (↑(n - s) : Int), i64 (↑b : Int), fnV 41] (IVal.tup [])
  (List.map encK (symF ltK md (n - s) b (R117 a s md b n m l))))
  (Tree.need (eqs []) (Tree.done Exit.ret (lretW l0 53 18 (IVal.tup []) (List.map encK (symF ltK md (n - s) b (R117 a s md b n m l)))))))
  (Tree.need (eqs []) (Tree.done Exit.ret (lretW l0 53 18 (IVal.tup []) (List.map encK (symF ltK a s md l))))))
  (Tree.need (eqs []) (Tree.done Exit.ret (lretW l0 53 18 (IVal.tup []) (List.map encK (symF ltK a s md l)))))))
  (Tree.br (decide ((↑md : Int) < IntKind.wrap IntKind.i64 ((↑n : Int) - (↑s : Int))))
  (Tree.br (decide (IntKind.wrap IntKind.i64 ((↑n : Int) - (↑s : Int)) < (↑b : Int)))
  (Tree.need
  (List.length (List.map encK l) = List.length l ∧
  ILeL [i64 (↑md : Int), IVal.v (Value.int IntKind.i64 (IntKind.wrap IntKind.i64 ((↑n : Int) - (↑s : Int)))), i64 (↑b : Int), fnV 41] [i64 (↑md : Int), i64 (↑(n - s) : Int), i64 (↑b : Int), fnV 41] ∧
  WSpec prog 117 53 18 (List.map encK l) [i64 (↑md : Int), i64 (↑(n - s) : Int), i64 (↑b : Int), fnV 41] (IVal.tup []) (List.map encK (symF ltK md (n - s) b (R117 a s md b n m l))))
  (Tree.need (eqs []) (Tree.done Exit.ret (lretW l0 53 18 (IVal.tup []) (List.map encK (symF ltK md (n - s) b (R117 a s md b n m l)))))))
  (Tree.need (eqs []) (Tree.done Exit.ret (lretW l0 53 18 (IVal.tup []) (List.map encK l)))))
  (Tree.need (eqs []) (Tree.done Exit.ret (lretW l0 53 18 (IVal.tup []) (List.map encK l))))))
  (Tree.br (decide ((↑md : Int) < IntKind.wrap IntKind.i64 ((↑n : Int) - (↑s : Int))))
  (Tree.br (decide (IntKind.wrap IntKind.i64 ((↑n : Int) - (↑s : Int)) < (↑b : Int)))
  (Tree.need
  (List.length (List.map encK l) = List.length l ∧
  ILeL [i64 (↑md : Int), IVal.v (Value.int IntKind.i64 (IntKind.wrap IntKind.i64 ((↑n : Int) - (↑s : Int)))), i64 (↑b : Int), fnV 41] [i64 (↑md : Int), i64 (↑(n - s) : Int), i64 (↑b : Int), fnV 41] ∧
  WSpec prog 117 53 18 (List.map encK l) [i64 (↑md : Int), i64 (↑(n - s) : Int), i64 (↑b : Int), fnV 41] (IVal.tup []) (List.map encK (symF ltK md (n - s) b (R117 a s md b n m l))))
  (Tree.need (eqs []) (Tree.done Exit.ret (lretW l0 53 18 (IVal.tup []) (List.map encK (symF ltK md (n - s) b (R117 a s md b n m l)))))))
  (Tree.need (eqs []) (Tree.done Exit.ret (lretW l0 53 18 (IVal.tup []) (List.map encK l)))))
  (Tree.need (eqs []) (Tree.done Exit.ret (lretW l0 53 18 (IVal.tup []) (List.map encK l)))))))
  (Tree.br (decide ((↑a : Int) < (↑s : Int)))
  (Tree.br (decide ((↑s : Int) < (↑md : Int)))
  (Tree.need
  (List.length (List.map encK l) = List.length l ∧
  ILeL [i64 (↑a : Int), i64 (↑s : Int), i64 (↑md : Int), fnV 41] [i64 (↑a : Int), i64 (↑s : Int), i64 (↑md : Int), fnV 41] ∧
  WSpec prog 117 53 18 (List.map encK l) [i64 (↑a : Int), i64 (↑s : Int), i64 (↑md : Int), fnV 41] (IVal.tup []) (List.map encK (symF ltK a s md l)))
  (Tree.br (decide ((↑md : Int) < IntKind.wrap IntKind.i64 ((↑n : Int) - (↑s : Int))))
  (Tree.br (decide (IntKind.wrap IntKind.i64 ((↑n : Int) - (↑s : Int)) < (↑b : Int)))
  (Tree.need
  (List.length (List.map encK (symF ltK a s md l)) = List.length l ∧
  ILeL [i64 (↑md : Int), IVal.v (Value.int IntKind.i64 (IntKind.wrap IntKind.i64 ((↑n : Int) - (↑s : Int)))), i64 (↑b : Int), fnV 41] [i64 (↑md : Int), i64 (↑(n - s) : Int), i64 (↑b : Int), fnV 41] ∧
  WSpec prog 117 53 18 (List.map encK (symF ltK a s md l)) [i64 (↑md : Int), i64 (↑(n - s) : Int), i64 (↑b : Int), fnV 41] (IVal.tup [])
  (List.map encK (symF ltK md (n - s) b (R117 a s md b n m l))))
  (Tree.need (eqs []) (Tree.done Exit.ret (lretW l0 53 18 (IVal.tup []) (List.map encK (symF ltK md (n - s) b (R117 a s md b n m l)))))))
  (Tree.need (eqs []) (Tree.done Exit.ret (lretW l0 53 18 (IVal.tup []) (List.map encK (symF ltK a s md l))))))
  (Tree.need (eqs []) (Tree.done Exit.ret (lretW l0 53 18 (IVal.tup []) (List.map encK (symF ltK a s md l)))))))
  (Tree.br (decide ((↑md : Int) < IntKind.wrap IntKind.i64 ((↑n : Int) - (↑s : Int))))
  (Tree.br (decide (IntKind.wrap IntKind.i64 ((↑n : Int) - (↑s : Int)) < (↑b : Int)))
  (Tree.need
  (List.length (List.map encK l) = List.length l ∧
  ILeL [i64 (↑md : Int), IVal.v (Value.int IntKind.i64 (IntKind.wrap IntKind.i64 ((↑n : Int) - (↑s : Int)))), i64 (↑b : Int), fnV 41] [i64 (↑md : Int), i64 (↑(n - s) : Int), i64 (↑b : Int), fnV 41] ∧
  WSpec prog 117 53 18 (List.map encK l) [i64 (↑md : Int), i64 (↑(n - s) : Int), i64 (↑b : Int), fnV 41] (IVal.tup []) (List.map encK (symF ltK md (n - s) b (R117 a s md b n m l))))
  (Tree.need (eqs []) (Tree.done Exit.ret (lretW l0 53 18 (IVal.tup []) (List.map encK (symF ltK md (n - s) b (R117 a s md b n m l)))))))
  (Tree.need (eqs []) (Tree.done Exit.ret (lretW l0 53 18 (IVal.tup []) (List.map encK l)))))
  (Tree.need (eqs []) (Tree.done Exit.ret (lretW l0 53 18 (IVal.tup []) (List.map encK l))))))
  (Tree.br (decide ((↑md : Int) < IntKind.wrap IntKind.i64 ((↑n : Int) - (↑s : Int))))
  (Tree.br (decide (IntKind.wrap IntKind.i64 ((↑n : Int) - (↑s : Int)) < (↑b : Int)))
  (Tree.need
  (List.length (List.map encK l) = List.length l ∧
  ILeL [i64 (↑md : Int), IVal.v (Value.int IntKind.i64 (IntKind.wrap IntKind.i64 ((↑n : Int) - (↑s : Int)))), i64 (↑b : Int), fnV 41] [i64 (↑md : Int), i64 (↑(n - s) : Int), i64 (↑b : Int), fnV 41] ∧
  WSpec prog 117 53 18 (List.map encK l) [i64 (↑md : Int), i64 (↑(n - s) : Int), i64 (↑b : Int), fnV 41] (IVal.tup []) (List.map encK (symF ltK md (n - s) b (R117 a s md b n m l))))
  (Tree.need (eqs []) (Tree.done Exit.ret (lretW l0 53 18 (IVal.tup []) (List.map encK (symF ltK md (n - s) b (R117 a s md b n m l)))))))
  (Tree.need (eqs []) (Tree.done Exit.ret (lretW l0 53 18 (IVal.tup []) (List.map encK l)))))
  (Tree.need (eqs []) (Tree.done Exit.ret (lretW l0 53 18 (IVal.tup []) (List.map encK l))))))))))) := by kernel_rfl
end Gp
