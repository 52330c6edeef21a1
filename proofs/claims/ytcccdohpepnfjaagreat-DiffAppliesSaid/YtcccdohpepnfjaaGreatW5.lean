/- Part 5 of the walk and of the plain law of DiffApplies. -/
import Derived.Test.YtcccdohpepnfjaaGreatW4
set_option maxRecDepth 100000
set_option maxHeartbeats 0
set_option linter.unusedVariables false
set_option linter.unusedSimpArgs false
open Go Go.Abs
namespace Gp
theorem i64_half {i j : Nat} (h : i + j ≤ 2 ^ 62) : IntKind.i64.wrap (Int.fdiv (IntKind.u64.wrap (IntKind.i64.wrap ((i : Int) + (j : Int)))) 2) = (((i + j) / 2 : Nat) : Int) := by
  rw [i64_add h]
  have e1 : IntKind.u64.wrap ((i + j : Nat) : Int) = ((i + j : Nat) : Int) := by
    rw [IntWalk.u64_in _ (by omega)]
  rw [e1, Int.fdiv_eq_ediv_of_nonneg _ (by omega), IntWalk.i64_in _ (by omega)]
  omega
theorem i64_succ {n : Nat} (h : n + 1 ≤ 2 ^ 62) : IntKind.i64.wrap ((n : Int) + 1) = ((n + 1 : Nat) : Int) := by
  rw [IntWalk.i64_in _ (by omega)]; omega
def IA118 (l0 : Abs.Loc) (a i j : Nat) (x : List Origin) : LState := { t := [(11, .imm (i64 j)), (10, .imm (i64 i)), (4, .imm (fnV 48)), (1, .imm (i64 a)), (0, .own 0 x.length)], s := [(0, .brow l0 68 6 (x.map encO))], m := 220, n := 1 }
def EA118 (l0 : Abs.Loc) (a i : Nat) (x : List Origin) : LState := { t := [(10, .imm (i64 i)), (1, .imm (i64 a)), (0, .own 0 x.length)], s := [(0, .brow l0 68 6 (x.map encO))], m := 220, n := 1 }
def finA118 : Exit → Fin
  | .normal => ⟨[], [11, 10, 4, 1, 0], [0]⟩
  | _ => ⟨[], [10, 1, 0], [0]⟩
def TA118r (l0 : Abs.Loc) (a i j : Nat) (x : List Origin) : Tell :=
  Tell.mk (fun x x_1 => false) (fun x x_1 => Orc.no) (fun x => Tree.fail 1000003 0) (fun x => 0) (fun x => ([], []))
  (oget
  [(11, 5, 4, Orc.elem (encO (List.getD x (Int.toNat (IntKind.wrap IntKind.i64 (Int.fdiv (IntKind.wrap IntKind.u64 (IntKind.wrap IntKind.i64 ((↑i : Int) + (↑j : Int)))) (2 : Int)))) default))),
  (11, 5, 8, Orc.elem (encO (List.getD x a default))),
  (11, 5, 9,
  Orc.call [encO (List.getD x (Int.toNat (IntKind.wrap IntKind.i64 (Int.fdiv (IntKind.wrap IntKind.u64 (IntKind.wrap IntKind.i64 ((↑i : Int) + (↑j : Int)))) (2 : Int)))) default), encO (List.getD x a default)]
  (i64 (cmpO (List.getD x (Int.toNat (IntKind.wrap IntKind.i64 (Int.fdiv (IntKind.wrap IntKind.u64 (IntKind.wrap IntKind.i64 ((↑i : Int) + (↑j : Int)))) (2 : Int)))) default) (List.getD x a default))))])
  fun x x_1 => Tree.fail 1000003 0
theorem tA118r (l0 : Abs.Loc) (a i j : Nat) (x : List Origin) : levL prog Proofs.Tryz.f118 3 (IA118 l0 a i j x) (TA118r l0 a i j x) finA118 =
  Tree.br (decide ((↑i : Int) < (↑j : Int)))
  (Tree.need ((0 : Int) ≤ (1 : Int))
  (Tree.need
  ((0 : Int) ≤ IntKind.wrap IntKind.i64 (Int.fdiv (IntKind.wrap IntKind.u64 (IntKind.wrap IntKind.i64 ((↑i : Int) + (↑j : Int)))) (2 : Int)) ∧
  Int.toNat (IntKind.wrap IntKind.i64 (Int.fdiv (IntKind.wrap IntKind.u64 (IntKind.wrap IntKind.i64 ((↑i : Int) + (↑j : Int)))) (2 : Int))) < List.length x)
  (Tree.need
  ((List.map encO x)[Int.toNat (IntKind.wrap IntKind.i64 (Int.fdiv (IntKind.wrap IntKind.u64 (IntKind.wrap IntKind.i64 ((↑i : Int) + (↑j : Int)))) (2 : Int)))]? =
  some (encO (List.getD x (Int.toNat (IntKind.wrap IntKind.i64 (Int.fdiv (IntKind.wrap IntKind.u64 (IntKind.wrap IntKind.i64 ((↑i : Int) + (↑j : Int)))) (2 : Int)))) default)))
  (Tree.need ((0 : Int) ≤ (↑a : Int) ∧ a < List.length x)
  (Tree.need ((List.map encO x)[a]? = some (encO (List.getD x a default)))
  (Tree.need
  (ILeL [encO (List.getD x (Int.toNat (IntKind.wrap IntKind.i64 (Int.fdiv (IntKind.wrap IntKind.u64 (IntKind.wrap IntKind.i64 ((↑i : Int) + (↑j : Int)))) (2 : Int)))) default), encO (List.getD x a default)]
  [encO (List.getD x (Int.toNat (IntKind.wrap IntKind.i64 (Int.fdiv (IntKind.wrap IntKind.u64 (IntKind.wrap IntKind.i64 ((↑i : Int) + (↑j : Int)))) (2 : Int)))) default), encO (List.getD x a default)] ∧
  ASpec prog 48 [encO (List.getD x (Int.toNat (IntKind.wrap IntKind.i64 (Int.fdiv (IntKind.wrap IntKind.u64 (IntKind.wrap IntKind.i64 ((↑i : Int) + (↑j : Int)))) (2 : Int)))) default), encO (List.getD x a default)]
  (i64 (cmpO (List.getD x (Int.toNat (IntKind.wrap IntKind.i64 (Int.fdiv (IntKind.wrap IntKind.u64 (IntKind.wrap IntKind.i64 ((↑i : Int) + (↑j : Int)))) (2 : Int)))) default) (List.getD x a default))))
  (Tree.br (decide (cmpO (List.getD x (Int.toNat (IntKind.wrap IntKind.i64 (Int.fdiv (IntKind.wrap IntKind.u64 (IntKind.wrap IntKind.i64 ((↑i : Int) + (↑j : Int)))) (2 : Int)))) default) (List.getD x a default) < (0 : Int)))
  (Tree.done Exit.normal
  (LState.mk
  [(11, AVal.imm (i64 (↑j : Int))),
  (10,
  AVal.imm (IVal.v (Value.int IntKind.i64 (IntKind.wrap IntKind.i64 (IntKind.wrap IntKind.i64 (Int.fdiv (IntKind.wrap IntKind.u64 (IntKind.wrap IntKind.i64 ((↑i : Int) + (↑j : Int)))) (2 : Int)) + (1 : Int)))))),
  (4, AVal.imm (fnV 48)), (1, AVal.imm (i64 (↑a : Int))), (0, AVal.own 0 (List.length x))]
  [(0, Entry.brow l0 68 6 (List.map encO x))] 220 25 []))
  (Tree.done Exit.normal
  (LState.mk
  [(11, AVal.imm (IVal.v (Value.int IntKind.i64 (IntKind.wrap IntKind.i64 (Int.fdiv (IntKind.wrap IntKind.u64 (IntKind.wrap IntKind.i64 ((↑i : Int) + (↑j : Int)))) (2 : Int)))))),
  (10, AVal.imm (i64 (↑i : Int))), (4, AVal.imm (fnV 48)), (1, AVal.imm (i64 (↑a : Int))), (0, AVal.own 0 (List.length x))]
  [(0, Entry.brow l0 68 6 (List.map encO x))] 220 24 [])))))))))
  (Tree.done (Exit.exit 0)
  (LState.mk [(10, AVal.imm (i64 (↑i : Int))), (1, AVal.imm (i64 (↑a : Int))), (0, AVal.own 0 (List.length x))] [(0, Entry.brow l0 68 6 (List.map encO x))] 220 4 [])) := by kernel_rfl
def IB118 (l0 : Abs.Loc) (k i : Nat) (x : List Origin) : LState := { t := [(13, .imm (i64 k)), (10, .imm (i64 i)), (0, .own 0 x.length)], s := [(0, .brow l0 68 6 (x.map encO))], m := 220, n := 1 }
def ER118 (l0 : Abs.Loc) (x : List Origin) : LState := { t := [], s := [(0, .brow l0 68 6 (x.map encO))], m := 220, n := 1 }
def finB118 : Exit → Fin
  | .normal => ⟨[], [13, 10, 0], [0]⟩
  | _ => ⟨[], [], [0]⟩
def TB118r (l0 : Abs.Loc) (k i : Nat) (x : List Origin) : Tell :=
  Tell.mk (fun x x_1 => false) (fun x x_1 => Orc.no) (fun x => Tree.fail 1000003 0) (fun x => 0) (fun x => ([], []))
  (oget
  [(5, 11, 9, Orc.elem (encO (List.getD x (Int.toNat (IntKind.wrap IntKind.i64 ((↑k : Int) + (1 : Int)))) default))), (5, 11, 13, Orc.elem (encO (List.getD x k default))),
  (5, 11, 15, Orc.elem (IVal.tup [])), (5, 11, 17, Orc.elem (IVal.tup []))])
  fun x x_1 => Tree.fail 1000003 0
theorem tB118r (l0 : Abs.Loc) (k i : Nat) (x : List Origin) : levL prog Proofs.Tryz.f118 9 (IB118 l0 k i x) (TB118r l0 k i x) finB118 =
  Tree.br (decide ((↑k : Int) < IntKind.wrap IntKind.i64 ((↑i : Int) - (1 : Int))))
  (Tree.need ((0 : Int) ≤ IntKind.wrap IntKind.i64 ((↑k : Int) + (1 : Int)) ∧ Int.toNat (IntKind.wrap IntKind.i64 ((↑k : Int) + (1 : Int))) < List.length x)
  (Tree.need ((List.map encO x)[Int.toNat (IntKind.wrap IntKind.i64 ((↑k : Int) + (1 : Int)))]? = some (encO (List.getD x (Int.toNat (IntKind.wrap IntKind.i64 ((↑k : Int) + (1 : Int)))) default)))
  (Tree.need ((0 : Int) ≤ (↑k : Int) ∧ k < List.length x)
  (Tree.need ((List.map encO x)[k]? = some (encO (List.getD x k default)))
  (Tree.need ((0 : Int) ≤ (↑k : Int) ∧ k < List.length x)
  (Tree.need (k < List.length (List.map encO x))
  (Tree.need ((0 : Int) ≤ IntKind.wrap IntKind.i64 ((↑k : Int) + (1 : Int)) ∧ Int.toNat (IntKind.wrap IntKind.i64 ((↑k : Int) + (1 : Int))) < List.length x)
  (Tree.need (Int.toNat (IntKind.wrap IntKind.i64 ((↑k : Int) + (1 : Int))) < List.length (List.set (List.map encO x) k (encO (List.getD x (Int.toNat (IntKind.wrap IntKind.i64 ((↑k : Int) + (1 : Int)))) default))))
  (Tree.done Exit.normal
  (LState.mk [(13, AVal.imm (IVal.v (Value.int IntKind.i64 (IntKind.wrap IntKind.i64 ((↑k : Int) + (1 : Int)))))), (10, AVal.imm (i64 (↑i : Int))), (0, AVal.own 0 (List.length x))]
  [(0,
  Entry.brow l0 68 6
  (List.set (List.set (List.map encO x) k (encO (List.getD x (Int.toNat (IntKind.wrap IntKind.i64 ((↑k : Int) + (1 : Int)))) default))) (Int.toNat (IntKind.wrap IntKind.i64 ((↑k : Int) + (1 : Int))))
  (encO (List.getD x k default))))]
  220 26 []))))))))))
  (Tree.done (Exit.exit 2) (LState.mk [] [(0, Entry.brow l0 68 6 (List.map encO x))] 220 5 [])) := by kernel_rfl
def IC118 (l0 : Abs.Loc) (m i j : Nat) (x : List Origin) : LState := { t := [(15, .imm (i64 j)), (14, .imm (i64 i)), (4, .imm (fnV 48)), (2, .imm (i64 m)), (0, .own 0 x.length)], s := [(0, .brow l0 68 6 (x.map encO))], m := 220, n := 1 }
def EC118 (l0 : Abs.Loc) (m i : Nat) (x : List Origin) : LState := { t := [(14, .imm (i64 i)), (2, .imm (i64 m)), (0, .own 0 x.length)], s := [(0, .brow l0 68 6 (x.map encO))], m := 220, n := 1 }
def finC118 : Exit → Fin
  | .normal => ⟨[], [15, 14, 4, 2, 0], [0]⟩
  | _ => ⟨[], [14, 2, 0], [0]⟩
def TC118r (l0 : Abs.Loc) (m i j : Nat) (x : List Origin) : Tell :=
  Tell.mk (fun x x_1 => false) (fun x x_1 => Orc.no) (fun x => Tree.fail 1000003 0) (fun x => 0) (fun x => ([], []))
  (oget
  [(11, 17, 4, Orc.elem (encO (List.getD x m default))),
  (11, 17, 8, Orc.elem (encO (List.getD x (Int.toNat (IntKind.wrap IntKind.i64 (Int.fdiv (IntKind.wrap IntKind.u64 (IntKind.wrap IntKind.i64 ((↑i : Int) + (↑j : Int)))) (2 : Int)))) default))),
  (11, 17, 9,
  Orc.call [encO (List.getD x m default), encO (List.getD x (Int.toNat (IntKind.wrap IntKind.i64 (Int.fdiv (IntKind.wrap IntKind.u64 (IntKind.wrap IntKind.i64 ((↑i : Int) + (↑j : Int)))) (2 : Int)))) default)]
  (i64 (cmpO (List.getD x m default) (List.getD x (Int.toNat (IntKind.wrap IntKind.i64 (Int.fdiv (IntKind.wrap IntKind.u64 (IntKind.wrap IntKind.i64 ((↑i : Int) + (↑j : Int)))) (2 : Int)))) default))))])
  fun x x_1 => Tree.fail 1000003 0
theorem tC118r (l0 : Abs.Loc) (m i j : Nat) (x : List Origin) : levL prog Proofs.Tryz.f118 15 (IC118 l0 m i j x) (TC118r l0 m i j x) finC118 =
  Tree.br (decide ((↑i : Int) < (↑j : Int)))
  (Tree.need ((0 : Int) ≤ (1 : Int))
  (Tree.need ((0 : Int) ≤ (↑m : Int) ∧ m < List.length x)
  (Tree.need ((List.map encO x)[m]? = some (encO (List.getD x m default)))
  (Tree.need
  ((0 : Int) ≤ IntKind.wrap IntKind.i64 (Int.fdiv (IntKind.wrap IntKind.u64 (IntKind.wrap IntKind.i64 ((↑i : Int) + (↑j : Int)))) (2 : Int)) ∧
  Int.toNat (IntKind.wrap IntKind.i64 (Int.fdiv (IntKind.wrap IntKind.u64 (IntKind.wrap IntKind.i64 ((↑i : Int) + (↑j : Int)))) (2 : Int))) < List.length x)
  (Tree.need
  ((List.map encO x)[Int.toNat (IntKind.wrap IntKind.i64 (Int.fdiv (IntKind.wrap IntKind.u64 (IntKind.wrap IntKind.i64 ((↑i : Int) + (↑j : Int)))) (2 : Int)))]? =
  some (encO (List.getD x (Int.toNat (IntKind.wrap IntKind.i64 (Int.fdiv (IntKind.wrap IntKind.u64 (IntKind.wrap IntKind.i64 ((↑i : Int) + (↑j : Int)))) (2 : Int)))) default)))
  (Tree.need
  (ILeL [encO (List.getD x m default), encO (List.getD x (Int.toNat (IntKind.wrap IntKind.i64 (Int.fdiv (IntKind.wrap IntKind.u64 (IntKind.wrap IntKind.i64 ((↑i : Int) + (↑j : Int)))) (2 : Int)))) default)]
  [encO (List.getD x m default), encO (List.getD x (Int.toNat (IntKind.wrap IntKind.i64 (Int.fdiv (IntKind.wrap IntKind.u64 (IntKind.wrap IntKind.i64 ((↑i : Int) + (↑j : Int)))) (2 : Int)))) default)] ∧
  ASpec prog 48 [encO (List.getD x m default), encO (List.getD x (Int.toNat (IntKind.wrap IntKind.i64 (Int.fdiv (IntKind.wrap IntKind.u64 (IntKind.wrap IntKind.i64 ((↑i : Int) + (↑j : Int)))) (2 : Int)))) default)]
  (i64 (cmpO (List.getD x m default) (List.getD x (Int.toNat (IntKind.wrap IntKind.i64 (Int.fdiv (IntKind.wrap IntKind.u64 (IntKind.wrap IntKind.i64 ((↑i : Int) + (↑j : Int)))) (2 : Int)))) default))))
  (Tree.br (!decide (cmpO (List.getD x m default) (List.getD x (Int.toNat (IntKind.wrap IntKind.i64 (Int.fdiv (IntKind.wrap IntKind.u64 (IntKind.wrap IntKind.i64 ((↑i : Int) + (↑j : Int)))) (2 : Int)))) default) < (0 : Int)))
  (Tree.done Exit.normal
  (LState.mk
  [(15, AVal.imm (i64 (↑j : Int))),
  (14,
  AVal.imm (IVal.v (Value.int IntKind.i64 (IntKind.wrap IntKind.i64 (IntKind.wrap IntKind.i64 (Int.fdiv (IntKind.wrap IntKind.u64 (IntKind.wrap IntKind.i64 ((↑i : Int) + (↑j : Int)))) (2 : Int)) + (1 : Int)))))),
  (4, AVal.imm (fnV 48)), (2, AVal.imm (i64 (↑m : Int))), (0, AVal.own 0 (List.length x))]
  [(0, Entry.brow l0 68 6 (List.map encO x))] 220 26 []))
  (Tree.done Exit.normal
  (LState.mk
  [(15, AVal.imm (IVal.v (Value.int IntKind.i64 (IntKind.wrap IntKind.i64 (Int.fdiv (IntKind.wrap IntKind.u64 (IntKind.wrap IntKind.i64 ((↑i : Int) + (↑j : Int)))) (2 : Int)))))),
  (14, AVal.imm (i64 (↑i : Int))), (4, AVal.imm (fnV 48)), (2, AVal.imm (i64 (↑m : Int))), (0, AVal.own 0 (List.length x))]
  [(0, Entry.brow l0 68 6 (List.map encO x))] 220 25 [])))))))))
  (Tree.done (Exit.exit 4)
  (LState.mk [(14, AVal.imm (i64 (↑i : Int))), (2, AVal.imm (i64 (↑m : Int))), (0, AVal.own 0 (List.length x))] [(0, Entry.brow l0 68 6 (List.map encO x))] 220 4 [])) := by kernel_rfl
def ID118 (l0 : Abs.Loc) (k i : Nat) (x : List Origin) : LState := { t := [(17, .imm (i64 k)), (14, .imm (i64 i)), (0, .own 0 x.length)], s := [(0, .brow l0 68 6 (x.map encO))], m := 220, n := 1 }
def finD118 : Exit → Fin
  | .normal => ⟨[], [17, 14, 0], [0]⟩
  | _ => ⟨[], [], [0]⟩
def TD118r (l0 : Abs.Loc) (k i : Nat) (x : List Origin) : Tell :=
  Tell.mk (fun x x_1 => false) (fun x x_1 => Orc.no) (fun x => Tree.fail 1000003 0) (fun x => 0) (fun x => ([], []))
  (oget
  [(4, 23, 9, Orc.elem (encO (List.getD x (Int.toNat (IntKind.wrap IntKind.i64 ((↑k : Int) - (1 : Int)))) default))), (4, 23, 13, Orc.elem (encO (List.getD x k default))),
  (4, 23, 15, Orc.elem (IVal.tup [])), (4, 23, 17, Orc.elem (IVal.tup []))])
  fun x x_1 => Tree.fail 1000003 0
theorem tD118r (l0 : Abs.Loc) (k i : Nat) (x : List Origin) : levL prog Proofs.Tryz.f118 21 (ID118 l0 k i x) (TD118r l0 k i x) finD118 =
  Tree.br (decide ((↑i : Int) < (↑k : Int)))
  (Tree.need ((0 : Int) ≤ IntKind.wrap IntKind.i64 ((↑k : Int) - (1 : Int)) ∧ Int.toNat (IntKind.wrap IntKind.i64 ((↑k : Int) - (1 : Int))) < List.length x)
  (Tree.need ((List.map encO x)[Int.toNat (IntKind.wrap IntKind.i64 ((↑k : Int) - (1 : Int)))]? = some (encO (List.getD x (Int.toNat (IntKind.wrap IntKind.i64 ((↑k : Int) - (1 : Int)))) default)))
  (Tree.need ((0 : Int) ≤ (↑k : Int) ∧ k < List.length x)
  (Tree.need ((List.map encO x)[k]? = some (encO (List.getD x k default)))
  (Tree.need ((0 : Int) ≤ (↑k : Int) ∧ k < List.length x)
  (Tree.need (k < List.length (List.map encO x))
  (Tree.need ((0 : Int) ≤ IntKind.wrap IntKind.i64 ((↑k : Int) - (1 : Int)) ∧ Int.toNat (IntKind.wrap IntKind.i64 ((↑k : Int) - (1 : Int))) < List.length x)
  (Tree.need (Int.toNat (IntKind.wrap IntKind.i64 ((↑k : Int) - (1 : Int))) < List.length (List.set (List.map encO x) k (encO (List.getD x (Int.toNat (IntKind.wrap IntKind.i64 ((↑k : Int) - (1 : Int)))) default))))
  (Tree.done Exit.normal
  (LState.mk [(17, AVal.imm (IVal.v (Value.int IntKind.i64 (IntKind.wrap IntKind.i64 ((↑k : Int) - (1 : Int)))))), (14, AVal.imm (i64 (↑i : Int))), (0, AVal.own 0 (List.length x))]
  [(0,
  Entry.brow l0 68 6
  (List.set (List.set (List.map encO x) k (encO (List.getD x (Int.toNat (IntKind.wrap IntKind.i64 ((↑k : Int) - (1 : Int)))) default))) (Int.toNat (IntKind.wrap IntKind.i64 ((↑k : Int) - (1 : Int))))
  (encO (List.getD x k default))))]
  220 25 []))))))))))
  (Tree.done (Exit.exit 6) (LState.mk [] [(0, Entry.brow l0 68 6 (List.map encO x))] 220 4 [])) := by kernel_rfl
def IE118 (l0 : Abs.Loc) (a m b q n md i j : Nat) (x : List Origin) : LState := { t := [(22, .imm (i64 q)), (21, .imm (i64 j)), (20, .imm (i64 i)), (19, .imm (i64 n)), (18, .imm (i64 md)), (4, .imm (fnV 48)), (3, .imm (i64 b)), (2, .imm (i64 m)), (1, .imm (i64 a)), (0, .own 0 x.length)], s := [(0, .brow l0 68 6 (x.map encO))], m := 220, n := 1 }
def EE118 (l0 : Abs.Loc) (a m b n md i : Nat) (x : List Origin) : LState := { t := [(20, .imm (i64 i)), (19, .imm (i64 n)), (18, .imm (i64 md)), (4, .imm (fnV 48)), (3, .imm (i64 b)), (2, .imm (i64 m)), (1, .imm (i64 a)), (0, .own 0 x.length)], s := [(0, .brow l0 68 6 (x.map encO))], m := 220, n := 1 }
def finE118 : Exit → Fin
  | .normal => ⟨[], [22, 21, 20, 19, 18, 4, 3, 2, 1, 0], [0]⟩
  | _ => ⟨[], [20, 19, 18, 4, 3, 2, 1, 0], [0]⟩
def TE118r (l0 : Abs.Loc) (a m b q n md i j : Nat) (x : List Origin) : Tell :=
  Tell.mk (fun x x_1 => false) (fun x x_1 => Orc.no) (fun x => Tree.fail 1000003 0) (fun x => 0) (fun x => ([], []))
  (oget
  [(11, 35, 6,
  Orc.elem (encO (List.getD x (Int.toNat (IntKind.wrap IntKind.i64 ((↑q : Int) - IntKind.wrap IntKind.i64 (Int.fdiv (IntKind.wrap IntKind.u64 (IntKind.wrap IntKind.i64 ((↑i : Int) + (↑j : Int)))) (2 : Int))))) default))),
  (11, 35, 10, Orc.elem (encO (List.getD x (Int.toNat (IntKind.wrap IntKind.i64 (Int.fdiv (IntKind.wrap IntKind.u64 (IntKind.wrap IntKind.i64 ((↑i : Int) + (↑j : Int)))) (2 : Int)))) default))),
  (11, 35, 11,
  Orc.call
  [encO (List.getD x (Int.toNat (IntKind.wrap IntKind.i64 ((↑q : Int) - IntKind.wrap IntKind.i64 (Int.fdiv (IntKind.wrap IntKind.u64 (IntKind.wrap IntKind.i64 ((↑i : Int) + (↑j : Int)))) (2 : Int))))) default),
  encO (List.getD x (Int.toNat (IntKind.wrap IntKind.i64 (Int.fdiv (IntKind.wrap IntKind.u64 (IntKind.wrap IntKind.i64 ((↑i : Int) + (↑j : Int)))) (2 : Int)))) default)]
  (i64
  (cmpO (List.getD x (Int.toNat (IntKind.wrap IntKind.i64 ((↑q : Int) - IntKind.wrap IntKind.i64 (Int.fdiv (IntKind.wrap IntKind.u64 (IntKind.wrap IntKind.i64 ((↑i : Int) + (↑j : Int)))) (2 : Int))))) default)
  (List.getD x (Int.toNat (IntKind.wrap IntKind.i64 (Int.fdiv (IntKind.wrap IntKind.u64 (IntKind.wrap IntKind.i64 ((↑i : Int) + (↑j : Int)))) (2 : Int)))) default))))])
  fun x x_1 => Tree.fail 1000003 0
theorem tE118r (l0 : Abs.Loc) (a m b q n md i j : Nat) (x : List Origin) : levL prog Proofs.Tryz.f118 33 (IE118 l0 a m b q n md i j x) (TE118r l0 a m b q n md i j x) finE118 =
  Tree.br (decide ((↑i : Int) < (↑j : Int)))
  (Tree.need ((0 : Int) ≤ (1 : Int))
  (Tree.need
  ((0 : Int) ≤ IntKind.wrap IntKind.i64 ((↑q : Int) - IntKind.wrap IntKind.i64 (Int.fdiv (IntKind.wrap IntKind.u64 (IntKind.wrap IntKind.i64 ((↑i : Int) + (↑j : Int)))) (2 : Int))) ∧
  Int.toNat (IntKind.wrap IntKind.i64 ((↑q : Int) - IntKind.wrap IntKind.i64 (Int.fdiv (IntKind.wrap IntKind.u64 (IntKind.wrap IntKind.i64 ((↑i : Int) + (↑j : Int)))) (2 : Int)))) < List.length x)
  (Tree.need
  ((List.map encO x)[Int.toNat (IntKind.wrap IntKind.i64 ((↑q : Int) - IntKind.wrap IntKind.i64 (Int.fdiv (IntKind.wrap IntKind.u64 (IntKind.wrap IntKind.i64 ((↑i : Int) + (↑j : Int)))) (2 : Int))))]? =
  some (encO (List.getD x (Int.toNat (IntKind.wrap IntKind.i64 ((↑q : Int) - IntKind.wrap IntKind.i64 (Int.fdiv (IntKind.wrap IntKind.u64 (IntKind.wrap IntKind.i64 ((↑i : Int) + (↑j : Int)))) (2 : Int))))) default)))
  (Tree.need
  ((0 : Int) ≤ IntKind.wrap IntKind.i64 (Int.fdiv (IntKind.wrap IntKind.u64 (IntKind.wrap IntKind.i64 ((↑i : Int) + (↑j : Int)))) (2 : Int)) ∧
  Int.toNat (IntKind.wrap IntKind.i64 (Int.fdiv (IntKind.wrap IntKind.u64 (IntKind.wrap IntKind.i64 ((↑i : Int) + (↑j : Int)))) (2 : Int))) < List.length x)
  (Tree.need
  ((List.map encO x)[Int.toNat (IntKind.wrap IntKind.i64 (Int.fdiv (IntKind.wrap IntKind.u64 (IntKind.wrap IntKind.i64 ((↑i : Int) + (↑j : Int)))) (2 : Int)))]? =
  some (encO (List.getD x (Int.toNat (IntKind.wrap IntKind.i64 (Int.fdiv (IntKind.wrap IntKind.u64 (IntKind.wrap IntKind.i64 ((↑i : Int) + (↑j : Int)))) (2 : Int)))) default)))
  (Tree.need
  (ILeL
  [encO (List.getD x (Int.toNat (IntKind.wrap IntKind.i64 ((↑q : Int) - IntKind.wrap IntKind.i64 (Int.fdiv (IntKind.wrap IntKind.u64 (IntKind.wrap IntKind.i64 ((↑i : Int) + (↑j : Int)))) (2 : Int))))) default),
  encO (List.getD x (Int.toNat (IntKind.wrap IntKind.i64 (Int.fdiv (IntKind.wrap IntKind.u64 (IntKind.wrap IntKind.i64 ((↑i : Int) + (↑j : Int)))) (2 : Int)))) default)]
  [encO (List.getD x (Int.toNat (IntKind.wrap IntKind.i64 ((↑q : Int) - IntKind.wrap IntKind.i64 (Int.fdiv (IntKind.wrap IntKind.u64 (IntKind.wrap IntKind.i64 ((↑i : Int) + (↑j : Int)))) (2 : Int))))) default),
  encO (List.getD x (Int.toNat (IntKind.wrap IntKind.i64 (Int.fdiv (IntKind.wrap IntKind.u64 (IntKind.wrap IntKind.i64 ((↑i : Int) + (↑j : Int)))) (2 : Int)))) default)] ∧
  ASpec prog 48
  [encO (List.getD x (Int.toNat (IntKind.wrap IntKind.i64 ((↑q : Int) - IntKind.wrap IntKind.i64 (Int.fdiv (IntKind.wrap IntKind.u64 (IntKind.wrap IntKind.i64 ((↑i : Int) + (↑j : Int)))) (2 : Int))))) default),
  encO (List.getD x (Int.toNat (IntKind.wrap IntKind.i64 (Int.fdiv (IntKind.wrap IntKind.u64 (IntKind.wrap IntKind.i64 ((↑i : Int) + (↑j : Int)))) (2 : Int)))) default)]
  (i64
  (cmpO (List.getD x (Int.toNat (IntKind.wrap IntKind.i64 ((↑q : Int) - IntKind.wrap IntKind.i64 (Int.fdiv (IntKind.wrap IntKind.u64 (IntKind.wrap IntKind.i64 ((↑i : Int) + (↑j : Int)))) (2 : Int))))) default)
  (List.getD x (Int.toNat (IntKind.wrap IntKind.i64 (Int.fdiv (IntKind.wrap IntKind.u64 (IntKind.wrap IntKind.i64 ((↑i : Int) + (↑j : Int)))) (2 : Int)))) default))))
  (Tree.br
  (!decide
  (cmpO (List.getD x (Int.toNat (IntKind.wrap IntKind.i64 ((↑q : Int) - IntKind.wrap IntKind.i64 (Int.fdiv (IntKind.wrap IntKind.u64 (IntKind.wrap IntKind.i64 ((↑i : Int) + (↑j : Int)))) (2 : Int))))) default)
  (List.getD x (Int.toNat (IntKind.wrap IntKind.i64 (Int.fdiv (IntKind.wrap IntKind.u64 (IntKind.wrap IntKind.i64 ((↑i : Int) + (↑j : Int)))) (2 : Int)))) default) <
  (0 : Int)))
  (Tree.done Exit.normal
  (LState.mk
  [(22, AVal.imm (i64 (↑q : Int))), (21, AVal.imm (i64 (↑j : Int))),
  (20,
  AVal.imm (IVal.v (Value.int IntKind.i64 (IntKind.wrap IntKind.i64 (IntKind.wrap IntKind.i64 (Int.fdiv (IntKind.wrap IntKind.u64 (IntKind.wrap IntKind.i64 ((↑i : Int) + (↑j : Int)))) (2 : Int)) + (1 : Int)))))),
  (19, AVal.imm (i64 (↑n : Int))), (18, AVal.imm (i64 (↑md : Int))), (4, AVal.imm (fnV 48)), (3, AVal.imm (i64 (↑b : Int))), (2, AVal.imm (i64 (↑m : Int))),
  (1, AVal.imm (i64 (↑a : Int))), (0, AVal.own 0 (List.length x))]
  [(0, Entry.brow l0 68 6 (List.map encO x))] 220 28 []))
  (Tree.done Exit.normal
  (LState.mk
  [(22, AVal.imm (i64 (↑q : Int))),
  (21, AVal.imm (IVal.v (Value.int IntKind.i64 (IntKind.wrap IntKind.i64 (Int.fdiv (IntKind.wrap IntKind.u64 (IntKind.wrap IntKind.i64 ((↑i : Int) + (↑j : Int)))) (2 : Int)))))),
  (20, AVal.imm (i64 (↑i : Int))), (19, AVal.imm (i64 (↑n : Int))), (18, AVal.imm (i64 (↑md : Int))), (4, AVal.imm (fnV 48)), (3, AVal.imm (i64 (↑b : Int))),
  (2, AVal.imm (i64 (↑m : Int))), (1, AVal.imm (i64 (↑a : Int))), (0, AVal.own 0 (List.length x))]
  [(0, Entry.brow l0 68 6 (List.map encO x))] 220 27 [])))))))))
  (Tree.done (Exit.exit 8)
  (LState.mk
  [(20, AVal.imm (i64 (↑i : Int))), (19, AVal.imm (i64 (↑n : Int))), (18, AVal.imm (i64 (↑md : Int))), (4, AVal.imm (fnV 48)), (3, AVal.imm (i64 (↑b : Int))),
  (2, AVal.imm (i64 (↑m : Int))), (1, AVal.imm (i64 (↑a : Int))), (0, AVal.own 0 (List.length x))]
  [(0, Entry.brow l0 68 6 (List.map encO x))] 220 4 [])) := by kernel_rfl
theorem lA118 (l0 : Abs.Loc) (a i j f : Nat) (x : List Origin) (ha : a < x.length) (hij : i ≤ j) (hj : j ≤ x.length) (hl : x.length ≤ 2 ^ 61) (hf : j - i ≤ f) (σ : LState) (h : LSub σ (IA118 l0 a i j x)) :
    LoopOk prog [] (bodyOf Proofs.Tryz.f118) 3 σ (.done (.exit 0) (EA118 l0 a (bs (fun h => ltO (x.getD h default) (x.getD a default)) f i j) x)) := by
  refine LoopOk.of_levL (γ := { g : Nat × Nat × Nat // g.1 ≤ g.2.1 ∧ g.2.1 ≤ x.length ∧ g.2.1 - g.1 ≤ g.2.2 ∧ bs (fun h => ltO (x.getD h default) (x.getD a default)) g.2.2 g.1 g.2.1 = bs (fun h => ltO (x.getD h default) (x.getD a default)) f i j })
    (fun g => TA118r l0 a g.1.1 g.1.2.1 x) finA118 (fun g => IA118 l0 a g.1.1 g.1.2.1 x) (fun g => g.1.2.1 - g.1.1) ⟨(i, j, f), hij, hj, hf, rfl⟩ (by kernel_rfl) h ?_
  rintro ⟨⟨i, j, f'⟩, q1, q2, q3, q4⟩
  simp only at q1 q2 q3 q4
  simp only []
  have e1 := i64_half (i := i) (j := j) (by omega)
  rw [tA118r]
  simp only [e1, Int.toNat_natCast]
  refine ⟨fun h1 => ?_, fun h1 => ?_⟩
  · have hlt : i < j := by simp at h1; omega
    cases f' with
    | zero => omega
    | succ f' =>
      rw [bs, if_pos hlt] at q4
      refine ⟨by omega, fun _ => ⟨⟨by omega, by omega⟩, fun _ => ⟨getD_map _ _ _ _ (by omega), fun _ => ⟨⟨by omega, ha⟩, fun _ => ⟨getD_map _ _ _ _ ha, fun _ => ⟨⟨ILeL.refl _, c48 _ _⟩, fun _ => ⟨fun h2 => ?_, fun h2 => ?_⟩⟩⟩⟩⟩⟩⟩
      · rw [if_pos (show ltO _ _ = true from h2)] at q4
        refine ⟨⟨((i + j) / 2 + 1, j, f'), by simp only; omega, q2, by simp only; omega, q4⟩, by simp only; omega, ⟨rfl, ?_, rfl, rfl, rfl, trivial⟩, ⟨rfl, trivial⟩, rfl, rfl, rfl⟩
        exact congrArg (fun n => AVal.imm (i64 n)) (i64_succ (by omega))
      · rw [if_neg (fun hc => by rw [show ltO _ _ = false from h2] at hc; cases hc)] at q4
        exact ⟨⟨(i, (i + j) / 2, f'), by simp only; omega, by simp only; omega, by simp only; omega, q4⟩, by simp only; omega, ⟨rfl, rfl, rfl, rfl, rfl, trivial⟩, ⟨rfl, trivial⟩, rfl, rfl, rfl⟩
  · have hge : ¬ i < j := by simp at h1; omega
    have : bs (fun h => ltO (x.getD h default) (x.getD a default)) f' i j = i := by
      cases f' with
      | zero => rfl
      | succ f' => rw [bs, if_neg hge]
    rw [this] at q4
    rw [← q4]
    exact ⟨rfl, ⟨rfl, rfl, rfl, trivial⟩, ⟨rfl, trivial⟩, rfl, rfl, rfl⟩
theorem lC118 (l0 : Abs.Loc) (m i j f : Nat) (x : List Origin) (ha : m < x.length) (hij : i ≤ j) (hj : j ≤ x.length) (hl : x.length ≤ 2 ^ 61) (hf : j - i ≤ f) (σ : LState) (h : LSub σ (IC118 l0 m i j x)) :
    LoopOk prog [] (bodyOf Proofs.Tryz.f118) 15 σ (.done (.exit 4) (EC118 l0 m (bs (fun h => !ltO (x.getD m default) (x.getD h default)) f i j) x)) := by
  refine LoopOk.of_levL (γ := { g : Nat × Nat × Nat // g.1 ≤ g.2.1 ∧ g.2.1 ≤ x.length ∧ g.2.1 - g.1 ≤ g.2.2 ∧ bs (fun h => !ltO (x.getD m default) (x.getD h default)) g.2.2 g.1 g.2.1 = bs (fun h => !ltO (x.getD m default) (x.getD h default)) f i j })
    (fun g => TC118r l0 m g.1.1 g.1.2.1 x) finC118 (fun g => IC118 l0 m g.1.1 g.1.2.1 x) (fun g => g.1.2.1 - g.1.1) ⟨(i, j, f), hij, hj, hf, rfl⟩ (by kernel_rfl) h ?_
  rintro ⟨⟨i, j, f'⟩, q1, q2, q3, q4⟩
  simp only at q1 q2 q3 q4
  simp only []
  have e1 := i64_half (i := i) (j := j) (by omega)
  rw [tC118r]
  simp only [e1, Int.toNat_natCast]
  refine ⟨fun h1 => ?_, fun h1 => ?_⟩
  · have hlt : i < j := by simp at h1; omega
    cases f' with
    | zero => omega
    | succ f' =>
      rw [bs, if_pos hlt] at q4
      refine ⟨by omega, fun _ => ⟨⟨by omega, ha⟩, fun _ => ⟨getD_map _ _ _ _ ha, fun _ => ⟨⟨by omega, by omega⟩, fun _ => ⟨getD_map _ _ _ _ (by omega), fun _ => ⟨⟨ILeL.refl _, c48 _ _⟩, fun _ => ⟨fun h2 => ?_, fun h2 => ?_⟩⟩⟩⟩⟩⟩⟩
      · rw [if_pos (show (!ltO _ _) = true from h2)] at q4
        refine ⟨⟨((i + j) / 2 + 1, j, f'), by simp only; omega, q2, by simp only; omega, q4⟩, by simp only; omega, ⟨rfl, ?_, rfl, rfl, rfl, trivial⟩, ⟨rfl, trivial⟩, rfl, rfl, rfl⟩
        exact congrArg (fun n => AVal.imm (i64 n)) (i64_succ (by omega))
      · rw [if_neg (fun hc => by rw [show (!ltO _ _) = false from h2] at hc; cases hc)] at q4
        exact ⟨⟨(i, (i + j) / 2, f'), by simp only; omega, by simp only; omega, by simp only; omega, q4⟩, by simp only; omega, ⟨rfl, rfl, rfl, rfl, rfl, trivial⟩, ⟨rfl, trivial⟩, rfl, rfl, rfl⟩
  · have hge : ¬ i < j := by simp at h1; omega
    have : bs (fun h => !ltO (x.getD m default) (x.getD h default)) f' i j = i := by
      cases f' with
      | zero => rfl
      | succ f' => rw [bs, if_neg hge]
    rw [this] at q4
    rw [← q4]
    exact ⟨rfl, ⟨rfl, rfl, rfl, trivial⟩, ⟨rfl, trivial⟩, rfl, rfl, rfl⟩
theorem lE118 (l0 : Abs.Loc) (a m b q n md i j f : Nat) (x : List Origin) (hq : j ≤ q + 1) (hq2 : q < i + x.length) (hij : i ≤ j) (hj : j ≤ x.length) (hl : x.length ≤ 2 ^ 61) (hf : j - i ≤ f) (σ : LState) (h : LSub σ (IE118 l0 a m b q n md i j x)) :
    LoopOk prog [] (bodyOf Proofs.Tryz.f118) 33 σ (.done (.exit 8) (EE118 l0 a m b n md (bs (fun c => !ltO (x.getD (q - c) default) (x.getD c default)) f i j) x)) := by
  refine LoopOk.of_levL (γ := { g : Nat × Nat × Nat // i ≤ g.1 ∧ g.1 ≤ g.2.1 ∧ g.2.1 ≤ j ∧ g.2.1 - g.1 ≤ g.2.2 ∧ bs (fun c => !ltO (x.getD (q - c) default) (x.getD c default)) g.2.2 g.1 g.2.1 = bs (fun c => !ltO (x.getD (q - c) default) (x.getD c default)) f i j })
    (fun g => TE118r l0 a m b q n md g.1.1 g.1.2.1 x) finE118 (fun g => IE118 l0 a m b q n md g.1.1 g.1.2.1 x) (fun g => g.1.2.1 - g.1.1) ⟨(i, j, f), Nat.le_refl _, hij, Nat.le_refl _, hf, rfl⟩ (by kernel_rfl) h ?_
  rintro ⟨⟨i', j', f'⟩, q0, q1, q2, q3, q4⟩
  simp only at q0 q1 q2 q3 q4
  simp only []
  have e1 := i64_half (i := i') (j := j') (by omega)
  have e2 : i' < j' → IntKind.i64.wrap ((q : Int) - (((i' + j') / 2 : Nat) : Int)) = ((q - (i' + j') / 2 : Nat) : Int) := fun h => i64_sub (by omega) (by omega)
  rw [tE118r]
  simp only [e1, Int.toNat_natCast]
  refine ⟨fun h1 => ?_, fun h1 => ?_⟩
  · have hlt : i' < j' := by simp at h1; omega
    simp only [e2 hlt, Int.toNat_natCast]
    cases f' with
    | zero => omega
    | succ f' =>
      rw [bs, if_pos hlt] at q4
      refine ⟨by omega, fun _ => ⟨⟨by omega, by omega⟩, fun _ => ⟨getD_map _ _ _ _ (by omega), fun _ => ⟨⟨by omega, by omega⟩, fun _ => ⟨getD_map _ _ _ _ (by omega), fun _ => ⟨⟨ILeL.refl _, c48 _ _⟩, fun _ => ⟨fun h2 => ?_, fun h2 => ?_⟩⟩⟩⟩⟩⟩⟩
      · rw [if_pos (show (!ltO _ _) = true from h2)] at q4
        refine ⟨⟨((i' + j') / 2 + 1, j', f'), by simp only; omega, by simp only; omega, by simp only; omega, by simp only; omega, q4⟩, by simp only; omega, ⟨rfl, rfl, ?_, rfl, rfl, rfl, rfl, rfl, rfl, rfl, trivial⟩, ⟨rfl, trivial⟩, rfl, rfl, rfl⟩
        exact congrArg (fun n => AVal.imm (i64 n)) (i64_succ (by omega))
      · rw [if_neg (fun hc => by rw [show (!ltO _ _) = false from h2] at hc; cases hc)] at q4
        exact ⟨⟨(i', (i' + j') / 2, f'), q0, by simp only; omega, by simp only; omega, by simp only; omega, q4⟩, by simp only; omega, ⟨rfl, rfl, rfl, rfl, rfl, rfl, rfl, rfl, rfl, rfl, trivial⟩, ⟨rfl, trivial⟩, rfl, rfl, rfl⟩
  · have hge : ¬ i' < j' := by simp at h1; omega
    have : bs (fun c => !ltO (x.getD (q - c) default) (x.getD c default)) f' i' j' = i' := by
      cases f' with
      | zero => rfl
      | succ f' => rw [bs, if_neg hge]
    rw [this] at q4
    rw [← q4]
    exact ⟨rfl, ⟨rfl, rfl, rfl, rfl, rfl, rfl, rfl, rfl, trivial⟩, ⟨rfl, trivial⟩, rfl, rfl, rfl⟩
theorem lB118 (l0 : Abs.Loc) (a i : Nat) (l : List Origin) (ha : a < i) (hi : i ≤ l.length) (hl : l.length ≤ 2 ^ 61) (σ : LState) (h : LSub σ (IB118 l0 a i l)) : LoopOk prog [] (bodyOf Proofs.Tryz.f118) 9 σ (.done (.exit 2) (ER118 l0 (bubU a l (i - 1 - a)))) := by
  refine LoopOk.count (i - 1 - a) 2 (fun n => IB118 l0 (a + n) i (bubU a l n)) (ER118 l0 (bubU a l (i - 1 - a))) (fun n => TB118r l0 (a + n) i (bubU a l n)) finB118 (by kernel_rfl) h fun n hn => ?_
  have e1 : IntKind.i64.wrap ((i : Int) - 1) = ((i - 1 : Nat) : Int) := by rw [IntWalk.i64_in _ (by omega)]; omega
  have e2 : IntKind.i64.wrap (((a + n : Nat) : Int) + 1) = ((a + n + 1 : Nat) : Int) := by rw [IntWalk.i64_in _ (by omega)]; omega
  rw [tB118r]
  simp only [e1, e2, Int.toNat_natCast]
  refine ⟨fun h1 => ?_, fun h1 => ?_⟩
  · have hlt : a + n < i - 1 := by simp at h1; omega
    have hlen := (bubU_spec a l n (by omega)).1.len
    have g1 : a + n < (bubU a l n).length := by omega
    have g2 : a + n + 1 < (bubU a l n).length := by omega
    refine ⟨⟨by omega, g2⟩, fun _ => ⟨getD_map _ _ _ _ g2, fun _ => ⟨⟨by omega, g1⟩, fun _ => ⟨getD_map _ _ _ _ g1, fun _ => ⟨⟨by omega, g1⟩, fun _ => ⟨by simpa using g1, fun _ => ⟨⟨by omega, g2⟩, fun _ => ⟨by simpa using g2, fun _ => ?_⟩⟩⟩⟩⟩⟩⟩⟩
    refine ⟨by omega, ⟨rfl, rfl, congrArg (AVal.own 0) (by rw [bubU, swp_length]), trivial⟩, ⟨?_, trivial⟩, rfl, rfl, rfl⟩
    refine congrArg (fun l => some (Entry.brow l0 68 6 l)) ?_
    simp only [bubU, swp, List.map_set]
  · have : n = i - 1 - a := by simp at h1; omega
    subst this
    exact ⟨rfl, by omega, ⟨trivial, ⟨rfl, trivial⟩, rfl, rfl, rfl⟩⟩
theorem lD118 (l0 : Abs.Loc) (m i : Nat) (l : List Origin) (hm : m < l.length) (hi : i ≤ m) (hl : l.length ≤ 2 ^ 61) (σ : LState) (h : LSub σ (ID118 l0 m i l)) : LoopOk prog [] (bodyOf Proofs.Tryz.f118) 21 σ (.done (.exit 6) (ER118 l0 (bubD m l (m - i)))) := by
  refine LoopOk.count (m - i) 6 (fun n => ID118 l0 (m - n) i (bubD m l n)) (ER118 l0 (bubD m l (m - i))) (fun n => TD118r l0 (m - n) i (bubD m l n)) finD118 (by kernel_rfl) h fun n hn => ?_
  rw [tD118r]
  refine ⟨fun h1 => ?_, fun h1 => ?_⟩
  · have hlt : i < m - n := by simp at h1; omega
    have e1 : IntKind.i64.wrap (((m - n : Nat) : Int) - 1) = ((m - n - 1 : Nat) : Int) := by rw [IntWalk.i64_in _ (by omega)]; omega
    simp only [e1, Int.toNat_natCast]
    have hlen := (bubD_spec m l hm n (by omega)).1.len
    have g1 : m - n < (bubD m l n).length := by omega
    have g2 : m - n - 1 < (bubD m l n).length := by omega
    refine ⟨⟨by omega, g2⟩, fun _ => ⟨getD_map _ _ _ _ g2, fun _ => ⟨⟨by omega, g1⟩, fun _ => ⟨getD_map _ _ _ _ g1, fun _ => ⟨⟨by omega, g1⟩, fun _ => ⟨by simpa using g1, fun _ => ⟨⟨by omega, g2⟩, fun _ => ⟨by simpa using g2, fun _ => ?_⟩⟩⟩⟩⟩⟩⟩⟩
    refine ⟨by omega, ⟨rfl, rfl, congrArg (AVal.own 0) (by rw [bubD, swp_length]), trivial⟩, ⟨?_, trivial⟩, rfl, rfl, rfl⟩
    refine congrArg (fun l => some (Entry.brow l0 68 6 l)) ?_
    simp only [bubD, swp, List.map_set]
  · have : n = m - i := by simp at h1; omega
    subst this
    exact ⟨rfl, by omega, ⟨trivial, ⟨rfl, trivial⟩, rfl, rfl, rfl⟩⟩
def P118 (l0 : Abs.Loc) (a m b i1 i2 n md s : Nat) (l y1 y2 : List Origin) : Nat → Tree := fun k => match k with | 3 => .done (.exit 0) (EA118 l0 a i1 l) | 9 => .done (.exit 2) (ER118 l0 y1) | 15 => .done (.exit 4) (EC118 l0 m i2 l) | 21 => .done (.exit 6) (ER118 l0 y2) | _ => .done (.exit 8) (EE118 l0 a m b n md s l)
def R118 (a s md b n m : Nat) (l : List Origin) : List Origin := if a < s ∧ s < md then symF ltO a s md (symR m s (n - s) l) else symR m s (n - s) l
def T118 (l0 : Abs.Loc) (a m b i1 i2 n md s : Nat) (l y1 y2 : List Origin) : Tell :=
  Tell.mk (fun x x_1 => false)
  (fun r i =>
  match r, i with
  | 44, 5 => Orc.callw [i64 (↑md : Int), i64 (↑(n - s) : Int), i64 (↑b : Int), fnV 48] (IVal.tup []) (List.map encO (symF ltO md (n - s) b (R118 a s md b n m l)))
  | x, x_1 => Orc.no)
  (P118 l0 a m b i1 i2 n md s l y1 y2) (fun x => 0)
  (fun k =>
  match k with
  | 3 => ([11, 10, 4, 1, 0], [0])
  | 9 => ([13, 10, 0], [0])
  | 15 => ([15, 14, 4, 2, 0], [0])
  | 21 => ([17, 14, 0], [0])
  | x => ([22, 21, 20, 19, 18, 4, 3, 2, 1, 0], [0]))
  (ogetO
  (fun r i =>
  match r, i with
  | 44, 5 => Orc.callw [i64 (↑md : Int), i64 (↑(n - s) : Int), i64 (↑b : Int), fnV 48] (IVal.tup []) (List.map encO (symF ltO md (n - s) b (R118 a s md b n m l)))
  | x, x_1 => Orc.no)
  [(13, 40, 5,
  Orc.callw [i64 (↑s : Int), i64 (↑m : Int), i64 (IntKind.wrap IntKind.i64 ((↑n : Int) - (↑s : Int))), fnV 48] (IVal.tup [])
  (List.map encO
  (rot (Int.toNat (↑m : Int)) (Int.toNat (IntKind.wrap IntKind.i64 ((↑n : Int) - (↑s : Int))) - Int.toNat (↑s : Int)) (Int.toNat (↑m : Int) - Int.toNat (↑s : Int))
  (Int.toNat (IntKind.wrap IntKind.i64 ((↑n : Int) - (↑s : Int))) - Int.toNat (↑m : Int)) l))),
  (21, 42, 5, Orc.callw [i64 (↑a : Int), i64 (↑s : Int), i64 (↑md : Int), fnV 48] (IVal.tup []) (List.map encO (symF ltO (Int.toNat (↑a : Int)) (Int.toNat (↑s : Int)) (Int.toNat (↑md : Int)) l))),
  (27, 42, 5,
  Orc.callw [i64 (↑a : Int), i64 (↑s : Int), i64 (↑md : Int), fnV 48] (IVal.tup [])
  (List.map encO
  (symF ltO (Int.toNat (↑a : Int)) (Int.toNat (↑s : Int)) (Int.toNat (↑md : Int))
  (rot m (Int.toNat (IntKind.wrap IntKind.i64 ((↑n : Int) - (↑s : Int))) - s) (m - s) (Int.toNat (IntKind.wrap IntKind.i64 ((↑n : Int) - (↑s : Int))) - m) l))))])
  fun x => P118 l0 a m b i1 i2 n md s l y1 y2
theorem t118 (l0 : Abs.Loc) (a m b i1 i2 n md s : Nat) (l y1 y2 : List Origin) : levW prog Proofs.Tryz.f118 l0 68 6 (l.map encO) [i64 a, i64 m, i64 b, fnV 48] (T118 l0 a m b i1 i2 n md s l y1 y2) =
  Tree.br (decide (IntKind.wrap IntKind.i64 ((↑m : Int) - (↑a : Int)) = (1 : Int)))
  (Tree.loop 3
  (LState.mk
  [(11, AVal.imm (i64 (↑b : Int))), (10, AVal.imm (i64 (↑m : Int))), (4, AVal.imm (fnV 48)), (1, AVal.imm (i64 (↑a : Int))), (0, AVal.own 0 (List.length (List.map encO l)))]
  [(0, Entry.brow l0 68 6 (List.map encO l))] 220 9 [])
  (Tree.done (Exit.exit 0) (EA118 l0 a i1 l))
  (Tree.loop 9
  (LState.mk [(13, AVal.imm (i64 (↑a : Int))), (10, AVal.imm (i64 (↑i1 : Int))), (0, AVal.own 0 (List.length l))] [(0, Entry.brow l0 68 6 (List.map encO l))] 220 3
  [])
  (Tree.done (Exit.exit 2) (ER118 l0 y1)) (Tree.need (eqs []) (Tree.done Exit.ret (lretW l0 68 6 (IVal.tup []) (List.map encO y1))))))
  (Tree.br (decide (IntKind.wrap IntKind.i64 ((↑b : Int) - (↑m : Int)) = (1 : Int)))
  (Tree.loop 15
  (LState.mk
  [(15, AVal.imm (i64 (↑m : Int))), (14, AVal.imm (i64 (↑a : Int))), (4, AVal.imm (fnV 48)), (2, AVal.imm (i64 (↑m : Int))), (0, AVal.own 0 (List.length (List.map encO l)))]
  [(0, Entry.brow l0 68 6 (List.map encO l))] 220 13 [])
  (Tree.done (Exit.exit 4) (EC118 l0 m i2 l))
  (Tree.loop 21
  (LState.mk [(17, AVal.imm (i64 (↑m : Int))), (14, AVal.imm (i64 (↑i2 : Int))), (0, AVal.own 0 (List.length l))] [(0, Entry.brow l0 68 6 (List.map encO l))] 220
  3 [])
  (Tree.done (Exit.exit 6) (ER118 l0 y2)) (Tree.need (eqs []) (Tree.done Exit.ret (lretW l0 68 6 (IVal.tup []) (List.map encO y2))))))
  (Tree.need ((0 : Int) ≤ (1 : Int))
  (Tree.br (decide (IntKind.wrap IntKind.i64 (Int.fdiv (IntKind.wrap IntKind.u64 (IntKind.wrap IntKind.i64 ((↑a : Int) + (↑b : Int)))) (2 : Int)) < (↑m : Int)))
  (Tree.loop 33
  (LState.mk
  [(22,
  AVal.imm
  (IVal.v
  (Value.int IntKind.i64
  (IntKind.wrap IntKind.i64 (IntKind.wrap IntKind.i64 (IntKind.wrap IntKind.i64 (Int.fdiv (IntKind.wrap IntKind.u64 (IntKind.wrap IntKind.i64 ((↑a : Int) + (↑b : Int)))) (2 : Int)) + (↑m : Int)) - (1 : Int)))))),
  (21, AVal.imm (IVal.v (Value.int IntKind.i64 (IntKind.wrap IntKind.i64 (Int.fdiv (IntKind.wrap IntKind.u64 (IntKind.wrap IntKind.i64 ((↑a : Int) + (↑b : Int)))) (2 : Int)))))),
  (20,
  AVal.imm
  (IVal.v
  (Value.int IntKind.i64
  (IntKind.wrap IntKind.i64 (IntKind.wrap IntKind.i64 (IntKind.wrap IntKind.i64 (Int.fdiv (IntKind.wrap IntKind.u64 (IntKind.wrap IntKind.i64 ((↑a : Int) + (↑b : Int)))) (2 : Int)) + (↑m : Int)) - (↑b : Int)))))),
  (19, AVal.imm (IVal.v (Value.int IntKind.i64 (IntKind.wrap IntKind.i64 (IntKind.wrap IntKind.i64 (Int.fdiv (IntKind.wrap IntKind.u64 (IntKind.wrap IntKind.i64 ((↑a : Int) + (↑b : Int)))) (2 : Int)) + (↑m : Int)))))),
  (18, AVal.imm (IVal.v (Value.int IntKind.i64 (IntKind.wrap IntKind.i64 (Int.fdiv (IntKind.wrap IntKind.u64 (IntKind.wrap IntKind.i64 ((↑a : Int) + (↑b : Int)))) (2 : Int)))))), (4, AVal.imm (fnV 48)),
  (3, AVal.imm (i64 (↑b : Int))), (2, AVal.imm (i64 (↑m : Int))), (1, AVal.imm (i64 (↑a : Int))), (0, AVal.own 0 (List.length (List.map encO l)))]
  [(0, Entry.brow l0 68 6 (List.map encO l))] 220 34 [])
  (Tree.done (Exit.exit 8) (EE118 l0 a m b n md s l))
  (Tree.br (decide ((↑s : Int) < (↑m : Int)))
  (Tree.br (decide ((↑m : Int) < IntKind.wrap IntKind.i64 ((↑n : Int) - (↑s : Int))))
  (Tree.need
  (List.length (List.map encO l) = List.length l ∧
  ILeL [i64 (↑s : Int), i64 (↑m : Int), IVal.v (Value.int IntKind.i64 (IntKind.wrap IntKind.i64 ((↑n : Int) - (↑s : Int)))), fnV 48]
  [i64 (↑s : Int), i64 (↑m : Int), i64 (IntKind.wrap IntKind.i64 ((↑n : Int) - (↑s : Int))), fnV 48] ∧
  WSpec prog 123 68 6 (List.map encO l) [i64 (↑s : Int), i64 (↑m : Int), i64 (IntKind.wrap IntKind.i64 ((↑n : Int) - (↑s : Int))), fnV 48] (IVal.tup [])
  (List.map encO (rot m (Int.toNat (IntKind.wrap IntKind.i64 ((↑n : Int) - (↑s : Int))) - s) (m - s) (Int.toNat (IntKind.wrap IntKind.i64 ((↑n : Int) - (↑s : Int))) - m) l)))
  (Tree.br (decide ((↑a : Int) < (↑s : Int)))
  (Tree.br (decide ((↑s : Int) < (↑md : Int)))
  (Tree.need
  (List.length (List.map encO (rot m (Int.toNat (IntKind.wrap IntKind.i64 ((↑n : Int) - (↑s : Int))) - s) (m - s) (Int.toNat (IntKind.wrap IntKind.i64 ((↑n : Int) - (↑s : Int))) - m) l)) = List.length l ∧
  ILeL [i64 (↑a : Int), i64 (↑s : Int), i64 (↑md : Int), fnV 48] [i64 (↑a : Int), i64 (↑s : Int), i64 (↑md : Int), fnV 48] ∧
  WSpec prog 118 68 6
  (List.map encO (rot m (Int.toNat (IntKind.wrap IntKind.i64 ((↑n : Int) - (↑s : Int))) - s) (m - s) (Int.toNat (IntKind.wrap IntKind.i64 ((↑n : Int) - (↑s : Int))) - m) l))
  [i64 (↑a : Int), i64 (↑s : Int), i64 (↑md : Int), fnV 48] (IVal.tup [])
  (List.map encO (symF ltO a s md (rot m (Int.toNat (IntKind.wrap IntKind.i64 ((↑n : Int) - (↑s : Int))) - s) (m - s) (Int.toNat (IntKind.wrap IntKind.i64 ((↑n : Int) - (↑s : Int))) - m) l))))
  (Tree.br (decide ((↑md : Int) < IntKind.wrap IntKind.i64 ((↑n : Int) - (↑s : Int))))
  (Tree.br (decide (IntKind.wrap IntKind.i64 ((↑n : Int) - (↑s : Int)) < (↑b : Int)))
  (Tree.need
  (List.length (List.map encO (symF ltO a s md (rot m (Int.toNat (IntKind.wrap IntKind.i64 ((↑n : Int) - (↑s : Int))) - s) (m - s) (Int.toNat (IntKind.wrap IntKind.i64 ((↑n : Int) - (↑s : Int))) - m) l))) =
  List.length l ∧
  ILeL [i64 (↑md : Int), IVal.v (Value.int IntKind.i64 (IntKind.wrap IntKind.i64 ((↑n : Int) - (↑s : Int)))), i64 (↑b : Int), fnV 48]
  [i64 (↑md : Int), i64 (↑(n - s) : Int), i64 (↑b : Int), fnV 48] ∧
  WSpec prog 118 68 6
  (List.map encO (symF ltO a s md (rot m (Int.toNat (IntKind.wrap IntKind.i64 ((↑n : Int) - (↑s : Int))) - s) (m - s) (Int.toNat (IntKind.wrap IntKind.i64 ((↑n : Int) - (↑s : Int))) - m) l)))
  [i64 (↑md : Int), i64 (↑(n - s) : Int), i64 (↑b : Int), fnV 48] (IVal.tup []) (List.map encO (symF ltO md (n - s) b (R118 a s md b n m l))))
  (Tree.need (eqs []) (Tree.done Exit.ret (lretW l0 68 6 (IVal.tup []) (List.map encO (symF ltO md (n - s) b (R118 a s md b n m l)))))))
  (Tree.need (eqs [])
  (Tree.done Exit.ret
  (lretW l0 68 6 (IVal.tup [])
  (List.map encO (symF ltO a s md (rot m (Int.toNat (IntKind.wrap IntKind.i64 ((↑n : Int) - (↑s : Int))) - s) (m - s) (Int.toNat (IntKind.wrap IntKind.i64 ((↑n : Int) - (↑s : Int))) - m) l)))))))
  (Tree.need (eqs [])
  (Tree.done Exit.ret
  (lretW l0 68 6 (IVal.tup [])
  (List.map encO (symF ltO a s md (rot m (Int.toNat (IntKind.wrap IntKind.i64 ((↑n : Int) - (↑s : Int))) - s) (m - s) (Int.toNat (IntKind.wrap IntKind.i64 ((↑n : Int) - (↑s : Int))) - m) l))))))))
  (Tree.br (decide ((↑md : Int) < IntKind.wrap IntKind.i64 ((↑n : Int) - (↑s : Int))))
  (Tree.br (decide (IntKind.wrap IntKind.i64 ((↑n : Int) - (↑s : Int)) < (↑b : Int)))
  (Tree.need
  (List.length (List.map encO (rot m (Int.toNat (IntKind.wrap IntKind.i64 ((↑n : Int) - (↑s : Int))) - s) (m - s) (Int.toNat (IntKind.wrap IntKind.i64 ((↑n : Int) - (↑s : Int))) - m) l)) = List.length l ∧
  ILeL [i64 (↑md : Int), IVal.v (Value.int IntKind.i64 (IntKind.wrap IntKind.i64 ((↑n : Int) - (↑s : Int)))), i64 (↑b : Int), fnV 48]
  [i64 (↑md : Int), i64 (↑(n - s) : Int), i64 (↑b : Int), fnV 48] ∧
  WSpec prog 118 68 6
  (List.map encO (rot m (Int.toNat (IntKind.wrap IntKind.i64 ((↑n : Int) - (↑s : Int))) - s) (m - s) (Int.toNat (IntKind.wrap IntKind.i64 ((↑n : Int) - (↑s : Int))) - m) l))
  [i64 (↑md : Int), i64 (↑(n - s) : Int), i64 (↑b : Int), fnV 48] (IVal.tup []) (List.map encO (symF ltO md (n - s) b (R118 a s md b n m l))))
  (Tree.need (eqs []) (Tree.done Exit.ret (lretW l0 68 6 (IVal.tup []) (List.map encO (symF ltO md (n - s) b (R118 a s md b n m l)))))))
  (Tree.need (eqs [])
  (Tree.done Exit.ret
  (lretW l0 68 6 (IVal.tup [])
  (List.map encO (rot m (Int.toNat (IntKind.wrap IntKind.i64 ((↑n : Int) - (↑s : Int))) - s) (m - s) (Int.toNat (IntKind.wrap IntKind.i64 ((↑n : Int) - (↑s : Int))) - m) l))))))
  (Tree.need (eqs [])
  (Tree.done Exit.ret
  (lretW l0 68 6 (IVal.tup [])
  (List.map encO (rot m (Int.toNat (IntKind.wrap IntKind.i64 ((↑n : Int) - (↑s : Int))) - s) (m - s) (Int.toNat (IntKind.wrap IntKind.i64 ((↑n : Int) - (↑s : Int))) - m) l)))))))
  (Tree.br (decide ((↑md : Int) < IntKind.wrap IntKind.i64 ((↑n : Int) - (↑s : Int))))
  (Tree.br (decide (IntKind.wrap IntKind.i64 ((↑n : Int) - (↑s : Int)) < (↑b : Int)))
  (Tree.need
  (List.length (List.map encO (rot m (Int.toNat (IntKind.wrap IntKind.i64 ((↑n : Int) - (↑s : Int))) - s) (m - s) (Int.toNat (IntKind.wrap IntKind.i64 ((↑n : Int) - (↑s : Int))) - m) l)) = List.length l ∧
  ILeL [i64 (↑md : Int), IVal.v (Value.int IntKind.i64 (IntKind.wrap IntKind.i64 ((↑n : Int) - (↑s : Int)))), i64 (↑b : Int), fnV 48] [i64 (↑md : Int), i64 (↑(n - s) : Int), i64 (↑b : Int), fnV 48] ∧
  WSpec prog 118 68 6
  (List.map encO (rot m (Int.toNat (IntKind.wrap IntKind.i64 ((↑n : Int) - (↑s : Int))) - s) (m - s) (Int.toNat (IntKind.wrap IntKind.i64 ((↑n : Int) - (↑s : Int))) - m) l))
  [i64 (↑md : Int), i64 (↑(n - s) : Int), i64 (↑b : Int), fnV 48] (IVal.tup []) (List.map encO (symF ltO md (n - s) b (R118 a s md b n m l))))
  (Tree.need (eqs []) (Tree.done Exit.ret (lretW l0 68 6 (IVal.tup []) (List.map encO (symF ltO md (n - s) b (R118 a s md b n m l)))))))
  (Tree.need (eqs [])
  (Tree.done Exit.ret
  (lretW l0 68 6 (IVal.tup [])
  (List.map encO (rot m (Int.toNat (IntKind.wrap IntKind.i64 ((↑n : Int) - (↑s : Int))) - s) (m - s) (Int.toNat (IntKind.wrap IntKind.i64 ((↑n : Int) - (↑s : Int))) - m) l))))))
  (Tree.need (eqs [])
  (Tree.done Exit.ret
  (lretW l0 68 6 (IVal.tup [])
  (List.map encO (rot m (Int.toNat (IntKind.wrap IntKind.i64 ((↑n : Int) - (↑s : Int))) - s) (m - s) (Int.toNat (IntKind.wrap IntKind.i64 ((↑n : Int) - (↑s : Int))) - m) l))))))))
  (Tree.br (decide ((↑a : Int) < (↑s : Int)))
  (Tree.br (decide ((↑s : Int) < (↑md : Int)))
  (Tree.need
  (List.length (List.map encO l) = List.length l ∧
  ILeL [i64 (↑a : Int), i64 (↑s : Int), i64 (↑md : Int), fnV 48] [i64 (↑a : Int), i64 (↑s : Int), i64 (↑md : Int), fnV 48] ∧
  WSpec prog 118 68 6 (List.map encO l) [i64 (↑a : Int), i64 (↑s : Int), i64 (↑md : Int), fnV 48] (IVal.tup []) (List.map encO (symF ltO a s md l)))
  (Tree.br (decide ((↑md : Int) < IntKind.wrap IntKind.i64 ((↑n : Int) - (↑s : Int))))
  (Tree.br (decide (IntKind.wrap IntKind.i64 ((↑n : Int) - (↑s : Int)) < (↑b : Int)))
  (Tree.need
  (List.length (List.map encO (symF ltO a s md l)) = List.length l ∧
  ILeL [i64 (↑md : Int), IVal.v (Value.int IntKind.i64 (IntKind.wrap IntKind.i64 ((↑n : Int) - (↑s : Int)))), i64 (↑b : Int), fnV 48]
  [i64 (↑md : Int), i64 (↑(n - s) : Int), i64 (↑b : Int), fnV 48] ∧
  WSpec prog 118 68 6 (List.map encO (symF ltO a s md l)) [i64 (↑md : Int), i64 (↑(n - s) : Int), i64 (↑b : Int), fnV 48] (IVal.tup [])
  (List.map encO (symF ltO md (n - s) b (R118 a s md b n m l))))
  (Tree.need (eqs []) (Tree.done Exit.ret (lretW l0 68 6 (IVal.tup []) (List.map encO (symF ltO md (n - s) b (R118 a s md b n m l)))))))
  (Tree.need (eqs []) (Tree.done Exit.ret (lretW l0 68 6 (IVal.tup []) (List.map encO (symF ltO a s md l))))))
  (Tree.need (eqs []) (Tree.done Exit.ret (lretW l0 68 6 (IVal.tup []) (List.map encO (symF ltO a s md l)))))))
  (Tree.br (decide ((↑md : Int) < IntKind.wrap IntKind.i64 ((↑n : Int) - (↑s : Int))))
  (Tree.br (decide (IntKind.wrap IntKind.i64 ((↑n : Int) - (↑s : Int)) < (↑b : Int)))
  (Tree.need
  (List.length (List.map encO l) = List.length l ∧
  ILeL [i64 (↑md : Int), IVal.v (Value.int IntKind.i64 (IntKind.wrap IntKind.i64 ((↑n : Int) - (↑s : Int)))), i64 (↑b : Int), fnV 48] [i64 (↑md : Int), i64 (↑(n - s) : Int), i64 (↑b : Int), fnV 48] ∧
  WSpec prog 118 68 6 (List.map encO l) [i64 (↑md : Int), i64 (↑(n - s) : Int), i64 (↑b : Int), fnV 48] (IVal.tup []) (List.map encO (symF ltO md (n - s) b (R118 a s md b n m l))))
  (Tree.need (eqs []) (Tree.done Exit.ret (lretW l0 68 6 (IVal.tup []) (List.map encO (symF ltO md (n - s) b (R118 a s md b n m l)))))))
  (Tree.need (eqs []) (Tree.done Exit.ret (lretW l0 68 6 (IVal.tup []) (List.map encO l)))))
  (Tree.need (eqs []) (Tree.done Exit.ret (lretW l0 68 6 (IVal.tup []) (List.map encO l))))))
  (Tree.br (decide ((↑md : Int) < IntKind.wrap IntKind.i64 ((↑n : Int) - (↑s : Int))))
  (Tree.br (decide (IntKind.wrap IntKind.i64 ((↑n : Int) - (↑s : Int)) < (↑b : Int)))
  (Tree.need
  (List.length (List.map encO l) = List.length l ∧
  ILeL [i64 (↑md : Int), IVal.v (Value.int IntKind.i64 (IntKind.wrap IntKind.i64 ((↑n : Int) - (↑s : Int)))), i64 (↑b : Int), fnV 48] [i64 (↑md : Int), i64 (↑(n - s) : Int), i64 (↑b : Int), fnV 48] ∧
  WSpec prog 118 68 6 (List.map encO l) [i64 (↑md : Int), i64 (↑(n - s) : Int), i64 (↑b : Int), fnV 48] (IVal.tup []) (List.map encO (symF ltO md (n - s) b (R118 a s md b n m l))))
  (Tree.need (eqs []) (Tree.done Exit.ret (lretW l0 68 6 (IVal.tup []) (List.map encO (symF ltO md (n - s) b (R118 a s md b n m l)))))))
  (Tree.need (eqs []) (Tree.done Exit.ret (lretW l0 68 6 (IVal.tup []) (List.map encO l)))))
  (Tree.need (eqs []) (Tree.done Exit.ret (lretW l0 68 6 (IVal.tup []) (List.map encO l)))))))
  (Tree.br (decide ((↑a : Int) < (↑s : Int)))
  (Tree.br (decide ((↑s : Int) < (↑md : Int)))
  (Tree.need
  (List.length (List.map encO l) = List.length l ∧
  ILeL [i64 (↑a : Int), i64 (↑s : Int), i64 (↑md : Int), fnV 48] [i64 (↑a : Int), i64 (↑s : Int), i64 (↑md : Int), fnV 48] ∧
  WSpec prog 118 68 6 (List.map encO l) [i64 (↑a : Int), i64 (↑s : Int), i64 (↑md : Int), fnV 48] (IVal.tup []) (List.map encO (symF ltO a s md l)))
  (Tree.br (decide ((↑md : Int) < IntKind.wrap IntKind.i64 ((↑n : Int) - (↑s : Int))))
  (Tree.br (decide (IntKind.wrap IntKind.i64 ((↑n : Int) - (↑s : Int)) < (↑b : Int)))
  (Tree.need
  (List.length (List.map encO (symF ltO a s md l)) = List.length l ∧
  ILeL [i64 (↑md : Int), IVal.v (Value.int IntKind.i64 (IntKind.wrap IntKind.i64 ((↑n : Int) - (↑s : Int)))), i64 (↑b : Int), fnV 48] [i64 (↑md : Int), i64 (↑(n - s) : Int), i64 (↑b : Int), fnV 48] ∧
  WSpec prog 118 68 6 (List.map encO (symF ltO a s md l)) [i64 (↑md : Int), i64 (↑(n - s) : Int), i64 (↑b : Int), fnV 48] (IVal.tup [])
  (List.map encO (symF ltO md (n - s) b (R118 a s md b n m l))))
  (Tree.need (eqs []) (Tree.done Exit.ret (lretW l0 68 6 (IVal.tup []) (List.map encO (symF ltO md (n - s) b (R118 a s md b n m l)))))))
  (Tree.need (eqs []) (Tree.done Exit.ret (lretW l0 68 6 (IVal.tup []) (List.map encO (symF ltO a s md l))))))
  (Tree.need (eqs []) (Tree.done Exit.ret (lretW l0 68 6 (IVal.tup []) (List.map encO (symF ltO a s md l)))))))
  (Tree.br (decide ((↑md : Int) < IntKind.wrap IntKind.i64 ((↑n : Int) - (↑s : Int))))
  (Tree.br (decide (IntKind.wrap IntKind.i64 ((↑n : Int) - (↑s : Int)) < (↑b : Int)))
  (Tree.need
  (List.length (List.map encO l) = List.length l ∧
  ILeL [i64 (↑md : Int), IVal.v (Value.int IntKind.i64 (IntKind.wrap IntKind.i64 ((↑n : Int) - (↑s : Int)))), i64 (↑b : Int), fnV 48] [i64 (↑md : Int), i64 (↑(n - s) : Int), i64 (↑b : Int), fnV 48] ∧
  WSpec prog 118 68 6 (List.map encO l) [i64 (↑md : Int), i64 (↑(n - s) : Int), i64 (↑b : Int), fnV 48] (IVal.tup []) (List.map encO (symF ltO md (n - s) b (R118 a s md b n m l))))
  (Tree.need (eqs []) (Tree.done Exit.ret (lretW l0 68 6 (IVal.tup []) (List.map encO (symF ltO md (n - s) b (R118 a s md b n m l)))))))
  (Tree.need (eqs []) (Tree.done Exit.ret (lretW l0 68 6 (IVal.tup []) (List.map encO l)))))
  (Tree.need (eqs []) (Tree.done Exit.ret (lretW l0 68 6 (IVal.tup []) (List.map encO l))))))
  (Tree.br (decide ((↑md : Int) < IntKind.wrap IntKind.i64 ((↑n : Int) - (↑s : Int))))
  (Tree.br (decide (IntKind.wrap IntKind.i64 ((↑n : Int) - (↑s : Int)) < (↑b : Int)))
  (Tree.need
  (List.length (List.map encO l) = List.length l ∧
  ILeL [i64 (↑md : Int), IVal.v (Value.int IntKind.i64 (IntKind.wrap IntKind.i64 ((↑n : Int) - (↑s : Int)))), i64 (↑b : Int), fnV 48] [i64 (↑md : Int), i64 (↑(n - s) : Int), i64 (↑b : Int), fnV 48] ∧
  WSpec prog 118 68 6 (List.map encO l) [i64 (↑md : Int), i64 (↑(n - s) : Int), i64 (↑b : Int), fnV 48] (IVal.tup []) (List.map encO (symF ltO md (n - s) b (R118 a s md b n m l))))
  (Tree.need (eqs []) (Tree.done Exit.ret (lretW l0 68 6 (IVal.tup []) (List.map encO (symF ltO md (n - s) b (R118 a s md b n m l)))))))
  (Tree.need (eqs []) (Tree.done Exit.ret (lretW l0 68 6 (IVal.tup []) (List.map encO l)))))
  (Tree.need (eqs []) (Tree.done Exit.ret (lretW l0 68 6 (IVal.tup []) (List.map encO l))))))))
  (Tree.loop 33
  (LState.mk
  [(22,
  AVal.imm
  (IVal.v
  (Value.int IntKind.i64
  (IntKind.wrap IntKind.i64 (IntKind.wrap IntKind.i64 (IntKind.wrap IntKind.i64 (Int.fdiv (IntKind.wrap IntKind.u64 (IntKind.wrap IntKind.i64 ((↑a : Int) + (↑b : Int)))) (2 : Int)) + (↑m : Int)) - (1 : Int)))))),
  (21, AVal.imm (i64 (↑m : Int))), (20, AVal.imm (i64 (↑a : Int))),
  (19, AVal.imm (IVal.v (Value.int IntKind.i64 (IntKind.wrap IntKind.i64 (IntKind.wrap IntKind.i64 (Int.fdiv (IntKind.wrap IntKind.u64 (IntKind.wrap IntKind.i64 ((↑a : Int) + (↑b : Int)))) (2 : Int)) + (↑m : Int)))))),
  (18, AVal.imm (IVal.v (Value.int IntKind.i64 (IntKind.wrap IntKind.i64 (Int.fdiv (IntKind.wrap IntKind.u64 (IntKind.wrap IntKind.i64 ((↑a : Int) + (↑b : Int)))) (2 : Int)))))), (4, AVal.imm (fnV 48)),
  (3, AVal.imm (i64 (↑b : Int))), (2, AVal.imm (i64 (↑m : Int))), (1, AVal.imm (i64 (↑a : Int))), (0, AVal.own 0 (List.length (List.map encO l)))]
  [(0, Entry.brow l0 68 6 (List.map encO l))] 220 32 [])
  (Tree.done (Exit.exit 8) (EE118 l0 a m b n md s l))
  (Tree.br (decide ((↑s : Int) < (↑m : Int)))
  (Tree.br (decide ((↑m : Int) < IntKind.wrap IntKind.i64 ((↑n : Int) - (↑s : Int))))
  (Tree.need
  (List.length (List.map encO l) = List.length l ∧
  ILeL [i64 (↑s : Int), i64 (↑m : Int), IVal.v (Value.int IntKind.i64 (IntKind.wrap IntKind.i64 ((↑n : Int) - (↑s : Int)))), fnV 48]
  [i64 (↑s : Int), i64 (↑m : Int), i64 (IntKind.wrap IntKind.i64 ((↑n : Int) - (↑s : Int))), fnV 48] ∧
  WSpec prog 123 68 6 (List.map encO l) [i64 (↑s : Int), i64 (↑m : Int), i64 (IntKind.wrap IntKind.i64 ((↑n : Int) - (↑s : Int))), fnV 48] (IVal.tup [])
  (List.map encO (rot m (Int.toNat (IntKind.wrap IntKind.i64 ((↑n : Int) - (↑s : Int))) - s) (m - s) (Int.toNat (IntKind.wrap IntKind.i64 ((↑n : Int) - (↑s : Int))) - m) l)))
  (Tree.br (decide ((↑a : Int) < (↑s : Int)))
  (Tree.br (decide ((↑s : Int) < (↑md : Int)))
  (Tree.need
  (List.length (List.map encO (rot m (Int.toNat (IntKind.wrap IntKind.i64 ((↑n : Int) - (↑s : Int))) - s) (m - s) (Int.toNat (IntKind.wrap IntKind.i64 ((↑n : Int) - (↑s : Int))) - m) l)) = List.length l ∧
  ILeL [i64 (↑a : Int), i64 (↑s : Int), i64 (↑md : Int), fnV 48] [i64 (↑a : Int), i64 (↑s : Int), i64 (↑md : Int), fnV 48] ∧
  WSpec prog 118 68 6
  (List.map encO (rot m (Int.toNat (IntKind.wrap IntKind.i64 ((↑n : Int) - (↑s : Int))) - s) (m - s) (Int.toNat (IntKind.wrap IntKind.i64 ((↑n : Int) - (↑s : Int))) - m) l))
  [i64 (↑a : Int), i64 (↑s : Int), i64 (↑md : Int), fnV 48] (IVal.tup [])
  (List.map encO (symF ltO a s md (rot m (Int.toNat (IntKind.wrap IntKind.i64 ((↑n : Int) - (↑s : Int))) - s) (m - s) (Int.toNat (IntKind.wrap IntKind.i64 ((↑n : Int) - (↑s : Int))) - m) l))))
  (Tree.br (decide ((↑md : Int) < IntKind.wrap IntKind.i64 ((↑n : Int) - (↑s : Int))))
  (Tree.br (decide (IntKind.wrap IntKind.i64 ((↑n : Int) - (↑s : Int)) < (↑b : Int)))
  (Tree.need
  (List.length (List.map encO (symF ltO a s md (rot m (Int.toNat (IntKind.wrap IntKind.i64 ((↑n : Int) - (↑s : Int))) - s) (m - s) (Int.toNat (IntKind.wrap IntKind.i64 ((↑n : Int) - (↑s : Int))) - m) l))) =
  List.length l ∧
  ILeL [i64 (↑md : Int), IVal.v (Value.int IntKind.i64 (IntKind.wrap IntKind.i64 ((↑n : Int) - (↑s : Int)))), i64 (↑b : Int), fnV 48]
  [i64 (↑md : Int), i64 (↑(n - s) : Int), i64 (↑b : Int), fnV 48] ∧
  WSpec prog 118 68 6
  (List.map encO (symF ltO a s md (rot m (Int.toNat (IntKind.wrap IntKind.i64 ((↑n : Int) - (↑s : Int))) - s) (m - s) (Int.toNat (IntKind.wrap IntKind.i64 ((↑n : Int) - (↑s : Int))) - m) l)))
  [i64 (↑md : Int), i64 (↑(n - s) : Int), i64 (↑b : Int), fnV 48] (IVal.tup []) (List.map encO (symF ltO md (n - s) b (R118 a s md b n m l))))
  (Tree.need (eqs []) (Tree.done Exit.ret (lretW l0 68 6 (IVal.tup []) (List.map encO (symF ltO md (n - s) b (R118 a s md b n m l)))))))
  (Tree.need (eqs [])
  (Tree.done Exit.ret
  (lretW l0 68 6 (IVal.tup [])
  (List.map encO (symF ltO a s md (rot m (Int.toNat (IntKind.wrap IntKind.i64 ((↑n : Int) - (↑s : Int))) - s) (m - s) (Int.toNat (IntKind.wrap IntKind.i64 ((↑n : Int) - (↑s : Int))) - m) l)))))))
  (Tree.need (eqs [])
  (Tree.done Exit.ret
  (lretW l0 68 6 (IVal.tup [])
  (List.map encO (symF ltO a s md (rot m (Int.toNat (IntKind.wrap IntKind.i64 ((↑n : Int) - (↑s : Int))) - s) (m - s) (Int.toNat (IntKind.wrap IntKind.i64 ((↑n : Int) - (↑s : Int))) - m) l))))))))
  (Tree.br (decide ((↑md : Int) < IntKind.wrap IntKind.i64 ((↑n : Int) - (↑s : Int))))
  (Tree.br (decide (IntKind.wrap IntKind.i64 ((↑n : Int) - (↑s : Int)) < (↑b : Int)))
  (Tree.need
  (List.length (List.map encO (rot m (Int.toNat (IntKind.wrap IntKind.i64 ((↑n : Int) - (↑s : Int))) - s) (m - s) (Int.toNat (IntKind.wrap IntKind.i64 ((↑n : Int) - (↑s : Int))) - m) l)) = List.length l ∧
  ILeL [i64 (↑md : Int), IVal.v (Value.int IntKind.i64 (IntKind.wrap IntKind.i64 ((↑n : Int) - (↑s : Int)))), i64 (↑b : Int), fnV 48]
  [i64 (↑md : Int), i64 (↑(n - s) : Int), i64 (↑b : Int), fnV 48] ∧
  WSpec prog 118 68 6
  (List.map encO (rot m (Int.toNat (IntKind.wrap IntKind.i64 ((↑n : Int) - (↑s : Int))) - s) (m - s) (Int.toNat (IntKind.wrap IntKind.i64 ((↑n : Int) - (↑s : Int))) - m) l))
  [i64 (↑md : Int), i64 (↑(n - s) : Int), i64 (↑b : Int), fnV 48] (IVal.tup []) (List.map encO (symF ltO md (n - s) b (R118 a s md b n m l))))
  (Tree.need (eqs []) (Tree.done Exit.ret (lretW l0 68 6 (IVal.tup []) (List.map encO (symF ltO md (n - s) b (R118 a s md b n m l)))))))
  (Tree.need (eqs [])
  (Tree.done Exit.ret
  (lretW l0 68 6 (IVal.tup [])
  (List.map encO (rot m (Int.toNat (IntKind.wrap IntKind.i64 ((↑n : Int) - (↑s : Int))) - s) (m - s) (Int.toNat (IntKind.wrap IntKind.i64 ((↑n : Int) - (↑s : Int))) - m) l))))))
  (Tree.need (eqs [])
  (Tree.done Exit.ret
  (lretW l0 68 6 (IVal.tup [])
  (List.map encO (rot m (Int.toNat (IntKind.wrap IntKind.i64 ((↑n : Int) - (↑s : Int))) - s) (m - s) (Int.toNat (IntKind.wrap IntKind.i64 ((↑n : Int) - (↑s : Int))) - m) l)))))))
  (Tree.br (decide ((↑md : Int) < IntKind.wrap IntKind.i64 ((↑n : Int) - (↑s : Int))))
  (Tree.br (decide (IntKind.wrap IntKind.i64 ((↑n : Int) - (↑s : Int)) < (↑b : Int)))
  (Tree.need
  (List.length (List.map encO (rot m (Int.toNat (IntKind.wrap IntKind.i64 ((↑n : Int) - (↑s : Int))) - s) (m - s) (Int.toNat (IntKind.wrap IntKind.i64 ((↑n : Int) - (↑s : Int))) - m) l)) = List.length l ∧
  ILeL [i64 (↑md : Int), IVal.v (Value.int IntKind.i64 (IntKind.wrap IntKind.i64 ((↑n : Int) - (↑s : Int)))), i64 (↑b : Int), fnV 48] [i64 (↑md : Int), i64 (↑(n - s) : Int), i64 (↑b : Int), fnV 48] ∧
  WSpec prog 118 68 6
  (List.map encO (rot m (Int.toNat (IntKind.wrap IntKind.i64 ((↑n : Int) - (↑s : Int))) - s) (m - s) (Int.toNat (IntKind.wrap IntKind.i64 ((↑n : Int) - (↑s : Int))) - m) l))
  [i64 (↑md : Int), i64 (↑(n - s) : Int), i64 (↑b : Int), fnV 48] (IVal.tup []) (List.map encO (symF ltO md (n - s) b (R118 a s md b n m l))))
  (Tree.need (eqs []) (Tree.done Exit.ret (lretW l0 68 6 (IVal.tup []) (List.map encO (symF ltO md (n - s) b (R118 a s md b n m l)))))))
  (Tree.need (eqs [])
  (Tree.done Exit.ret
  (lretW l0 68 6 (IVal.tup [])
  (List.map encO (rot m (Int.toNat (IntKind.wrap IntKind.i64 ((↑n : Int) - (↑s : Int))) - s) (m - s) (Int.toNat (IntKind.wrap IntKind.i64 ((↑n : Int) - (↑s : Int))) - m) l))))))
  (Tree.need (eqs [])
  (Tree.done Exit.ret
  (lretW l0 68 6 (IVal.tup [])
  (List.map encO (rot m (Int.toNat (IntKind.wrap IntKind.i64 ((↑n : Int) - (↑s : Int))) - s) (m - s) (Int.toNat (IntKind.wrap IntKind.i64 ((↑n : Int) - (↑s : Int))) - m) l))))))))
  (Tree.br (decide ((↑a : Int) < (↑s : Int)))
  (Tree.br (decide ((↑s : Int) < (↑md : Int)))
  (Tree.need
  (List.length (List.map encO l) = List.length l ∧
  ILeL [i64 (↑a : Int), i64 (↑s : Int), i64 (↑md : Int), fnV 48] [i64 (↑a : Int), i64 (↑s : Int), i64 (↑md : Int), fnV 48] ∧
  WSpec prog 118 68 6 (List.map encO l) [i64 (↑a : Int), i64 (↑s : Int), i64 (↑md : Int), fnV 48] (IVal.tup []) (List.map encO (symF ltO a s md l)))
  (Tree.br (decide ((↑md : Int) < IntKind.wrap IntKind.i64 ((↑n : Int) - (↑s : Int))))
  (Tree.br (decide (IntKind.wrap IntKind.i64 ((↑n : Int) - (↑s : Int)) < (↑b : Int)))
  (Tree.need
  (List.length (List.map encO (symF ltO a s md l)) = List.length l ∧
  ILeL [i64 (↑md : Int), IVal.v (Value.int IntKind.i64 (IntKind.wrap IntKind.i64 ((↑n : Int) - (↑s : Int)))), i64 (↑b : Int), fnV 48]
  [i64 (↑md : Int), i64 (↑(n - s) : Int), i64 (↑b : Int), fnV 48] ∧
  WSpec prog 118 68 6 (List.map encO (symF ltO a s md l)) [i64 (↑md : Int), i64 (↑(n - s) : Int), i64 (↑b : Int), fnV 48] (IVal.tup [])
  (List.map encO (symF ltO md (n - s) b (R118 a s md b n m l))))
  (Tree.need (eqs []) (Tree.done Exit.ret (lretW l0 68 6 (IVal.tup []) (List.map encO (symF ltO md (n - s) b (R118 a s md b n m l)))))))
  (Tree.need (eqs []) (Tree.done Exit.ret (lretW l0 68 6 (IVal.tup []) (List.map encO (symF ltO a s md l))))))
  (Tree.need (eqs []) (Tree.done Exit.ret (lretW l0 68 6 (IVal.tup []) (List.map encO (symF ltO a s md l)))))))
  (Tree.br (decide ((↑md : Int) < IntKind.wrap IntKind.i64 ((↑n : Int) - (↑s : Int))))
  (Tree.br (decide (IntKind.wrap IntKind.i64 ((↑n : Int) - (↑s : Int)) < (↑b : Int)))
  (Tree.need
  (List.length (List.map encO l) = List.length l ∧
  ILeL [i64 (↑md : Int), IVal.v (Value.int IntKind.i64 (IntKind.wrap IntKind.i64 ((↑n : Int) - (↑s : Int)))), i64 (↑b : Int), fnV 48] [i64 (↑md : Int), i64 (↑(n - s) : Int), i64 (↑b : Int), fnV 48] ∧
  WSpec prog 118 68 6 (List.map encO l) [i64 (↑md : Int), i64 (↑(n - s) : Int), i64 (↑b : Int), fnV 48] (IVal.tup []) (List.map encO (symF ltO md (n - s) b (R118 a s md b n m l))))
  (Tree.need (eqs []) (Tree.done Exit.ret (lretW l0 68 6 (IVal.tup []) (List.map encO (symF ltO md (n - s) b (R118 a s md b n m l)))))))
  (Tree.need (eqs []) (Tree.done Exit.ret (lretW l0 68 6 (IVal.tup []) (List.map encO l)))))
  (Tree.need (eqs []) (Tree.done Exit.ret (lretW l0 68 6 (IVal.tup []) (List.map encO l))))))
  (Tree.br (decide ((↑md : Int) < IntKind.wrap IntKind.i64 ((↑n : Int) - (↑s : Int))))
  (Tree.br (decide (IntKind.wrap IntKind.i64 ((↑n : Int) - (↑s : Int)) < (↑b : Int)))
  (Tree.need
  (List.length (List.map encO l) = List.length l ∧
  ILeL [i64 (↑md : Int), IVal.v (Value.int IntKind.i64 (IntKind.wrap IntKind.i64 ((↑n : Int) - (↑s : Int)))), i64 (↑b : Int), fnV 48] [i64 (↑md : Int), i64 (↑(n - s) : Int), i64 (↑b : Int), fnV 48] ∧
  WSpec prog 118 68 6 (List.map encO l) [i64 (↑md : Int), i64 (↑(n - s) : Int), i64 (↑b : Int), fnV 48] (IVal.tup []) (List.map encO (symF ltO md (n - s) b (R118 a s md b n m l))))
  (Tree.need (eqs []) (Tree.done Exit.ret (lretW l0 68 6 (IVal.tup []) (List.map encO (symF ltO md (n - s) b (R118 a s md b n m l)))))))
  (Tree.need (eqs []) (Tree.done Exit.ret (lretW l0 68 6 (IVal.tup []) (List.map encO l)))))
  (Tree.need (eqs []) (Tree.done Exit.ret (lretW l0 68 6 (IVal.tup []) (List.map encO l)))))))
  (Tree.br (decide ((↑a : Int) < (↑s : Int)))
  (Tree.br (decide ((↑s : Int) < (↑md : Int)))
  (Tree.need
  (List.length (List.map encO l) = List.length l ∧
  ILeL [i64 (↑a : Int), i64 (↑s : Int), i64 (↑md : Int), fnV 48] [i64 (↑a : Int), i64 (↑s : Int), i64 (↑md : Int), fnV 48] ∧
  WSpec prog 118 68 6 (List.map encO l) [i64 (↑a : Int), i64 (↑s : Int), i64 (↑md : Int), fnV 48] (IVal.tup []) (List.map encO (symF ltO a s md l)))
  (Tree.br (decide ((↑md : Int) < IntKind.wrap IntKind.i64 ((↑n : Int) - (↑s : Int))))
  (Tree.br (decide (IntKind.wrap IntKind.i64 ((↑n : Int) - (↑s : Int)) < (↑b : Int)))
  (Tree.need
  (List.length (List.map encO (symF ltO a s md l)) = List.length l ∧
  ILeL [i64 (↑md : Int), IVal.v (Value.int IntKind.i64 (IntKind.wrap IntKind.i64 ((↑n : Int) - (↑s : Int)))), i64 (↑b : Int), fnV 48] [i64 (↑md : Int), i64 (↑(n - s) : Int), i64 (↑b : Int), fnV 48] ∧
  WSpec prog 118 68 6 (List.map encO (symF ltO a s md l)) [i64 (↑md : Int), i64 (↑(n - s) : Int), i64 (↑b : Int), fnV 48] (IVal.tup [])
  (List.map encO (symF ltO md (n - s) b (R118 a s md b n m l))))
  (Tree.need (eqs []) (Tree.done Exit.ret (lretW l0 68 6 (IVal.tup []) (List.map encO (symF ltO md (n - s) b (R118 a s md b n m l)))))))
  (Tree.need (eqs []) (Tree.done Exit.ret (lretW l0 68 6 (IVal.tup []) (List.map encO (symF ltO a s md l))))))
  (Tree.need (eqs []) (Tree.done Exit.ret (lretW l0 68 6 (IVal.tup []) (List.map encO (symF ltO a s md l)))))))
  (Tree.br (decide ((↑md : Int) < IntKind.wrap IntKind.i64 ((↑n : Int) - (↑s : Int))))
  (Tree.br (decide (IntKind.wrap IntKind.i64 ((↑n : Int) - (↑s : Int)) < (↑b : Int)))
  (Tree.need
  (List.length (List.map encO l) = List.length l ∧
  ILeL [i64 (↑md : Int), IVal.v (Value.int IntKind.i64 (IntKind.wrap IntKind.i64 ((↑n : Int) - (↑s : Int)))), i64 (↑b : Int), fnV 48] [i64 (↑md : Int), i64 (↑(n - s) : Int), i64 (↑b : Int), fnV 48] ∧
  WSpec prog 118 68 6 (List.map encO l) [i64 (↑md : Int), i64 (↑(n - s) : Int), i64 (↑b : Int), fnV 48] (IVal.tup []) (List.map encO (symF ltO md (n - s) b (R118 a s md b n m l))))
  (Tree.need (eqs []) (Tree.done Exit.ret (lretW l0 68 6 (IVal.tup []) (List.map encO (symF ltO md (n - s) b (R118 a s md b n m l)))))))
  (Tree.need (eqs []) (Tree.done Exit.ret (lretW l0 68 6 (IVal.tup []) (List.map encO l)))))
  (Tree.need (eqs []) (Tree.done Exit.ret (lretW l0 68 6 (IVal.tup []) (List.map encO l))))))
  (Tree.br (decide ((↑md : Int) < IntKind.wrap IntKind.i64 ((↑n : Int) - (↑s : Int))))
  (Tree.br (decide (IntKind.wrap IntKind.i64 ((↑n : Int) - (↑s : Int)) < (↑b : Int)))
  (Tree.need
  (List.length (List.map encO l) = List.length l ∧
  ILeL [i64 (↑md : Int), IVal.v (Value.int IntKind.i64 (IntKind.wrap IntKind.i64 ((↑n : Int) - (↑s : Int)))), i64 (↑b : Int), fnV 48] [i64 (↑md : Int), i64 (↑(n - s) : Int), i64 (↑b : Int), fnV 48] ∧
  WSpec prog 118 68 6 (List.map encO l) [i64 (↑md : Int), i64 (↑(n - s) : Int), i64 (↑b : Int), fnV 48] (IVal.tup []) (List.map encO (symF ltO md (n - s) b (R118 a s md b n m l))))
  (Tree.need (eqs []) (Tree.done Exit.ret (lretW l0 68 6 (IVal.tup []) (List.map encO (symF ltO md (n - s) b (R118 a s md b n m l)))))))
  (Tree.need (eqs []) (Tree.done Exit.ret (lretW l0 68 6 (IVal.tup []) (List.map encO l)))))
  (Tree.need (eqs []) (Tree.done Exit.ret (lretW l0 68 6 (IVal.tup []) (List.map encO l))))))))))) := by kernel_rfl
def IA120 (l0 : Abs.Loc) (a i j : Nat) (x : List Attest) : LState := { t := [(11, .imm (i64 j)), (10, .imm (i64 i)), (4, .imm (fnV 51)), (1, .imm (i64 a)), (0, .own 0 x.length)], s := [(0, .brow l0 57 2 (x.map encT))], m := 220, n := 1 }
def EA120 (l0 : Abs.Loc) (a i : Nat) (x : List Attest) : LState := { t := [(10, .imm (i64 i)), (1, .imm (i64 a)), (0, .own 0 x.length)], s := [(0, .brow l0 57 2 (x.map encT))], m := 220, n := 1 }
def finA120 : Exit → Fin
  | .normal => ⟨[], [11, 10, 4, 1, 0], [0]⟩
  | _ => ⟨[], [10, 1, 0], [0]⟩
def TA120r (l0 : Abs.Loc) (a i j : Nat) (x : List Attest) : Tell :=
  Tell.mk (fun x x_1 => false) (fun x x_1 => Orc.no) (fun x => Tree.fail 1000003 0) (fun x => 0) (fun x => ([], []))
  (oget
  [(11, 5, 4, Orc.elem (encT (List.getD x (Int.toNat (IntKind.wrap IntKind.i64 (Int.fdiv (IntKind.wrap IntKind.u64 (IntKind.wrap IntKind.i64 ((↑i : Int) + (↑j : Int)))) (2 : Int)))) default))),
  (11, 5, 8, Orc.elem (encT (List.getD x a default))),
  (11, 5, 9,
  Orc.call [encT (List.getD x (Int.toNat (IntKind.wrap IntKind.i64 (Int.fdiv (IntKind.wrap IntKind.u64 (IntKind.wrap IntKind.i64 ((↑i : Int) + (↑j : Int)))) (2 : Int)))) default), encT (List.getD x a default)]
  (i64 (cmpI (List.getD x (Int.toNat (IntKind.wrap IntKind.i64 (Int.fdiv (IntKind.wrap IntKind.u64 (IntKind.wrap IntKind.i64 ((↑i : Int) + (↑j : Int)))) (2 : Int)))) default).cust (List.getD x a default).cust)))])
  fun x x_1 => Tree.fail 1000003 0
theorem tA120r (l0 : Abs.Loc) (a i j : Nat) (x : List Attest) : levL prog Proofs.Tryz.f120 3 (IA120 l0 a i j x) (TA120r l0 a i j x) finA120 =
  Tree.br (decide ((↑i : Int) < (↑j : Int)))
  (Tree.need ((0 : Int) ≤ (1 : Int))
  (Tree.need
  ((0 : Int) ≤ IntKind.wrap IntKind.i64 (Int.fdiv (IntKind.wrap IntKind.u64 (IntKind.wrap IntKind.i64 ((↑i : Int) + (↑j : Int)))) (2 : Int)) ∧
  Int.toNat (IntKind.wrap IntKind.i64 (Int.fdiv (IntKind.wrap IntKind.u64 (IntKind.wrap IntKind.i64 ((↑i : Int) + (↑j : Int)))) (2 : Int))) < List.length x)
  (Tree.need
  ((List.map encT x)[Int.toNat (IntKind.wrap IntKind.i64 (Int.fdiv (IntKind.wrap IntKind.u64 (IntKind.wrap IntKind.i64 ((↑i : Int) + (↑j : Int)))) (2 : Int)))]? =
  some (encT (List.getD x (Int.toNat (IntKind.wrap IntKind.i64 (Int.fdiv (IntKind.wrap IntKind.u64 (IntKind.wrap IntKind.i64 ((↑i : Int) + (↑j : Int)))) (2 : Int)))) default)))
  (Tree.need ((0 : Int) ≤ (↑a : Int) ∧ a < List.length x)
  (Tree.need ((List.map encT x)[a]? = some (encT (List.getD x a default)))
  (Tree.need
  (ILeL [encT (List.getD x (Int.toNat (IntKind.wrap IntKind.i64 (Int.fdiv (IntKind.wrap IntKind.u64 (IntKind.wrap IntKind.i64 ((↑i : Int) + (↑j : Int)))) (2 : Int)))) default), encT (List.getD x a default)]
  [encT (List.getD x (Int.toNat (IntKind.wrap IntKind.i64 (Int.fdiv (IntKind.wrap IntKind.u64 (IntKind.wrap IntKind.i64 ((↑i : Int) + (↑j : Int)))) (2 : Int)))) default), encT (List.getD x a default)] ∧
  ASpec prog 51 [encT (List.getD x (Int.toNat (IntKind.wrap IntKind.i64 (Int.fdiv (IntKind.wrap IntKind.u64 (IntKind.wrap IntKind.i64 ((↑i : Int) + (↑j : Int)))) (2 : Int)))) default), encT (List.getD x a default)]
  (i64 (cmpI (List.getD x (Int.toNat (IntKind.wrap IntKind.i64 (Int.fdiv (IntKind.wrap IntKind.u64 (IntKind.wrap IntKind.i64 ((↑i : Int) + (↑j : Int)))) (2 : Int)))) default).cust (List.getD x a default).cust)))
  (Tree.br
  (decide (cmpI (List.getD x (Int.toNat (IntKind.wrap IntKind.i64 (Int.fdiv (IntKind.wrap IntKind.u64 (IntKind.wrap IntKind.i64 ((↑i : Int) + (↑j : Int)))) (2 : Int)))) default).cust (List.getD x a default).cust < (0 : Int)))
  (Tree.done Exit.normal
  (LState.mk
  [(11, AVal.imm (i64 (↑j : Int))),
  (10,
  AVal.imm (IVal.v (Value.int IntKind.i64 (IntKind.wrap IntKind.i64 (IntKind.wrap IntKind.i64 (Int.fdiv (IntKind.wrap IntKind.u64 (IntKind.wrap IntKind.i64 ((↑i : Int) + (↑j : Int)))) (2 : Int)) + (1 : Int)))))),
  (4, AVal.imm (fnV 51)), (1, AVal.imm (i64 (↑a : Int))), (0, AVal.own 0 (List.length x))]
  [(0, Entry.brow l0 57 2 (List.map encT x))] 220 25 []))
  (Tree.done Exit.normal
  (LState.mk
  [(11, AVal.imm (IVal.v (Value.int IntKind.i64 (IntKind.wrap IntKind.i64 (Int.fdiv (IntKind.wrap IntKind.u64 (IntKind.wrap IntKind.i64 ((↑i : Int) + (↑j : Int)))) (2 : Int)))))),
  (10, AVal.imm (i64 (↑i : Int))), (4, AVal.imm (fnV 51)), (1, AVal.imm (i64 (↑a : Int))), (0, AVal.own 0 (List.length x))]
  [(0, Entry.brow l0 57 2 (List.map encT x))] 220 24 [])))))))))
  (Tree.done (Exit.exit 0)
  (LState.mk [(10, AVal.imm (i64 (↑i : Int))), (1, AVal.imm (i64 (↑a : Int))), (0, AVal.own 0 (List.length x))] [(0, Entry.brow l0 57 2 (List.map encT x))] 220 4 [])) := by kernel_rfl
def IB120 (l0 : Abs.Loc) (k i : Nat) (x : List Attest) : LState := { t := [(13, .imm (i64 k)), (10, .imm (i64 i)), (0, .own 0 x.length)], s := [(0, .brow l0 57 2 (x.map encT))], m := 220, n := 1 }
def ER120 (l0 : Abs.Loc) (x : List Attest) : LState := { t := [], s := [(0, .brow l0 57 2 (x.map encT))], m := 220, n := 1 }
def finB120 : Exit → Fin
  | .normal => ⟨[], [13, 10, 0], [0]⟩
  | _ => ⟨[], [], [0]⟩
def TB120r (l0 : Abs.Loc) (k i : Nat) (x : List Attest) : Tell :=
  Tell.mk (fun x x_1 => false) (fun x x_1 => Orc.no) (fun x => Tree.fail 1000003 0) (fun x => 0) (fun x => ([], []))
  (oget
  [(5, 11, 9, Orc.elem (encT (List.getD x (Int.toNat (IntKind.wrap IntKind.i64 ((↑k : Int) + (1 : Int)))) default))), (5, 11, 13, Orc.elem (encT (List.getD x k default))),
  (5, 11, 15, Orc.elem (IVal.tup [])), (5, 11, 17, Orc.elem (IVal.tup []))])
  fun x x_1 => Tree.fail 1000003 0
theorem tB120r (l0 : Abs.Loc) (k i : Nat) (x : List Attest) : levL prog Proofs.Tryz.f120 9 (IB120 l0 k i x) (TB120r l0 k i x) finB120 =
  Tree.br (decide ((↑k : Int) < IntKind.wrap IntKind.i64 ((↑i : Int) - (1 : Int))))
  (Tree.need ((0 : Int) ≤ IntKind.wrap IntKind.i64 ((↑k : Int) + (1 : Int)) ∧ Int.toNat (IntKind.wrap IntKind.i64 ((↑k : Int) + (1 : Int))) < List.length x)
  (Tree.need ((List.map encT x)[Int.toNat (IntKind.wrap IntKind.i64 ((↑k : Int) + (1 : Int)))]? = some (encT (List.getD x (Int.toNat (IntKind.wrap IntKind.i64 ((↑k : Int) + (1 : Int)))) default)))
  (Tree.need ((0 : Int) ≤ (↑k : Int) ∧ k < List.length x)
  (Tree.need ((List.map encT x)[k]? = some (encT (List.getD x k default)))
  (Tree.need ((0 : Int) ≤ (↑k : Int) ∧ k < List.length x)
  (Tree.need (k < List.length (List.map encT x))
  (Tree.need ((0 : Int) ≤ IntKind.wrap IntKind.i64 ((↑k : Int) + (1 : Int)) ∧ Int.toNat (IntKind.wrap IntKind.i64 ((↑k : Int) + (1 : Int))) < List.length x)
  (Tree.need (Int.toNat (IntKind.wrap IntKind.i64 ((↑k : Int) + (1 : Int))) < List.length (List.set (List.map encT x) k (encT (List.getD x (Int.toNat (IntKind.wrap IntKind.i64 ((↑k : Int) + (1 : Int)))) default))))
  (Tree.done Exit.normal
  (LState.mk [(13, AVal.imm (IVal.v (Value.int IntKind.i64 (IntKind.wrap IntKind.i64 ((↑k : Int) + (1 : Int)))))), (10, AVal.imm (i64 (↑i : Int))), (0, AVal.own 0 (List.length x))]
  [(0,
  Entry.brow l0 57 2
  (List.set (List.set (List.map encT x) k (encT (List.getD x (Int.toNat (IntKind.wrap IntKind.i64 ((↑k : Int) + (1 : Int)))) default))) (Int.toNat (IntKind.wrap IntKind.i64 ((↑k : Int) + (1 : Int))))
  (encT (List.getD x k default))))]
  220 26 []))))))))))
  (Tree.done (Exit.exit 2) (LState.mk [] [(0, Entry.brow l0 57 2 (List.map encT x))] 220 5 [])) := by kernel_rfl
def IC120 (l0 : Abs.Loc) (m i j : Nat) (x : List Attest) : LState := { t := [(15, .imm (i64 j)), (14, .imm (i64 i)), (4, .imm (fnV 51)), (2, .imm (i64 m)), (0, .own 0 x.length)], s := [(0, .brow l0 57 2 (x.map encT))], m := 220, n := 1 }
def EC120 (l0 : Abs.Loc) (m i : Nat) (x : List Attest) : LState := { t := [(14, .imm (i64 i)), (2, .imm (i64 m)), (0, .own 0 x.length)], s := [(0, .brow l0 57 2 (x.map encT))], m := 220, n := 1 }
def finC120 : Exit → Fin
  | .normal => ⟨[], [15, 14, 4, 2, 0], [0]⟩
  | _ => ⟨[], [14, 2, 0], [0]⟩
def TC120r (l0 : Abs.Loc) (m i j : Nat) (x : List Attest) : Tell :=
  Tell.mk (fun x x_1 => false) (fun x x_1 => Orc.no) (fun x => Tree.fail 1000003 0) (fun x => 0) (fun x => ([], []))
  (oget
  [(11, 17, 4, Orc.elem (encT (List.getD x m default))),
  (11, 17, 8, Orc.elem (encT (List.getD x (Int.toNat (IntKind.wrap IntKind.i64 (Int.fdiv (IntKind.wrap IntKind.u64 (IntKind.wrap IntKind.i64 ((↑i : Int) + (↑j : Int)))) (2 : Int)))) default))),
  (11, 17, 9,
  Orc.call [encT (List.getD x m default), encT (List.getD x (Int.toNat (IntKind.wrap IntKind.i64 (Int.fdiv (IntKind.wrap IntKind.u64 (IntKind.wrap IntKind.i64 ((↑i : Int) + (↑j : Int)))) (2 : Int)))) default)]
  (i64 (cmpI (List.getD x m default).cust (List.getD x (Int.toNat (IntKind.wrap IntKind.i64 (Int.fdiv (IntKind.wrap IntKind.u64 (IntKind.wrap IntKind.i64 ((↑i : Int) + (↑j : Int)))) (2 : Int)))) default).cust)))])
  fun x x_1 => Tree.fail 1000003 0
theorem tC120r (l0 : Abs.Loc) (m i j : Nat) (x : List Attest) : levL prog Proofs.Tryz.f120 15 (IC120 l0 m i j x) (TC120r l0 m i j x) finC120 =
  Tree.br (decide ((↑i : Int) < (↑j : Int)))
  (Tree.need ((0 : Int) ≤ (1 : Int))
  (Tree.need ((0 : Int) ≤ (↑m : Int) ∧ m < List.length x)
  (Tree.need ((List.map encT x)[m]? = some (encT (List.getD x m default)))
  (Tree.need
  ((0 : Int) ≤ IntKind.wrap IntKind.i64 (Int.fdiv (IntKind.wrap IntKind.u64 (IntKind.wrap IntKind.i64 ((↑i : Int) + (↑j : Int)))) (2 : Int)) ∧
  Int.toNat (IntKind.wrap IntKind.i64 (Int.fdiv (IntKind.wrap IntKind.u64 (IntKind.wrap IntKind.i64 ((↑i : Int) + (↑j : Int)))) (2 : Int))) < List.length x)
  (Tree.need
  ((List.map encT x)[Int.toNat (IntKind.wrap IntKind.i64 (Int.fdiv (IntKind.wrap IntKind.u64 (IntKind.wrap IntKind.i64 ((↑i : Int) + (↑j : Int)))) (2 : Int)))]? =
  some (encT (List.getD x (Int.toNat (IntKind.wrap IntKind.i64 (Int.fdiv (IntKind.wrap IntKind.u64 (IntKind.wrap IntKind.i64 ((↑i : Int) + (↑j : Int)))) (2 : Int)))) default)))
  (Tree.need
  (ILeL [encT (List.getD x m default), encT (List.getD x (Int.toNat (IntKind.wrap IntKind.i64 (Int.fdiv (IntKind.wrap IntKind.u64 (IntKind.wrap IntKind.i64 ((↑i : Int) + (↑j : Int)))) (2 : Int)))) default)]
  [encT (List.getD x m default), encT (List.getD x (Int.toNat (IntKind.wrap IntKind.i64 (Int.fdiv (IntKind.wrap IntKind.u64 (IntKind.wrap IntKind.i64 ((↑i : Int) + (↑j : Int)))) (2 : Int)))) default)] ∧
  ASpec prog 51 [encT (List.getD x m default), encT (List.getD x (Int.toNat (IntKind.wrap IntKind.i64 (Int.fdiv (IntKind.wrap IntKind.u64 (IntKind.wrap IntKind.i64 ((↑i : Int) + (↑j : Int)))) (2 : Int)))) default)]
  (i64 (cmpI (List.getD x m default).cust (List.getD x (Int.toNat (IntKind.wrap IntKind.i64 (Int.fdiv (IntKind.wrap IntKind.u64 (IntKind.wrap IntKind.i64 ((↑i : Int) + (↑j : Int)))) (2 : Int)))) default).cust)))
  (Tree.br
  (!decide (cmpI (List.getD x m default).cust (List.getD x (Int.toNat (IntKind.wrap IntKind.i64 (Int.fdiv (IntKind.wrap IntKind.u64 (IntKind.wrap IntKind.i64 ((↑i : Int) + (↑j : Int)))) (2 : Int)))) default).cust < (0 : Int)))
  (Tree.done Exit.normal
  (LState.mk
  [(15, AVal.imm (i64 (↑j : Int))),
  (14,
  AVal.imm (IVal.v (Value.int IntKind.i64 (IntKind.wrap IntKind.i64 (IntKind.wrap IntKind.i64 (Int.fdiv (IntKind.wrap IntKind.u64 (IntKind.wrap IntKind.i64 ((↑i : Int) + (↑j : Int)))) (2 : Int)) + (1 : Int)))))),
  (4, AVal.imm (fnV 51)), (2, AVal.imm (i64 (↑m : Int))), (0, AVal.own 0 (List.length x))]
  [(0, Entry.brow l0 57 2 (List.map encT x))] 220 26 []))
  (Tree.done Exit.normal
  (LState.mk
  [(15, AVal.imm (IVal.v (Value.int IntKind.i64 (IntKind.wrap IntKind.i64 (Int.fdiv (IntKind.wrap IntKind.u64 (IntKind.wrap IntKind.i64 ((↑i : Int) + (↑j : Int)))) (2 : Int)))))),
  (14, AVal.imm (i64 (↑i : Int))), (4, AVal.imm (fnV 51)), (2, AVal.imm (i64 (↑m : Int))), (0, AVal.own 0 (List.length x))]
  [(0, Entry.brow l0 57 2 (List.map encT x))] 220 25 [])))))))))
  (Tree.done (Exit.exit 4)
  (LState.mk [(14, AVal.imm (i64 (↑i : Int))), (2, AVal.imm (i64 (↑m : Int))), (0, AVal.own 0 (List.length x))] [(0, Entry.brow l0 57 2 (List.map encT x))] 220 4 [])) := by kernel_rfl
def ID120 (l0 : Abs.Loc) (k i : Nat) (x : List Attest) : LState := { t := [(17, .imm (i64 k)), (14, .imm (i64 i)), (0, .own 0 x.length)], s := [(0, .brow l0 57 2 (x.map encT))], m := 220, n := 1 }
def finD120 : Exit → Fin
  | .normal => ⟨[], [17, 14, 0], [0]⟩
  | _ => ⟨[], [], [0]⟩
def TD120r (l0 : Abs.Loc) (k i : Nat) (x : List Attest) : Tell :=
  Tell.mk (fun x x_1 => false) (fun x x_1 => Orc.no) (fun x => Tree.fail 1000003 0) (fun x => 0) (fun x => ([], []))
  (oget
  [(4, 23, 9, Orc.elem (encT (List.getD x (Int.toNat (IntKind.wrap IntKind.i64 ((↑k : Int) - (1 : Int)))) default))), (4, 23, 13, Orc.elem (encT (List.getD x k default))),
  (4, 23, 15, Orc.elem (IVal.tup [])), (4, 23, 17, Orc.elem (IVal.tup []))])
  fun x x_1 => Tree.fail 1000003 0
theorem tD120r (l0 : Abs.Loc) (k i : Nat) (x : List Attest) : levL prog Proofs.Tryz.f120 21 (ID120 l0 k i x) (TD120r l0 k i x) finD120 =
  Tree.br (decide ((↑i : Int) < (↑k : Int)))
  (Tree.need ((0 : Int) ≤ IntKind.wrap IntKind.i64 ((↑k : Int) - (1 : Int)) ∧ Int.toNat (IntKind.wrap IntKind.i64 ((↑k : Int) - (1 : Int))) < List.length x)
  (Tree.need ((List.map encT x)[Int.toNat (IntKind.wrap IntKind.i64 ((↑k : Int) - (1 : Int)))]? = some (encT (List.getD x (Int.toNat (IntKind.wrap IntKind.i64 ((↑k : Int) - (1 : Int)))) default)))
  (Tree.need ((0 : Int) ≤ (↑k : Int) ∧ k < List.length x)
  (Tree.need ((List.map encT x)[k]? = some (encT (List.getD x k default)))
  (Tree.need ((0 : Int) ≤ (↑k : Int) ∧ k < List.length x)
  (Tree.need (k < List.length (List.map encT x))
  (Tree.need ((0 : Int) ≤ IntKind.wrap IntKind.i64 ((↑k : Int) - (1 : Int)) ∧ Int.toNat (IntKind.wrap IntKind.i64 ((↑k : Int) - (1 : Int))) < List.length x)
  (Tree.need (Int.toNat (IntKind.wrap IntKind.i64 ((↑k : Int) - (1 : Int))) < List.length (List.set (List.map encT x) k (encT (List.getD x (Int.toNat (IntKind.wrap IntKind.i64 ((↑k : Int) - (1 : Int)))) default))))
  (Tree.done Exit.normal
  (LState.mk [(17, AVal.imm (IVal.v (Value.int IntKind.i64 (IntKind.wrap IntKind.i64 ((↑k : Int) - (1 : Int)))))), (14, AVal.imm (i64 (↑i : Int))), (0, AVal.own 0 (List.length x))]
  [(0,
  Entry.brow l0 57 2
  (List.set (List.set (List.map encT x) k (encT (List.getD x (Int.toNat (IntKind.wrap IntKind.i64 ((↑k : Int) - (1 : Int)))) default))) (Int.toNat (IntKind.wrap IntKind.i64 ((↑k : Int) - (1 : Int))))
  (encT (List.getD x k default))))]
  220 25 []))))))))))
  (Tree.done (Exit.exit 6) (LState.mk [] [(0, Entry.brow l0 57 2 (List.map encT x))] 220 4 [])) := by kernel_rfl
def IE120 (l0 : Abs.Loc) (a m b q n md i j : Nat) (x : List Attest) : LState := { t := [(22, .imm (i64 q)), (21, .imm (i64 j)), (20, .imm (i64 i)), (19, .imm (i64 n)), (18, .imm (i64 md)), (4, .imm (fnV 51)), (3, .imm (i64 b)), (2, .imm (i64 m)), (1, .imm (i64 a)), (0, .own 0 x.length)], s := [(0, .brow l0 57 2 (x.map encT))], m := 220, n := 1 }
def EE120 (l0 : Abs.Loc) (a m b n md i : Nat) (x : List Attest) : LState := { t := [(20, .imm (i64 i)), (19, .imm (i64 n)), (18, .imm (i64 md)), (4, .imm (fnV 51)), (3, .imm (i64 b)), (2, .imm (i64 m)), (1, .imm (i64 a)), (0, .own 0 x.length)], s := [(0, .brow l0 57 2 (x.map encT))], m := 220, n := 1 }
def finE120 : Exit → Fin
  | .normal => ⟨[], [22, 21, 20, 19, 18, 4, 3, 2, 1, 0], [0]⟩
  | _ => ⟨[], [20, 19, 18, 4, 3, 2, 1, 0], [0]⟩
def TE120r (l0 : Abs.Loc) (a m b q n md i j : Nat) (x : List Attest) : Tell :=
  Tell.mk (fun x x_1 => false) (fun x x_1 => Orc.no) (fun x => Tree.fail 1000003 0) (fun x => 0) (fun x => ([], []))
  (oget
  [(11, 35, 6,
  Orc.elem (encT (List.getD x (Int.toNat (IntKind.wrap IntKind.i64 ((↑q : Int) - IntKind.wrap IntKind.i64 (Int.fdiv (IntKind.wrap IntKind.u64 (IntKind.wrap IntKind.i64 ((↑i : Int) + (↑j : Int)))) (2 : Int))))) default))),
  (11, 35, 10, Orc.elem (encT (List.getD x (Int.toNat (IntKind.wrap IntKind.i64 (Int.fdiv (IntKind.wrap IntKind.u64 (IntKind.wrap IntKind.i64 ((↑i : Int) + (↑j : Int)))) (2 : Int)))) default))),
  (11, 35, 11,
  Orc.call
  [encT (List.getD x (Int.toNat (IntKind.wrap IntKind.i64 ((↑q : Int) - IntKind.wrap IntKind.i64 (Int.fdiv (IntKind.wrap IntKind.u64 (IntKind.wrap IntKind.i64 ((↑i : Int) + (↑j : Int)))) (2 : Int))))) default),
  encT (List.getD x (Int.toNat (IntKind.wrap IntKind.i64 (Int.fdiv (IntKind.wrap IntKind.u64 (IntKind.wrap IntKind.i64 ((↑i : Int) + (↑j : Int)))) (2 : Int)))) default)]
  (i64
  (cmpI (List.getD x (Int.toNat (IntKind.wrap IntKind.i64 ((↑q : Int) - IntKind.wrap IntKind.i64 (Int.fdiv (IntKind.wrap IntKind.u64 (IntKind.wrap IntKind.i64 ((↑i : Int) + (↑j : Int)))) (2 : Int))))) default).cust
  (List.getD x (Int.toNat (IntKind.wrap IntKind.i64 (Int.fdiv (IntKind.wrap IntKind.u64 (IntKind.wrap IntKind.i64 ((↑i : Int) + (↑j : Int)))) (2 : Int)))) default).cust)))])
  fun x x_1 => Tree.fail 1000003 0
theorem tE120r (l0 : Abs.Loc) (a m b q n md i j : Nat) (x : List Attest) : levL prog Proofs.Tryz.f120 33 (IE120 l0 a m b q n md i j x) (TE120r l0 a m b q n md i j x) finE120 =
  Tree.br (decide ((↑i : Int) < (↑j : Int)))
  (Tree.need ((0 : Int) ≤ (1 : Int))
  (Tree.need
  ((0 : Int) ≤ IntKind.wrap IntKind.i64 ((↑q : Int) - IntKind.wrap IntKind.i64 (Int.fdiv (IntKind.wrap IntKind.u64 (IntKind.wrap IntKind.i64 ((↑i : Int) + (↑j : Int)))) (2 : Int))) ∧
  Int.toNat (IntKind.wrap IntKind.i64 ((↑q : Int) - IntKind.wrap IntKind.i64 (Int.fdiv (IntKind.wrap IntKind.u64 (IntKind.wrap IntKind.i64 ((↑i : Int) + (↑j : Int)))) (2 : Int)))) < List.length x)
  (Tree.need
  ((List.map encT x)[Int.toNat (IntKind.wrap IntKind.i64 ((↑q : Int) - IntKind.wrap IntKind.i64 (Int.fdiv (IntKind.wrap IntKind.u64 (IntKind.wrap IntKind.i64 ((↑i : Int) + (↑j : Int)))) (2 : Int))))]? =
  some (encT (List.getD x (Int.toNat (IntKind.wrap IntKind.i64 ((↑q : Int) - IntKind.wrap IntKind.i64 (Int.fdiv (IntKind.wrap IntKind.u64 (IntKind.wrap IntKind.i64 ((↑i : Int) + (↑j : Int)))) (2 : Int))))) default)))
  (Tree.need
  ((0 : Int) ≤ IntKind.wrap IntKind.i64 (Int.fdiv (IntKind.wrap IntKind.u64 (IntKind.wrap IntKind.i64 ((↑i : Int) + (↑j : Int)))) (2 : Int)) ∧
  Int.toNat (IntKind.wrap IntKind.i64 (Int.fdiv (IntKind.wrap IntKind.u64 (IntKind.wrap IntKind.i64 ((↑i : Int) + (↑j : Int)))) (2 : Int))) < List.length x)
  (Tree.need
  ((List.map encT x)[Int.toNat (IntKind.wrap IntKind.i64 (Int.fdiv (IntKind.wrap IntKind.u64 (IntKind.wrap IntKind.i64 ((↑i : Int) + (↑j : Int)))) (2 : Int)))]? =
  some (encT (List.getD x (Int.toNat (IntKind.wrap IntKind.i64 (Int.fdiv (IntKind.wrap IntKind.u64 (IntKind.wrap IntKind.i64 ((↑i : Int) + (↑j : Int)))) (2 : Int)))) default)))
  (Tree.need
  (ILeL
  [encT (List.getD x (Int.toNat (IntKind.wrap IntKind.i64 ((↑q : Int) - IntKind.wrap IntKind.i64 (Int.fdiv (IntKind.wrap IntKind.u64 (IntKind.wrap IntKind.i64 ((↑i : Int) + (↑j : Int)))) (2 : Int))))) default),
  encT (List.getD x (Int.toNat (IntKind.wrap IntKind.i64 (Int.fdiv (IntKind.wrap IntKind.u64 (IntKind.wrap IntKind.i64 ((↑i : Int) + (↑j : Int)))) (2 : Int)))) default)]
  [encT (List.getD x (Int.toNat (IntKind.wrap IntKind.i64 ((↑q : Int) - IntKind.wrap IntKind.i64 (Int.fdiv (IntKind.wrap IntKind.u64 (IntKind.wrap IntKind.i64 ((↑i : Int) + (↑j : Int)))) (2 : Int))))) default),
  encT (List.getD x (Int.toNat (IntKind.wrap IntKind.i64 (Int.fdiv (IntKind.wrap IntKind.u64 (IntKind.wrap IntKind.i64 ((↑i : Int) + (↑j : Int)))) (2 : Int)))) default)] ∧
  ASpec prog 51
  [encT (List.getD x (Int.toNat (IntKind.wrap IntKind.i64 ((↑q : Int) - IntKind.wrap IntKind.i64 (Int.fdiv (IntKind.wrap IntKind.u64 (IntKind.wrap IntKind.i64 ((↑i : Int) + (↑j : Int)))) (2 : Int))))) default),
  encT (List.getD x (Int.toNat (IntKind.wrap IntKind.i64 (Int.fdiv (IntKind.wrap IntKind.u64 (IntKind.wrap IntKind.i64 ((↑i : Int) + (↑j : Int)))) (2 : Int)))) default)]
  (i64
  (cmpI (List.getD x (Int.toNat (IntKind.wrap IntKind.i64 ((↑q : Int) - IntKind.wrap IntKind.i64 (Int.fdiv (IntKind.wrap IntKind.u64 (IntKind.wrap IntKind.i64 ((↑i : Int) + (↑j : Int)))) (2 : Int))))) default).cust
  (List.getD x (Int.toNat (IntKind.wrap IntKind.i64 (Int.fdiv (IntKind.wrap IntKind.u64 (IntKind.wrap IntKind.i64 ((↑i : Int) + (↑j : Int)))) (2 : Int)))) default).cust)))
  (Tree.br
  (!decide
  (cmpI (List.getD x (Int.toNat (IntKind.wrap IntKind.i64 ((↑q : Int) - IntKind.wrap IntKind.i64 (Int.fdiv (IntKind.wrap IntKind.u64 (IntKind.wrap IntKind.i64 ((↑i : Int) + (↑j : Int)))) (2 : Int))))) default).cust
  (List.getD x (Int.toNat (IntKind.wrap IntKind.i64 (Int.fdiv (IntKind.wrap IntKind.u64 (IntKind.wrap IntKind.i64 ((↑i : Int) + (↑j : Int)))) (2 : Int)))) default).cust <
  (0 : Int)))
  (Tree.done Exit.normal
  (LState.mk
  [(22, AVal.imm (i64 (↑q : Int))), (21, AVal.imm (i64 (↑j : Int))),
  (20,
  AVal.imm (IVal.v (Value.int IntKind.i64 (IntKind.wrap IntKind.i64 (IntKind.wrap IntKind.i64 (Int.fdiv (IntKind.wrap IntKind.u64 (IntKind.wrap IntKind.i64 ((↑i : Int) + (↑j : Int)))) (2 : Int)) + (1 : Int)))))),
  (19, AVal.imm (i64 (↑n : Int))), (18, AVal.imm (i64 (↑md : Int))), (4, AVal.imm (fnV 51)), (3, AVal.imm (i64 (↑b : Int))), (2, AVal.imm (i64 (↑m : Int))),
  (1, AVal.imm (i64 (↑a : Int))), (0, AVal.own 0 (List.length x))]
  [(0, Entry.brow l0 57 2 (List.map encT x))] 220 28 []))
  (Tree.done Exit.normal
  (LState.mk
  [(22, AVal.imm (i64 (↑q : Int))),
  (21, AVal.imm (IVal.v (Value.int IntKind.i64 (IntKind.wrap IntKind.i64 (Int.fdiv (IntKind.wrap IntKind.u64 (IntKind.wrap IntKind.i64 ((↑i : Int) + (↑j : Int)))) (2 : Int)))))),
  (20, AVal.imm (i64 (↑i : Int))), (19, AVal.imm (i64 (↑n : Int))), (18, AVal.imm (i64 (↑md : Int))), (4, AVal.imm (fnV 51)), (3, AVal.imm (i64 (↑b : Int))),
  (2, AVal.imm (i64 (↑m : Int))), (1, AVal.imm (i64 (↑a : Int))), (0, AVal.own 0 (List.length x))]
  [(0, Entry.brow l0 57 2 (List.map encT x))] 220 27 [])))))))))
  (Tree.done (Exit.exit 8)
  (LState.mk
  [(20, AVal.imm (i64 (↑i : Int))), (19, AVal.imm (i64 (↑n : Int))), (18, AVal.imm (i64 (↑md : Int))), (4, AVal.imm (fnV 51)), (3, AVal.imm (i64 (↑b : Int))),
  (2, AVal.imm (i64 (↑m : Int))), (1, AVal.imm (i64 (↑a : Int))), (0, AVal.own 0 (List.length x))]
  [(0, Entry.brow l0 57 2 (List.map encT x))] 220 4 [])) := by kernel_rfl
theorem lA120 (l0 : Abs.Loc) (a i j f : Nat) (x : List Attest) (ha : a < x.length) (hij : i ≤ j) (hj : j ≤ x.length) (hl : x.length ≤ 2 ^ 61) (hf : j - i ≤ f) (σ : LState) (h : LSub σ (IA120 l0 a i j x)) :
    LoopOk prog [] (bodyOf Proofs.Tryz.f120) 3 σ (.done (.exit 0) (EA120 l0 a (bs (fun h => ltT (x.getD h default) (x.getD a default)) f i j) x)) := by
  refine LoopOk.of_levL (γ := { g : Nat × Nat × Nat // g.1 ≤ g.2.1 ∧ g.2.1 ≤ x.length ∧ g.2.1 - g.1 ≤ g.2.2 ∧ bs (fun h => ltT (x.getD h default) (x.getD a default)) g.2.2 g.1 g.2.1 = bs (fun h => ltT (x.getD h default) (x.getD a default)) f i j })
    (fun g => TA120r l0 a g.1.1 g.1.2.1 x) finA120 (fun g => IA120 l0 a g.1.1 g.1.2.1 x) (fun g => g.1.2.1 - g.1.1) ⟨(i, j, f), hij, hj, hf, rfl⟩ (by kernel_rfl) h ?_
  rintro ⟨⟨i, j, f'⟩, q1, q2, q3, q4⟩
  simp only at q1 q2 q3 q4
  simp only []
  have e1 := i64_half (i := i) (j := j) (by omega)
  rw [tA120r]
  simp only [e1, Int.toNat_natCast]
  refine ⟨fun h1 => ?_, fun h1 => ?_⟩
  · have hlt : i < j := by simp at h1; omega
    cases f' with
    | zero => omega
    | succ f' =>
      rw [bs, if_pos hlt] at q4
      refine ⟨by omega, fun _ => ⟨⟨by omega, by omega⟩, fun _ => ⟨getD_map _ _ _ _ (by omega), fun _ => ⟨⟨by omega, ha⟩, fun _ => ⟨getD_map _ _ _ _ ha, fun _ => ⟨⟨ILeL.refl _, c51 _ _⟩, fun _ => ⟨fun h2 => ?_, fun h2 => ?_⟩⟩⟩⟩⟩⟩⟩
      · rw [if_pos (show ltT _ _ = true from h2)] at q4
        refine ⟨⟨((i + j) / 2 + 1, j, f'), by simp only; omega, q2, by simp only; omega, q4⟩, by simp only; omega, ⟨rfl, ?_, rfl, rfl, rfl, trivial⟩, ⟨rfl, trivial⟩, rfl, rfl, rfl⟩
        exact congrArg (fun n => AVal.imm (i64 n)) (i64_succ (by omega))
      · rw [if_neg (fun hc => by rw [show ltT _ _ = false from h2] at hc; cases hc)] at q4
        exact ⟨⟨(i, (i + j) / 2, f'), by simp only; omega, by simp only; omega, by simp only; omega, q4⟩, by simp only; omega, ⟨rfl, rfl, rfl, rfl, rfl, trivial⟩, ⟨rfl, trivial⟩, rfl, rfl, rfl⟩
  · have hge : ¬ i < j := by simp at h1; omega
    have : bs (fun h => ltT (x.getD h default) (x.getD a default)) f' i j = i := by
      cases f' with
      | zero => rfl
      | succ f' => rw [bs, if_neg hge]
    rw [this] at q4
    rw [← q4]
    exact ⟨rfl, ⟨rfl, rfl, rfl, trivial⟩, ⟨rfl, trivial⟩, rfl, rfl, rfl⟩
theorem lC120 (l0 : Abs.Loc) (m i j f : Nat) (x : List Attest) (ha : m < x.length) (hij : i ≤ j) (hj : j ≤ x.length) (hl : x.length ≤ 2 ^ 61) (hf : j - i ≤ f) (σ : LState) (h : LSub σ (IC120 l0 m i j x)) :
    LoopOk prog [] (bodyOf Proofs.Tryz.f120) 15 σ (.done (.exit 4) (EC120 l0 m (bs (fun h => !ltT (x.getD m default) (x.getD h default)) f i j) x)) := by
  refine LoopOk.of_levL (γ := { g : Nat × Nat × Nat // g.1 ≤ g.2.1 ∧ g.2.1 ≤ x.length ∧ g.2.1 - g.1 ≤ g.2.2 ∧ bs (fun h => !ltT (x.getD m default) (x.getD h default)) g.2.2 g.1 g.2.1 = bs (fun h => !ltT (x.getD m default) (x.getD h default)) f i j })
    (fun g => TC120r l0 m g.1.1 g.1.2.1 x) finC120 (fun g => IC120 l0 m g.1.1 g.1.2.1 x) (fun g => g.1.2.1 - g.1.1) ⟨(i, j, f), hij, hj, hf, rfl⟩ (by kernel_rfl) h ?_
  rintro ⟨⟨i, j, f'⟩, q1, q2, q3, q4⟩
  simp only at q1 q2 q3 q4
  simp only []
  have e1 := i64_half (i := i) (j := j) (by omega)
  rw [tC120r]
  simp only [e1, Int.toNat_natCast]
  refine ⟨fun h1 => ?_, fun h1 => ?_⟩
  · have hlt : i < j := by simp at h1; omega
    cases f' with
    | zero => omega
    | succ f' =>
      rw [bs, if_pos hlt] at q4
      refine ⟨by omega, fun _ => ⟨⟨by omega, ha⟩, fun _ => ⟨getD_map _ _ _ _ ha, fun _ => ⟨⟨by omega, by omega⟩, fun _ => ⟨getD_map _ _ _ _ (by omega), fun _ => ⟨⟨ILeL.refl _, c51 _ _⟩, fun _ => ⟨fun h2 => ?_, fun h2 => ?_⟩⟩⟩⟩⟩⟩⟩
      · rw [if_pos (show (!ltT _ _) = true from h2)] at q4
        refine ⟨⟨((i + j) / 2 + 1, j, f'), by simp only; omega, q2, by simp only; omega, q4⟩, by simp only; omega, ⟨rfl, ?_, rfl, rfl, rfl, trivial⟩, ⟨rfl, trivial⟩, rfl, rfl, rfl⟩
        exact congrArg (fun n => AVal.imm (i64 n)) (i64_succ (by omega))
      · rw [if_neg (fun hc => by rw [show (!ltT _ _) = false from h2] at hc; cases hc)] at q4
        exact ⟨⟨(i, (i + j) / 2, f'), by simp only; omega, by simp only; omega, by simp only; omega, q4⟩, by simp only; omega, ⟨rfl, rfl, rfl, rfl, rfl, trivial⟩, ⟨rfl, trivial⟩, rfl, rfl, rfl⟩
  · have hge : ¬ i < j := by simp at h1; omega
    have : bs (fun h => !ltT (x.getD m default) (x.getD h default)) f' i j = i := by
      cases f' with
      | zero => rfl
      | succ f' => rw [bs, if_neg hge]
    rw [this] at q4
    rw [← q4]
    exact ⟨rfl, ⟨rfl, rfl, rfl, trivial⟩, ⟨rfl, trivial⟩, rfl, rfl, rfl⟩
theorem lE120 (l0 : Abs.Loc) (a m b q n md i j f : Nat) (x : List Attest) (hq : j ≤ q + 1) (hq2 : q < i + x.length) (hij : i ≤ j) (hj : j ≤ x.length) (hl : x.length ≤ 2 ^ 61) (hf : j - i ≤ f) (σ : LState) (h : LSub σ (IE120 l0 a m b q n md i j x)) :
    LoopOk prog [] (bodyOf Proofs.Tryz.f120) 33 σ (.done (.exit 8) (EE120 l0 a m b n md (bs (fun c => !ltT (x.getD (q - c) default) (x.getD c default)) f i j) x)) := by
  refine LoopOk.of_levL (γ := { g : Nat × Nat × Nat // i ≤ g.1 ∧ g.1 ≤ g.2.1 ∧ g.2.1 ≤ j ∧ g.2.1 - g.1 ≤ g.2.2 ∧ bs (fun c => !ltT (x.getD (q - c) default) (x.getD c default)) g.2.2 g.1 g.2.1 = bs (fun c => !ltT (x.getD (q - c) default) (x.getD c default)) f i j })
    (fun g => TE120r l0 a m b q n md g.1.1 g.1.2.1 x) finE120 (fun g => IE120 l0 a m b q n md g.1.1 g.1.2.1 x) (fun g => g.1.2.1 - g.1.1) ⟨(i, j, f), Nat.le_refl _, hij, Nat.le_refl _, hf, rfl⟩ (by kernel_rfl) h ?_
  rintro ⟨⟨i', j', f'⟩, q0, q1, q2, q3, q4⟩
  simp only at q0 q1 q2 q3 q4
  simp only []
  have e1 := i64_half (i := i') (j := j') (by omega)
  have e2 : i' < j' → IntKind.i64.wrap ((q : Int) - (((i' + j') / 2 : Nat) : Int)) = ((q - (i' + j') / 2 : Nat) : Int) := fun h => i64_sub (by omega) (by omega)
  rw [tE120r]
  simp only [e1, Int.toNat_natCast]
  refine ⟨fun h1 => ?_, fun h1 => ?_⟩
  · have hlt : i' < j' := by simp at h1; omega
    simp only [e2 hlt, Int.toNat_natCast]
    cases f' with
    | zero => omega
    | succ f' =>
      rw [bs, if_pos hlt] at q4
      refine ⟨by omega, fun _ => ⟨⟨by omega, by omega⟩, fun _ => ⟨getD_map _ _ _ _ (by omega), fun _ => ⟨⟨by omega, by omega⟩, fun _ => ⟨getD_map _ _ _ _ (by omega), fun _ => ⟨⟨ILeL.refl _, c51 _ _⟩, fun _ => ⟨fun h2 => ?_, fun h2 => ?_⟩⟩⟩⟩⟩⟩⟩
      · rw [if_pos (show (!ltT _ _) = true from h2)] at q4
        refine ⟨⟨((i' + j') / 2 + 1, j', f'), by simp only; omega, by simp only; omega, by simp only; omega, by simp only; omega, q4⟩, by simp only; omega, ⟨rfl, rfl, ?_, rfl, rfl, rfl, rfl, rfl, rfl, rfl, trivial⟩, ⟨rfl, trivial⟩, rfl, rfl, rfl⟩
        exact congrArg (fun n => AVal.imm (i64 n)) (i64_succ (by omega))
      · rw [if_neg (fun hc => by rw [show (!ltT _ _) = false from h2] at hc; cases hc)] at q4
        exact ⟨⟨(i', (i' + j') / 2, f'), q0, by simp only; omega, by simp only; omega, by simp only; omega, q4⟩, by simp only; omega, ⟨rfl, rfl, rfl, rfl, rfl, rfl, rfl, rfl, rfl, rfl, trivial⟩, ⟨rfl, trivial⟩, rfl, rfl, rfl⟩
  · have hge : ¬ i' < j' := by simp at h1; omega
    have : bs (fun c => !ltT (x.getD (q - c) default) (x.getD c default)) f' i' j' = i' := by
      cases f' with
      | zero => rfl
      | succ f' => rw [bs, if_neg hge]
    rw [this] at q4
    rw [← q4]
    exact ⟨rfl, ⟨rfl, rfl, rfl, rfl, rfl, rfl, rfl, rfl, trivial⟩, ⟨rfl, trivial⟩, rfl, rfl, rfl⟩
theorem lB120 (l0 : Abs.Loc) (a i : Nat) (l : List Attest) (ha : a < i) (hi : i ≤ l.length) (hl : l.length ≤ 2 ^ 61) (σ : LState) (h : LSub σ (IB120 l0 a i l)) : LoopOk prog [] (bodyOf Proofs.Tryz.f120) 9 σ (.done (.exit 2) (ER120 l0 (bubU a l (i - 1 - a)))) := by
  refine LoopOk.count (i - 1 - a) 2 (fun n => IB120 l0 (a + n) i (bubU a l n)) (ER120 l0 (bubU a l (i - 1 - a))) (fun n => TB120r l0 (a + n) i (bubU a l n)) finB120 (by kernel_rfl) h fun n hn => ?_
  have e1 : IntKind.i64.wrap ((i : Int) - 1) = ((i - 1 : Nat) : Int) := by rw [IntWalk.i64_in _ (by omega)]; omega
  have e2 : IntKind.i64.wrap (((a + n : Nat) : Int) + 1) = ((a + n + 1 : Nat) : Int) := by rw [IntWalk.i64_in _ (by omega)]; omega
  rw [tB120r]
  simp only [e1, e2, Int.toNat_natCast]
  refine ⟨fun h1 => ?_, fun h1 => ?_⟩
  · have hlt : a + n < i - 1 := by simp at h1; omega
    have hlen := (bubU_spec a l n (by omega)).1.len
    have g1 : a + n < (bubU a l n).length := by omega
    have g2 : a + n + 1 < (bubU a l n).length := by omega
    refine ⟨⟨by omega, g2⟩, fun _ => ⟨getD_map _ _ _ _ g2, fun _ => ⟨⟨by omega, g1⟩, fun _ => ⟨getD_map _ _ _ _ g1, fun _ => ⟨⟨by omega, g1⟩, fun _ => ⟨by simpa using g1, fun _ => ⟨⟨by omega, g2⟩, fun _ => ⟨by simpa using g2, fun _ => ?_⟩⟩⟩⟩⟩⟩⟩⟩
    refine ⟨by omega, ⟨rfl, rfl, congrArg (AVal.own 0) (by rw [bubU, swp_length]), trivial⟩, ⟨?_, trivial⟩, rfl, rfl, rfl⟩
    refine congrArg (fun l => some (Entry.brow l0 57 2 l)) ?_
    simp only [bubU, swp, List.map_set]
  · have : n = i - 1 - a := by simp at h1; omega
    subst this
    exact ⟨rfl, by omega, ⟨trivial, ⟨rfl, trivial⟩, rfl, rfl, rfl⟩⟩
theorem lD120 (l0 : Abs.Loc) (m i : Nat) (l : List Attest) (hm : m < l.length) (hi : i ≤ m) (hl : l.length ≤ 2 ^ 61) (σ : LState) (h : LSub σ (ID120 l0 m i l)) : LoopOk prog [] (bodyOf Proofs.Tryz.f120) 21 σ (.done (.exit 6) (ER120 l0 (bubD m l (m - i)))) := by
  refine LoopOk.count (m - i) 6 (fun n => ID120 l0 (m - n) i (bubD m l n)) (ER120 l0 (bubD m l (m - i))) (fun n => TD120r l0 (m - n) i (bubD m l n)) finD120 (by kernel_rfl) h fun n hn => ?_
  rw [tD120r]
  refine ⟨fun h1 => ?_, fun h1 => ?_⟩
  · have hlt : i < m - n := by simp at h1; omega
    have e1 : IntKind.i64.wrap (((m - n : Nat) : Int) - 1) = ((m - n - 1 : Nat) : Int) := by rw [IntWalk.i64_in _ (by omega)]; omega
    simp only [e1, Int.toNat_natCast]
    have hlen := (bubD_spec m l hm n (by omega)).1.len
    have g1 : m - n < (bubD m l n).length := by omega
    have g2 : m - n - 1 < (bubD m l n).length := by omega
    refine ⟨⟨by omega, g2⟩, fun _ => ⟨getD_map _ _ _ _ g2, fun _ => ⟨⟨by omega, g1⟩, fun _ => ⟨getD_map _ _ _ _ g1, fun _ => ⟨⟨by omega, g1⟩, fun _ => ⟨by simpa using g1, fun _ => ⟨⟨by omega, g2⟩, fun _ => ⟨by simpa using g2, fun _ => ?_⟩⟩⟩⟩⟩⟩⟩⟩
    refine ⟨by omega, ⟨rfl, rfl, congrArg (AVal.own 0) (by rw [bubD, swp_length]), trivial⟩, ⟨?_, trivial⟩, rfl, rfl, rfl⟩
    refine congrArg (fun l => some (Entry.brow l0 57 2 l)) ?_
    simp only [bubD, swp, List.map_set]
  · have : n = m - i := by simp at h1; omega
    subst this
    exact ⟨rfl, by omega, ⟨trivial, ⟨rfl, trivial⟩, rfl, rfl, rfl⟩⟩
def P120 (l0 : Abs.Loc) (a m b i1 i2 n md s : Nat) (l y1 y2 : List Attest) : Nat → Tree := fun k => match k with | 3 => .done (.exit 0) (EA120 l0 a i1 l) | 9 => .done (.exit 2) (ER120 l0 y1) | 15 => .done (.exit 4) (EC120 l0 m i2 l) | 21 => .done (.exit 6) (ER120 l0 y2) | _ => .done (.exit 8) (EE120 l0 a m b n md s l)
def R120 (a s md b n m : Nat) (l : List Attest) : List Attest := if a < s ∧ s < md then symF ltT a s md (symR m s (n - s) l) else symR m s (n - s) l
def T120 (l0 : Abs.Loc) (a m b i1 i2 n md s : Nat) (l y1 y2 : List Attest) : Tell :=
  Tell.mk (fun x x_1 => false)
  (fun r i =>
  match r, i with
  | 44, 5 => Orc.callw [i64 (↑md : Int), i64 (↑(n - s) : Int), i64 (↑b : Int), fnV 51] (IVal.tup []) (List.map encT (symF ltT md (n - s) b (R120 a s md b n m l)))
  | x, x_1 => Orc.no)
  (P120 l0 a m b i1 i2 n md s l y1 y2) (fun x => 0)
  (fun k =>
  match k with
  | 3 => ([11, 10, 4, 1, 0], [0])
  | 9 => ([13, 10, 0], [0])
  | 15 => ([15, 14, 4, 2, 0], [0])
  | 21 => ([17, 14, 0], [0])
  | x => ([22, 21, 20, 19, 18, 4, 3, 2, 1, 0], [0]))
  (ogetO
  (fun r i =>
  match r, i with
  | 44, 5 => Orc.callw [i64 (↑md : Int), i64 (↑(n - s) : Int), i64 (↑b : Int), fnV 51] (IVal.tup []) (List.map encT (symF ltT md (n - s) b (R120 a s md b n m l)))
  | x, x_1 => Orc.no)
  [(13, 40, 5,
  Orc.callw [i64 (↑s : Int), i64 (↑m : Int), i64 (IntKind.wrap IntKind.i64 ((↑n : Int) - (↑s : Int))), fnV 51] (IVal.tup [])
  (List.map encT
  (rot (Int.toNat (↑m : Int)) (Int.toNat (IntKind.wrap IntKind.i64 ((↑n : Int) - (↑s : Int))) - Int.toNat (↑s : Int)) (Int.toNat (↑m : Int) - Int.toNat (↑s : Int))
  (Int.toNat (IntKind.wrap IntKind.i64 ((↑n : Int) - (↑s : Int))) - Int.toNat (↑m : Int)) l))),
  (21, 42, 5, Orc.callw [i64 (↑a : Int), i64 (↑s : Int), i64 (↑md : Int), fnV 51] (IVal.tup []) (List.map encT (symF ltT (Int.toNat (↑a : Int)) (Int.toNat (↑s : Int)) (Int.toNat (↑md : Int)) l))),
  (27, 42, 5,
  Orc.callw [i64 (↑a : Int), i64 (↑s : Int), i64 (↑md : Int), fnV 51] (IVal.tup [])
  (List.map encT
  (symF ltT (Int.toNat (↑a : Int)) (Int.toNat (↑s : Int)) (Int.toNat (↑md : Int))
  (rot m (Int.toNat (IntKind.wrap IntKind.i64 ((↑n : Int) - (↑s : Int))) - s) (m - s) (Int.toNat (IntKind.wrap IntKind.i64 ((↑n : Int) - (↑s : Int))) - m) l))))])
  fun x => P120 l0 a m b i1 i2 n md s l y1 y2
theorem t120 (l0 : Abs.Loc) (a m b i1 i2 n md s : Nat) (l y1 y2 : List Attest) : levW prog Proofs.Tryz.f120 l0 57 2 (l.map encT) [i64 a, i64 m, i64 b, fnV 51] (T120 l0 a m b i1 i2 n md s l y1 y2) =
  Tree.br (decide (IntKind.wrap IntKind.i64 ((↑m : Int) - (↑a : Int)) = (1 : Int)))
  (Tree.loop 3
  (LState.mk
  [(11, AVal.imm (i64 (↑b : Int))), (10, AVal.imm (i64 (↑m : Int))), (4, AVal.imm (fnV 51)), (1, AVal.imm (i64 (↑a : Int))), (0, AVal.own 0 (List.length (List.map encT l)))]
  [(0, Entry.brow l0 57 2 (List.map encT l))] 220 9 [])
  (Tree.done (Exit.exit 0) (EA120 l0 a i1 l))
  (Tree.loop 9
  (LState.mk [(13, AVal.imm (i64 (↑a : Int))), (10, AVal.imm (i64 (↑i1 : Int))), (0, AVal.own 0 (List.length l))] [(0, Entry.brow l0 57 2 (List.map encT l))] 220 3
  [])
  (Tree.done (Exit.exit 2) (ER120 l0 y1)) (Tree.need (eqs []) (Tree.done Exit.ret (lretW l0 57 2 (IVal.tup []) (List.map encT y1))))))
  (Tree.br (decide (IntKind.wrap IntKind.i64 ((↑b : Int) - (↑m : Int)) = (1 : Int)))
  (Tree.loop 15
  (LState.mk
  [(15, AVal.imm (i64 (↑m : Int))), (14, AVal.imm (i64 (↑a : Int))), (4, AVal.imm (fnV 51)), (2, AVal.imm (i64 (↑m : Int))), (0, AVal.own 0 (List.length (List.map encT l)))]
  [(0, Entry.brow l0 57 2 (List.map encT l))] 220 13 [])
  (Tree.done (Exit.exit 4) (EC120 l0 m i2 l))
  (Tree.loop 21
  (LState.mk [(17, AVal.imm (i64 (↑m : Int))), (14, AVal.imm (i64 (↑i2 : Int))), (0, AVal.own 0 (List.length l))] [(0, Entry.brow l0 57 2 (List.map encT l))] 220
  3 [])
  (Tree.done (Exit.exit 6) (ER120 l0 y2)) (Tree.need (eqs []) (Tree.done Exit.ret (lretW l0 57 2 (IVal.tup []) (List.map encT y2))))))
  (Tree.need ((0 : Int) ≤ (1 : Int))
  (Tree.br (decide (IntKind.wrap IntKind.i64 (Int.fdiv (IntKind.wrap IntKind.u64 (IntKind.wrap IntKind.i64 ((↑a : Int) + (↑b : Int)))) (2 : Int)) < (↑m : Int)))
  (Tree.loop 33
  (LState.mk
  [(22,
  AVal.imm
  (IVal.v
  (Value.int IntKind.i64
  (IntKind.wrap IntKind.i64 (IntKind.wrap IntKind.i64 (IntKind.wrap IntKind.i64 (Int.fdiv (IntKind.wrap IntKind.u64 (IntKind.wrap IntKind.i64 ((↑a : Int) + (↑b : Int)))) (2 : Int)) + (↑m : Int)) - (1 : Int)))))),
  (21, AVal.imm (IVal.v (Value.int IntKind.i64 (IntKind.wrap IntKind.i64 (Int.fdiv (IntKind.wrap IntKind.u64 (IntKind.wrap IntKind.i64 ((↑a : Int) + (↑b : Int)))) (2 : Int)))))),
  (20,
  AVal.imm
  (IVal.v
  (Value.int IntKind.i64
  (IntKind.wrap IntKind.i64 (IntKind.wrap IntKind.i64 (IntKind.wrap IntKind.i64 (Int.fdiv (IntKind.wrap IntKind.u64 (IntKind.wrap IntKind.i64 ((↑a : Int) + (↑b : Int)))) (2 : Int)) + (↑m : Int)) - (↑b : Int)))))),
  (19, AVal.imm (IVal.v (Value.int IntKind.i64 (IntKind.wrap IntKind.i64 (IntKind.wrap IntKind.i64 (Int.fdiv (IntKind.wrap IntKind.u64 (IntKind.wrap IntKind.i64 ((↑a : Int) + (↑b : Int)))) (2 : Int)) + (↑m : Int)))))),
  (18, AVal.imm (IVal.v (Value.int IntKind.i64 (IntKind.wrap IntKind.i64 (Int.fdiv (IntKind.wrap IntKind.u64 (IntKind.wrap IntKind.i64 ((↑a : Int) + (↑b : Int)))) (2 : Int)))))), (4, AVal.imm (fnV 51)),
  (3, AVal.imm (i64 (↑b : Int))), (2, AVal.imm (i64 (↑m : Int))), (1, AVal.imm (i64 (↑a : Int))), (0, AVal.own 0 (List.length (List.map encT l)))]
  [(0, Entry.brow l0 57 2 (List.map encT l))] 220 34 [])
  (Tree.done (Exit.exit 8) (EE120 l0 a m b n md s l))
  (Tree.br (decide ((↑s : Int) < (↑m : Int)))
  (Tree.br (decide ((↑m : Int) < IntKind.wrap IntKind.i64 ((↑n : Int) - (↑s : Int))))
  (Tree.need
  (List.length (List.map encT l) = List.length l ∧
  ILeL [i64 (↑s : Int), i64 (↑m : Int), IVal.v (Value.int IntKind.i64 (IntKind.wrap IntKind.i64 ((↑n : Int) - (↑s : Int)))), fnV 51]
  [i64 (↑s : Int), i64 (↑m : Int), i64 (IntKind.wrap IntKind.i64 ((↑n : Int) - (↑s : Int))), fnV 51] ∧
  WSpec prog 124 57 2 (List.map encT l) [i64 (↑s : Int), i64 (↑m : Int), i64 (IntKind.wrap IntKind.i64 ((↑n : Int) - (↑s : Int))), fnV 51] (IVal.tup [])
  (List.map encT (rot m (Int.toNat (IntKind.wrap IntKind.i64 ((↑n : Int) - (↑s : Int))) - s) (m - s) (Int.toNat (IntKind.wrap IntKind.i64 ((↑n : Int) - (↑s : Int))) - m) l)))
  (Tree.br (decide ((↑a : Int) < (↑s : Int)))
  (Tree.br (decide ((↑s : Int) < (↑md : Int)))
  (Tree.need
  (List.length (List.map encT (rot m (Int.toNat (IntKind.wrap IntKind.i64 ((↑n : Int) - (↑s : Int))) - s) (m - s) (Int.toNat (IntKind.wrap IntKind.i64 ((↑n : Int) - (↑s : Int))) - m) l)) = List.length l ∧
  ILeL [i64 (↑a : Int), i64 (↑s : Int), i64 (↑md : Int), fnV 51] [i64 (↑a : Int), i64 (↑s : Int), i64 (↑md : Int), fnV 51] ∧
  WSpec prog 120 57 2
  (List.map encT (rot m (Int.toNat (IntKind.wrap IntKind.i64 ((↑n : Int) - (↑s : Int))) - s) (m - s) (Int.toNat (IntKind.wrap IntKind.i64 ((↑n : Int) - (↑s : Int))) - m) l))
  [i64 (↑a : Int), i64 (↑s : Int), i64 (↑md : Int), fnV 51] (IVal.tup [])
  (List.map encT (symF ltT a s md (rot m (Int.toNat (IntKind.wrap IntKind.i64 ((↑n : Int) - (↑s : Int))) - s) (m - s) (Int.toNat (IntKind.wrap IntKind.i64 ((↑n : Int) - (↑s : Int))) - m) l))))
  (Tree.br (decide ((↑md : Int) < IntKind.wrap IntKind.i64 ((↑n : Int) - (↑s : Int))))
  (Tree.br (decide (IntKind.wrap IntKind.i64 ((↑n : Int) - (↑s : Int)) < (↑b : Int)))
  (Tree.need
  (List.length (List.map encT (symF ltT a s md (rot m (Int.toNat (IntKind.wrap IntKind.i64 ((↑n : Int) - (↑s : Int))) - s) (m - s) (Int.toNat (IntKind.wrap IntKind.i64 ((↑n : Int) - (↑s : Int))) - m) l))) =
  List.length l ∧
  ILeL [i64 (↑md : Int), IVal.v (Value.int IntKind.i64 (IntKind.wrap IntKind.i64 ((↑n : Int) - (↑s : Int)))), i64 (↑b : Int), fnV 51]
  [i64 (↑md : Int), i64 (↑(n - s) : Int), i64 (↑b : Int), fnV 51] ∧
  WSpec prog 120 57 2
  (List.map encT (symF ltT a s md (rot m (Int.toNat (IntKind.wrap IntKind.i64 ((↑n : Int) - (↑s : Int))) - s) (m - s) (Int.toNat (IntKind.wrap IntKind.i64 ((↑n : Int) - (↑s : Int))) - m) l)))
  [i64 (↑md : Int), i64 (↑(n - s) : Int), i64 (↑b : Int), fnV 51] (IVal.tup []) (List.map encT (symF ltT md (n - s) b (R120 a s md b n m l))))
  (Tree.need (eqs []) (Tree.done Exit.ret (lretW l0 57 2 (IVal.tup []) (List.map encT (symF ltT md (n - s) b (R120 a s md b n m l)))))))
  (Tree.need (eqs [])
  (Tree.done Exit.ret
  (lretW l0 57 2 (IVal.tup [])
  (List.map encT (symF ltT a s md (rot m (Int.toNat (IntKind.wrap IntKind.i64 ((↑n : Int) - (↑s : Int))) - s) (m - s) (Int.toNat (IntKind.wrap IntKind.i64 ((↑n : Int) - (↑s : Int))) - m) l)))))))
  (Tree.need (eqs [])
  (Tree.done Exit.ret
  (lretW l0 57 2 (IVal.tup [])
  (List.map encT (symF ltT a s md (rot m (Int.toNat (IntKind.wrap IntKind.i64 ((↑n : Int) - (↑s : Int))) - s) (m - s) (Int.toNat (IntKind.wrap IntKind.i64 ((↑n : Int) - (↑s : Int))) - m) l))))))))
  (Tree.br (decide ((↑md : Int) < IntKind.wrap IntKind.i64 ((↑n : Int) - (↑s : Int))))
  (Tree.br (decide (IntKind.wrap IntKind.i64 ((↑n : Int) - (↑s : Int)) < (↑b : Int)))
  (Tree.need
  (List.length (List.map encT (rot m (Int.toNat (IntKind.wrap IntKind.i64 ((↑n : Int) - (↑s : Int))) - s) (m - s) (Int.toNat (IntKind.wrap IntKind.i64 ((↑n : Int) - (↑s : Int))) - m) l)) = List.length l ∧
  ILeL [i64 (↑md : Int), IVal.v (Value.int IntKind.i64 (IntKind.wrap IntKind.i64 ((↑n : Int) - (↑s : Int)))), i64 (↑b : Int), fnV 51]
  [i64 (↑md : Int), i64 (↑(n - s) : Int), i64 (↑b : Int), fnV 51] ∧
  WSpec prog 120 57 2
  (List.map encT (rot m (Int.toNat (IntKind.wrap IntKind.i64 ((↑n : Int) - (↑s : Int))) - s) (m - s) (Int.toNat (IntKind.wrap IntKind.i64 ((↑n : Int) - (↑s : Int))) - m) l))
  [i64 (↑md : Int), i64 (↑(n - s) : Int), i64 (↑b : Int), fnV 51] (IVal.tup []) (List.map encT (symF ltT md (n - s) b (R120 a s md b n m l))))
  (Tree.need (eqs []) (Tree.done Exit.ret (lretW l0 57 2 (IVal.tup []) (List.map encT (symF ltT md (n - s) b (R120 a s md b n m l)))))))
  (Tree.need (eqs [])
  (Tree.done Exit.ret
  (lretW l0 57 2 (IVal.tup [])
  (List.map encT (rot m (Int.toNat (IntKind.wrap IntKind.i64 ((↑n : Int) - (↑s : Int))) - s) (m - s) (Int.toNat (IntKind.wrap IntKind.i64 ((↑n : Int) - (↑s : Int))) - m) l))))))
  (Tree.need (eqs [])
  (Tree.done Exit.ret
  (lretW l0 57 2 (IVal.tup [])
  (List.map encT (rot m (Int.toNat (IntKind.wrap IntKind.i64 ((↑n : Int) - (↑s : Int))) - s) (m - s) (Int.toNat (IntKind.wrap IntKind.i64 ((↑n : Int) - (↑s : Int))) - m) l)))))))
  (Tree.br (decide ((↑md : Int) < IntKind.wrap IntKind.i64 ((↑n : Int) - (↑s : Int))))
  (Tree.br (decide (IntKind.wrap IntKind.i64 ((↑n : Int) - (↑s : Int)) < (↑b : Int)))
  (Tree.need
  (List.length (List.map encT (rot m (Int.toNat (IntKind.wrap IntKind.i64 ((↑n : Int) - (↑s : Int))) - s) (m - s) (Int.toNat (IntKind.wrap IntKind.i64 ((↑n : Int) - (↑s : Int))) - m) l)) = List.length l ∧
  ILeL [i64 (↑md : Int), IVal.v (Value.int IntKind.i64 (IntKind.wrap IntKind.i64 ((↑n : Int) - (↑s : Int)))), i64 (↑b : Int), fnV 51] [i64 (↑md : Int), i64 (↑(n - s) : Int), i64 (↑b : Int), fnV 51] ∧
  WSpec prog 120 57 2
  (List.map encT (rot m (Int.toNat (IntKind.wrap IntKind.i64 ((↑n : Int) - (↑s : Int))) - s) (m - s) (Int.toNat (IntKind.wrap IntKind.i64 ((↑n : Int) - (↑s : Int))) - m) l))
  [i64 (↑md : Int), i64 (↑(n - s) : Int), i64 (↑b : Int), fnV 51] (IVal.tup []) (List.map encT (symF ltT md (n - s) b (R120 a s md b n m l))))
  (Tree.need (eqs []) (Tree.done Exit.ret (lretW l0 57 2 (IVal.tup []) (List.map encT (symF ltT md (n - s) b (R120 a s md b n m l)))))))
  (Tree.need (eqs [])
  (Tree.done Exit.ret
  (lretW l0 57 2 (IVal.tup [])
  (List.map encT (rot m (Int.toNat (IntKind.wrap IntKind.i64 ((↑n : Int) - (↑s : Int))) - s) (m - s) (Int.toNat (IntKind.wrap IntKind.i64 ((↑n : Int) - (↑s : Int))) - m) l))))))
  (Tree.need (eqs [])
  (Tree.done Exit.ret
  (lretW l0 57 2 (IVal.tup [])
  (List.map encT (rot m (Int.toNat (IntKind.wrap IntKind.i64 ((↑n : Int) - (↑s : Int))) - s) (m - s) (Int.toNat (IntKind.wrap IntKind.i64 ((↑n : Int) - (↑s : Int))) - m) l))))))))
  (Tree.br (decide ((↑a : Int) < (↑s : Int)))
  (Tree.br (decide ((↑s : Int) < (↑md : Int)))
  (Tree.need
  (List.length (List.map encT l) = List.length l ∧
  ILeL [i64 (↑a : Int), i64 (↑s : Int), i64 (↑md : Int), fnV 51] [i64 (↑a : Int), i64 (↑s : Int), i64 (↑md : Int), fnV 51] ∧
  WSpec prog 120 57 2 (List.map encT l) [i64 (↑a : Int), i64 (↑s : Int), i64 (↑md : Int), fnV 51] (IVal.tup []) (List.map encT (symF ltT a s md l)))
  (Tree.br (decide ((↑md : Int) < IntKind.wrap IntKind.i64 ((↑n : Int) - (↑s : Int))))
  (Tree.br (decide (IntKind.wrap IntKind.i64 ((↑n : Int) - (↑s : Int)) < (↑b : Int)))
  (Tree.need
  (List.length (List.map encT (symF ltT a s md l)) = List.length l ∧
  ILeL [i64 (↑md : Int), IVal.v (Value.int IntKind.i64 (IntKind.wrap IntKind.i64 ((↑n : Int) - (↑s : Int)))), i64 (↑b : Int), fnV 51]
  [i64 (↑md : Int), i64 (↑(n - s) : Int), i64 (↑b : Int), fnV 51] ∧
  WSpec prog 120 57 2 (List.map encT (symF ltT a s md l)) [i64 (↑md : Int), i64 (↑(n - s) : Int), i64 (↑b : Int), fnV 51] (IVal.tup [])
  (List.map encT (symF ltT md (n - s) b (R120 a s md b n m l))))
  (Tree.need (eqs []) (Tree.done Exit.ret (lretW l0 57 2 (IVal.tup []) (List.map encT (symF ltT md (n - s) b (R120 a s md b n m l)))))))
  (Tree.need (eqs []) (Tree.done Exit.ret (lretW l0 57 2 (IVal.tup []) (List.map encT (symF ltT a s md l))))))
  (Tree.need (eqs []) (Tree.done Exit.ret (lretW l0 57 2 (IVal.tup []) (List.map encT (symF ltT a s md l)))))))
  (Tree.br (decide ((↑md : Int) < IntKind.wrap IntKind.i64 ((↑n : Int) - (↑s : Int))))
  (Tree.br (decide (IntKind.wrap IntKind.i64 ((↑n : Int) - (↑s : Int)) < (↑b : Int)))
  (Tree.need
  (List.length (List.map encT l) = List.length l ∧
  ILeL [i64 (↑md : Int), IVal.v (Value.int IntKind.i64 (IntKind.wrap IntKind.i64 ((↑n : Int) - (↑s : Int)))), i64 (↑b : Int), fnV 51] [i64 (↑md : Int), i64 (↑(n - s) : Int), i64 (↑b : Int), fnV 51] ∧
  WSpec prog 120 57 2 (List.map encT l) [i64 (↑md : Int), i64 (↑(n - s) : Int), i64 (↑b : Int), fnV 51] (IVal.tup []) (List.map encT (symF ltT md (n - s) b (R120 a s md b n m l))))
  (Tree.need (eqs []) (Tree.done Exit.ret (lretW l0 57 2 (IVal.tup []) (List.map encT (symF ltT md (n - s) b (R120 a s md b n m l)))))))
  (Tree.need (eqs []) (Tree.done Exit.ret (lretW l0 57 2 (IVal.tup []) (List.map encT l)))))
  (Tree.need (eqs []) (Tree.done Exit.ret (lretW l0 57 2 (IVal.tup []) (List.map encT l))))))
  (Tree.br (decide ((↑md : Int) < IntKind.wrap IntKind.i64 ((↑n : Int) - (↑s : Int))))
  (Tree.br (decide (IntKind.wrap IntKind.i64 ((↑n : Int) - (↑s : Int)) < (↑b : Int)))
  (Tree.need
  (List.length (List.map encT l) = List.length l ∧
  ILeL [i64 (↑md : Int), IVal.v (Value.int IntKind.i64 (IntKind.wrap IntKind.i64 ((↑n : Int) - (↑s : Int)))), i64 (↑b : Int), fnV 51] [i64 (↑md : Int), i64 (↑(n - s) : Int), i64 (↑b : Int), fnV 51] ∧
  WSpec prog 120 57 2 (List.map encT l) [i64 (↑md : Int), i64 (↑(n - s) : Int), i64 (↑b : Int), fnV 51] (IVal.tup []) (List.map encT (symF ltT md (n - s) b (R120 a s md b n m l))))
  (Tree.need (eqs []) (Tree.done Exit.ret (lretW l0 57 2 (IVal.tup []) (List.map encT (symF ltT md (n - s) b (R120 a s md b n m l)))))))
  (Tree.need (eqs []) (Tree.done Exit.ret (lretW l0 57 2 (IVal.tup []) (List.map encT l)))))
  (Tree.need (eqs []) (Tree.done Exit.ret (lretW l0 57 2 (IVal.tup []) (List.map encT l)))))))
  (Tree.br (decide ((↑a : Int) < (↑s : Int)))
  (Tree.br (decide ((↑s : Int) < (↑md : Int)))
  (Tree.need
  (List.length (List.map encT l) = List.length l ∧
  ILeL [i64 (↑a : Int), i64 (↑s : Int), i64 (↑md : Int), fnV 51] [i64 (↑a : Int), i64 (↑s : Int), i64 (↑md : Int), fnV 51] ∧
  WSpec prog 120 57 2 (List.map encT l) [i64 (↑a : Int), i64 (↑s : Int), i64 (↑md : Int), fnV 51] (IVal.tup []) (List.map encT (symF ltT a s md l)))
  (Tree.br (decide ((↑md : Int) < IntKind.wrap IntKind.i64 ((↑n : Int) - (↑s : Int))))
  (Tree.br (decide (IntKind.wrap IntKind.i64 ((↑n : Int) - (↑s : Int)) < (↑b : Int)))
  (Tree.need
  (List.length (List.map encT (symF ltT a s md l)) = List.length l ∧
  ILeL [i64 (↑md : Int), IVal.v (Value.int IntKind.i64 (IntKind.wrap IntKind.i64 ((↑n : Int) - (↑s : Int)))), i64 (↑b : Int), fnV 51] [i64 (↑md : Int), i64 (↑(n - s) : Int), i64 (↑b : Int), fnV 51] ∧
  WSpec prog 120 57 2 (List.map encT (symF ltT a s md l)) [i64 (↑md : Int), i64 (↑(n - s) : Int), i64 (↑b : Int), fnV 51] (IVal.tup [])
  (List.map encT (symF ltT md (n - s) b (R120 a s md b n m l))))
  (Tree.need (eqs []) (Tree.done Exit.ret (lretW l0 57 2 (IVal.tup []) (List.map encT (symF ltT md (n - s) b (R120 a s md b n m l)))))))
  (Tree.need (eqs []) (Tree.done Exit.ret (lretW l0 57 2 (IVal.tup []) (List.map encT (symF ltT a s md l))))))
  (Tree.need (eqs []) (Tree.done Exit.ret (lretW l0 57 2 (IVal.tup []) (List.map encT (symF ltT a s md l)))))))
  (Tree.br (decide ((↑md : Int) < IntKind.wrap IntKind.i64 ((↑n : Int) - (↑s : Int))))
  (Tree.br (decide (IntKind.wrap IntKind.i64 ((↑n : Int) - (↑s : Int)) < (↑b : Int)))
  (Tree.need
  (List.length (List.map encT l) = List.length l ∧
  ILeL [i64 (↑md : Int), IVal.v (Value.int IntKind.i64 (IntKind.wrap IntKind.i64 ((↑n : Int) - (↑s : Int)))), i64 (↑b : Int), fnV 51] [i64 (↑md : Int), i64 (↑(n - s) : Int), i64 (↑b : Int), fnV 51] ∧
  WSpec prog 120 57 2 (List.map encT l) [i64 (↑md : Int), i64 (↑(n - s) : Int), i64 (↑b : Int), fnV 51] (IVal.tup []) (List.map encT (symF ltT md (n - s) b (R120 a s md b n m l))))
  (Tree.need (eqs []) (Tree.done Exit.ret (lretW l0 57 2 (IVal.tup []) (List.map encT (symF ltT md (n - s) b (R120 a s md b n m l)))))))
  (Tree.need (eqs []) (Tree.done Exit.ret (lretW l0 57 2 (IVal.tup []) (List.map encT l)))))
  (Tree.need (eqs []) (Tree.done Exit.ret (lretW l0 57 2 (IVal.tup []) (List.map encT l))))))
  (Tree.br (decide ((↑md : Int) < IntKind.wrap IntKind.i64 ((↑n : Int) - (↑s : Int))))
  (Tree.br (decide (IntKind.wrap IntKind.i64 ((↑n : Int) - (↑s : Int)) < (↑b : Int)))
  (Tree.need
  (List.length (List.map encT l) = List.length l ∧
  ILeL [i64 (↑md : Int), IVal.v (Value.int IntKind.i64 (IntKind.wrap IntKind.i64 ((↑n : Int) - (↑s : Int)))), i64 (↑b : Int), fnV 51] [i64 (↑md : Int), i64 (↑(n - s) : Int), i64 (↑b : Int), fnV 51] ∧
  WSpec prog 120 57 2 (List.map encT l) [i64 (↑md : Int), i64 (↑(n - s) : Int), i64 (↑b : Int), fnV 51] (IVal.tup []) (List.map encT (symF ltT md (n - s) b (R120 a s md b n m l))))
  (Tree.need (eqs []) (Tree.done Exit.ret (lretW l0 57 2 (IVal.tup []) (List.map encT (symF ltT md (n - s) b (R120 a s md b n m l)))))))
  (Tree.need (eqs []) (Tree.done Exit.ret (lretW l0 57 2 (IVal.tup []) (List.map encT l)))))
  (Tree.need (eqs []) (Tree.done Exit.ret (lretW l0 57 2 (IVal.tup []) (List.map encT l))))))))
  (Tree.loop 33
  (LState.mk
  [(22,
  AVal.imm
  (IVal.v
  (Value.int IntKind.i64
  (IntKind.wrap IntKind.i64 (IntKind.wrap IntKind.i64 (IntKind.wrap IntKind.i64 (Int.fdiv (IntKind.wrap IntKind.u64 (IntKind.wrap IntKind.i64 ((↑a : Int) + (↑b : Int)))) (2 : Int)) + (↑m : Int)) - (1 : Int)))))),
  (21, AVal.imm (i64 (↑m : Int))), (20, AVal.imm (i64 (↑a : Int))),
  (19, AVal.imm (IVal.v (Value.int IntKind.i64 (IntKind.wrap IntKind.i64 (IntKind.wrap IntKind.i64 (Int.fdiv (IntKind.wrap IntKind.u64 (IntKind.wrap IntKind.i64 ((↑a : Int) + (↑b : Int)))) (2 : Int)) + (↑m : Int)))))),
  (18, AVal.imm (IVal.v (Value.int IntKind.i64 (IntKind.wrap IntKind.i64 (Int.fdiv (IntKind.wrap IntKind.u64 (IntKind.wrap IntKind.i64 ((↑a : Int) + (↑b : Int)))) (2 : Int)))))), (4, AVal.imm (fnV 51)),
  (3, AVal.imm (i64 (↑b : Int))), (2, AVal.imm (i64 (↑m : Int))), (1, AVal.imm (i64 (↑a : Int))), (0, AVal.own 0 (List.length (List.map encT l)))]
  [(0, Entry.brow l0 57 2 (List.map encT l))] 220 32 [])
  (Tree.done (Exit.exit 8) (EE120 l0 a m b n md s l))
  (Tree.br (decide ((↑s : Int) < (↑m : Int)))
  (Tree.br (decide ((↑m : Int) < IntKind.wrap IntKind.i64 ((↑n : Int) - (↑s : Int))))
  (Tree.need
  (List.length (List.map encT l) = List.length l ∧
  ILeL [i64 (↑s : Int), i64 (↑m : Int), IVal.v (Value.int IntKind.i64 (IntKind.wrap IntKind.i64 ((↑n : Int) - (↑s : Int)))), fnV 51]
  [i64 (↑s : Int), i64 (↑m : Int), i64 (IntKind.wrap IntKind.i64 ((↑n : Int) - (↑s : Int))), fnV 51] ∧
  WSpec prog 124 57 2 (List.map encT l) [i64 (↑s : Int), i64 (↑m : Int), i64 (IntKind.wrap IntKind.i64 ((↑n : Int) - (↑s : Int))), fnV 51] (IVal.tup [])
  (List.map encT (rot m (Int.toNat (IntKind.wrap IntKind.i64 ((↑n : Int) - (↑s : Int))) - s) (m - s) (Int.toNat (IntKind.wrap IntKind.i64 ((↑n : Int) - (↑s : Int))) - m) l)))
  (Tree.br (decide ((↑a : Int) < (↑s : Int)))
  (Tree.br (decide ((↑s : Int) < (↑md : Int)))
  (Tree.need
  (List.length (List.map encT (rot m (Int.toNat (IntKind.wrap IntKind.i64 ((↑n : Int) - (↑s : Int))) - s) (m - s) (Int.toNat (IntKind.wrap IntKind.i64 ((↑n : Int) - (↑s : Int))) - m) l)) = List.length l ∧
  ILeL [i64 (↑a : Int), i64 (↑s : Int), i64 (↑md : Int), fnV 51] [i64 (↑a : Int), i64 (↑s : Int), i64 (↑md : Int), fnV 51] ∧
  WSpec prog 120 57 2
  (List.map encT (rot m (Int.toNat (IntKind.wrap IntKind.i64 ((↑n : Int) - (↑s : Int))) - s) (m - s) (Int.toNat (IntKind.wrap IntKind.i64 ((↑n : Int) - (↑s : Int))) - m) l))
  [i64 (↑a : Int), i64 (↑s : Int), i64 (↑md : Int), fnV 51] (IVal.tup [])
  (List.map encT (symF ltT a s md (rot m (Int.toNat (IntKind.wrap IntKind.i64 ((↑n : Int) - (↑s : Int))) - s) (m - s) (Int.toNat (IntKind.wrap IntKind.i64 ((↑n : Int) - (↑s : Int))) - m) l))))
  (Tree.br (decide ((↑md : Int) < IntKind.wrap IntKind.i64 ((↑n : Int) - (↑s : Int))))
  (Tree.br (decide (IntKind.wrap IntKind.i64 ((↑n : Int) - (↑s : Int)) < (↑b : Int)))
  (Tree.need
  (List.length (List.map encT (symF ltT a s md (rot m (Int.toNat (IntKind.wrap IntKind.i64 ((↑n : Int) - (↑s : Int))) - s) (m - s) (Int.toNat (IntKind.wrap IntKind.i64 ((↑n : Int) - (↑s : Int))) - m) l))) =
  List.length l ∧
  ILeL [i64 (↑md : Int), IVal.v (Value.int IntKind.i64 (IntKind.wrap IntKind.i64 ((↑n : Int) - (↑s : Int)))), i64 (↑b : Int), fnV 51]
  [i64 (↑md : Int), i64 (↑(n - s) : Int), i64 (↑b : Int), fnV 51] ∧
  WSpec prog 120 57 2
  (List.map encT (symF ltT a s md (rot m (Int.toNat (IntKind.wrap IntKind.i64 ((↑n : Int) - (↑s : Int))) - s) (m - s) (Int.toNat (IntKind.wrap IntKind.i64 ((↑n : Int) - (↑s : Int))) - m) l)))
  [i64 (↑md : Int), i64 (↑(n - s) : Int), i64 (↑b : Int), fnV 51] (IVal.tup []) (List.map encT (symF ltT md (n - s) b (R120 a s md b n m l))))
  (Tree.need (eqs []) (Tree.done Exit.ret (lretW l0 57 2 (IVal.tup []) (List.map encT (symF ltT md (n - s) b (R120 a s md b n m l)))))))
  (Tree.need (eqs [])
  (Tree.done Exit.ret
  (lretW l0 57 2 (IVal.tup [])
  (List.map encT (symF ltT a s md (rot m (Int.toNat (IntKind.wrap IntKind.i64 ((↑n : Int) - (↑s : Int))) - s) (m - s) (Int.toNat (IntKind.wrap IntKind.i64 ((↑n : Int) - (↑s : Int))) - m) l)))))))
  (Tree.need (eqs [])
  (Tree.done Exit.ret
  (lretW l0 57 2 (IVal.tup [])
  (List.map encT (symF ltT a s md (rot m (Int.toNat (IntKind.wrap IntKind.i64 ((↑n : Int) - (↑s : Int))) - s) (m - s) (Int.toNat (IntKind.wrap IntKind.i64 ((↑n : Int) - (↑s : Int))) - m) l))))))))
  (Tree.br (decide ((↑md : Int) < IntKind.wrap IntKind.i64 ((↑n : Int) - (↑s : Int))))
  (Tree.br (decide (IntKind.wrap IntKind.i64 ((↑n : Int) - (↑s : Int)) < (↑b : Int)))
  (Tree.need
  (List.length (List.map encT (rot m (Int.toNat (IntKind.wrap IntKind.i64 ((↑n : Int) - (↑s : Int))) - s) (m - s) (Int.toNat (IntKind.wrap IntKind.i64 ((↑n : Int) - (↑s : Int))) - m) l)) = List.length l ∧
  ILeL [i64 (↑md : Int), IVal.v (Value.int IntKind.i64 (IntKind.wrap IntKind.i64 ((↑n : Int) - (↑s : Int)))), i64 (↑b : Int), fnV 51]
  [i64 (↑md : Int), i64 (↑(n - s) : Int), i64 (↑b : Int), fnV 51] ∧
  WSpec prog 120 57 2
  (List.map encT (rot m (Int.toNat (IntKind.wrap IntKind.i64 ((↑n : Int) - (↑s : Int))) - s) (m - s) (Int.toNat (IntKind.wrap IntKind.i64 ((↑n : Int) - (↑s : Int))) - m) l))
  [i64 (↑md : Int), i64 (↑(n - s) : Int), i64 (↑b : Int), fnV 51] (IVal.tup []) (List.map encT (symF ltT md (n - s) b (R120 a s md b n m l))))
  (Tree.need (eqs []) (Tree.done Exit.ret (lretW l0 57 2 (IVal.tup []) (List.map encT (symF ltT md (n - s) b (R120 a s md b n m l)))))))
  (Tree.need (eqs [])
  (Tree.done Exit.ret
  (lretW l0 57 2 (IVal.tup [])
  (List.map encT (rot m (Int.toNat (IntKind.wrap IntKind.i64 ((↑n : Int) - (↑s : Int))) - s) (m - s) (Int.toNat (IntKind.wrap IntKind.i64 ((↑n : Int) - (↑s : Int))) - m) l))))))
  (Tree.need (eqs [])
  (Tree.done Exit.ret
  (lretW l0 57 2 (IVal.tup [])
  (List.map encT (rot m (Int.toNat (IntKind.wrap IntKind.i64 ((↑n : Int) - (↑s : Int))) - s) (m - s) (Int.toNat (IntKind.wrap IntKind.i64 ((↑n : Int) - (↑s : Int))) - m) l)))))))
  (Tree.br (decide ((↑md : Int) < IntKind.wrap IntKind.i64 ((↑n : Int) - (↑s : Int))))
  (Tree.br (decide (IntKind.wrap IntKind.i64 ((↑n : Int) - (↑s : Int)) < (↑b : Int)))
  (Tree.need
  (List.length (List.map encT (rot m (Int.toNat (IntKind.wrap IntKind.i64 ((↑n : Int) - (↑s : Int))) - s) (m - s) (Int.toNat (IntKind.wrap IntKind.i64 ((↑n : Int) - (↑s : Int))) - m) l)) = List.length l ∧
  ILeL [i64 (↑md : Int), IVal.v (Value.int IntKind.i64 (IntKind.wrap IntKind.i64 ((↑n : Int) - (↑s : Int)))), i64 (↑b : Int), fnV 51] [i64 (↑md : Int), i64 (↑(n - s) : Int), i64 (↑b : Int), fnV 51] ∧
  WSpec prog 120 57 2
  (List.map encT (rot m (Int.toNat (IntKind.wrap IntKind.i64 ((↑n : Int) - (↑s : Int))) - s) (m - s) (Int.toNat (IntKind.wrap IntKind.i64 ((↑n : Int) - (↑s : Int))) - m) l))
  [i64 (↑md : Int), i64 (↑(n - s) : Int), i64 (↑b : Int), fnV 51] (IVal.tup []) (List.map encT (symF ltT md (n - s) b (R120 a s md b n m l))))
  (Tree.need (eqs []) (Tree.done Exit.ret (lretW l0 57 2 (IVal.tup []) (List.map encT (symF ltT md (n - s) b (R120 a s md b n m l)))))))
  (Tree.need (eqs [])
  (Tree.done Exit.ret
  (lretW l0 57 2 (IVal.tup [])
  (List.map encT (rot m (Int.toNat (IntKind.wrap IntKind.i64 ((↑n : Int) - (↑s : Int))) - s) (m - s) (Int.toNat (IntKind.wrap IntKind.i64 ((↑n : Int) - (↑s : Int))) - m) l))))))
  (Tree.need (eqs [])
  (Tree.done Exit.ret
  (lretW l0 57 2 (IVal.tup [])
  (List.map encT (rot m (Int.toNat (IntKind.wrap IntKind.i64 ((↑n : Int) - (↑s : Int))) - s) (m - s) (Int.toNat (IntKind.wrap IntKind.i64 ((↑n : Int) - (↑s : Int))) - m) l))))))))
  (Tree.br (decide ((↑a : Int) < (↑s : Int)))
  (Tree.br (decide ((↑s : Int) < (↑md : Int)))
  (Tree.need
  (List.length (List.map encT l) = List.length l ∧
  ILeL [i64 (↑a : Int), i64 (↑s : Int), i64 (↑md : Int), fnV 51] [i64 (↑a : Int), i64 (↑s : Int), i64 (↑md : Int), fnV 51] ∧
  WSpec prog 120 57 2 (List.map encT l) [i64 (↑a : Int), i64 (↑s : Int), i64 (↑md : Int), fnV 51] (IVal.tup []) (List.map encT (symF ltT a s md l)))
  (Tree.br (decide ((↑md : Int) < IntKind.wrap IntKind.i64 ((↑n : Int) - (↑s : Int))))
  (Tree.br (decide (IntKind.wrap IntKind.i64 ((↑n : Int) - (↑s : Int)) < (↑b : Int)))
  (Tree.need
  (List.length (List.map encT (symF ltT a s md l)) = List.length l ∧
  ILeL [i64 (↑md : Int), IVal.v (Value.int IntKind.i64 (IntKind.wrap IntKind.i64 ((↑n : Int) - (↑s : Int)))), i64 (↑b : Int), fnV 51]
  [i64 (↑md : Int), i64 (↑(n - s) : Int), i64 (↑b : Int), fnV 51] ∧
  WSpec prog 120 57 2 (List.map encT (symF ltT a s md l)) [i64 (↑md : Int), i64 (↑(n - s) : Int), i64 (↑b : Int), fnV 51] (IVal.tup [])
  (List.map encT (symF ltT md (n - s) b (R120 a s md b n m l))))
  (Tree.need (eqs []) (Tree.done Exit.ret (lretW l0 57 2 (IVal.tup []) (List.map encT (symF ltT md (n - s) b (R120 a s md b n m l)))))))
  (Tree.need (eqs []) (Tree.done Exit.ret (lretW l0 57 2 (IVal.tup []) (List.map encT (symF ltT a s md l))))))
  (Tree.need (eqs []) (Tree.done Exit.ret (lretW l0 57 2 (IVal.tup []) (List.map encT (symF ltT a s md l)))))))
  (Tree.br (decide ((↑md : Int) < IntKind.wrap IntKind.i64 ((↑n : Int) - (↑s : Int))))
  (Tree.br (decide (IntKind.wrap IntKind.i64 ((↑n : Int) - (↑s : Int)) < (↑b : Int)))
  (Tree.need
  (List.length (List.map encT l) = List.length l ∧
  ILeL [i64 (↑md : Int), IVal.v (Value.int IntKind.i64 (IntKind.wrap IntKind.i64 ((↑n : Int) - (↑s : Int)))), i64 (↑b : Int), fnV 51] [i64 (↑md : Int), i64 (↑(n - s) : Int), i64 (↑b : Int), fnV 51] ∧
  WSpec prog 120 57 2 (List.map encT l) [i64 (↑md : Int), i64 (↑(n - s) : Int), i64 (↑b : Int), fnV 51] (IVal.tup []) (List.map encT (symF ltT md (n - s) b (R120 a s md b n m l))))
  (Tree.need (eqs []) (Tree.done Exit.ret (lretW l0 57 2 (IVal.tup []) (List.map encT (symF ltT md (n - s) b (R120 a s md b n m l)))))))
  (Tree.need (eqs []) (Tree.done Exit.ret (lretW l0 57 2 (IVal.tup []) (List.map encT l)))))
  (Tree.need (eqs []) (Tree.done Exit.ret (lretW l0 57 2 (IVal.tup []) (List.map encT l))))))
  (Tree.br (decide ((↑md : Int) < IntKind.wrap IntKind.i64 ((↑n : Int) - (↑s : Int))))
  (Tree.br (decide (IntKind.wrap IntKind.i64 ((↑n : Int) - (↑s : Int)) < (↑b : Int)))
  (Tree.need
  (List.length (List.map encT l) = List.length l ∧
  ILeL [i64 (↑md : Int), IVal.v (Value.int IntKind.i64 (IntKind.wrap IntKind.i64 ((↑n : Int) - (↑s : Int)))), i64 (↑b : Int), fnV 51] [i64 (↑md : Int), i64 (↑(n - s) : Int), i64 (↑b : Int), fnV 51] ∧
  WSpec prog 120 57 2 (List.map encT l) [i64 (↑md : Int), i64 (↑(n - s) : Int), i64 (↑b : Int), fnV 51] (IVal.tup []) (List.map encT (symF ltT md (n - s) b (R120 a s md b n m l))))
  (Tree.need (eqs []) (Tree.done Exit.ret (lretW l0 57 2 (IVal.tup []) (List.map encT (symF ltT md (n - s) b (R120 a s md b n m l)))))))
  (Tree.need (eqs []) (Tree.done Exit.ret (lretW l0 57 2 (IVal.tup []) (List.map encT l)))))
  (Tree.need (eqs []) (Tree.done Exit.ret (lretW l0 57 2 (IVal.tup []) (List.map encT l)))))))
  (Tree.br (decide ((↑a : Int) < (↑s : Int)))
  (Tree.br (decide ((↑s : Int) < (↑md : Int)))
  (Tree.need
  (List.length (List.map encT l) = List.length l ∧
  ILeL [i64 (↑a : Int), i64 (↑s : Int), i64 (↑md : Int), fnV 51] [i64 (↑a : Int), i64 (↑s : Int), i64 (↑md : Int), fnV 51] ∧
  WSpec prog 120 57 2 (List.map encT l) [i64 (↑a : Int), i64 (↑s : Int), i64 (↑md : Int), fnV 51] (IVal.tup []) (List.map encT (symF ltT a s md l)))
  (Tree.br (decide ((↑md : Int) < IntKind.wrap IntKind.i64 ((↑n : Int) - (↑s : Int))))
  (Tree.br (decide (IntKind.wrap IntKind.i64 ((↑n : Int) - (↑s : Int)) < (↑b : Int)))
  (Tree.need
  (List.length (List.map encT (symF ltT a s md l)) = List.length l ∧
  ILeL [i64 (↑md : Int), IVal.v (Value.int IntKind.i64 (IntKind.wrap IntKind.i64 ((↑n : Int) - (↑s : Int)))), i64 (↑b : Int), fnV 51] [i64 (↑md : Int), i64 (↑(n - s) : Int), i64 (↑b : Int), fnV 51] ∧
  WSpec prog 120 57 2 (List.map encT (symF ltT a s md l)) [i64 (↑md : Int), i64 (↑(n - s) : Int), i64 (↑b : Int), fnV 51] (IVal.tup [])
  (List.map encT (symF ltT md (n - s) b (R120 a s md b n m l))))
  (Tree.need (eqs []) (Tree.done Exit.ret (lretW l0 57 2 (IVal.tup []) (List.map encT (symF ltT md (n - s) b (R120 a s md b n m l)))))))
  (Tree.need (eqs []) (Tree.done Exit.ret (lretW l0 57 2 (IVal.tup []) (List.map encT (symF ltT a s md l))))))
  (Tree.need (eqs []) (Tree.done Exit.ret (lretW l0 57 2 (IVal.tup []) (List.map encT (symF ltT a s md l)))))))
  (Tree.br (decide ((↑md : Int) < IntKind.wrap IntKind.i64 ((↑n : Int) - (↑s : Int))))
  (Tree.br (decide (IntKind.wrap IntKind.i64 ((↑n : Int) - (↑s : Int)) < (↑b : Int)))
  (Tree.need
  (List.length (List.map encT l) = List.length l ∧
  ILeL [i64 (↑md : Int), IVal.v (Value.int IntKind.i64 (IntKind.wrap IntKind.i64 ((↑n : Int) - (↑s : Int)))), i64 (↑b : Int), fnV 51] [i64 (↑md : Int), i64 (↑(n - s) : Int), i64 (↑b : Int), fnV 51] ∧
  WSpec prog 120 57 2 (List.map encT l) [i64 (↑md : Int), i64 (↑(n - s) : Int), i64 (↑b : Int), fnV 51] (IVal.tup []) (List.map encT (symF ltT md (n - s) b (R120 a s md b n m l))))
  (Tree.need (eqs []) (Tree.done Exit.ret (lretW l0 57 2 (IVal.tup []) (List.map encT (symF ltT md (n - s) b (R120 a s md b n m l)))))))
  (Tree.need (eqs []) (Tree.done Exit.ret (lretW l0 57 2 (IVal.tup []) (List.map encT l)))))
  (Tree.need (eqs []) (Tree.done Exit.ret (lretW l0 57 2 (IVal.tup []) (List.map encT l))))))
  (Tree.br (decide ((↑md : Int) < IntKind.wrap IntKind.i64 ((↑n : Int) - (↑s : Int))))
  (Tree.br (decide (IntKind.wrap IntKind.i64 ((↑n : Int) - (↑s : Int)) < (↑b : Int)))
  (Tree.need
  (List.length (List.map encT l) = List.length l ∧
  ILeL [i64 (↑md : Int), IVal.v (Value.int IntKind.i64 (IntKind.wrap IntKind.i64 ((↑n : Int) - (↑s : Int)))), i64 (↑b : Int), fnV 51] [i64 (↑md : Int), i64 (↑(n - s) : Int), i64 (↑b : Int), fnV 51] ∧
  WSpec prog 120 57 2 (List.map encT l) [i64 (↑md : Int), i64 (↑(n - s) : Int), i64 (↑b : Int), fnV 51] (IVal.tup []) (List.map encT (symF ltT md (n - s) b (R120 a s md b n m l))))
  (Tree.need (eqs []) (Tree.done Exit.ret (lretW l0 57 2 (IVal.tup []) (List.map encT (symF ltT md (n - s) b (R120 a s md b n m l)))))))
  (Tree.need (eqs []) (Tree.done Exit.ret (lretW l0 57 2 (IVal.tup []) (List.map encT l)))))
  (Tree.need (eqs []) (Tree.done Exit.ret (lretW l0 57 2 (IVal.tup []) (List.map encT l))))))))))) := by kernel_rfl
def IA122 (l0 : Abs.Loc) (a i j : Nat) (x : List RKey) : LState := { t := [(11, .imm (i64 j)), (10, .imm (i64 i)), (4, .imm (fnV 54)), (1, .imm (i64 a)), (0, .own 0 x.length)], s := [(0, .brow l0 75 18 (x.map encK))], m := 220, n := 1 }
def EA122 (l0 : Abs.Loc) (a i : Nat) (x : List RKey) : LState := { t := [(10, .imm (i64 i)), (1, .imm (i64 a)), (0, .own 0 x.length)], s := [(0, .brow l0 75 18 (x.map encK))], m := 220, n := 1 }
def finA122 : Exit → Fin
  | .normal => ⟨[], [11, 10, 4, 1, 0], [0]⟩
  | _ => ⟨[], [10, 1, 0], [0]⟩
def TA122r (l0 : Abs.Loc) (a i j : Nat) (x : List RKey) : Tell :=
  Tell.mk (fun x x_1 => false) (fun x x_1 => Orc.no) (fun x => Tree.fail 1000003 0) (fun x => 0) (fun x => ([], []))
  (oget
  [(11, 5, 4, Orc.elem (encK (List.getD x (Int.toNat (IntKind.wrap IntKind.i64 (Int.fdiv (IntKind.wrap IntKind.u64 (IntKind.wrap IntKind.i64 ((↑i : Int) + (↑j : Int)))) (2 : Int)))) default))),
  (11, 5, 8, Orc.elem (encK (List.getD x a default))),
  (11, 5, 9,
  Orc.call [encK (List.getD x (Int.toNat (IntKind.wrap IntKind.i64 (Int.fdiv (IntKind.wrap IntKind.u64 (IntKind.wrap IntKind.i64 ((↑i : Int) + (↑j : Int)))) (2 : Int)))) default), encK (List.getD x a default)]
  (i64 (cmpK (List.getD x (Int.toNat (IntKind.wrap IntKind.i64 (Int.fdiv (IntKind.wrap IntKind.u64 (IntKind.wrap IntKind.i64 ((↑i : Int) + (↑j : Int)))) (2 : Int)))) default) (List.getD x a default))))])
  fun x x_1 => Tree.fail 1000003 0
theorem tA122r (l0 : Abs.Loc) (a i j : Nat) (x : List RKey) : levL prog Proofs.Tryz.f122 3 (IA122 l0 a i j x) (TA122r l0 a i j x) finA122 =
  Tree.br (decide ((↑i : Int) < (↑j : Int)))
  (Tree.need ((0 : Int) ≤ (1 : Int))
  (Tree.need
  ((0 : Int) ≤ IntKind.wrap IntKind.i64 (Int.fdiv (IntKind.wrap IntKind.u64 (IntKind.wrap IntKind.i64 ((↑i : Int) + (↑j : Int)))) (2 : Int)) ∧
  Int.toNat (IntKind.wrap IntKind.i64 (Int.fdiv (IntKind.wrap IntKind.u64 (IntKind.wrap IntKind.i64 ((↑i : Int) + (↑j : Int)))) (2 : Int))) < List.length x)
  (Tree.need
  ((List.map encK x)[Int.toNat (IntKind.wrap IntKind.i64 (Int.fdiv (IntKind.wrap IntKind.u64 (IntKind.wrap IntKind.i64 ((↑i : Int) + (↑j : Int)))) (2 : Int)))]? =
  some (encK (List.getD x (Int.toNat (IntKind.wrap IntKind.i64 (Int.fdiv (IntKind.wrap IntKind.u64 (IntKind.wrap IntKind.i64 ((↑i : Int) + (↑j : Int)))) (2 : Int)))) default)))
  (Tree.need ((0 : Int) ≤ (↑a : Int) ∧ a < List.length x)
  (Tree.need ((List.map encK x)[a]? = some (encK (List.getD x a default)))
  (Tree.need
  (ILeL [encK (List.getD x (Int.toNat (IntKind.wrap IntKind.i64 (Int.fdiv (IntKind.wrap IntKind.u64 (IntKind.wrap IntKind.i64 ((↑i : Int) + (↑j : Int)))) (2 : Int)))) default), encK (List.getD x a default)]
  [encK (List.getD x (Int.toNat (IntKind.wrap IntKind.i64 (Int.fdiv (IntKind.wrap IntKind.u64 (IntKind.wrap IntKind.i64 ((↑i : Int) + (↑j : Int)))) (2 : Int)))) default), encK (List.getD x a default)] ∧
  ASpec prog 54 [encK (List.getD x (Int.toNat (IntKind.wrap IntKind.i64 (Int.fdiv (IntKind.wrap IntKind.u64 (IntKind.wrap IntKind.i64 ((↑i : Int) + (↑j : Int)))) (2 : Int)))) default), encK (List.getD x a default)]
  (i64 (cmpK (List.getD x (Int.toNat (IntKind.wrap IntKind.i64 (Int.fdiv (IntKind.wrap IntKind.u64 (IntKind.wrap IntKind.i64 ((↑i : Int) + (↑j : Int)))) (2 : Int)))) default) (List.getD x a default))))
  (Tree.br (decide (cmpK (List.getD x (Int.toNat (IntKind.wrap IntKind.i64 (Int.fdiv (IntKind.wrap IntKind.u64 (IntKind.wrap IntKind.i64 ((↑i : Int) + (↑j : Int)))) (2 : Int)))) default) (List.getD x a default) < (0 : Int)))
  (Tree.done Exit.normal
  (LState.mk
  [(11, AVal.imm (i64 (↑j : Int))),
  (10,
  AVal.imm (IVal.v (Value.int IntKind.i64 (IntKind.wrap IntKind.i64 (IntKind.wrap IntKind.i64 (Int.fdiv (IntKind.wrap IntKind.u64 (IntKind.wrap IntKind.i64 ((↑i : Int) + (↑j : Int)))) (2 : Int)) + (1 : Int)))))),
  (4, AVal.imm (fnV 54)), (1, AVal.imm (i64 (↑a : Int))), (0, AVal.own 0 (List.length x))]
  [(0, Entry.brow l0 75 18 (List.map encK x))] 220 25 []))
  (Tree.done Exit.normal
  (LState.mk
  [(11, AVal.imm (IVal.v (Value.int IntKind.i64 (IntKind.wrap IntKind.i64 (Int.fdiv (IntKind.wrap IntKind.u64 (IntKind.wrap IntKind.i64 ((↑i : Int) + (↑j : Int)))) (2 : Int)))))),
  (10, AVal.imm (i64 (↑i : Int))), (4, AVal.imm (fnV 54)), (1, AVal.imm (i64 (↑a : Int))), (0, AVal.own 0 (List.length x))]
  [(0, Entry.brow l0 75 18 (List.map encK x))] 220 24 [])))))))))
  (Tree.done (Exit.exit 0)
  (LState.mk [(10, AVal.imm (i64 (↑i : Int))), (1, AVal.imm (i64 (↑a : Int))), (0, AVal.own 0 (List.length x))] [(0, Entry.brow l0 75 18 (List.map encK x))] 220 4
  [])) := by kernel_rfl
def IB122 (l0 : Abs.Loc) (k i : Nat) (x : List RKey) : LState := { t := [(13, .imm (i64 k)), (10, .imm (i64 i)), (0, .own 0 x.length)], s := [(0, .brow l0 75 18 (x.map encK))], m := 220, n := 1 }
def ER122 (l0 : Abs.Loc) (x : List RKey) : LState := { t := [], s := [(0, .brow l0 75 18 (x.map encK))], m := 220, n := 1 }
def finB122 : Exit → Fin
  | .normal => ⟨[], [13, 10, 0], [0]⟩
  | _ => ⟨[], [], [0]⟩
def TB122r (l0 : Abs.Loc) (k i : Nat) (x : List RKey) : Tell :=
  Tell.mk (fun x x_1 => false) (fun x x_1 => Orc.no) (fun x => Tree.fail 1000003 0) (fun x => 0) (fun x => ([], []))
  (oget
  [(5, 11, 9, Orc.elem (encK (List.getD x (Int.toNat (IntKind.wrap IntKind.i64 ((↑k : Int) + (1 : Int)))) default))), (5, 11, 13, Orc.elem (encK (List.getD x k default))),
  (5, 11, 15, Orc.elem (IVal.tup [])), (5, 11, 17, Orc.elem (IVal.tup []))])
  fun x x_1 => Tree.fail 1000003 0
theorem tB122r (l0 : Abs.Loc) (k i : Nat) (x : List RKey) : levL prog Proofs.Tryz.f122 9 (IB122 l0 k i x) (TB122r l0 k i x) finB122 =
  Tree.br (decide ((↑k : Int) < IntKind.wrap IntKind.i64 ((↑i : Int) - (1 : Int))))
  (Tree.need ((0 : Int) ≤ IntKind.wrap IntKind.i64 ((↑k : Int) + (1 : Int)) ∧ Int.toNat (IntKind.wrap IntKind.i64 ((↑k : Int) + (1 : Int))) < List.length x)
  (Tree.need ((List.map encK x)[Int.toNat (IntKind.wrap IntKind.i64 ((↑k : Int) + (1 : Int)))]? = some (encK (List.getD x (Int.toNat (IntKind.wrap IntKind.i64 ((↑k : Int) + (1 : Int)))) default)))
  (Tree.need ((0 : Int) ≤ (↑k : Int) ∧ k < List.length x)
  (Tree.need ((List.map encK x)[k]? = some (encK (List.getD x k default)))
  (Tree.need ((0 : Int) ≤ (↑k : Int) ∧ k < List.length x)
  (Tree.need (k < List.length (List.map encK x))
  (Tree.need ((0 : Int) ≤ IntKind.wrap IntKind.i64 ((↑k : Int) + (1 : Int)) ∧ Int.toNat (IntKind.wrap IntKind.i64 ((↑k : Int) + (1 : Int))) < List.length x)
  (Tree.need (Int.toNat (IntKind.wrap IntKind.i64 ((↑k : Int) + (1 : Int))) < List.length (List.set (List.map encK x) k (encK (List.getD x (Int.toNat (IntKind.wrap IntKind.i64 ((↑k : Int) + (1 : Int)))) default))))
  (Tree.done Exit.normal
  (LState.mk [(13, AVal.imm (IVal.v (Value.int IntKind.i64 (IntKind.wrap IntKind.i64 ((↑k : Int) + (1 : Int)))))), (10, AVal.imm (i64 (↑i : Int))), (0, AVal.own 0 (List.length x))]
  [(0,
  Entry.brow l0 75 18
  (List.set (List.set (List.map encK x) k (encK (List.getD x (Int.toNat (IntKind.wrap IntKind.i64 ((↑k : Int) + (1 : Int)))) default))) (Int.toNat (IntKind.wrap IntKind.i64 ((↑k : Int) + (1 : Int))))
  (encK (List.getD x k default))))]
  220 26 []))))))))))
  (Tree.done (Exit.exit 2) (LState.mk [] [(0, Entry.brow l0 75 18 (List.map encK x))] 220 5 [])) := by kernel_rfl
def IC122 (l0 : Abs.Loc) (m i j : Nat) (x : List RKey) : LState := { t := [(15, .imm (i64 j)), (14, .imm (i64 i)), (4, .imm (fnV 54)), (2, .imm (i64 m)), (0, .own 0 x.length)], s := [(0, .brow l0 75 18 (x.map encK))], m := 220, n := 1 }
def EC122 (l0 : Abs.Loc) (m i : Nat) (x : List RKey) : LState := { t := [(14, .imm (i64 i)), (2, .imm (i64 m)), (0, .own 0 x.length)], s := [(0, .brow l0 75 18 (x.map encK))], m := 220, n := 1 }
def finC122 : Exit → Fin
  | .normal => ⟨[], [15, 14, 4, 2, 0], [0]⟩
  | _ => ⟨[], [14, 2, 0], [0]⟩
def TC122r (l0 : Abs.Loc) (m i j : Nat) (x : List RKey) : Tell :=
  Tell.mk (fun x x_1 => false) (fun x x_1 => Orc.no) (fun x => Tree.fail 1000003 0) (fun x => 0) (fun x => ([], []))
  (oget
  [(11, 17, 4, Orc.elem (encK (List.getD x m default))),
  (11, 17, 8, Orc.elem (encK (List.getD x (Int.toNat (IntKind.wrap IntKind.i64 (Int.fdiv (IntKind.wrap IntKind.u64 (IntKind.wrap IntKind.i64 ((↑i : Int) + (↑j : Int)))) (2 : Int)))) default))),
  (11, 17, 9,
  Orc.call [encK (List.getD x m default), encK (List.getD x (Int.toNat (IntKind.wrap IntKind.i64 (Int.fdiv (IntKind.wrap IntKind.u64 (IntKind.wrap IntKind.i64 ((↑i : Int) + (↑j : Int)))) (2 : Int)))) default)]
  (i64 (cmpK (List.getD x m default) (List.getD x (Int.toNat (IntKind.wrap IntKind.i64 (Int.fdiv (IntKind.wrap IntKind.u64 (IntKind.wrap IntKind.i64 ((↑i : Int) + (↑j : Int)))) (2 : Int)))) default))))])
  fun x x_1 => Tree.fail 1000003 0
theorem tC122r (l0 : Abs.Loc) (m i j : Nat) (x : List RKey) : levL prog Proofs.Tryz.f122 15 (IC122 l0 m i j x) (TC122r l0 m i j x) finC122 =
  Tree.br (decide ((↑i : Int) < (↑j : Int)))
  (Tree.need ((0 : Int) ≤ (1 : Int))
  (Tree.need ((0 : Int) ≤ (↑m : Int) ∧ m < List.length x)
  (Tree.need ((List.map encK x)[m]? = some (encK (List.getD x m default)))
  (Tree.need
  ((0 : Int) ≤ IntKind.wrap IntKind.i64 (Int.fdiv (IntKind.wrap IntKind.u64 (IntKind.wrap IntKind.i64 ((↑i : Int) + (↑j : Int)))) (2 : Int)) ∧
  Int.toNat (IntKind.wrap IntKind.i64 (Int.fdiv (IntKind.wrap IntKind.u64 (IntKind.wrap IntKind.i64 ((↑i : Int) + (↑j : Int)))) (2 : Int))) < List.length x)
  (Tree.need
  ((List.map encK x)[Int.toNat (IntKind.wrap IntKind.i64 (Int.fdiv (IntKind.wrap IntKind.u64 (IntKind.wrap IntKind.i64 ((↑i : Int) + (↑j : Int)))) (2 : Int)))]? =
  some (encK (List.getD x (Int.toNat (IntKind.wrap IntKind.i64 (Int.fdiv (IntKind.wrap IntKind.u64 (IntKind.wrap IntKind.i64 ((↑i : Int) + (↑j : Int)))) (2 : Int)))) default)))
  (Tree.need
  (ILeL [encK (List.getD x m default), encK (List.getD x (Int.toNat (IntKind.wrap IntKind.i64 (Int.fdiv (IntKind.wrap IntKind.u64 (IntKind.wrap IntKind.i64 ((↑i : Int) + (↑j : Int)))) (2 : Int)))) default)]
  [encK (List.getD x m default), encK (List.getD x (Int.toNat (IntKind.wrap IntKind.i64 (Int.fdiv (IntKind.wrap IntKind.u64 (IntKind.wrap IntKind.i64 ((↑i : Int) + (↑j : Int)))) (2 : Int)))) default)] ∧
  ASpec prog 54 [encK (List.getD x m default), encK (List.getD x (Int.toNat (IntKind.wrap IntKind.i64 (Int.fdiv (IntKind.wrap IntKind.u64 (IntKind.wrap IntKind.i64 ((↑i : Int) + (↑j : Int)))) (2 : Int)))) default)]
  (i64 (cmpK (List.getD x m default) (List.getD x (Int.toNat (IntKind.wrap IntKind.i64 (Int.fdiv (IntKind.wrap IntKind.u64 (IntKind.wrap IntKind.i64 ((↑i : Int) + (↑j : Int)))) (2 : Int)))) default))))
  (Tree.br (!decide (cmpK (List.getD x m default) (List.getD x (Int.toNat (IntKind.wrap IntKind.i64 (Int.fdiv (IntKind.wrap IntKind.u64 (IntKind.wrap IntKind.i64 ((↑i : Int) + (↑j : Int)))) (2 : Int)))) default) < (0 : Int)))
  (Tree.done Exit.normal
  (LState.mk
  [(15, AVal.imm (i64 (↑j : Int))),
  (14,
  AVal.imm (IVal.v (Value.int IntKind.i64 (IntKind.wrap IntKind.i64 (IntKind.wrap IntKind.i64 (Int.fdiv (IntKind.wrap IntKind.u64 (IntKind.wrap IntKind.i64 ((↑i : Int) + (↑j : Int)))) (2 : Int)) + (1 : Int)))))),
  (4, AVal.imm (fnV 54)), (2, AVal.imm (i64 (↑m : Int))), (0, AVal.own 0 (List.length x))]
  [(0, Entry.brow l0 75 18 (List.map encK x))] 220 26 []))
  (Tree.done Exit.normal
  (LState.mk
  [(15, AVal.imm (IVal.v (Value.int IntKind.i64 (IntKind.wrap IntKind.i64 (Int.fdiv (IntKind.wrap IntKind.u64 (IntKind.wrap IntKind.i64 ((↑i : Int) + (↑j : Int)))) (2 : Int)))))),
  (14, AVal.imm (i64 (↑i : Int))), (4, AVal.imm (fnV 54)), (2, AVal.imm (i64 (↑m : Int))), (0, AVal.own 0 (List.length x))]
  [(0, Entry.brow l0 75 18 (List.map encK x))] 220 25 [])))))))))
  (Tree.done (Exit.exit 4)
  (LState.mk [(14, AVal.imm (i64 (↑i : Int))), (2, AVal.imm (i64 (↑m : Int))), (0, AVal.own 0 (List.length x))] [(0, Entry.brow l0 75 18 (List.map encK x))] 220 4
  [])) := by kernel_rfl
def ID122 (l0 : Abs.Loc) (k i : Nat) (x : List RKey) : LState := { t := [(17, .imm (i64 k)), (14, .imm (i64 i)), (0, .own 0 x.length)], s := [(0, .brow l0 75 18 (x.map encK))], m := 220, n := 1 }
def finD122 : Exit → Fin
  | .normal => ⟨[], [17, 14, 0], [0]⟩
  | _ => ⟨[], [], [0]⟩
def TD122r (l0 : Abs.Loc) (k i : Nat) (x : List RKey) : Tell :=
  Tell.mk (fun x x_1 => false) (fun x x_1 => Orc.no) (fun x => Tree.fail 1000003 0) (fun x => 0) (fun x => ([], []))
  (oget
  [(4, 23, 9, Orc.elem (encK (List.getD x (Int.toNat (IntKind.wrap IntKind.i64 ((↑k : Int) - (1 : Int)))) default))), (4, 23, 13, Orc.elem (encK (List.getD x k default))),
  (4, 23, 15, Orc.elem (IVal.tup [])), (4, 23, 17, Orc.elem (IVal.tup []))])
  fun x x_1 => Tree.fail 1000003 0
theorem tD122r (l0 : Abs.Loc) (k i : Nat) (x : List RKey) : levL prog Proofs.Tryz.f122 21 (ID122 l0 k i x) (TD122r l0 k i x) finD122 =
  Tree.br (decide ((↑i : Int) < (↑k : Int)))
  (Tree.need ((0 : Int) ≤ IntKind.wrap IntKind.i64 ((↑k : Int) - (1 : Int)) ∧ Int.toNat (IntKind.wrap IntKind.i64 ((↑k : Int) - (1 : Int))) < List.length x)
  (Tree.need ((List.map encK x)[Int.toNat (IntKind.wrap IntKind.i64 ((↑k : Int) - (1 : Int)))]? = some (encK (List.getD x (Int.toNat (IntKind.wrap IntKind.i64 ((↑k : Int) - (1 : Int)))) default)))
  (Tree.need ((0 : Int) ≤ (↑k : Int) ∧ k < List.length x)
  (Tree.need ((List.map encK x)[k]? = some (encK (List.getD x k default)))
  (Tree.need ((0 : Int) ≤ (↑k : Int) ∧ k < List.length x)
  (Tree.need (k < List.length (List.map encK x))
  (Tree.need ((0 : Int) ≤ IntKind.wrap IntKind.i64 ((↑k : Int) - (1 : Int)) ∧ Int.toNat (IntKind.wrap IntKind.i64 ((↑k : Int) - (1 : Int))) < List.length x)
  (Tree.need (Int.toNat (IntKind.wrap IntKind.i64 ((↑k : Int) - (1 : Int))) < List.length (List.set (List.map encK x) k (encK (List.getD x (Int.toNat (IntKind.wrap IntKind.i64 ((↑k : Int) - (1 : Int)))) default))))
  (Tree.done Exit.normal
  (LState.mk [(17, AVal.imm (IVal.v (Value.int IntKind.i64 (IntKind.wrap IntKind.i64 ((↑k : Int) - (1 : Int)))))), (14, AVal.imm (i64 (↑i : Int))), (0, AVal.own 0 (List.length x))]
  [(0,
  Entry.brow l0 75 18
  (List.set (List.set (List.map encK x) k (encK (List.getD x (Int.toNat (IntKind.wrap IntKind.i64 ((↑k : Int) - (1 : Int)))) default))) (Int.toNat (IntKind.wrap IntKind.i64 ((↑k : Int) - (1 : Int))))
  (encK (List.getD x k default))))]
  220 25 []))))))))))
  (Tree.done (Exit.exit 6) (LState.mk [] [(0, Entry.brow l0 75 18 (List.map encK x))] 220 4 [])) := by kernel_rfl
def IE122 (l0 : Abs.Loc) (a m b q n md i j : Nat) (x : List RKey) : LState := { t := [(22, .imm (i64 q)), (21, .imm (i64 j)), (20, .imm (i64 i)), (19, .imm (i64 n)), (18, .imm (i64 md)), (4, .imm (fnV 54)), (3, .imm (i64 b)), (2, .imm (i64 m)), (1, .imm (i64 a)), (0, .own 0 x.length)], s := [(0, .brow l0 75 18 (x.map encK))], m := 220, n := 1 }
def EE122 (l0 : Abs.Loc) (a m b n md i : Nat) (x : List RKey) : LState := { t := [(20, .imm (i64 i)), (19, .imm (i64 n)), (18, .imm (i64 md)), (4, .imm (fnV 54)), (3, .imm (i64 b)), (2, .imm (i64 m)), (1, .imm (i64 a)), (0, .own 0 x.length)], s := [(0, .brow l0 75 18 (x.map encK))], m := 220, n := 1 }
def finE122 : Exit → Fin
  | .normal => ⟨[], [22, 21, 20, 19, 18, 4, 3, 2, 1, 0], [0]⟩
  | _ => ⟨[], [20, 19, 18, 4, 3, 2, 1, 0], [0]⟩
def TE122r (l0 : Abs.Loc) (a m b q n md i j : Nat) (x : List RKey) : Tell :=
  Tell.mk (fun x x_1 => false) (fun x x_1 => Orc.no) (fun x => Tree.fail 1000003 0) (fun x => 0) (fun x => ([], []))
  (oget
  [(11, 35, 6,
  Orc.elem (encK (List.getD x (Int.toNat (IntKind.wrap IntKind.i64 ((↑q : Int) - IntKind.wrap IntKind.i64 (Int.fdiv (IntKind.wrap IntKind.u64 (IntKind.wrap IntKind.i64 ((↑i : Int) + (↑j : Int)))) (2 : Int))))) default))),
  (11, 35, 10, Orc.elem (encK (List.getD x (Int.toNat (IntKind.wrap IntKind.i64 (Int.fdiv (IntKind.wrap IntKind.u64 (IntKind.wrap IntKind.i64 ((↑i : Int) + (↑j : Int)))) (2 : Int)))) default))),
  (11, 35, 11,
  Orc.call
  [encK (List.getD x (Int.toNat (IntKind.wrap IntKind.i64 ((↑q : Int) - IntKind.wrap IntKind.i64 (Int.fdiv (IntKind.wrap IntKind.u64 (IntKind.wrap IntKind.i64 ((↑i : Int) + (↑j : Int)))) (2 : Int))))) default),
  encK (List.getD x (Int.toNat (IntKind.wrap IntKind.i64 (Int.fdiv (IntKind.wrap IntKind.u64 (IntKind.wrap IntKind.i64 ((↑i : Int) + (↑j : Int)))) (2 : Int)))) default)]
  (i64
  (cmpK (List.getD x (Int.toNat (IntKind.wrap IntKind.i64 ((↑q : Int) - IntKind.wrap IntKind.i64 (Int.fdiv (IntKind.wrap IntKind.u64 (IntKind.wrap IntKind.i64 ((↑i : Int) + (↑j : Int)))) (2 : Int))))) default)
  (List.getD x (Int.toNat (IntKind.wrap IntKind.i64 (Int.fdiv (IntKind.wrap IntKind.u64 (IntKind.wrap IntKind.i64 ((↑i : Int) + (↑j : Int)))) (2 : Int)))) default))))])
  fun x x_1 => Tree.fail 1000003 0
theorem tE122r (l0 : Abs.Loc) (a m b q n md i j : Nat) (x : List RKey) : levL prog Proofs.Tryz.f122 33 (IE122 l0 a m b q n md i j x) (TE122r l0 a m b q n md i j x) finE122 =
  Tree.br (decide ((↑i : Int) < (↑j : Int)))
  (Tree.need ((0 : Int) ≤ (1 : Int))
  (Tree.need
  ((0 : Int) ≤ IntKind.wrap IntKind.i64 ((↑q : Int) - IntKind.wrap IntKind.i64 (Int.fdiv (IntKind.wrap IntKind.u64 (IntKind.wrap IntKind.i64 ((↑i : Int) + (↑j : Int)))) (2 : Int))) ∧
  Int.toNat (IntKind.wrap IntKind.i64 ((↑q : Int) - IntKind.wrap IntKind.i64 (Int.fdiv (IntKind.wrap IntKind.u64 (IntKind.wrap IntKind.i64 ((↑i : Int) + (↑j : Int)))) (2 : Int)))) < List.length x)
  (Tree.need
  ((List.map encK x)[Int.toNat (IntKind.wrap IntKind.i64 ((↑q : Int) - IntKind.wrap IntKind.i64 (Int.fdiv (IntKind.wrap IntKind.u64 (IntKind.wrap IntKind.i64 ((↑i : Int) + (↑j : Int)))) (2 : Int))))]? =
  some (encK (List.getD x (Int.toNat (IntKind.wrap IntKind.i64 ((↑q : Int) - IntKind.wrap IntKind.i64 (Int.fdiv (IntKind.wrap IntKind.u64 (IntKind.wrap IntKind.i64 ((↑i : Int) + (↑j : Int)))) (2 : Int))))) default)))
  (Tree.need
  ((0 : Int) ≤ IntKind.wrap IntKind.i64 (Int.fdiv (IntKind.wrap IntKind.u64 (IntKind.wrap IntKind.i64 ((↑i : Int) + (↑j : Int)))) (2 : Int)) ∧
  Int.toNat (IntKind.wrap IntKind.i64 (Int.fdiv (IntKind.wrap IntKind.u64 (IntKind.wrap IntKind.i64 ((↑i : Int) + (↑j : Int)))) (2 : Int))) < List.length x)
  (Tree.need
  ((List.map encK x)[Int.toNat (IntKind.wrap IntKind.i64 (Int.fdiv (IntKind.wrap IntKind.u64 (IntKind.wrap IntKind.i64 ((↑i : Int) + (↑j : Int)))) (2 : Int)))]? =
  some (encK (List.getD x (Int.toNat (IntKind.wrap IntKind.i64 (Int.fdiv (IntKind.wrap IntKind.u64 (IntKind.wrap IntKind.i64 ((↑i : Int) + (↑j : Int)))) (2 : Int)))) default)))
  (Tree.need
  (ILeL
  [encK (List.getD x (Int.toNat (IntKind.wrap IntKind.i64 ((↑q : Int) - IntKind.wrap IntKind.i64 (Int.fdiv (IntKind.wrap IntKind.u64 (IntKind.wrap IntKind.i64 ((↑i : Int) + (↑j : Int)))) (2 : Int))))) default),
  encK (List.getD x (Int.toNat (IntKind.wrap IntKind.i64 (Int.fdiv (IntKind.wrap IntKind.u64 (IntKind.wrap IntKind.i64 ((↑i : Int) + (↑j : Int)))) (2 : Int)))) default)]
  [encK (List.getD x (Int.toNat (IntKind.wrap IntKind.i64 ((↑q : Int) - IntKind.wrap IntKind.i64 (Int.fdiv (IntKind.wrap IntKind.u64 (IntKind.wrap IntKind.i64 ((↑i : Int) + (↑j : Int)))) (2 : Int))))) default),
  encK (List.getD x (Int.toNat (IntKind.wrap IntKind.i64 (Int.fdiv (IntKind.wrap IntKind.u64 (IntKind.wrap IntKind.i64 ((↑i : Int) + (↑j : Int)))) (2 : Int)))) default)] ∧
  ASpec prog 54
  [encK (List.getD x (Int.toNat (IntKind.wrap IntKind.i64 ((↑q : Int) - IntKind.wrap IntKind.i64 (Int.fdiv (IntKind.wrap IntKind.u64 (IntKind.wrap IntKind.i64 ((↑i : Int) + (↑j : Int)))) (2 : Int))))) default),
  encK (List.getD x (Int.toNat (IntKind.wrap IntKind.i64 (Int.fdiv (IntKind.wrap IntKind.u64 (IntKind.wrap IntKind.i64 ((↑i : Int) + (↑j : Int)))) (2 : Int)))) default)]
  (i64
  (cmpK (List.getD x (Int.toNat (IntKind.wrap IntKind.i64 ((↑q : Int) - IntKind.wrap IntKind.i64 (Int.fdiv (IntKind.wrap IntKind.u64 (IntKind.wrap IntKind.i64 ((↑i : Int) + (↑j : Int)))) (2 : Int))))) default)
  (List.getD x (Int.toNat (IntKind.wrap IntKind.i64 (Int.fdiv (IntKind.wrap IntKind.u64 (IntKind.wrap IntKind.i64 ((↑i : Int) + (↑j : Int)))) (2 : Int)))) default))))
  (Tree.br
  (!decide
  (cmpK (List.getD x (Int.toNat (IntKind.wrap IntKind.i64 ((↑q : Int) - IntKind.wrap IntKind.i64 (Int.fdiv (IntKind.wrap IntKind.u64 (IntKind.wrap IntKind.i64 ((↑i : Int) + (↑j : Int)))) (2 : Int))))) default)
  (List.getD x (Int.toNat (IntKind.wrap IntKind.i64 (Int.fdiv (IntKind.wrap IntKind.u64 (IntKind.wrap IntKind.i64 ((↑i : Int) + (↑j : Int)))) (2 : Int)))) default) <
  (0 : Int)))
  (Tree.done Exit.normal
  (LState.mk
  [(22, AVal.imm (i64 (↑q : Int))), (21, AVal.imm (i64 (↑j : Int))),
  (20,
  AVal.imm (IVal.v (Value.int IntKind.i64 (IntKind.wrap IntKind.i64 (IntKind.wrap IntKind.i64 (Int.fdiv (IntKind.wrap IntKind.u64 (IntKind.wrap IntKind.i64 ((↑i : Int) + (↑j : Int)))) (2 : Int)) + (1 : Int)))))),
  (19, AVal.imm (i64 (↑n : Int))), (18, AVal.imm (i64 (↑md : Int))), (4, AVal.imm (fnV 54)), (3, AVal.imm (i64 (↑b : Int))), (2, AVal.imm (i64 (↑m : Int))),
  (1, AVal.imm (i64 (↑a : Int))), (0, AVal.own 0 (List.length x))]
  [(0, Entry.brow l0 75 18 (List.map encK x))] 220 28 []))
  (Tree.done Exit.normal
  (LState.mk
  [(22, AVal.imm (i64 (↑q : Int))),
  (21, AVal.imm (IVal.v (Value.int IntKind.i64 (IntKind.wrap IntKind.i64 (Int.fdiv (IntKind.wrap IntKind.u64 (IntKind.wrap IntKind.i64 ((↑i : Int) + (↑j : Int)))) (2 : Int)))))),
  (20, AVal.imm (i64 (↑i : Int))), (19, AVal.imm (i64 (↑n : Int))), (18, AVal.imm (i64 (↑md : Int))), (4, AVal.imm (fnV 54)), (3, AVal.imm (i64 (↑b : Int))),
  (2, AVal.imm (i64 (↑m : Int))), (1, AVal.imm (i64 (↑a : Int))), (0, AVal.own 0 (List.length x))]
  [(0, Entry.brow l0 75 18 (List.map encK x))] 220 27 [])))))))))
  (Tree.done (Exit.exit 8)
  (LState.mk
  [(20, AVal.imm (i64 (↑i : Int))), (19, AVal.imm (i64 (↑n : Int))), (18, AVal.imm (i64 (↑md : Int))), (4, AVal.imm (fnV 54)), (3, AVal.imm (i64 (↑b : Int))),
  (2, AVal.imm (i64 (↑m : Int))), (1, AVal.imm (i64 (↑a : Int))), (0, AVal.own 0 (List.length x))]
  [(0, Entry.brow l0 75 18 (List.map encK x))] 220 4 [])) := by kernel_rfl
theorem lA122 (l0 : Abs.Loc) (a i j f : Nat) (x : List RKey) (ha : a < x.length) (hij : i ≤ j) (hj : j ≤ x.length) (hl : x.length ≤ 2 ^ 61) (hf : j - i ≤ f) (σ : LState) (h : LSub σ (IA122 l0 a i j x)) :
    LoopOk prog [] (bodyOf Proofs.Tryz.f122) 3 σ (.done (.exit 0) (EA122 l0 a (bs (fun h => ltK (x.getD h default) (x.getD a default)) f i j) x)) := by
  refine LoopOk.of_levL (γ := { g : Nat × Nat × Nat // g.1 ≤ g.2.1 ∧ g.2.1 ≤ x.length ∧ g.2.1 - g.1 ≤ g.2.2 ∧ bs (fun h => ltK (x.getD h default) (x.getD a default)) g.2.2 g.1 g.2.1 = bs (fun h => ltK (x.getD h default) (x.getD a default)) f i j })
    (fun g => TA122r l0 a g.1.1 g.1.2.1 x) finA122 (fun g => IA122 l0 a g.1.1 g.1.2.1 x) (fun g => g.1.2.1 - g.1.1) ⟨(i, j, f), hij, hj, hf, rfl⟩ (by kernel_rfl) h ?_
  rintro ⟨⟨i, j, f'⟩, q1, q2, q3, q4⟩
  simp only at q1 q2 q3 q4
  simp only []
  have e1 := i64_half (i := i) (j := j) (by omega)
  rw [tA122r]
  simp only [e1, Int.toNat_natCast]
  refine ⟨fun h1 => ?_, fun h1 => ?_⟩
  · have hlt : i < j := by simp at h1; omega
    cases f' with
    | zero => omega
    | succ f' =>
      rw [bs, if_pos hlt] at q4
      refine ⟨by omega, fun _ => ⟨⟨by omega, by omega⟩, fun _ => ⟨getD_map _ _ _ _ (by omega), fun _ => ⟨⟨by omega, ha⟩, fun _ => ⟨getD_map _ _ _ _ ha, fun _ => ⟨⟨ILeL.refl _, c54 _ _⟩, fun _ => ⟨fun h2 => ?_, fun h2 => ?_⟩⟩⟩⟩⟩⟩⟩
      · rw [if_pos (show ltK _ _ = true from h2)] at q4
        refine ⟨⟨((i + j) / 2 + 1, j, f'), by simp only; omega, q2, by simp only; omega, q4⟩, by simp only; omega, ⟨rfl, ?_, rfl, rfl, rfl, trivial⟩, ⟨rfl, trivial⟩, rfl, rfl, rfl⟩
        exact congrArg (fun n => AVal.imm (i64 n)) (i64_succ (by omega))
      · rw [if_neg (fun hc => by rw [show ltK _ _ = false from h2] at hc; cases hc)] at q4
        exact ⟨⟨(i, (i + j) / 2, f'), by simp only; omega, by simp only; omega, by simp only; omega, q4⟩, by simp only; omega, ⟨rfl, rfl, rfl, rfl, rfl, trivial⟩, ⟨rfl, trivial⟩, rfl, rfl, rfl⟩
  · have hge : ¬ i < j := by simp at h1; omega
    have : bs (fun h => ltK (x.getD h default) (x.getD a default)) f' i j = i := by
      cases f' with
      | zero => rfl
      | succ f' => rw [bs, if_neg hge]
    rw [this] at q4
    rw [← q4]
    exact ⟨rfl, ⟨rfl, rfl, rfl, trivial⟩, ⟨rfl, trivial⟩, rfl, rfl, rfl⟩
theorem lC122 (l0 : Abs.Loc) (m i j f : Nat) (x : List RKey) (ha : m < x.length) (hij : i ≤ j) (hj : j ≤ x.length) (hl : x.length ≤ 2 ^ 61) (hf : j - i ≤ f) (σ : LState) (h : LSub σ (IC122 l0 m i j x)) :
    LoopOk prog [] (bodyOf Proofs.Tryz.f122) 15 σ (.done (.exit 4) (EC122 l0 m (bs (fun h => !ltK (x.getD m default) (x.getD h default)) f i j) x)) := by
  refine LoopOk.of_levL (γ := { g : Nat × Nat × Nat // g.1 ≤ g.2.1 ∧ g.2.1 ≤ x.length ∧ g.2.1 - g.1 ≤ g.2.2 ∧ bs (fun h => !ltK (x.getD m default) (x.getD h default)) g.2.2 g.1 g.2.1 = bs (fun h => !ltK (x.getD m default) (x.getD h default)) f i j })
    (fun g => TC122r l0 m g.1.1 g.1.2.1 x) finC122 (fun g => IC122 l0 m g.1.1 g.1.2.1 x) (fun g => g.1.2.1 - g.1.1) ⟨(i, j, f), hij, hj, hf, rfl⟩ (by kernel_rfl) h ?_
  rintro ⟨⟨i, j, f'⟩, q1, q2, q3, q4⟩
  simp only at q1 q2 q3 q4
  simp only []
  have e1 := i64_half (i := i) (j := j) (by omega)
  rw [tC122r]
  simp only [e1, Int.toNat_natCast]
  refine ⟨fun h1 => ?_, fun h1 => ?_⟩
  · have hlt : i < j := by simp at h1; omega
    cases f' with
    | zero => omega
    | succ f' =>
      rw [bs, if_pos hlt] at q4
      refine ⟨by omega, fun _ => ⟨⟨by omega, ha⟩, fun _ => ⟨getD_map _ _ _ _ ha, fun _ => ⟨⟨by omega, by omega⟩, fun _ => ⟨getD_map _ _ _ _ (by omega), fun _ => ⟨⟨ILeL.refl _, c54 _ _⟩, fun _ => ⟨fun h2 => ?_, fun h2 => ?_⟩⟩⟩⟩⟩⟩⟩
      · rw [if_pos (show (!ltK _ _) = true from h2)] at q4
        refine ⟨⟨((i + j) / 2 + 1, j, f'), by simp only; omega, q2, by simp only; omega, q4⟩, by simp only; omega, ⟨rfl, ?_, rfl, rfl, rfl, trivial⟩, ⟨rfl, trivial⟩, rfl, rfl, rfl⟩
        exact congrArg (fun n => AVal.imm (i64 n)) (i64_succ (by omega))
      · rw [if_neg (fun hc => by rw [show (!ltK _ _) = false from h2] at hc; cases hc)] at q4
        exact ⟨⟨(i, (i + j) / 2, f'), by simp only; omega, by simp only; omega, by simp only; omega, q4⟩, by simp only; omega, ⟨rfl, rfl, rfl, rfl, rfl, trivial⟩, ⟨rfl, trivial⟩, rfl, rfl, rfl⟩
  · have hge : ¬ i < j := by simp at h1; omega
    have : bs (fun h => !ltK (x.getD m default) (x.getD h default)) f' i j = i := by
      cases f' with
      | zero => rfl
      | succ f' => rw [bs, if_neg hge]
    rw [this] at q4
    rw [← q4]
    exact ⟨rfl, ⟨rfl, rfl, rfl, trivial⟩, ⟨rfl, trivial⟩, rfl, rfl, rfl⟩
theorem lE122 (l0 : Abs.Loc) (a m b q n md i j f : Nat) (x : List RKey) (hq : j ≤ q + 1) (hq2 : q < i + x.length) (hij : i ≤ j) (hj : j ≤ x.length) (hl : x.length ≤ 2 ^ 61) (hf : j - i ≤ f) (σ : LState) (h : LSub σ (IE122 l0 a m b q n md i j x)) :
    LoopOk prog [] (bodyOf Proofs.Tryz.f122) 33 σ (.done (.exit 8) (EE122 l0 a m b n md (bs (fun c => !ltK (x.getD (q - c) default) (x.getD c default)) f i j) x)) := by
  refine LoopOk.of_levL (γ := { g : Nat × Nat × Nat // i ≤ g.1 ∧ g.1 ≤ g.2.1 ∧ g.2.1 ≤ j ∧ g.2.1 - g.1 ≤ g.2.2 ∧ bs (fun c => !ltK (x.getD (q - c) default) (x.getD c default)) g.2.2 g.1 g.2.1 = bs (fun c => !ltK (x.getD (q - c) default) (x.getD c default)) f i j })
    (fun g => TE122r l0 a m b q n md g.1.1 g.1.2.1 x) finE122 (fun g => IE122 l0 a m b q n md g.1.1 g.1.2.1 x) (fun g => g.1.2.1 - g.1.1) ⟨(i, j, f), Nat.le_refl _, hij, Nat.le_refl _, hf, rfl⟩ (by kernel_rfl) h ?_
  rintro ⟨⟨i', j', f'⟩, q0, q1, q2, q3, q4⟩
  simp only at q0 q1 q2 q3 q4
  simp only []
  have e1 := i64_half (i := i') (j := j') (by omega)
  have e2 : i' < j' → IntKind.i64.wrap ((q : Int) - (((i' + j') / 2 : Nat) : Int)) = ((q - (i' + j') / 2 : Nat) : Int) := fun h => i64_sub (by omega) (by omega)
  rw [tE122r]
  simp only [e1, Int.toNat_natCast]
  refine ⟨fun h1 => ?_, fun h1 => ?_⟩
  · have hlt : i' < j' := by simp at h1; omega
    simp only [e2 hlt, Int.toNat_natCast]
    cases f' with
    | zero => omega
    | succ f' =>
      rw [bs, if_pos hlt] at q4
      refine ⟨by omega, fun _ => ⟨⟨by omega, by omega⟩, fun _ => ⟨getD_map _ _ _ _ (by omega), fun _ => ⟨⟨by omega, by omega⟩, fun _ => ⟨getD_map _ _ _ _ (by omega), fun _ => ⟨⟨ILeL.refl _, c54 _ _⟩, fun _ => ⟨fun h2 => ?_, fun h2 => ?_⟩⟩⟩⟩⟩⟩⟩
      · rw [if_pos (show (!ltK _ _) = true from h2)] at q4
        refine ⟨⟨((i' + j') / 2 + 1, j', f'), by simp only; omega, by simp only; omega, by simp only; omega, by simp only; omega, q4⟩, by simp only; omega, ⟨rfl, rfl, ?_, rfl, rfl, rfl, rfl, rfl, rfl, rfl, trivial⟩, ⟨rfl, trivial⟩, rfl, rfl, rfl⟩
        exact congrArg (fun n => AVal.imm (i64 n)) (i64_succ (by omega))
      · rw [if_neg (fun hc => by rw [show (!ltK _ _) = false from h2] at hc; cases hc)] at q4
        exact ⟨⟨(i', (i' + j') / 2, f'), q0, by simp only; omega, by simp only; omega, by simp only; omega, q4⟩, by simp only; omega, ⟨rfl, rfl, rfl, rfl, rfl, rfl, rfl, rfl, rfl, rfl, trivial⟩, ⟨rfl, trivial⟩, rfl, rfl, rfl⟩
  · have hge : ¬ i' < j' := by simp at h1; omega
    have : bs (fun c => !ltK (x.getD (q - c) default) (x.getD c default)) f' i' j' = i' := by
      cases f' with
      | zero => rfl
      | succ f' => rw [bs, if_neg hge]
    rw [this] at q4
    rw [← q4]
    exact ⟨rfl, ⟨rfl, rfl, rfl, rfl, rfl, rfl, rfl, rfl, trivial⟩, ⟨rfl, trivial⟩, rfl, rfl, rfl⟩
theorem lB122 (l0 : Abs.Loc) (a i : Nat) (l : List RKey) (ha : a < i) (hi : i ≤ l.length) (hl : l.length ≤ 2 ^ 61) (σ : LState) (h : LSub σ (IB122 l0 a i l)) : LoopOk prog [] (bodyOf Proofs.Tryz.f122) 9 σ (.done (.exit 2) (ER122 l0 (bubU a l (i - 1 - a)))) := by
  refine LoopOk.count (i - 1 - a) 2 (fun n => IB122 l0 (a + n) i (bubU a l n)) (ER122 l0 (bubU a l (i - 1 - a))) (fun n => TB122r l0 (a + n) i (bubU a l n)) finB122 (by kernel_rfl) h fun n hn => ?_
  have e1 : IntKind.i64.wrap ((i : Int) - 1) = ((i - 1 : Nat) : Int) := by rw [IntWalk.i64_in _ (by omega)]; omega
  have e2 : IntKind.i64.wrap (((a + n : Nat) : Int) + 1) = ((a + n + 1 : Nat) : Int) := by rw [IntWalk.i64_in _ (by omega)]; omega
  rw [tB122r]
  simp only [e1, e2, Int.toNat_natCast]
  refine ⟨fun h1 => ?_, fun h1 => ?_⟩
  · have hlt : a + n < i - 1 := by simp at h1; omega
    have hlen := (bubU_spec a l n (by omega)).1.len
    have g1 : a + n < (bubU a l n).length := by omega
    have g2 : a + n + 1 < (bubU a l n).length := by omega
    refine ⟨⟨by omega, g2⟩, fun _ => ⟨getD_map _ _ _ _ g2, fun _ => ⟨⟨by omega, g1⟩, fun _ => ⟨getD_map _ _ _ _ g1, fun _ => ⟨⟨by omega, g1⟩, fun _ => ⟨by simpa using g1, fun _ => ⟨⟨by omega, g2⟩, fun _ => ⟨by simpa using g2, fun _ => ?_⟩⟩⟩⟩⟩⟩⟩⟩
    refine ⟨by omega, ⟨rfl, rfl, congrArg (AVal.own 0) (by rw [bubU, swp_length]), trivial⟩, ⟨?_, trivial⟩, rfl, rfl, rfl⟩
    refine congrArg (fun l => some (Entry.brow l0 75 18 l)) ?_
    simp only [bubU, swp, List.map_set]
  · have : n = i - 1 - a := by simp at h1; omega
    subst this
    exact ⟨rfl, by omega, ⟨trivial, ⟨rfl, trivial⟩, rfl, rfl, rfl⟩⟩
theorem lD122 (l0 : Abs.Loc) (m i : Nat) (l : List RKey) (hm : m < l.length) (hi : i ≤ m) (hl : l.length ≤ 2 ^ 61) (σ : LState) (h : LSub σ (ID122 l0 m i l)) : LoopOk prog [] (bodyOf Proofs.Tryz.f122) 21 σ (.done (.exit 6) (ER122 l0 (bubD m l (m - i)))) := by
  refine LoopOk.count (m - i) 6 (fun n => ID122 l0 (m - n) i (bubD m l n)) (ER122 l0 (bubD m l (m - i))) (fun n => TD122r l0 (m - n) i (bubD m l n)) finD122 (by kernel_rfl) h fun n hn => ?_
  rw [tD122r]
  refine ⟨fun h1 => ?_, fun h1 => ?_⟩
  · have hlt : i < m - n := by simp at h1; omega
    have e1 : IntKind.i64.wrap (((m - n : Nat) : Int) - 1) = ((m - n - 1 : Nat) : Int) := by rw [IntWalk.i64_in _ (by omega)]; omega
    simp only [e1, Int.toNat_natCast]
    have hlen := (bubD_spec m l hm n (by omega)).1.len
    have g1 : m - n < (bubD m l n).length := by omega
    have g2 : m - n - 1 < (bubD m l n).length := by omega
    refine ⟨⟨by omega, g2⟩, fun _ => ⟨getD_map _ _ _ _ g2, fun _ => ⟨⟨by omega, g1⟩, fun _ => ⟨getD_map _ _ _ _ g1, fun _ => ⟨⟨by omega, g1⟩, fun _ => ⟨by simpa using g1, fun _ => ⟨⟨by omega, g2⟩, fun _ => ⟨by simpa using g2, fun _ => ?_⟩⟩⟩⟩⟩⟩⟩⟩
    refine ⟨by omega, ⟨rfl, rfl, congrArg (AVal.own 0) (by rw [bubD, swp_length]), trivial⟩, ⟨?_, trivial⟩, rfl, rfl, rfl⟩
    refine congrArg (fun l => some (Entry.brow l0 75 18 l)) ?_
    simp only [bubD, swp, List.map_set]
  · have : n = m - i := by simp at h1; omega
    subst this
    exact ⟨rfl, by omega, ⟨trivial, ⟨rfl, trivial⟩, rfl, rfl, rfl⟩⟩
def P122 (l0 : Abs.Loc) (a m b i1 i2 n md s : Nat) (l y1 y2 : List RKey) : Nat → Tree := fun k => match k with | 3 => .done (.exit 0) (EA122 l0 a i1 l) | 9 => .done (.exit 2) (ER122 l0 y1) | 15 => .done (.exit 4) (EC122 l0 m i2 l) | 21 => .done (.exit 6) (ER122 l0 y2) | _ => .done (.exit 8) (EE122 l0 a m b n md s l)
def R122 (a s md b n m : Nat) (l : List RKey) : List RKey := if a < s ∧ s < md then symF ltK a s md (symR m s (n - s) l) else symR m s (n - s) l
def T122 (l0 : Abs.Loc) (a m b i1 i2 n md s : Nat) (l y1 y2 : List RKey) : Tell :=
  Tell.mk (fun x x_1 => false)
  (fun r i =>
  match r, i with
  | 44, 5 => Orc.callw [i64 (↑md : Int), i64 (↑(n - s) : Int), i64 (↑b : Int), fnV 54] (IVal.tup []) (List.map encK (symF ltK md (n - s) b (R122 a s md b n m l)))
  | x, x_1 => Orc.no)
  (P122 l0 a m b i1 i2 n md s l y1 y2) (fun x => 0)
  (fun k =>
  match k with
  | 3 => ([11, 10, 4, 1, 0], [0])
  | 9 => ([13, 10, 0], [0])
  | 15 => ([15, 14, 4, 2, 0], [0])
  | 21 => ([17, 14, 0], [0])
  | x => ([22, 21, 20, 19, 18, 4, 3, 2, 1, 0], [0]))
  (ogetO
  (fun r i =>
  match r, i with
  | 44, 5 => Orc.callw [i64 (↑md : Int), i64 (↑(n - s) : Int), i64 (↑b : Int), fnV 54] (IVal.tup []) (List.map encK (symF ltK md (n - s) b (R122 a s md b n m l)))
  | x, x_1 => Orc.no)
  [(13, 40, 5,
  Orc.callw [i64 (↑s : Int), i64 (↑m : Int), i64 (IntKind.wrap IntKind.i64 ((↑n : Int) - (↑s : Int))), fnV 54] (IVal.tup [])
  (List.map encK
  (rot (Int.toNat (↑m : Int)) (Int.toNat (IntKind.wrap IntKind.i64 ((↑n : Int) - (↑s : Int))) - Int.toNat (↑s : Int)) (Int.toNat (↑m : Int) - Int.toNat (↑s : Int))
  (Int.toNat (IntKind.wrap IntKind.i64 ((↑n : Int) - (↑s : Int))) - Int.toNat (↑m : Int)) l))),
  (21, 42, 5, Orc.callw [i64 (↑a : Int), i64 (↑s : Int), i64 (↑md : Int), fnV 54] (IVal.tup []) (List.map encK (symF ltK (Int.toNat (↑a : Int)) (Int.toNat (↑s : Int)) (Int.toNat (↑md : Int)) l))),
  (27, 42, 5,
  Orc.callw [i64 (↑a : Int), i64 (↑s : Int), i64 (↑md : Int), fnV 54] (IVal.tup [])
  (List.map encK
  (symF ltK (Int.toNat (↑a : Int)) (Int.toNat (↑s : Int)) (Int.toNat (↑md : Int))
  (rot m (Int.toNat (IntKind.wrap IntKind.i64 ((↑n : Int) - (↑s : Int))) - s) (m - s) (Int.toNat (IntKind.wrap IntKind.i64 ((↑n : Int) - (↑s : Int))) - m) l))))])
  fun x => P122 l0 a m b i1 i2 n md s l y1 y2
theorem t122 (l0 : Abs.Loc) (a m b i1 i2 n md s : Nat) (l y1 y2 : List RKey) : levW prog Proofs.Tryz.f122 l0 75 18 (l.map encK) [i64 a, i64 m, i64 b, fnV 54] (T122 l0 a m b i1 i2 n md s l y1 y2) =
  Tree.br (decide (IntKind.wrap IntKind.i64 ((↑m : Int) - (↑a : Int)) = (1 : Int)))
  (Tree.loop 3
  (LState.mk
  [(11, AVal.imm (i64 (↑b : Int))), (10, AVal.imm (i64 (↑m : Int))), (4, AVal.imm (fnV 54)), (1, AVal.imm (i64 (↑a : Int))), (0, AVal.own 0 (List.length (List.map encK l)))]
  [(0, Entry.brow l0 75 18 (List.map encK l))] 220 9 [])
  (Tree.done (Exit.exit 0) (EA122 l0 a i1 l))
  (Tree.loop 9
  (LState.mk [(13, AVal.imm (i64 (↑a : Int))), (10, AVal.imm (i64 (↑i1 : Int))), (0, AVal.own 0 (List.length l))] [(0, Entry.brow l0 75 18 (List.map encK l))] 220 3
  [])
  (Tree.done (Exit.exit 2) (ER122 l0 y1)) (Tree.need (eqs []) (Tree.done Exit.ret (lretW l0 75 18 (IVal.tup []) (List.map encK y1))))))
  (Tree.br (decide (IntKind.wrap IntKind.i64 ((↑b : Int) - (↑m : Int)) = (1 : Int)))
  (Tree.loop 15
  (LState.mk
  [(15, AVal.imm (i64 (↑m : Int))), (14, AVal.imm (i64 (↑a : Int))), (4, AVal.imm (fnV 54)), (2, AVal.imm (i64 (↑m : Int))), (0, AVal.own 0 (List.length (List.map encK l)))]
  [(0, Entry.brow l0 75 18 (List.map encK l))] 220 13 [])
  (Tree.done (Exit.exit 4) (EC122 l0 m i2 l))
  (Tree.loop 21
  (LState.mk [(17, AVal.imm (i64 (↑m : Int))), (14, AVal.imm (i64 (↑i2 : Int))), (0, AVal.own 0 (List.length l))] [(0, Entry.brow l0 75 18 (List.map encK l))] 220
  3 [])
  (Tree.done (Exit.exit 6) (ER122 l0 y2)) (Tree.need (eqs []) (Tree.done Exit.ret (lretW l0 75 18 (IVal.tup []) (List.map encK y2))))))
  (Tree.need ((0 : Int) ≤ (1 : Int))
  (Tree.br (decide (IntKind.wrap IntKind.i64 (Int.fdiv (IntKind.wrap IntKind.u64 (IntKind.wrap IntKind.i64 ((↑a : Int) + (↑b : Int)))) (2 : Int)) < (↑m : Int)))
  (Tree.loop 33
  (LState.mk
  [(22,
  AVal.imm
  (IVal.v
  (Value.int IntKind.i64
  (IntKind.wrap IntKind.i64 (IntKind.wrap IntKind.i64 (IntKind.wrap IntKind.i64 (Int.fdiv (IntKind.wrap IntKind.u64 (IntKind.wrap IntKind.i64 ((↑a : Int) + (↑b : Int)))) (2 : Int)) + (↑m : Int)) - (1 : Int)))))),
  (21, AVal.imm (IVal.v (Value.int IntKind.i64 (IntKind.wrap IntKind.i64 (Int.fdiv (IntKind.wrap IntKind.u64 (IntKind.wrap IntKind.i64 ((↑a : Int) + (↑b : Int)))) (2 : Int)))))),
  (20,
  AVal.imm
  (IVal.v
  (Value.int IntKind.i64
  (IntKind.wrap IntKind.i64 (IntKind.wrap IntKind.i64 (IntKind.wrap IntKind.i64 (Int.fdiv (IntKind.wrap IntKind.u64 (IntKind.wrap IntKind.i64 ((↑a : Int) + (↑b : Int)))) (2 : Int)) + (↑m : Int)) - (↑b : Int)))))),
  (19, AVal.imm (IVal.v (Value.int IntKind.i64 (IntKind.wrap IntKind.i64 (IntKind.wrap IntKind.i64 (Int.fdiv (IntKind.wrap IntKind.u64 (IntKind.wrap IntKind.i64 ((↑a : Int) + (↑b : Int)))) (2 : Int)) + (↑m : Int)))))),
  (18, AVal.imm (IVal.v (Value.int IntKind.i64 (IntKind.wrap IntKind.i64 (Int.fdiv (IntKind.wrap IntKind.u64 (IntKind.wrap IntKind.i64 ((↑a : Int) + (↑b : Int)))) (2 : Int)))))), (4, AVal.imm (fnV 54)),
  (3, AVal.imm (i64 (↑b : Int))), (2, AVal.imm (i64 (↑m : Int))), (1, AVal.imm (i64 (↑a : Int))), (0, AVal.own 0 (List.length (List.map encK l)))]
  [(0, Entry.brow l0 75 18 (List.map encK l))] 220 34 [])
  (Tree.done (Exit.exit 8) (EE122 l0 a m b n md s l))
  (Tree.br (decide ((↑s : Int) < (↑m : Int)))
  (Tree.br (decide ((↑m : Int) < IntKind.wrap IntKind.i64 ((↑n : Int) - (↑s : Int))))
  (Tree.need
  (List.length (List.map encK l) = List.length l ∧
  ILeL [i64 (↑s : Int), i64 (↑m : Int), IVal.v (Value.int IntKind.i64 (IntKind.wrap IntKind.i64 ((↑n : Int) - (↑s : Int)))), fnV 54]
  [i64 (↑s : Int), i64 (↑m : Int), i64 (IntKind.wrap IntKind.i64 ((↑n : Int) - (↑s : Int))), fnV 54] ∧
  WSpec prog 125 75 18 (List.map encK l) [i64 (↑s : Int), i64 (↑m : Int), i64 (IntKind.wrap IntKind.i64 ((↑n : Int) - (↑s : Int))), fnV 54] (IVal.tup [])
  (List.map encK (rot m (Int.toNat (IntKind.wrap IntKind.i64 ((↑n : Int) - (↑s : Int))) - s) (m - s) (Int.toNat (IntKind.wrap IntKind.i64 ((↑n : Int) - (↑s : Int))) - m) l)))
  (Tree.br (decide ((↑a : Int) < (↑s : Int)))
  (Tree.br (decide ((↑s : Int) < (↑md : Int)))
  (Tree.need
  (List.length (List.map encK (rot m (Int.toNat (IntKind.wrap IntKind.i64 ((↑n : Int) - (↑s : Int))) - s) (m - s) (Int.toNat (IntKind.wrap IntKind.i64 ((↑n : Int) - (↑s : Int))) - m) l)) = List.length l ∧
  ILeL [i64 (↑a : Int), i64 (↑s : Int), i64 (↑md : Int), fnV 54] [i64 (↑a : Int), i64 (↑s : Int), i64 (↑md : Int), fnV 54] ∧
  WSpec prog 122 75 18
  (List.map encK (rot m (Int.toNat (IntKind.wrap IntKind.i64 ((↑n : Int) - (↑s : Int))) - s) (m - s) (Int.toNat (IntKind.wrap IntKind.i64 ((↑n : Int) - (↑s : Int))) - m) l))
  [i64 (↑a : Int), i64 (↑s : Int), i64 (↑md : Int), fnV 54] (IVal.tup [])
  (List.map encK (symF ltK a s md (rot m (Int.toNat (IntKind.wrap IntKind.i64 ((↑n : Int) - (↑s : Int))) - s) (m - s) (Int.toNat (IntKind.wrap IntKind.i64 ((↑n : Int) - (↑s : Int))) - m) l))))
  (Tree.br (decide ((↑md : Int) < IntKind.wrap IntKind.i64 ((↑n : Int) - (↑s : Int))))
  (Tree.br (decide (IntKind.wrap IntKind.i64 ((↑n : Int) - (↑s : Int)) < (↑b : Int)))
  (Tree.need
  (List.length (List.map encK (symF ltK a s md (rot m (Int.toNat (IntKind.wrap IntKind.i64 ((↑n : Int) - (↑s : Int))) - s) (m - s) (Int.toNat (IntKind.wrap IntKind.i64 ((↑n : Int) - (↑s : Int))) - m) l))) =
  List.length l ∧
  ILeL [i64 (↑md : Int), IVal.v (Value.int IntKind.i64 (IntKind.wrap IntKind.i64 ((↑n : Int) - (↑s : Int)))), i64 (↑b : Int), fnV 54]
  [i64 (↑md : Int), i64 (↑(n - s) : Int), i64 (↑b : Int), fnV 54] ∧
  WSpec prog 122 75 18
  (List.map encK (symF ltK a s md (rot m (Int.toNat (IntKind.wrap IntKind.i64 ((↑n : Int) - (↑s : Int))) - s) (m - s) (Int.toNat (IntKind.wrap IntKind.i64 ((↑n : Int) - (↑s : Int))) - m) l)))
  [i64 (↑md : Int), i64 (↑(n - s) : Int), i64 (↑b : Int), fnV 54] (IVal.tup []) (List.map encK (symF ltK md (n - s) b (R122 a s md b n m l))))
  (Tree.need (eqs []) (Tree.done Exit.ret (lretW l0 75 18 (IVal.tup []) (List.map encK (symF ltK md (n - s) b (R122 a s md b n m l)))))))
  (Tree.need (eqs [])
  (Tree.done Exit.ret
  (lretW l0 75 18 (IVal.tup [])
  (List.map encK (symF ltK a s md (rot m (Int.toNat (IntKind.wrap IntKind.i64 ((↑n : Int) - (↑s : Int))) - s) (m - s) (Int.toNat (IntKind.wrap IntKind.i64 ((↑n : Int) - (↑s : Int))) - m) l)))))))
  (Tree.need (eqs [])
  (Tree.done Exit.ret
  (lretW l0 75 18 (IVal.tup [])
  (List.map encK (symF ltK a s md (rot m (Int.toNat (IntKind.wrap IntKind.i64 ((↑n : Int) - (↑s : Int))) - s) (m - s) (Int.toNat (IntKind.wrap IntKind.i64 ((↑n : Int) - (↑s : Int))) - m) l))))))))
  (Tree.br (decide ((↑md : Int) < IntKind.wrap IntKind.i64 ((↑n : Int) - (↑s : Int))))
  (Tree.br (decide (IntKind.wrap IntKind.i64 ((↑n : Int) - (↑s : Int)) < (↑b : Int)))
  (Tree.need
  (List.length (List.map encK (rot m (Int.toNat (IntKind.wrap IntKind.i64 ((↑n : Int) - (↑s : Int))) - s) (m - s) (Int.toNat (IntKind.wrap IntKind.i64 ((↑n : Int) - (↑s : Int))) - m) l)) = List.length l ∧
  ILeL [i64 (↑md : Int), IVal.v (Value.int IntKind.i64 (IntKind.wrap IntKind.i64 ((↑n : Int) - (↑s : Int)))), i64 (↑b : Int), fnV 54]
  [i64 (↑md : Int), i64 (↑(n - s) : Int), i64 (↑b : Int), fnV 54] ∧
  WSpec prog 122 75 18
  (List.map encK (rot m (Int.toNat (IntKind.wrap IntKind.i64 ((↑n : Int) - (↑s : Int))) - s) (m - s) (Int.toNat (IntKind.wrap IntKind.i64 ((↑n : Int) - (↑s : Int))) - m) l))
  [i64 (↑md : Int), i64 (↑(n - s) : Int), i64 (↑b : Int), fnV 54] (IVal.tup []) (List.map encK (symF ltK md (n - s) b (R122 a s md b n m l))))
  (Tree.need (eqs []) (Tree.done Exit.ret (lretW l0 75 18 (IVal.tup []) (List.map encK (symF ltK md (n - s) b (R122 a s md b n m l)))))))
  (Tree.need (eqs [])
  (Tree.done Exit.ret
  (lretW l0 75 18 (IVal.tup [])
  (List.map encK (rot m (Int.toNat (IntKind.wrap IntKind.i64 ((↑n : Int) - (↑s : Int))) - s) (m - s) (Int.toNat (IntKind.wrap IntKind.i64 ((↑n : Int) - (↑s : Int))) - m) l))))))
  (Tree.need (eqs [])
  (Tree.done Exit.ret
  (lretW l0 75 18 (IVal.tup [])
  (List.map encK (rot m (Int.toNat (IntKind.wrap IntKind.i64 ((↑n : Int) - (↑s : Int))) - s) (m - s) (Int.toNat (IntKind.wrap IntKind.i64 ((↑n : Int) - (↑s : Int))) - m) l)))))))
  (Tree.br (decide ((↑md : Int) < IntKind.wrap IntKind.i64 ((↑n : Int) - (↑s : Int))))
  (Tree.br (decide (IntKind.wrap IntKind.i64 ((↑n : Int) - (↑s : Int)) < (↑b : Int)))
  (Tree.need
  (List.length (List.map encK (rot m (Int.toNat (IntKind.wrap IntKind.i64 ((↑n : Int) - (↑s : Int))) - s) (m - s) (Int.toNat (IntKind.wrap IntKind.i64 ((↑n : Int) - (↑s : Int))) - m) l)) = List.length l ∧
  ILeL [i64 (↑md : Int), IVal.v (Value.int IntKind.i64 (IntKind.wrap IntKind.i64 ((↑n : Int) - (↑s : Int)))), i64 (↑b : Int), fnV 54] [i64 (↑md : Int), i64 (↑(n - s) : Int), i64 (↑b : Int), fnV 54] ∧
  WSpec prog 122 75 18
  (List.map encK (rot m (Int.toNat (IntKind.wrap IntKind.i64 ((↑n : Int) - (↑s : Int))) - s) (m - s) (Int.toNat (IntKind.wrap IntKind.i64 ((↑n : Int) - (↑s : Int))) - m) l))
  [i64 (↑md : Int), i64 (↑(n - s) : Int), i64 (↑b : Int), fnV 54] (IVal.tup []) (List.map encK (symF ltK md (n - s) b (R122 a s md b n m l))))
  (Tree.need (eqs []) (Tree.done Exit.ret (lretW l0 75 18 (IVal.tup []) (List.map encK (symF ltK md (n - s) b (R122 a s md b n m l)))))))
  (Tree.need (eqs [])
  (Tree.done Exit.ret
  (lretW l0 75 18 (IVal.tup [])
  (List.map encK (rot m (Int.toNat (IntKind.wrap IntKind.i64 ((↑n : Int) - (↑s : Int))) - s) (m - s) (Int.toNat (IntKind.wrap IntKind.i64 ((↑n : Int) - (↑s : Int))) - m) l))))))
  (Tree.need (eqs [])
  (Tree.done Exit.ret
  (lretW l0 75 18 (IVal.tup [])
  (List.map encK (rot m (Int.toNat (IntKind.wrap IntKind.i64 ((↑n : Int) - (↑s : Int))) - s) (m - s) (Int.toNat (IntKind.wrap IntKind.i64 ((↑n : Int) - (↑s : Int))) - m) l))))))))
  (Tree.br (decide ((↑a : Int) < (↑s : Int)))
  (Tree.br (decide ((↑s : Int) < (↑md : Int)))
  (Tree.need
  (List.length (List.map encK l) = List.length l ∧
  ILeL [i64 (↑a : Int), i64 (↑s : Int), i64 (↑md : Int), fnV 54] [i64 (↑a : Int), i64 (↑s : Int), i64 (↑md : Int), fnV 54] ∧
  WSpec prog 122 75 18 (List.map encK l) [i64 (↑a : Int), i64 (↑s : Int), i64 (↑md : Int), fnV 54] (IVal.tup []) (List.map encK (symF ltK a s md l)))
  (Tree.br (decide ((↑md : Int) < IntKind.wrap IntKind.i64 ((↑n : Int) - (↑s : Int))))
  (Tree.br (decide (IntKind.wrap IntKind.i64 ((↑n : Int) - (↑s : Int)) < (↑b : Int)))
  (Tree.need
  (List.length (List.map encK (symF ltK a s md l)) = List.length l ∧
  ILeL [i64 (↑md : Int), IVal.v (Value.int IntKind.i64 (IntKind.wrap IntKind.i64 ((↑n : Int) - (↑s : Int)))), i64 (↑b : Int), fnV 54]
  [i64 (↑md : Int), i64 (↑(n - s) : Int), i64 (↑b : Int), fnV 54] ∧
  WSpec prog 122 75 18 (List.map encK (symF ltK a s md l)) [i64 (↑md : Int), i64 (↑(n - s) : Int), i64 (↑b : Int), fnV 54] (IVal.tup [])
  (List.map encK (symF ltK md (n - s) b (R122 a s md b n m l))))
  (Tree.need (eqs []) (Tree.done Exit.ret (lretW l0 75 18 (IVal.tup []) (List.map encK (symF ltK md (n - s) b (R122 a s md b n m l)))))))
  (Tree.need (eqs []) (Tree.done Exit.ret (lretW l0 75 18 (IVal.tup []) (List.map encK (symF ltK a s md l))))))
  (Tree.need (eqs []) (Tree.done Exit.ret (lretW l0 75 18 (IVal.tup []) (List.map encK (symF ltK a s md l)))))))
  (Tree.br (decide ((↑md : Int) < IntKind.wrap IntKind.i64 ((↑n : Int) - (↑s : Int))))
  (Tree.br (decide (IntKind.wrap IntKind.i64 ((↑n : Int) - (↑s : Int)) < (↑b : Int)))
  (Tree.need
  (List.length (List.map encK l) = List.length l ∧
  ILeL [i64 (↑md : Int), IVal.v (Value.int IntKind.i64 (IntKind.wrap IntKind.i64 ((↑n : Int) - (↑s : Int)))), i64 (↑b : Int), fnV 54] [i64 (↑md : Int), i64 (↑(n - s) : Int), i64 (↑b : Int), fnV 54] ∧
  WSpec prog 122 75 18 (List.map encK l) [i64 (↑md : Int), i64 (↑(n - s) : Int), i64 (↑b : Int), fnV 54] (IVal.tup []) (List.map encK (symF ltK md (n - s) b (R122 a s md b n m l))))
  (Tree.need (eqs []) (Tree.done Exit.ret (lretW l0 75 18 (IVal.tup []) (List.map encK (symF ltK md (n - s) b (R122 a s md b n m l)))))))
  (Tree.need (eqs []) (Tree.done Exit.ret (lretW l0 75 18 (IVal.tup []) (List.map encK l)))))
  (Tree.need (eqs []) (Tree.done Exit.ret (lretW l0 75 18 (IVal.tup []) (List.map encK l))))))
  (Tree.br (decide ((↑md : Int) < IntKind.wrap IntKind.i64 ((↑n : Int) - (↑s : Int))))
  (Tree.br (decide (IntKind.wrap IntKind.i64 ((↑n : Int) - (↑s : Int)) < (↑b : Int)))
  (Tree.need
  (List.length (List.map encK l) = List.length l ∧
  ILeL [i64 (↑md : Int), IVal.v (Value.int IntKind.i64 (IntKind.wrap IntKind.i64 ((↑n : Int) - (↑s : Int)))), i64 (↑b : Int), fnV 54] [i64 (↑md : Int), i64 (↑(n - s) : Int), i64 (↑b : Int), fnV 54] ∧
  WSpec prog 122 75 18 (List.map encK l) [i64 (↑md : Int), i64 (↑(n - s) : Int), i64 (↑b : Int), fnV 54] (IVal.tup []) (List.map encK (symF ltK md (n - s) b (R122 a s md b n m l))))
  (Tree.need (eqs []) (Tree.done Exit.ret (lretW l0 75 18 (IVal.tup []) (List.map encK (symF ltK md (n - s) b (R122 a s md b n m l)))))))
  (Tree.need (eqs []) (Tree.done Exit.ret (lretW l0 75 18 (IVal.tup []) (List.map encK l)))))
  (Tree.need (eqs []) (Tree.done Exit.ret (lretW l0 75 18 (IVal.tup []) (List.map encK l)))))))
  (Tree.br (decide ((↑a : Int) < (↑s : Int)))
  (Tree.br (decide ((↑s : Int) < (↑md : Int)))
  (Tree.need
  (List.length (List.map encK l) = List.length l ∧
  ILeL [i64 (↑a : Int), i64 (↑s : Int), i64 (↑md : Int), fnV 54] [i64 (↑a : Int), i64 (↑s : Int), i64 (↑md : Int), fnV 54] ∧
  WSpec prog 122 75 18 (List.map encK l) [i64 (↑a : Int), i64 (↑s : Int), i64 (↑md : Int), fnV 54] (IVal.tup []) (List.map encK (symF ltK a s md l)))
  (Tree.br (decide ((↑md : Int) < IntKind.wrap IntKind.i64 ((↑n : Int) - (↑s : Int))))
  (Tree.br (decide (IntKind.wrap IntKind.i64 ((↑n : Int) - (↑s : Int)) < (↑b : Int)))
  (Tree.need
  (List.length (List.map encK (symF ltK a s md l)) = List.length l ∧
  ILeL [i64 (↑md : Int), IVal.v (Value.int IntKind.i64 (IntKind.wrap IntKind.i64 ((↑n : Int) - (↑s : Int)))), i64 (↑b : Int), fnV 54] [i64 (↑md : Int), i64 (↑(n - s) : Int), i64 (↑b : Int), fnV 54] ∧
  WSpec prog 122 75 18 (List.map encK (symF ltK a s md l)) [i64 (↑md : Int), i64 (↑(n - s) : Int), i64 (↑b : Int), fnV 54] (IVal.tup [])
  (List.map encK (symF ltK md (n - s) b (R122 a s md b n m l))))
  (Tree.need (eqs []) (Tree.done Exit.ret (lretW l0 75 18 (IVal.tup []) (List.map encK (symF ltK md (n - s) b (R122 a s md b n m l)))))))
  (Tree.need (eqs []) (Tree.done Exit.ret (lretW l0 75 18 (IVal.tup []) (List.map encK (symF ltK a s md l))))))
  (Tree.need (eqs []) (Tree.done Exit.ret (lretW l0 75 18 (IVal.tup []) (List.map encK (symF ltK a s md l)))))))
  (Tree.br (decide ((↑md : Int) < IntKind.wrap IntKind.i64 ((↑n : Int) - (↑s : Int))))
  (Tree.br (decide (IntKind.wrap IntKind.i64 ((↑n : Int) - (↑s : Int)) < (↑b : Int)))
  (Tree.need
  (List.length (List.map encK l) = List.length l ∧
  ILeL [i64 (↑md : Int), IVal.v (Value.int IntKind.i64 (IntKind.wrap IntKind.i64 ((↑n : Int) - (↑s : Int)))), i64 (↑b : Int), fnV 54] [i64 (↑md : Int), i64 (↑(n - s) : Int), i64 (↑b : Int), fnV 54] ∧
  WSpec prog 122 75 18 (List.map encK l) [i64 (↑md : Int), i64 (↑(n - s) : Int), i64 (↑b : Int), fnV 54] (IVal.tup []) (List.map encK (symF ltK md (n - s) b (R122 a s md b n m l))))
  (Tree.need (eqs []) (Tree.done Exit.ret (lretW l0 75 18 (IVal.tup []) (List.map encK (symF ltK md (n - s) b (R122 a s md b n m l)))))))
  (Tree.need (eqs []) (Tree.done Exit.ret (lretW l0 75 18 (IVal.tup []) (List.map encK l)))))
  (Tree.need (eqs []) (Tree.done Exit.ret (lretW l0 75 18 (IVal.tup []) (List.map encK l))))))
  (Tree.br (decide ((↑md : Int) < IntKind.wrap IntKind.i64 ((↑n : Int) - (↑s : Int))))
  (Tree.br (decide (IntKind.wrap IntKind.i64 ((↑n : Int) - (↑s : Int)) < (↑b : Int)))
  (Tree.need
  (List.length (List.map encK l) = List.length l ∧
  ILeL [i64 (↑md : Int), IVal.v (Value.int IntKind.i64 (IntKind.wrap IntKind.i64 ((↑n : Int) - (↑s : Int)))), i64 (↑b : Int), fnV 54] [i64 (↑md : Int), i64 (↑(n - s) : Int), i64 (↑b : Int), fnV 54] ∧
  WSpec prog 122 75 18 (List.map encK l) [i64 (↑md : Int), i64 (↑(n - s) : Int), i64 (↑b : Int), fnV 54] (IVal.tup []) (List.map encK (symF ltK md (n - s) b (R122 a s md b n m l))))
  (Tree.need (eqs []) (Tree.done Exit.ret (lretW l0 75 18 (IVal.tup []) (List.map encK (symF ltK md (n - s) b (R122 a s md b n m l)))))))
  (Tree.need (eqs []) (Tree.done Exit.ret (lretW l0 75 18 (IVal.tup []) (List.map encK l)))))
  (Tree.need (eqs []) (Tree.done Exit.ret (lretW l0 75 18 (IVal.tup []) (List.map encK l))))))))
  (Tree.loop 33
  (LState.mk
  [(22,
  AVal.imm
  (IVal.v
  (Value.int IntKind.i64
  (IntKind.wrap IntKind.i64 (IntKind.wrap IntKind.i64 (IntKind.wrap IntKind.i64 (Int.fdiv (IntKind.wrap IntKind.u64 (IntKind.wrap IntKind.i64 ((↑a : Int) + (↑b : Int)))) (2 : Int)) + (↑m : Int)) - (1 : Int)))))),
  (21, AVal.imm (i64 (↑m : Int))), (20, AVal.imm (i64 (↑a : Int))),
  (19, AVal.imm (IVal.v (Value.int IntKind.i64 (IntKind.wrap IntKind.i64 (IntKind.wrap IntKind.i64 (Int.fdiv (IntKind.wrap IntKind.u64 (IntKind.wrap IntKind.i64 ((↑a : Int) + (↑b : Int)))) (2 : Int)) + (↑m : Int)))))),
  (18, AVal.imm (IVal.v (Value.int IntKind.i64 (IntKind.wrap IntKind.i64 (Int.fdiv (IntKind.wrap IntKind.u64 (IntKind.wrap IntKind.i64 ((↑a : Int) + (↑b : Int)))) (2 : Int)))))), (4, AVal.imm (fnV 54)),
  (3, AVal.imm (i64 (↑b : Int))), (2, AVal.imm (i64 (↑m : Int))), (1, AVal.imm (i64 (↑a : Int))), (0, AVal.own 0 (List.length (List.map encK l)))]
  [(0, Entry.brow l0 75 18 (List.map encK l))] 220 32 [])
  (Tree.done (Exit.exit 8) (EE122 l0 a m b n md s l))
  (Tree.br (decide ((↑s : Int) < (↑m : Int)))
  (Tree.br (decide ((↑m : Int) < IntKind.wrap IntKind.i64 ((↑n : Int) - (↑s : Int))))
  (Tree.need
  (List.length (List.map encK l) = List.length l ∧
  ILeL [i64 (↑s : Int), i64 (↑m : Int), IVal.v (Value.int IntKind.i64 (IntKind.wrap IntKind.i64 ((↑n : Int) - (↑s : Int)))), fnV 54]
  [i64 (↑s : Int), i64 (↑m : Int), i64 (IntKind.wrap IntKind.i64 ((↑n : Int) - (↑s : Int))), fnV 54] ∧
  WSpec prog 125 75 18 (List.map encK l) [i64 (↑s : Int), i64 (↑m : Int), i64 (IntKind.wrap IntKind.i64 ((↑n : Int) - (↑s : Int))), fnV 54] (IVal.tup [])
  (List.map encK (rot m (Int.toNat (IntKind.wrap IntKind.i64 ((↑n : Int) - (↑s : Int))) - s) (m - s) (Int.toNat (IntKind.wrap IntKind.i64 ((↑n : Int) - (↑s : Int))) - m) l)))
  (Tree.br (decide ((↑a : Int) < (↑s : Int)))
  (Tree.br (decide ((↑s : Int) < (↑md : Int)))
  (Tree.need
  (List.length (List.map encK (rot m (Int.toNat (IntKind.wrap IntKind.i64 ((↑n : Int) - (↑s : Int))) - s) (m - s) (Int.toNat (IntKind.wrap IntKind.i64 ((↑n : Int) - (↑s : Int))) - m) l)) = List.length l ∧
  ILeL [i64 (↑a : Int), i64 (↑s : Int), i64 (↑md : Int), fnV 54] [i64 (↑a : Int), i64 (↑s : Int), i64 (↑md : Int), fnV 54] ∧
  WSpec prog 122 75 18
  (List.map encK (rot m (Int.toNat (IntKind.wrap IntKind.i64 ((↑n : Int) - (↑s : Int))) - s) (m - s) (Int.toNat (IntKind.wrap IntKind.i64 ((↑n : Int) - (↑s : Int))) - m) l))
  [i64 (↑a : Int), i64 (↑s : Int), i64 (↑md : Int), fnV 54] (IVal.tup [])
  (List.map encK (symF ltK a s md (rot m (Int.toNat (IntKind.wrap IntKind.i64 ((↑n : Int) - (↑s : Int))) - s) (m - s) (Int.toNat (IntKind.wrap IntKind.i64 ((↑n : Int) - (↑s : Int))) - m) l))))
  (Tree.br (decide ((↑md : Int) < IntKind.wrap IntKind.i64 ((↑n : Int) - (↑s : Int))))
  (Tree.br (decide (IntKind.wrap IntKind.i64 ((↑n : Int) - (↑s : Int)) < (↑b : Int)))
  (Tree.need
  (List.length (List.map encK (symF ltK a s md (rot m (Int.toNat (IntKind.wrap IntKind.i64 ((↑n : Int) - (↑s : Int))) - s) (m - s) (Int.toNat (IntKind.wrap IntKind.i64 ((↑n : Int) - (↑s : Int))) - m) l))) =
  List.length l ∧
  ILeL [i64 (↑md : Int), IVal.v (Value.int IntKind.i64 (IntKind.wrap IntKind.i64 ((↑n : Int) - (↑s : Int)))), i64 (↑b : Int), fnV 54]
  [i64 (↑md : Int), i64 (↑(n - s) : Int), i64 (↑b : Int), fnV 54] ∧
  WSpec prog 122 75 18
  (List.map encK (symF ltK a s md (rot m (Int.toNat (IntKind.wrap IntKind.i64 ((↑n : Int) - (↑s : Int))) - s) (m - s) (Int.toNat (IntKind.wrap IntKind.i64 ((↑n : Int) - (↑s : Int))) - m) l)))
  [i64 (↑md : Int), i64 (↑(n - s) : Int), i64 (↑b : Int), fnV 54] (IVal.tup []) (List.map encK (symF ltK md (n - s) b (R122 a s md b n m l))))
  (Tree.need (eqs []) (Tree.done Exit.ret (lretW l0 75 18 (IVal.tup []) (List.map encK (symF ltK md (n - s) b (R122 a s md b n m l)))))))
  (Tree.need (eqs [])
  (Tree.done Exit.ret
  (lretW l0 75 18 (IVal.tup [])
  (List.map encK (symF ltK a s md (rot m (Int.toNat (IntKind.wrap IntKind.i64 ((↑n : Int) - (↑s : Int))) - s) (m - s) (Int.toNat (IntKind.wrap IntKind.i64 ((↑n : Int) - (↑s : Int))) - m) l)))))))
  (Tree.need (eqs [])
  (Tree.done Exit.ret
  (lretW l0 75 18 (IVal.tup [])
  (List.map encK (symF ltK a s md (rot m (Int.toNat (IntKind.wrap IntKind.i64 ((↑n : Int) - (↑s : Int))) - s) (m - s) (Int.toNat (IntKind.wrap IntKind.i64 ((↑n : Int) - (↑s : Int))) - m) l))))))))
  (Tree.br (decide ((↑md : Int) < IntKind.wrap IntKind.i64 ((↑n : Int) - (↑s : Int))))
  (Tree.br (decide (IntKind.wrap IntKind.i64 ((↑n : Int) - (↑s : Int)) < (↑b : Int)))
  (Tree.need
  (List.length (List.map encK (rot m (Int.toNat (IntKind.wrap IntKind.i64 ((↑n : Int) - (↑s : Int))) - s) (m - s) (Int.toNat (IntKind.wrap IntKind.i64 ((↑n : Int) - (↑s : Int))) - m) l)) = List.length l ∧
  ILeL [i64 (↑md : Int), IVal.v (Value.int IntKind.i64 (IntKind.wrap IntKind.i64 ((↑n : Int) - (↑s : Int)))), i64 (↑b : Int), fnV 54]
  [i64 (↑md : Int), i64 (↑(n - s) : Int), i64 (↑b : Int), fnV 54] ∧
  WSpec prog 122 75 18
  (List.map encK (rot m (Int.toNat (IntKind.wrap IntKind.i64 ((↑n : Int) - (↑s : Int))) - s) (m - s) (Int.toNat (IntKind.wrap IntKind.i64 ((↑n : Int) - (↑s : Int))) - m) l))
  [i64 (↑md : Int), i64 (↑(n - s) : Int), i64 (↑b : Int), fnV 54] (IVal.tup []) (List.map encK (symF ltK md (n - s) b (R122 a s md b n m l))))
  (Tree.need (eqs []) (Tree.done Exit.ret (lretW l0 75 18 (IVal.tup []) (List.map encK (symF ltK md (n - s) b (R122 a s md b n m l)))))))
  (Tree.need (eqs [])
  (Tree.done Exit.ret
  (lretW l0 75 18 (IVal.tup [])
  (List.map encK (rot m (Int.toNat (IntKind.wrap IntKind.i64 ((↑n : Int) - (↑s : Int))) - s) (m - s) (Int.toNat (IntKind.wrap IntKind.i64 ((↑n : Int) - (↑s : Int))) - m) l))))))
  (Tree.need (eqs [])
  (Tree.done Exit.ret
  (lretW l0 75 18 (IVal.tup [])
  (List.map encK (rot m (Int.toNat (IntKind.wrap IntKind.i64 ((↑n : Int) - (↑s : Int))) - s) (m - s) (Int.toNat (IntKind.wrap IntKind.i64 ((↑n : Int) - (↑s : Int))) - m) l)))))))
  (Tree.br (decide ((↑md : Int) < IntKind.wrap IntKind.i64 ((↑n : Int) - (↑s : Int))))
  (Tree.br (decide (IntKind.wrap IntKind.i64 ((↑n : Int) - (↑s : Int)) < (↑b : Int)))
  (Tree.need
  (List.length (List.map encK (rot m (Int.toNat (IntKind.wrap IntKind.i64 ((↑n : Int) - (↑s : Int))) - s) (m - s) (Int.toNat (IntKind.wrap IntKind.i64 ((↑n : Int) - (↑s : Int))) - m) l)) = List.length l ∧
  ILeL [i64 (↑md : Int), IVal.v (Value.int IntKind.i64 (IntKind.wrap IntKind.i64 ((↑n : Int) - (↑s : Int)))), i64 (↑b : Int), fnV 54] [i64 (↑md : Int), i64 (↑(n - s) : Int), i64 (↑b : Int), fnV 54] ∧
  WSpec prog 122 75 18
  (List.map encK (rot m (Int.toNat (IntKind.wrap IntKind.i64 ((↑n : Int) - (↑s : Int))) - s) (m - s) (Int.toNat (IntKind.wrap IntKind.i64 ((↑n : Int) - (↑s : Int))) - m) l))
  [i64 (↑md : Int), i64 (↑(n - s) : Int), i64 (↑b : Int), fnV 54] (IVal.tup []) (List.map encK (symF ltK md (n - s) b (R122 a s md b n m l))))
  (Tree.need (eqs []) (Tree.done Exit.ret (lretW l0 75 18 (IVal.tup []) (List.map encK (symF ltK md (n - s) b (R122 a s md b n m l)))))))
  (Tree.need (eqs [])
  (Tree.done Exit.ret
  (lretW l0 75 18 (IVal.tup [])
  (List.map encK (rot m (Int.toNat (IntKind.wrap IntKind.i64 ((↑n : Int) - (↑s : Int))) - s) (m - s) (Int.toNat (IntKind.wrap IntKind.i64 ((↑n : Int) - (↑s : Int))) - m) l))))))
  (Tree.need (eqs [])
  (Tree.done Exit.ret
  (lretW l0 75 18 (IVal.tup [])
  (List.map encK (rot m (Int.toNat (IntKind.wrap IntKind.i64 ((↑n : Int) - (↑s : Int))) - s) (m - s) (Int.toNat (IntKind.wrap IntKind.i64 ((↑n : Int) - (↑s : Int))) - m) l))))))))
  (Tree.br (decide ((↑a : Int) < (↑s : Int)))
  (Tree.br (decide ((↑s : Int) < (↑md : Int)))
  (Tree.need
  (List.length (List.map encK l) = List.length l ∧
  ILeL [i64 (↑a : Int), i64 (↑s : Int), i64 (↑md : Int), fnV 54] [i64 (↑a : Int), i64 (↑s : Int), i64 (↑md : Int), fnV 54] ∧
  WSpec prog 122 75 18 (List.map encK l) [i64 (↑a : Int), i64 (↑s : Int), i64 (↑md : Int), fnV 54] (IVal.tup []) (List.map encK (symF ltK a s md l)))
  (Tree.br (decide ((↑md : Int) < IntKind.wrap IntKind.i64 ((↑n : Int) - (↑s : Int))))
  (Tree.br (decide (IntKind.wrap IntKind.i64 ((↑n : Int) - (↑s : Int)) < (↑b : Int)))
  (Tree.need
  (List.length (List.map encK (symF ltK a s md l)) = List.length l ∧
  ILeL [i64 (↑md : Int), IVal.v (Value.int IntKind.i64 (IntKind.wrap IntKind.i64 ((↑n : Int) - (↑s : Int)))), i64 (↑b : Int), fnV 54]
  [i64 (↑md : Int), i64 (↑(n - s) : Int), i64 (↑b : Int), fnV 54] ∧
  WSpec prog 122 75 18 (List.map encK (symF ltK a s md l)) [i64 (↑md : Int), i64 (↑(n - s) : Int), i64 (↑b : Int), fnV 54] (IVal.tup [])
  (List.map encK (symF ltK md (n - s) b (R122 a s md b n m l))))
  (Tree.need (eqs []) (Tree.done Exit.ret (lretW l0 75 18 (IVal.tup []) (List.map encK (symF ltK md (n - s) b (R122 a s md b n m l)))))))
  (Tree.need (eqs []) (Tree.done Exit.ret (lretW l0 75 18 (IVal.tup []) (List.map encK (symF ltK a s md l))))))
  (Tree.need (eqs []) (Tree.done Exit.ret (lretW l0 75 18 (IVal.tup []) (List.map encK (symF ltK a s md l)))))))
  (Tree.br (decide ((↑md : Int) < IntKind.wrap IntKind.i64 ((↑n : Int) - (↑s : Int))))
  (Tree.br (decide (IntKind.wrap IntKind.i64 ((↑n : Int) - (↑s : Int)) < (↑b : Int)))
  (Tree.need
  (List.length (List.map encK l) = List.length l ∧
  ILeL [i64 (↑md : Int), IVal.v (Value.int IntKind.i64 (IntKind.wrap IntKind.i64 ((↑n : Int) - (↑s : Int)))), i64 (↑b : Int), fnV 54] [i64 (↑md : Int), i64 (↑(n - s) : Int), i64 (↑b : Int), fnV 54] ∧
  WSpec prog 122 75 18 (List.map encK l) [i64 (↑md : Int), i64 (↑(n - s) : Int), i64 (↑b : Int), fnV 54] (IVal.tup []) (List.map encK (symF ltK md (n - s) b (R122 a s md b n m l))))
  (Tree.need (eqs []) (Tree.done Exit.ret (lretW l0 75 18 (IVal.tup []) (List.map encK (symF ltK md (n - s) b (R122 a s md b n m l)))))))
  (Tree.need (eqs []) (Tree.done Exit.ret (lretW l0 75 18 (IVal.tup []) (List.map encK l)))))
  (Tree.need (eqs []) (Tree.done Exit.ret (lretW l0 75 18 (IVal.tup []) (List.map encK l))))))
  (Tree.br (decide ((↑md : Int) < IntKind.wrap IntKind.i64 ((↑n : Int) - (↑s : Int))))
  (Tree.br (decide (IntKind.wrap IntKind.i64 ((↑n : Int) - (↑s : Int)) < (↑b : Int)))
  (Tree.need
  (List.length (List.map encK l) = List.length l ∧
  ILeL [i64 (↑md : Int), IVal.v (Value.int IntKind.i64 (IntKind.wrap IntKind.i64 ((↑n : Int) - (↑s : Int)))), i64 (↑b : Int), fnV 54] [i64 (↑md : Int), i64 (↑(n - s) : Int), i64 (↑b : Int), fnV 54] ∧
  WSpec prog 122 75 18 (List.map encK l) [i64 (↑md : Int), i64 (↑(n - s) : Int), i64 (↑b : Int), fnV 54] (IVal.tup []) (List.map encK (symF ltK md (n - s) b (R122 a s md b n m l))))
  (Tree.need (eqs []) (Tree.done Exit.ret (lretW l0 75 18 (IVal.tup []) (List.map encK (symF ltK md (n - s) b (R122 a s md b n m l)))))))
  (Tree.need (eqs []) (Tree.done Exit.ret (lretW l0 75 18 (IVal.tup []) (List.map encK l)))))
  (Tree.need (eqs []) (Tree.done Exit.ret (lretW l0 75 18 (IVal.tup []) (List.map encK l)))))))
  (Tree.br (decide ((↑a : Int) < (↑s : Int)))
  (Tree.br (decide ((↑s : Int) < (↑md : Int)))
  (Tree.need
  (List.length (List.map encK l) = List.length l ∧
  ILeL [i64 (↑a : Int), i64 (↑s : Int), i64 (↑md : Int), fnV 54] [i64 (↑a : Int), i64 (↑s : Int), i64 (↑md : Int), fnV 54] ∧
  WSpec prog 122 75 18 (List.map encK l) [i64 (↑a : Int), i64 (↑s : Int), i64 (↑md : Int), fnV 54] (IVal.tup []) (List.map encK (symF ltK a s md l)))
  (Tree.br (decide ((↑md : Int) < IntKind.wrap IntKind.i64 ((↑n : Int) - (↑s : Int))))
  (Tree.br (decide (IntKind.wrap IntKind.i64 ((↑n : Int) - (↑s : Int)) < (↑b : Int)))
  (Tree.need
  (List.length (List.map encK (symF ltK a s md l)) = List.length l ∧
  ILeL [i64 (↑md : Int), IVal.v (Value.int IntKind.i64 (IntKind.wrap IntKind.i64 ((↑n : Int) - (↑s : Int)))), i64 (↑b : Int), fnV 54] [i64 (↑md : Int), i64 (↑(n - s) : Int), i64 (↑b : Int), fnV 54] ∧
  WSpec prog 122 75 18 (List.map encK (symF ltK a s md l)) [i64 (↑md : Int), i64 (↑(n - s) : Int), i64 (↑b : Int), fnV 54] (IVal.tup [])
  (List.map encK (symF ltK md (n - s) b (R122 a s md b n m l))))
  (Tree.need (eqs []) (Tree.done Exit.ret (lretW l0 75 18 (IVal.tup []) (List.map encK (symF ltK md (n - s) b (R122 a s md b n m l)))))))
  (Tree.need (eqs []) (Tree.done Exit.ret (lretW l0 75 18 (IVal.tup []) (List.map encK (symF ltK a s md l))))))
  (Tree.need (eqs []) (Tree.done Exit.ret (lretW l0 75 18 (IVal.tup []) (List.map encK (symF ltK a s md l)))))))
  (Tree.br (decide ((↑md : Int) < IntKind.wrap IntKind.i64 ((↑n : Int) - (↑s : Int))))
  (Tree.br (decide (IntKind.wrap IntKind.i64 ((↑n : Int) - (↑s : Int)) < (↑b : Int)))
  (Tree.need
  (List.length (List.map encK l) = List.length l ∧
  ILeL [i64 (↑md : Int), IVal.v (Value.int IntKind.i64 (IntKind.wrap IntKind.i64 ((↑n : Int) - (↑s : Int)))), i64 (↑b : Int), fnV 54] [i64 (↑md : Int), i64 (↑(n - s) : Int), i64 (↑b : Int), fnV 54] ∧
  WSpec prog 122 75 18 (List.map encK l) [i64 (↑md : Int), i64 (↑(n - s) : Int), i64 (↑b : Int), fnV 54] (IVal.tup []) (List.map encK (symF ltK md (n - s) b (R122 a s md b n m l))))
  (Tree.need (eqs []) (Tree.done Exit.ret (lretW l0 75 18 (IVal.tup []) (List.map encK (symF ltK md (n - s) b (R122 a s md b n m l)))))))
  (Tree.need (eqs []) (Tree.done Exit.ret (lretW l0 75 18 (IVal.tup []) (List.map encK l)))))
  (Tree.need (eqs []) (Tree.done Exit.ret (lretW l0 75 18 (IVal.tup []) (List.map encK l))))))
  (Tree.br (decide ((↑md : Int) < IntKind.wrap IntKind.i64 ((↑n : Int) - (↑s : Int))))
  (Tree.br (decide (IntKind.wrap IntKind.i64 ((↑n : Int) - (↑s : Int)) < (↑b : Int)))
  (Tree.need
  (List.length (List.map encK l) = List.length l ∧
  ILeL [i64 (↑md : Int), IVal.v (Value.int IntKind.i64 (IntKind.wrap IntKind.i64 ((↑n : Int) - (↑s : Int)))), i64 (↑b : Int), fnV 54] [i64 (↑md : Int), i64 (↑(n - s) : Int), i64 (↑b : Int), fnV 54] ∧
  WSpec prog 122 75 18 (List.map encK l) [i64 (↑md : Int), i64 (↑(n - s) : Int), i64 (↑b : Int), fnV 54] (IVal.tup []) (List.map encK (symF ltK md (n - s) b (R122 a s md b n m l))))
  (Tree.need (eqs []) (Tree.done Exit.ret (lretW l0 75 18 (IVal.tup []) (List.map encK (symF ltK md (n - s) b (R122 a s md b n m l)))))))
  (Tree.need (eqs []) (Tree.done Exit.ret (lretW l0 75 18 (IVal.tup []) (List.map encK l)))))
  (Tree.need (eqs []) (Tree.done Exit.ret (lretW l0 75 18 (IVal.tup []) (List.map encK l))))))))))) := by kernel_rfl
end Gp
