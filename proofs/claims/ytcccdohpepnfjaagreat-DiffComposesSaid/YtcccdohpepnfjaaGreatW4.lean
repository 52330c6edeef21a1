/- Part 4 of the walk and of the plain law of DiffComposes. -/
import Derived.Test.YtcccdohpepnfjaaGreatW3
set_option maxRecDepth 100000
set_option maxHeartbeats 0
set_option linter.unusedVariables false
set_option linter.unusedSimpArgs false
open Go Go.Abs
namespace Gp
theorem i64_half {i j : Nat} (h : i + j ≤ 2 ^ 62) : IntKind.i64.wrap (Int.fdiv (IntKind.u64.wrap (IntKind.i64.wrap ((i : Int) + (j : Int)))) 2) = (((i + j) / 2 : Nat) : Int) := by
  rw [i64_add h]
  have e1 : IntKind.u64.wrap ((i + j : Nat) : Int) = ((i + j : Nat) : Int) := by
    rw [IntWalk.u64_in _ (by omega)]
  rw [e1, Int.fdiv_eq_ediv_of_nonneg _ (by omega), IntWalk.i64_in _ (by omega)]
  omega
theorem i64_succ {n : Nat} (h : n + 1 ≤ 2 ^ 62) : IntKind.i64.wrap ((n : Int) + 1) = ((n + 1 : Nat) : Int) := by
  rw [IntWalk.i64_in _ (by omega)]; omega
def IA118_k {κ : Kd} (l0 : Abs.Loc) (a i j : Nat) (x : List κ.ty) : LState := { t := [(11, .imm (i64 j)), (10, .imm (i64 i)), (4, .imm (fnV κ.n48)), (1, .imm (i64 a)), (0, .own 0 x.length)], s := [(0, .brow l0 κ.n68 κ.n6 (x.map κ.e))], m := 220, n := 1 }
def EA118_k {κ : Kd} (l0 : Abs.Loc) (a i : Nat) (x : List κ.ty) : LState := { t := [(10, .imm (i64 i)), (1, .imm (i64 a)), (0, .own 0 x.length)], s := [(0, .brow l0 κ.n68 κ.n6 (x.map κ.e))], m := 220, n := 1 }
def finA118_k : Exit → Fin
  | .normal => ⟨[], [11, 10, 4, 1, 0], [0]⟩
  | _ => ⟨[], [10, 1, 0], [0]⟩
def TA118r_k {κ : Kd} (l0 : Abs.Loc) (a i j : Nat) (x : List κ.ty) : Tell :=
  Tell.mk (fun x x_1 => false) (fun x x_1 => Orc.no) (fun x => Tree.fail 1000003 0) (fun x => 0) (fun x => ([], []))
  (oget
  [(11, 5, 4, Orc.elem (κ.e (List.getD x (Int.toNat (IntKind.wrap IntKind.i64 (Int.fdiv (IntKind.wrap IntKind.u64 (IntKind.wrap IntKind.i64 ((↑i : Int) + (↑j : Int)))) (2 : Int)))) default))),
  (11, 5, 8, Orc.elem (κ.e (List.getD x a default))),
  (11, 5, 9,
  Orc.call [κ.e (List.getD x (Int.toNat (IntKind.wrap IntKind.i64 (Int.fdiv (IntKind.wrap IntKind.u64 (IntKind.wrap IntKind.i64 ((↑i : Int) + (↑j : Int)))) (2 : Int)))) default), κ.e (List.getD x a default)]
  (i64 (κ.c (List.getD x (Int.toNat (IntKind.wrap IntKind.i64 (Int.fdiv (IntKind.wrap IntKind.u64 (IntKind.wrap IntKind.i64 ((↑i : Int) + (↑j : Int)))) (2 : Int)))) default) (List.getD x a default))))])
  fun x x_1 => Tree.fail 1000003 0
theorem tA118r_k {κ : Kd} (l0 : Abs.Loc) (a i j : Nat) (x : List κ.ty) : levL prog κ.f118 3 (IA118_k l0 a i j x) (TA118r_k l0 a i j x) finA118_k =
  Tree.br (decide ((↑i : Int) < (↑j : Int)))
  (Tree.need ((0 : Int) ≤ (1 : Int))
  (Tree.need
  ((0 : Int) ≤ IntKind.wrap IntKind.i64 (Int.fdiv (IntKind.wrap IntKind.u64 (IntKind.wrap IntKind.i64 ((↑i : Int) + (↑j : Int)))) (2 : Int)) ∧
  Int.toNat (IntKind.wrap IntKind.i64 (Int.fdiv (IntKind.wrap IntKind.u64 (IntKind.wrap IntKind.i64 ((↑i : Int) + (↑j : Int)))) (2 : Int))) < List.length x)
  (Tree.need
  ((List.map κ.e x)[Int.toNat (IntKind.wrap IntKind.i64 (Int.fdiv (IntKind.wrap IntKind.u64 (IntKind.wrap IntKind.i64 ((↑i : Int) + (↑j : Int)))) (2 : Int)))]? =
  some (κ.e (List.getD x (Int.toNat (IntKind.wrap IntKind.i64 (Int.fdiv (IntKind.wrap IntKind.u64 (IntKind.wrap IntKind.i64 ((↑i : Int) + (↑j : Int)))) (2 : Int)))) default)))
  (Tree.need ((0 : Int) ≤ (↑a : Int) ∧ a < List.length x)
  (Tree.need ((List.map κ.e x)[a]? = some (κ.e (List.getD x a default)))
  (Tree.need
  (ILeL [κ.e (List.getD x (Int.toNat (IntKind.wrap IntKind.i64 (Int.fdiv (IntKind.wrap IntKind.u64 (IntKind.wrap IntKind.i64 ((↑i : Int) + (↑j : Int)))) (2 : Int)))) default), κ.e (List.getD x a default)]
  [κ.e (List.getD x (Int.toNat (IntKind.wrap IntKind.i64 (Int.fdiv (IntKind.wrap IntKind.u64 (IntKind.wrap IntKind.i64 ((↑i : Int) + (↑j : Int)))) (2 : Int)))) default), κ.e (List.getD x a default)] ∧
  ASpec prog κ.n48 [κ.e (List.getD x (Int.toNat (IntKind.wrap IntKind.i64 (Int.fdiv (IntKind.wrap IntKind.u64 (IntKind.wrap IntKind.i64 ((↑i : Int) + (↑j : Int)))) (2 : Int)))) default), κ.e (List.getD x a default)]
  (i64 (κ.c (List.getD x (Int.toNat (IntKind.wrap IntKind.i64 (Int.fdiv (IntKind.wrap IntKind.u64 (IntKind.wrap IntKind.i64 ((↑i : Int) + (↑j : Int)))) (2 : Int)))) default) (List.getD x a default))))
  (Tree.br (decide (κ.c (List.getD x (Int.toNat (IntKind.wrap IntKind.i64 (Int.fdiv (IntKind.wrap IntKind.u64 (IntKind.wrap IntKind.i64 ((↑i : Int) + (↑j : Int)))) (2 : Int)))) default) (List.getD x a default) < (0 : Int)))
  (Tree.done Exit.normal
  (LState.mk
  [(11, AVal.imm (i64 (↑j : Int))),
  (10,
  AVal.imm (IVal.v (Value.int IntKind.i64 (IntKind.wrap IntKind.i64 (IntKind.wrap IntKind.i64 (Int.fdiv (IntKind.wrap IntKind.u64 (IntKind.wrap IntKind.i64 ((↑i : Int) + (↑j : Int)))) (2 : Int)) + (1 : Int)))))),
  (4, AVal.imm (fnV κ.n48)), (1, AVal.imm (i64 (↑a : Int))), (0, AVal.own 0 (List.length x))]
  [(0, Entry.brow l0 κ.n68 κ.n6 (List.map κ.e x))] 220 25 []))
  (Tree.done Exit.normal
  (LState.mk
  [(11, AVal.imm (IVal.v (Value.int IntKind.i64 (IntKind.wrap IntKind.i64 (Int.fdiv (IntKind.wrap IntKind.u64 (IntKind.wrap IntKind.i64 ((↑i : Int) + (↑j : Int)))) (2 : Int)))))),
  (10, AVal.imm (i64 (↑i : Int))), (4, AVal.imm (fnV κ.n48)), (1, AVal.imm (i64 (↑a : Int))), (0, AVal.own 0 (List.length x))]
  [(0, Entry.brow l0 κ.n68 κ.n6 (List.map κ.e x))] 220 24 [])))))))))
  (Tree.done (Exit.exit 0)
  (LState.mk [(10, AVal.imm (i64 (↑i : Int))), (1, AVal.imm (i64 (↑a : Int))), (0, AVal.own 0 (List.length x))] [(0, Entry.brow l0 κ.n68 κ.n6 (List.map κ.e x))] 220 4 [])) := by cases κ <;> kernel_rfl
def IB118_k {κ : Kd} (l0 : Abs.Loc) (k i : Nat) (x : List κ.ty) : LState := { t := [(13, .imm (i64 k)), (10, .imm (i64 i)), (0, .own 0 x.length)], s := [(0, .brow l0 κ.n68 κ.n6 (x.map κ.e))], m := 220, n := 1 }
def ER118_k {κ : Kd} (l0 : Abs.Loc) (x : List κ.ty) : LState := { t := [], s := [(0, .brow l0 κ.n68 κ.n6 (x.map κ.e))], m := 220, n := 1 }
def finB118_k : Exit → Fin
  | .normal => ⟨[], [13, 10, 0], [0]⟩
  | _ => ⟨[], [], [0]⟩
def TB118r_k {κ : Kd} (l0 : Abs.Loc) (k i : Nat) (x : List κ.ty) : Tell :=
  Tell.mk (fun x x_1 => false) (fun x x_1 => Orc.no) (fun x => Tree.fail 1000003 0) (fun x => 0) (fun x => ([], []))
  (oget
  [(5, 11, 9, Orc.elem (κ.e (List.getD x (Int.toNat (IntKind.wrap IntKind.i64 ((↑k : Int) + (1 : Int)))) default))), (5, 11, 13, Orc.elem (κ.e (List.getD x k default))),
  (5, 11, 15, Orc.elem (IVal.tup [])), (5, 11, 17, Orc.elem (IVal.tup []))])
  fun x x_1 => Tree.fail 1000003 0
theorem tB118r_k {κ : Kd} (l0 : Abs.Loc) (k i : Nat) (x : List κ.ty) : levL prog κ.f118 9 (IB118_k l0 k i x) (TB118r_k l0 k i x) finB118_k =
  Tree.br (decide ((↑k : Int) < IntKind.wrap IntKind.i64 ((↑i : Int) - (1 : Int))))
  (Tree.need ((0 : Int) ≤ IntKind.wrap IntKind.i64 ((↑k : Int) + (1 : Int)) ∧ Int.toNat (IntKind.wrap IntKind.i64 ((↑k : Int) + (1 : Int))) < List.length x)
  (Tree.need ((List.map κ.e x)[Int.toNat (IntKind.wrap IntKind.i64 ((↑k : Int) + (1 : Int)))]? = some (κ.e (List.getD x (Int.toNat (IntKind.wrap IntKind.i64 ((↑k : Int) + (1 : Int)))) default)))
  (Tree.need ((0 : Int) ≤ (↑k : Int) ∧ k < List.length x)
  (Tree.need ((List.map κ.e x)[k]? = some (κ.e (List.getD x k default)))
  (Tree.need ((0 : Int) ≤ (↑k : Int) ∧ k < List.length x)
  (Tree.need (k < List.length (List.map κ.e x))
  (Tree.need ((0 : Int) ≤ IntKind.wrap IntKind.i64 ((↑k : Int) + (1 : Int)) ∧ Int.toNat (IntKind.wrap IntKind.i64 ((↑k : Int) + (1 : Int))) < List.length x)
  (Tree.need (Int.toNat (IntKind.wrap IntKind.i64 ((↑k : Int) + (1 : Int))) < List.length (List.set (List.map κ.e x) k (κ.e (List.getD x (Int.toNat (IntKind.wrap IntKind.i64 ((↑k : Int) + (1 : Int)))) default))))
  (Tree.done Exit.normal
  (LState.mk [(13, AVal.imm (IVal.v (Value.int IntKind.i64 (IntKind.wrap IntKind.i64 ((↑k : Int) + (1 : Int)))))), (10, AVal.imm (i64 (↑i : Int))), (0, AVal.own 0 (List.length x))]
  [(0,
  Entry.brow l0 κ.n68 κ.n6
  (List.set (List.set (List.map κ.e x) k (κ.e (List.getD x (Int.toNat (IntKind.wrap IntKind.i64 ((↑k : Int) + (1 : Int)))) default))) (Int.toNat (IntKind.wrap IntKind.i64 ((↑k : Int) + (1 : Int))))
  (κ.e (List.getD x k default))))]
  220 26 []))))))))))
  (Tree.done (Exit.exit 2) (LState.mk [] [(0, Entry.brow l0 κ.n68 κ.n6 (List.map κ.e x))] 220 5 [])) := by cases κ <;> kernel_rfl
def IC118_k {κ : Kd} (l0 : Abs.Loc) (m i j : Nat) (x : List κ.ty) : LState := { t := [(15, .imm (i64 j)), (14, .imm (i64 i)), (4, .imm (fnV κ.n48)), (2, .imm (i64 m)), (0, .own 0 x.length)], s := [(0, .brow l0 κ.n68 κ.n6 (x.map κ.e))], m := 220, n := 1 }
def EC118_k {κ : Kd} (l0 : Abs.Loc) (m i : Nat) (x : List κ.ty) : LState := { t := [(14, .imm (i64 i)), (2, .imm (i64 m)), (0, .own 0 x.length)], s := [(0, .brow l0 κ.n68 κ.n6 (x.map κ.e))], m := 220, n := 1 }
def finC118_k : Exit → Fin
  | .normal => ⟨[], [15, 14, 4, 2, 0], [0]⟩
  | _ => ⟨[], [14, 2, 0], [0]⟩
def TC118r_k {κ : Kd} (l0 : Abs.Loc) (m i j : Nat) (x : List κ.ty) : Tell :=
  Tell.mk (fun x x_1 => false) (fun x x_1 => Orc.no) (fun x => Tree.fail 1000003 0) (fun x => 0) (fun x => ([], []))
  (oget
  [(11, 17, 4, Orc.elem (κ.e (List.getD x m default))),
  (11, 17, 8, Orc.elem (κ.e (List.getD x (Int.toNat (IntKind.wrap IntKind.i64 (Int.fdiv (IntKind.wrap IntKind.u64 (IntKind.wrap IntKind.i64 ((↑i : Int) + (↑j : Int)))) (2 : Int)))) default))),
  (11, 17, 9,
  Orc.call [κ.e (List.getD x m default), κ.e (List.getD x (Int.toNat (IntKind.wrap IntKind.i64 (Int.fdiv (IntKind.wrap IntKind.u64 (IntKind.wrap IntKind.i64 ((↑i : Int) + (↑j : Int)))) (2 : Int)))) default)]
  (i64 (κ.c (List.getD x m default) (List.getD x (Int.toNat (IntKind.wrap IntKind.i64 (Int.fdiv (IntKind.wrap IntKind.u64 (IntKind.wrap IntKind.i64 ((↑i : Int) + (↑j : Int)))) (2 : Int)))) default))))])
  fun x x_1 => Tree.fail 1000003 0
theorem tC118r_k {κ : Kd} (l0 : Abs.Loc) (m i j : Nat) (x : List κ.ty) : levL prog κ.f118 15 (IC118_k l0 m i j x) (TC118r_k l0 m i j x) finC118_k =
  Tree.br (decide ((↑i : Int) < (↑j : Int)))
  (Tree.need ((0 : Int) ≤ (1 : Int))
  (Tree.need ((0 : Int) ≤ (↑m : Int) ∧ m < List.length x)
  (Tree.need ((List.map κ.e x)[m]? = some (κ.e (List.getD x m default)))
  (Tree.need
  ((0 : Int) ≤ IntKind.wrap IntKind.i64 (Int.fdiv (IntKind.wrap IntKind.u64 (IntKind.wrap IntKind.i64 ((↑i : Int) + (↑j : Int)))) (2 : Int)) ∧
  Int.toNat (IntKind.wrap IntKind.i64 (Int.fdiv (IntKind.wrap IntKind.u64 (IntKind.wrap IntKind.i64 ((↑i : Int) + (↑j : Int)))) (2 : Int))) < List.length x)
  (Tree.need
  ((List.map κ.e x)[Int.toNat (IntKind.wrap IntKind.i64 (Int.fdiv (IntKind.wrap IntKind.u64 (IntKind.wrap IntKind.i64 ((↑i : Int) + (↑j : Int)))) (2 : Int)))]? =
  some (κ.e (List.getD x (Int.toNat (IntKind.wrap IntKind.i64 (Int.fdiv (IntKind.wrap IntKind.u64 (IntKind.wrap IntKind.i64 ((↑i : Int) + (↑j : Int)))) (2 : Int)))) default)))
  (Tree.need
  (ILeL [κ.e (List.getD x m default), κ.e (List.getD x (Int.toNat (IntKind.wrap IntKind.i64 (Int.fdiv (IntKind.wrap IntKind.u64 (IntKind.wrap IntKind.i64 ((↑i : Int) + (↑j : Int)))) (2 : Int)))) default)]
  [κ.e (List.getD x m default), κ.e (List.getD x (Int.toNat (IntKind.wrap IntKind.i64 (Int.fdiv (IntKind.wrap IntKind.u64 (IntKind.wrap IntKind.i64 ((↑i : Int) + (↑j : Int)))) (2 : Int)))) default)] ∧
  ASpec prog κ.n48 [κ.e (List.getD x m default), κ.e (List.getD x (Int.toNat (IntKind.wrap IntKind.i64 (Int.fdiv (IntKind.wrap IntKind.u64 (IntKind.wrap IntKind.i64 ((↑i : Int) + (↑j : Int)))) (2 : Int)))) default)]
  (i64 (κ.c (List.getD x m default) (List.getD x (Int.toNat (IntKind.wrap IntKind.i64 (Int.fdiv (IntKind.wrap IntKind.u64 (IntKind.wrap IntKind.i64 ((↑i : Int) + (↑j : Int)))) (2 : Int)))) default))))
  (Tree.br (!decide (κ.c (List.getD x m default) (List.getD x (Int.toNat (IntKind.wrap IntKind.i64 (Int.fdiv (IntKind.wrap IntKind.u64 (IntKind.wrap IntKind.i64 ((↑i : Int) + (↑j : Int)))) (2 : Int)))) default) < (0 : Int)))
  (Tree.done Exit.normal
  (LState.mk
  [(15, AVal.imm (i64 (↑j : Int))),
  (14,
  AVal.imm (IVal.v (Value.int IntKind.i64 (IntKind.wrap IntKind.i64 (IntKind.wrap IntKind.i64 (Int.fdiv (IntKind.wrap IntKind.u64 (IntKind.wrap IntKind.i64 ((↑i : Int) + (↑j : Int)))) (2 : Int)) + (1 : Int)))))),
  (4, AVal.imm (fnV κ.n48)), (2, AVal.imm (i64 (↑m : Int))), (0, AVal.own 0 (List.length x))]
  [(0, Entry.brow l0 κ.n68 κ.n6 (List.map κ.e x))] 220 26 []))
  (Tree.done Exit.normal
  (LState.mk
  [(15, AVal.imm (IVal.v (Value.int IntKind.i64 (IntKind.wrap IntKind.i64 (Int.fdiv (IntKind.wrap IntKind.u64 (IntKind.wrap IntKind.i64 ((↑i : Int) + (↑j : Int)))) (2 : Int)))))),
  (14, AVal.imm (i64 (↑i : Int))), (4, AVal.imm (fnV κ.n48)), (2, AVal.imm (i64 (↑m : Int))), (0, AVal.own 0 (List.length x))]
  [(0, Entry.brow l0 κ.n68 κ.n6 (List.map κ.e x))] 220 25 [])))))))))
  (Tree.done (Exit.exit 4)
  (LState.mk [(14, AVal.imm (i64 (↑i : Int))), (2, AVal.imm (i64 (↑m : Int))), (0, AVal.own 0 (List.length x))] [(0, Entry.brow l0 κ.n68 κ.n6 (List.map κ.e x))] 220 4 [])) := by cases κ <;> kernel_rfl
def ID118_k {κ : Kd} (l0 : Abs.Loc) (k i : Nat) (x : List κ.ty) : LState := { t := [(17, .imm (i64 k)), (14, .imm (i64 i)), (0, .own 0 x.length)], s := [(0, .brow l0 κ.n68 κ.n6 (x.map κ.e))], m := 220, n := 1 }
def finD118_k : Exit → Fin
  | .normal => ⟨[], [17, 14, 0], [0]⟩
  | _ => ⟨[], [], [0]⟩
def TD118r_k {κ : Kd} (l0 : Abs.Loc) (k i : Nat) (x : List κ.ty) : Tell :=
  Tell.mk (fun x x_1 => false) (fun x x_1 => Orc.no) (fun x => Tree.fail 1000003 0) (fun x => 0) (fun x => ([], []))
  (oget
  [(4, 23, 9, Orc.elem (κ.e (List.getD x (Int.toNat (IntKind.wrap IntKind.i64 ((↑k : Int) - (1 : Int)))) default))), (4, 23, 13, Orc.elem (κ.e (List.getD x k default))),
  (4, 23, 15, Orc.elem (IVal.tup [])), (4, 23, 17, Orc.elem (IVal.tup []))])
  fun x x_1 => Tree.fail 1000003 0
theorem tD118r_k {κ : Kd} (l0 : Abs.Loc) (k i : Nat) (x : List κ.ty) : levL prog κ.f118 21 (ID118_k l0 k i x) (TD118r_k l0 k i x) finD118_k =
  Tree.br (decide ((↑i : Int) < (↑k : Int)))
  (Tree.need ((0 : Int) ≤ IntKind.wrap IntKind.i64 ((↑k : Int) - (1 : Int)) ∧ Int.toNat (IntKind.wrap IntKind.i64 ((↑k : Int) - (1 : Int))) < List.length x)
  (Tree.need ((List.map κ.e x)[Int.toNat (IntKind.wrap IntKind.i64 ((↑k : Int) - (1 : Int)))]? = some (κ.e (List.getD x (Int.toNat (IntKind.wrap IntKind.i64 ((↑k : Int) - (1 : Int)))) default)))
  (Tree.need ((0 : Int) ≤ (↑k : Int) ∧ k < List.length x)
  (Tree.need ((List.map κ.e x)[k]? = some (κ.e (List.getD x k default)))
  (Tree.need ((0 : Int) ≤ (↑k : Int) ∧ k < List.length x)
  (Tree.need (k < List.length (List.map κ.e x))
  (Tree.need ((0 : Int) ≤ IntKind.wrap IntKind.i64 ((↑k : Int) - (1 : Int)) ∧ Int.toNat (IntKind.wrap IntKind.i64 ((↑k : Int) - (1 : Int))) < List.length x)
  (Tree.need (Int.toNat (IntKind.wrap IntKind.i64 ((↑k : Int) - (1 : Int))) < List.length (List.set (List.map κ.e x) k (κ.e (List.getD x (Int.toNat (IntKind.wrap IntKind.i64 ((↑k : Int) - (1 : Int)))) default))))
  (Tree.done Exit.normal
  (LState.mk [(17, AVal.imm (IVal.v (Value.int IntKind.i64 (IntKind.wrap IntKind.i64 ((↑k : Int) - (1 : Int)))))), (14, AVal.imm (i64 (↑i : Int))), (0, AVal.own 0 (List.length x))]
  [(0,
  Entry.brow l0 κ.n68 κ.n6
  (List.set (List.set (List.map κ.e x) k (κ.e (List.getD x (Int.toNat (IntKind.wrap IntKind.i64 ((↑k : Int) - (1 : Int)))) default))) (Int.toNat (IntKind.wrap IntKind.i64 ((↑k : Int) - (1 : Int))))
  (κ.e (List.getD x k default))))]
  220 25 []))))))))))
  (Tree.done (Exit.exit 6) (LState.mk [] [(0, Entry.brow l0 κ.n68 κ.n6 (List.map κ.e x))] 220 4 [])) := by cases κ <;> kernel_rfl
def IE118_k {κ : Kd} (l0 : Abs.Loc) (a m b q n md i j : Nat) (x : List κ.ty) : LState := { t := [(22, .imm (i64 q)), (21, .imm (i64 j)), (20, .imm (i64 i)), (19, .imm (i64 n)), (18, .imm (i64 md)), (4, .imm (fnV κ.n48)), (3, .imm (i64 b)), (2, .imm (i64 m)), (1, .imm (i64 a)), (0, .own 0 x.length)], s := [(0, .brow l0 κ.n68 κ.n6 (x.map κ.e))], m := 220, n := 1 }
def EE118_k {κ : Kd} (l0 : Abs.Loc) (a m b n md i : Nat) (x : List κ.ty) : LState := { t := [(20, .imm (i64 i)), (19, .imm (i64 n)), (18, .imm (i64 md)), (4, .imm (fnV κ.n48)), (3, .imm (i64 b)), (2, .imm (i64 m)), (1, .imm (i64 a)), (0, .own 0 x.length)], s := [(0, .brow l0 κ.n68 κ.n6 (x.map κ.e))], m := 220, n := 1 }
def finE118_k : Exit → Fin
  | .normal => ⟨[], [22, 21, 20, 19, 18, 4, 3, 2, 1, 0], [0]⟩
  | _ => ⟨[], [20, 19, 18, 4, 3, 2, 1, 0], [0]⟩
def TE118r_k {κ : Kd} (l0 : Abs.Loc) (a m b q n md i j : Nat) (x : List κ.ty) : Tell :=
  Tell.mk (fun x x_1 => false) (fun x x_1 => Orc.no) (fun x => Tree.fail 1000003 0) (fun x => 0) (fun x => ([], []))
  (oget
  [(11, 35, 6,
  Orc.elem (κ.e (List.getD x (Int.toNat (IntKind.wrap IntKind.i64 ((↑q : Int) - IntKind.wrap IntKind.i64 (Int.fdiv (IntKind.wrap IntKind.u64 (IntKind.wrap IntKind.i64 ((↑i : Int) + (↑j : Int)))) (2 : Int))))) default))),
  (11, 35, 10, Orc.elem (κ.e (List.getD x (Int.toNat (IntKind.wrap IntKind.i64 (Int.fdiv (IntKind.wrap IntKind.u64 (IntKind.wrap IntKind.i64 ((↑i : Int) + (↑j : Int)))) (2 : Int)))) default))),
  (11, 35, 11,
  Orc.call
  [κ.e (List.getD x (Int.toNat (IntKind.wrap IntKind.i64 ((↑q : Int) - IntKind.wrap IntKind.i64 (Int.fdiv (IntKind.wrap IntKind.u64 (IntKind.wrap IntKind.i64 ((↑i : Int) + (↑j : Int)))) (2 : Int))))) default),
  κ.e (List.getD x (Int.toNat (IntKind.wrap IntKind.i64 (Int.fdiv (IntKind.wrap IntKind.u64 (IntKind.wrap IntKind.i64 ((↑i : Int) + (↑j : Int)))) (2 : Int)))) default)]
  (i64
  (κ.c (List.getD x (Int.toNat (IntKind.wrap IntKind.i64 ((↑q : Int) - IntKind.wrap IntKind.i64 (Int.fdiv (IntKind.wrap IntKind.u64 (IntKind.wrap IntKind.i64 ((↑i : Int) + (↑j : Int)))) (2 : Int))))) default)
  (List.getD x (Int.toNat (IntKind.wrap IntKind.i64 (Int.fdiv (IntKind.wrap IntKind.u64 (IntKind.wrap IntKind.i64 ((↑i : Int) + (↑j : Int)))) (2 : Int)))) default))))])
  fun x x_1 => Tree.fail 1000003 0
theorem tE118r_k {κ : Kd} (l0 : Abs.Loc) (a m b q n md i j : Nat) (x : List κ.ty) : levL prog κ.f118 33 (IE118_k l0 a m b q n md i j x) (TE118r_k l0 a m b q n md i j x) finE118_k =
  Tree.br (decide ((↑i : Int) < (↑j : Int)))
  (Tree.need ((0 : Int) ≤ (1 : Int))
  (Tree.need
  ((0 : Int) ≤ IntKind.wrap IntKind.i64 ((↑q : Int) - IntKind.wrap IntKind.i64 (Int.fdiv (IntKind.wrap IntKind.u64 (IntKind.wrap IntKind.i64 ((↑i : Int) + (↑j : Int)))) (2 : Int))) ∧
  Int.toNat (IntKind.wrap IntKind.i64 ((↑q : Int) - IntKind.wrap IntKind.i64 (Int.fdiv (IntKind.wrap IntKind.u64 (IntKind.wrap IntKind.i64 ((↑i : Int) + (↑j : Int)))) (2 : Int)))) < List.length x)
  (Tree.need
  ((List.map κ.e x)[Int.toNat (IntKind.wrap IntKind.i64 ((↑q : Int) - IntKind.wrap IntKind.i64 (Int.fdiv (IntKind.wrap IntKind.u64 (IntKind.wrap IntKind.i64 ((↑i : Int) + (↑j : Int)))) (2 : Int))))]? =
  some (κ.e (List.getD x (Int.toNat (IntKind.wrap IntKind.i64 ((↑q : Int) - IntKind.wrap IntKind.i64 (Int.fdiv (IntKind.wrap IntKind.u64 (IntKind.wrap IntKind.i64 ((↑i : Int) + (↑j : Int)))) (2 : Int))))) default)))
  (Tree.need
  ((0 : Int) ≤ IntKind.wrap IntKind.i64 (Int.fdiv (IntKind.wrap IntKind.u64 (IntKind.wrap IntKind.i64 ((↑i : Int) + (↑j : Int)))) (2 : Int)) ∧
  Int.toNat (IntKind.wrap IntKind.i64 (Int.fdiv (IntKind.wrap IntKind.u64 (IntKind.wrap IntKind.i64 ((↑i : Int) + (↑j : Int)))) (2 : Int))) < List.length x)
  (Tree.need
  ((List.map κ.e x)[Int.toNat (IntKind.wrap IntKind.i64 (Int.fdiv (IntKind.wrap IntKind.u64 (IntKind.wrap IntKind.i64 ((↑i : Int) + (↑j : Int)))) (2 : Int)))]? =
  some (κ.e (List.getD x (Int.toNat (IntKind.wrap IntKind.i64 (Int.fdiv (IntKind.wrap IntKind.u64 (IntKind.wrap IntKind.i64 ((↑i : Int) + (↑j : Int)))) (2 : Int)))) default)))
  (Tree.need
  (ILeL
  [κ.e (List.getD x (Int.toNat (IntKind.wrap IntKind.i64 ((↑q : Int) - IntKind.wrap IntKind.i64 (Int.fdiv (IntKind.wrap IntKind.u64 (IntKind.wrap IntKind.i64 ((↑i : Int) + (↑j : Int)))) (2 : Int))))) default),
  κ.e (List.getD x (Int.toNat (IntKind.wrap IntKind.i64 (Int.fdiv (IntKind.wrap IntKind.u64 (IntKind.wrap IntKind.i64 ((↑i : Int) + (↑j : Int)))) (2 : Int)))) default)]
  [κ.e (List.getD x (Int.toNat (IntKind.wrap IntKind.i64 ((↑q : Int) - IntKind.wrap IntKind.i64 (Int.fdiv (IntKind.wrap IntKind.u64 (IntKind.wrap IntKind.i64 ((↑i : Int) + (↑j : Int)))) (2 : Int))))) default),
  κ.e (List.getD x (Int.toNat (IntKind.wrap IntKind.i64 (Int.fdiv (IntKind.wrap IntKind.u64 (IntKind.wrap IntKind.i64 ((↑i : Int) + (↑j : Int)))) (2 : Int)))) default)] ∧
  ASpec prog κ.n48
  [κ.e (List.getD x (Int.toNat (IntKind.wrap IntKind.i64 ((↑q : Int) - IntKind.wrap IntKind.i64 (Int.fdiv (IntKind.wrap IntKind.u64 (IntKind.wrap IntKind.i64 ((↑i : Int) + (↑j : Int)))) (2 : Int))))) default),
  κ.e (List.getD x (Int.toNat (IntKind.wrap IntKind.i64 (Int.fdiv (IntKind.wrap IntKind.u64 (IntKind.wrap IntKind.i64 ((↑i : Int) + (↑j : Int)))) (2 : Int)))) default)]
  (i64
  (κ.c (List.getD x (Int.toNat (IntKind.wrap IntKind.i64 ((↑q : Int) - IntKind.wrap IntKind.i64 (Int.fdiv (IntKind.wrap IntKind.u64 (IntKind.wrap IntKind.i64 ((↑i : Int) + (↑j : Int)))) (2 : Int))))) default)
  (List.getD x (Int.toNat (IntKind.wrap IntKind.i64 (Int.fdiv (IntKind.wrap IntKind.u64 (IntKind.wrap IntKind.i64 ((↑i : Int) + (↑j : Int)))) (2 : Int)))) default))))
  (Tree.br
  (!decide
  (κ.c (List.getD x (Int.toNat (IntKind.wrap IntKind.i64 ((↑q : Int) - IntKind.wrap IntKind.i64 (Int.fdiv (IntKind.wrap IntKind.u64 (IntKind.wrap IntKind.i64 ((↑i : Int) + (↑j : Int)))) (2 : Int))))) default)
  (List.getD x (Int.toNat (IntKind.wrap IntKind.i64 (Int.fdiv (IntKind.wrap IntKind.u64 (IntKind.wrap IntKind.i64 ((↑i : Int) + (↑j : Int)))) (2 : Int)))) default) <
  (0 : Int)))
  (Tree.done Exit.normal
  (LState.mk
  [(22, AVal.imm (i64 (↑q : Int))), (21, AVal.imm (i64 (↑j : Int))),
  (20,
  AVal.imm (IVal.v (Value.int IntKind.i64 (IntKind.wrap IntKind.i64 (IntKind.wrap IntKind.i64 (Int.fdiv (IntKind.wrap IntKind.u64 (IntKind.wrap IntKind.i64 ((↑i : Int) + (↑j : Int)))) (2 : Int)) + (1 : Int)))))),
  (19, AVal.imm (i64 (↑n : Int))), (18, AVal.imm (i64 (↑md : Int))), (4, AVal.imm (fnV κ.n48)), (3, AVal.imm (i64 (↑b : Int))), (2, AVal.imm (i64 (↑m : Int))),
  (1, AVal.imm (i64 (↑a : Int))), (0, AVal.own 0 (List.length x))]
  [(0, Entry.brow l0 κ.n68 κ.n6 (List.map κ.e x))] 220 28 []))
  (Tree.done Exit.normal
  (LState.mk
  [(22, AVal.imm (i64 (↑q : Int))),
  (21, AVal.imm (IVal.v (Value.int IntKind.i64 (IntKind.wrap IntKind.i64 (Int.fdiv (IntKind.wrap IntKind.u64 (IntKind.wrap IntKind.i64 ((↑i : Int) + (↑j : Int)))) (2 : Int)))))),
  (20, AVal.imm (i64 (↑i : Int))), (19, AVal.imm (i64 (↑n : Int))), (18, AVal.imm (i64 (↑md : Int))), (4, AVal.imm (fnV κ.n48)), (3, AVal.imm (i64 (↑b : Int))),
  (2, AVal.imm (i64 (↑m : Int))), (1, AVal.imm (i64 (↑a : Int))), (0, AVal.own 0 (List.length x))]
  [(0, Entry.brow l0 κ.n68 κ.n6 (List.map κ.e x))] 220 27 [])))))))))
  (Tree.done (Exit.exit 8)
  (LState.mk
  [(20, AVal.imm (i64 (↑i : Int))), (19, AVal.imm (i64 (↑n : Int))), (18, AVal.imm (i64 (↑md : Int))), (4, AVal.imm (fnV κ.n48)), (3, AVal.imm (i64 (↑b : Int))),
  (2, AVal.imm (i64 (↑m : Int))), (1, AVal.imm (i64 (↑a : Int))), (0, AVal.own 0 (List.length x))]
  [(0, Entry.brow l0 κ.n68 κ.n6 (List.map κ.e x))] 220 4 [])) := by cases κ <;> kernel_rfl
theorem lA118_k {κ : Kd} (l0 : Abs.Loc) (a i j f : Nat) (x : List κ.ty) (ha : a < x.length) (hij : i ≤ j) (hj : j ≤ x.length) (hl : x.length ≤ 2 ^ 61) (hf : j - i ≤ f) (σ : LState) (h : LSub σ (IA118_k l0 a i j x)) :
    LoopOk prog [] (bodyOf κ.f118) 3 σ (.done (.exit 0) (EA118_k l0 a (bs (fun h => (ltO_k (κ := κ)) (x.getD h default) (x.getD a default)) f i j) x)) := by
  refine LoopOk.of_levL (γ := { g : Nat × Nat × Nat // g.1 ≤ g.2.1 ∧ g.2.1 ≤ x.length ∧ g.2.1 - g.1 ≤ g.2.2 ∧ bs (fun h => (ltO_k (κ := κ)) (x.getD h default) (x.getD a default)) g.2.2 g.1 g.2.1 = bs (fun h => (ltO_k (κ := κ)) (x.getD h default) (x.getD a default)) f i j })
    (fun g => TA118r_k l0 a g.1.1 g.1.2.1 x) finA118_k (fun g => IA118_k l0 a g.1.1 g.1.2.1 x) (fun g => g.1.2.1 - g.1.1) ⟨(i, j, f), hij, hj, hf, rfl⟩ (by cases κ <;> kernel_rfl) h ?_
  rintro ⟨⟨i, j, f'⟩, q1, q2, q3, q4⟩
  simp only at q1 q2 q3 q4
  simp only []
  have e1 := i64_half (i := i) (j := j) (by omega)
  rw [tA118r_k]
  simp only [e1, Int.toNat_natCast]
  refine ⟨fun h1 => ?_, fun h1 => ?_⟩
  · have hlt : i < j := by simp at h1; omega
    cases f' with
    | zero => omega
    | succ f' =>
      rw [bs, if_pos hlt] at q4
      refine ⟨by omega, fun _ => ⟨⟨by omega, by omega⟩, fun _ => ⟨getD_map _ _ _ _ (by omega), fun _ => ⟨⟨by omega, ha⟩, fun _ => ⟨getD_map _ _ _ _ ha, fun _ => ⟨⟨ILeL.refl _, Kd.cby _ _⟩, fun _ => ⟨fun h2 => ?_, fun h2 => ?_⟩⟩⟩⟩⟩⟩⟩
      · rw [if_pos (show (ltO_k (κ := κ)) _ _ = true from h2)] at q4
        refine ⟨⟨((i + j) / 2 + 1, j, f'), by simp only; omega, q2, by simp only; omega, q4⟩, by simp only; omega, ⟨rfl, ?_, rfl, rfl, rfl, trivial⟩, ⟨rfl, trivial⟩, rfl, rfl, rfl⟩
        exact congrArg (fun n => AVal.imm (i64 n)) (i64_succ (by omega))
      · rw [if_neg (fun hc => by rw [show (ltO_k (κ := κ)) _ _ = false from h2] at hc; cases hc)] at q4
        exact ⟨⟨(i, (i + j) / 2, f'), by simp only; omega, by simp only; omega, by simp only; omega, q4⟩, by simp only; omega, ⟨rfl, rfl, rfl, rfl, rfl, trivial⟩, ⟨rfl, trivial⟩, rfl, rfl, rfl⟩
  · have hge : ¬ i < j := by simp at h1; omega
    have : bs (fun h => (ltO_k (κ := κ)) (x.getD h default) (x.getD a default)) f' i j = i := by
      cases f' with
      | zero => rfl
      | succ f' => rw [bs, if_neg hge]
    rw [this] at q4
    rw [← q4]
    exact ⟨rfl, ⟨rfl, rfl, rfl, trivial⟩, ⟨rfl, trivial⟩, rfl, rfl, rfl⟩
theorem lC118_k {κ : Kd} (l0 : Abs.Loc) (m i j f : Nat) (x : List κ.ty) (ha : m < x.length) (hij : i ≤ j) (hj : j ≤ x.length) (hl : x.length ≤ 2 ^ 61) (hf : j - i ≤ f) (σ : LState) (h : LSub σ (IC118_k l0 m i j x)) :
    LoopOk prog [] (bodyOf κ.f118) 15 σ (.done (.exit 4) (EC118_k l0 m (bs (fun h => !(ltO_k (κ := κ)) (x.getD m default) (x.getD h default)) f i j) x)) := by
  refine LoopOk.of_levL (γ := { g : Nat × Nat × Nat // g.1 ≤ g.2.1 ∧ g.2.1 ≤ x.length ∧ g.2.1 - g.1 ≤ g.2.2 ∧ bs (fun h => !(ltO_k (κ := κ)) (x.getD m default) (x.getD h default)) g.2.2 g.1 g.2.1 = bs (fun h => !(ltO_k (κ := κ)) (x.getD m default) (x.getD h default)) f i j })
    (fun g => TC118r_k l0 m g.1.1 g.1.2.1 x) finC118_k (fun g => IC118_k l0 m g.1.1 g.1.2.1 x) (fun g => g.1.2.1 - g.1.1) ⟨(i, j, f), hij, hj, hf, rfl⟩ (by cases κ <;> kernel_rfl) h ?_
  rintro ⟨⟨i, j, f'⟩, q1, q2, q3, q4⟩
  simp only at q1 q2 q3 q4
  simp only []
  have e1 := i64_half (i := i) (j := j) (by omega)
  rw [tC118r_k]
  simp only [e1, Int.toNat_natCast]
  refine ⟨fun h1 => ?_, fun h1 => ?_⟩
  · have hlt : i < j := by simp at h1; omega
    cases f' with
    | zero => omega
    | succ f' =>
      rw [bs, if_pos hlt] at q4
      refine ⟨by omega, fun _ => ⟨⟨by omega, ha⟩, fun _ => ⟨getD_map _ _ _ _ ha, fun _ => ⟨⟨by omega, by omega⟩, fun _ => ⟨getD_map _ _ _ _ (by omega), fun _ => ⟨⟨ILeL.refl _, Kd.cby _ _⟩, fun _ => ⟨fun h2 => ?_, fun h2 => ?_⟩⟩⟩⟩⟩⟩⟩
      · rw [if_pos (show (!(ltO_k (κ := κ)) _ _) = true from h2)] at q4
        refine ⟨⟨((i + j) / 2 + 1, j, f'), by simp only; omega, q2, by simp only; omega, q4⟩, by simp only; omega, ⟨rfl, ?_, rfl, rfl, rfl, trivial⟩, ⟨rfl, trivial⟩, rfl, rfl, rfl⟩
        exact congrArg (fun n => AVal.imm (i64 n)) (i64_succ (by omega))
      · rw [if_neg (fun hc => by rw [show (!(ltO_k (κ := κ)) _ _) = false from h2] at hc; cases hc)] at q4
        exact ⟨⟨(i, (i + j) / 2, f'), by simp only; omega, by simp only; omega, by simp only; omega, q4⟩, by simp only; omega, ⟨rfl, rfl, rfl, rfl, rfl, trivial⟩, ⟨rfl, trivial⟩, rfl, rfl, rfl⟩
  · have hge : ¬ i < j := by simp at h1; omega
    have : bs (fun h => !(ltO_k (κ := κ)) (x.getD m default) (x.getD h default)) f' i j = i := by
      cases f' with
      | zero => rfl
      | succ f' => rw [bs, if_neg hge]
    rw [this] at q4
    rw [← q4]
    exact ⟨rfl, ⟨rfl, rfl, rfl, trivial⟩, ⟨rfl, trivial⟩, rfl, rfl, rfl⟩
theorem lE118_k {κ : Kd} (l0 : Abs.Loc) (a m b q n md i j f : Nat) (x : List κ.ty) (hq : j ≤ q + 1) (hq2 : q < i + x.length) (hij : i ≤ j) (hj : j ≤ x.length) (hl : x.length ≤ 2 ^ 61) (hf : j - i ≤ f) (σ : LState) (h : LSub σ (IE118_k l0 a m b q n md i j x)) :
    LoopOk prog [] (bodyOf κ.f118) 33 σ (.done (.exit 8) (EE118_k l0 a m b n md (bs (fun c => !(ltO_k (κ := κ)) (x.getD (q - c) default) (x.getD c default)) f i j) x)) := by
  refine LoopOk.of_levL (γ := { g : Nat × Nat × Nat // i ≤ g.1 ∧ g.1 ≤ g.2.1 ∧ g.2.1 ≤ j ∧ g.2.1 - g.1 ≤ g.2.2 ∧ bs (fun c => !(ltO_k (κ := κ)) (x.getD (q - c) default) (x.getD c default)) g.2.2 g.1 g.2.1 = bs (fun c => !(ltO_k (κ := κ)) (x.getD (q - c) default) (x.getD c default)) f i j })
    (fun g => TE118r_k l0 a m b q n md g.1.1 g.1.2.1 x) finE118_k (fun g => IE118_k l0 a m b q n md g.1.1 g.1.2.1 x) (fun g => g.1.2.1 - g.1.1) ⟨(i, j, f), Nat.le_refl _, hij, Nat.le_refl _, hf, rfl⟩ (by cases κ <;> kernel_rfl) h ?_
  rintro ⟨⟨i', j', f'⟩, q0, q1, q2, q3, q4⟩
  simp only at q0 q1 q2 q3 q4
  simp only []
  have e1 := i64_half (i := i') (j := j') (by omega)
  have e2 : i' < j' → IntKind.i64.wrap ((q : Int) - (((i' + j') / 2 : Nat) : Int)) = ((q - (i' + j') / 2 : Nat) : Int) := fun h => i64_sub (by omega) (by omega)
  rw [tE118r_k]
  simp only [e1, Int.toNat_natCast]
  refine ⟨fun h1 => ?_, fun h1 => ?_⟩
  · have hlt : i' < j' := by simp at h1; omega
    simp only [e2 hlt, Int.toNat_natCast]
    cases f' with
    | zero => omega
    | succ f' =>
      rw [bs, if_pos hlt] at q4
      refine ⟨by omega, fun _ => ⟨⟨by omega, by omega⟩, fun _ => ⟨getD_map _ _ _ _ (by omega), fun _ => ⟨⟨by omega, by omega⟩, fun _ => ⟨getD_map _ _ _ _ (by omega), fun _ => ⟨⟨ILeL.refl _, Kd.cby _ _⟩, fun _ => ⟨fun h2 => ?_, fun h2 => ?_⟩⟩⟩⟩⟩⟩⟩
      · rw [if_pos (show (!(ltO_k (κ := κ)) _ _) = true from h2)] at q4
        refine ⟨⟨((i' + j') / 2 + 1, j', f'), by simp only; omega, by simp only; omega, by simp only; omega, by simp only; omega, q4⟩, by simp only; omega, ⟨rfl, rfl, ?_, rfl, rfl, rfl, rfl, rfl, rfl, rfl, trivial⟩, ⟨rfl, trivial⟩, rfl, rfl, rfl⟩
        exact congrArg (fun n => AVal.imm (i64 n)) (i64_succ (by omega))
      · rw [if_neg (fun hc => by rw [show (!(ltO_k (κ := κ)) _ _) = false from h2] at hc; cases hc)] at q4
        exact ⟨⟨(i', (i' + j') / 2, f'), q0, by simp only; omega, by simp only; omega, by simp only; omega, q4⟩, by simp only; omega, ⟨rfl, rfl, rfl, rfl, rfl, rfl, rfl, rfl, rfl, rfl, trivial⟩, ⟨rfl, trivial⟩, rfl, rfl, rfl⟩
  · have hge : ¬ i' < j' := by simp at h1; omega
    have : bs (fun c => !(ltO_k (κ := κ)) (x.getD (q - c) default) (x.getD c default)) f' i' j' = i' := by
      cases f' with
      | zero => rfl
      | succ f' => rw [bs, if_neg hge]
    rw [this] at q4
    rw [← q4]
    exact ⟨rfl, ⟨rfl, rfl, rfl, rfl, rfl, rfl, rfl, rfl, trivial⟩, ⟨rfl, trivial⟩, rfl, rfl, rfl⟩
theorem lB118_k {κ : Kd} (l0 : Abs.Loc) (a i : Nat) (l : List κ.ty) (ha : a < i) (hi : i ≤ l.length) (hl : l.length ≤ 2 ^ 61) (σ : LState) (h : LSub σ (IB118_k l0 a i l)) : LoopOk prog [] (bodyOf κ.f118) 9 σ (.done (.exit 2) (ER118_k l0 (bubU a l (i - 1 - a)))) := by
  refine LoopOk.count (i - 1 - a) 2 (fun n => IB118_k l0 (a + n) i (bubU a l n)) (ER118_k l0 (bubU a l (i - 1 - a))) (fun n => TB118r_k l0 (a + n) i (bubU a l n)) finB118_k (by cases κ <;> kernel_rfl) h fun n hn => ?_
  have e1 : IntKind.i64.wrap ((i : Int) - 1) = ((i - 1 : Nat) : Int) := by rw [IntWalk.i64_in _ (by omega)]; omega
  have e2 : IntKind.i64.wrap (((a + n : Nat) : Int) + 1) = ((a + n + 1 : Nat) : Int) := by rw [IntWalk.i64_in _ (by omega)]; omega
  rw [tB118r_k]
  simp only [e1, e2, Int.toNat_natCast]
  refine ⟨fun h1 => ?_, fun h1 => ?_⟩
  · have hlt : a + n < i - 1 := by simp at h1; omega
    have hlen := (bubU_spec a l n (by omega)).1.len
    have g1 : a + n < (bubU a l n).length := by omega
    have g2 : a + n + 1 < (bubU a l n).length := by omega
    refine ⟨⟨by omega, g2⟩, fun _ => ⟨getD_map _ _ _ _ g2, fun _ => ⟨⟨by omega, g1⟩, fun _ => ⟨getD_map _ _ _ _ g1, fun _ => ⟨⟨by omega, g1⟩, fun _ => ⟨by simpa using g1, fun _ => ⟨⟨by omega, g2⟩, fun _ => ⟨by simpa using g2, fun _ => ?_⟩⟩⟩⟩⟩⟩⟩⟩
    refine ⟨by omega, ⟨rfl, rfl, congrArg (AVal.own 0) (by rw [bubU, swp_length]), trivial⟩, ⟨?_, trivial⟩, rfl, rfl, rfl⟩
    refine congrArg (fun l => some (Entry.brow l0 κ.n68 κ.n6 l)) ?_
    simp only [bubU, swp, List.map_set]
  · have : n = i - 1 - a := by simp at h1; omega
    subst this
    exact ⟨rfl, by omega, ⟨trivial, ⟨rfl, trivial⟩, rfl, rfl, rfl⟩⟩
theorem lD118_k {κ : Kd} (l0 : Abs.Loc) (m i : Nat) (l : List κ.ty) (hm : m < l.length) (hi : i ≤ m) (hl : l.length ≤ 2 ^ 61) (σ : LState) (h : LSub σ (ID118_k l0 m i l)) : LoopOk prog [] (bodyOf κ.f118) 21 σ (.done (.exit 6) (ER118_k l0 (bubD m l (m - i)))) := by
  refine LoopOk.count (m - i) 6 (fun n => ID118_k l0 (m - n) i (bubD m l n)) (ER118_k l0 (bubD m l (m - i))) (fun n => TD118r_k l0 (m - n) i (bubD m l n)) finD118_k (by cases κ <;> kernel_rfl) h fun n hn => ?_
  rw [tD118r_k]
  refine ⟨fun h1 => ?_, fun h1 => ?_⟩
  · have hlt : i < m - n := by simp at h1; omega
    have e1 : IntKind.i64.wrap (((m - n : Nat) : Int) - 1) = ((m - n - 1 : Nat) : Int) := by rw [IntWalk.i64_in _ (by omega)]; omega
    simp only [e1, Int.toNat_natCast]
    have hlen := (bubD_spec m l hm n (by omega)).1.len
    have g1 : m - n < (bubD m l n).length := by omega
    have g2 : m - n - 1 < (bubD m l n).length := by omega
    refine ⟨⟨by omega, g2⟩, fun _ => ⟨getD_map _ _ _ _ g2, fun _ => ⟨⟨by omega, g1⟩, fun _ => ⟨getD_map _ _ _ _ g1, fun _ => ⟨⟨by omega, g1⟩, fun _ => ⟨by simpa using g1, fun _ => ⟨⟨by omega, g2⟩, fun _ => ⟨by simpa using g2, fun _ => ?_⟩⟩⟩⟩⟩⟩⟩⟩
    refine ⟨by omega, ⟨rfl, rfl, congrArg (AVal.own 0) (by rw [bubD, swp_length]), trivial⟩, ⟨?_, trivial⟩, rfl, rfl, rfl⟩
    refine congrArg (fun l => some (Entry.brow l0 κ.n68 κ.n6 l)) ?_
    simp only [bubD, swp, List.map_set]
  · have : n = m - i := by simp at h1; omega
    subst this
    exact ⟨rfl, by omega, ⟨trivial, ⟨rfl, trivial⟩, rfl, rfl, rfl⟩⟩
def P118_k {κ : Kd} (l0 : Abs.Loc) (a m b i1 i2 n md s : Nat) (l y1 y2 : List κ.ty) : Nat → Tree := fun k => match k with | 3 => .done (.exit 0) (EA118_k l0 a i1 l) | 9 => .done (.exit 2) (ER118_k l0 y1) | 15 => .done (.exit 4) (EC118_k l0 m i2 l) | 21 => .done (.exit 6) (ER118_k l0 y2) | _ => .done (.exit 8) (EE118_k l0 a m b n md s l)
def R118_k {κ : Kd} (a s md b n m : Nat) (l : List κ.ty) : List κ.ty := if a < s ∧ s < md then symF (ltO_k (κ := κ)) a s md (symR m s (n - s) l) else symR m s (n - s) l
def T118_k {κ : Kd} (l0 : Abs.Loc) (a m b i1 i2 n md s : Nat) (l y1 y2 : List κ.ty) : Tell :=
  Tell.mk (fun x x_1 => false)
  (fun r i =>
  match r, i with
  | 44, 5 => Orc.callw [i64 (↑md : Int), i64 (↑(n - s) : Int), i64 (↑b : Int), fnV κ.n48] (IVal.tup []) (List.map κ.e (symF (ltO_k (κ := κ)) md (n - s) b (R118_k a s md b n m l)))
  | x, x_1 => Orc.no)
  (P118_k l0 a m b i1 i2 n md s l y1 y2) (fun x => 0)
  (fun k =>
  match k with
  | 3 => ([11, 10, 4, 1, 0], [0])
  | 9 => ([13, 10, 0], [0])
  | 15 => ([15, 14, 4, 2, 0], [0])
  | 21 => ([17, 14, 0], [0])
  | x => ([22, 21, 20, 19, 18, 4, 3, 2, 1, 0], [0]))
  (ogetO
  (fun r i =>
  match r, i with
  | 44, 5 => Orc.callw [i64 (↑md : Int), i64 (↑(n - s) : Int), i64 (↑b : Int), fnV κ.n48] (IVal.tup []) (List.map κ.e (symF (ltO_k (κ := κ)) md (n - s) b (R118_k a s md b n m l)))
  | x, x_1 => Orc.no)
  [(13, 40, 5,
  Orc.callw [i64 (↑s : Int), i64 (↑m : Int), i64 (IntKind.wrap IntKind.i64 ((↑n : Int) - (↑s : Int))), fnV κ.n48] (IVal.tup [])
  (List.map κ.e
  (rot (Int.toNat (↑m : Int)) (Int.toNat (IntKind.wrap IntKind.i64 ((↑n : Int) - (↑s : Int))) - Int.toNat (↑s : Int)) (Int.toNat (↑m : Int) - Int.toNat (↑s : Int))
  (Int.toNat (IntKind.wrap IntKind.i64 ((↑n : Int) - (↑s : Int))) - Int.toNat (↑m : Int)) l))),
  (21, 42, 5, Orc.callw [i64 (↑a : Int), i64 (↑s : Int), i64 (↑md : Int), fnV κ.n48] (IVal.tup []) (List.map κ.e (symF (ltO_k (κ := κ)) (Int.toNat (↑a : Int)) (Int.toNat (↑s : Int)) (Int.toNat (↑md : Int)) l))),
  (27, 42, 5,
  Orc.callw [i64 (↑a : Int), i64 (↑s : Int), i64 (↑md : Int), fnV κ.n48] (IVal.tup [])
  (List.map κ.e
  (symF (ltO_k (κ := κ)) (Int.toNat (↑a : Int)) (Int.toNat (↑s : Int)) (Int.toNat (↑md : Int))
  (rot m (Int.toNat (IntKind.wrap IntKind.i64 ((↑n : Int) - (↑s : Int))) - s) (m - s) (Int.toNat (IntKind.wrap IntKind.i64 ((↑n : Int) - (↑s : Int))) - m) l))))])
  fun x => P118_k l0 a m b i1 i2 n md s l y1 y2
theorem t118_k {κ : Kd} (l0 : Abs.Loc) (a m b i1 i2 n md s : Nat) (l y1 y2 : List κ.ty) : levW prog κ.f118 l0 κ.n68 κ.n6 (l.map κ.e) [i64 a, i64 m, i64 b, fnV κ.n48] (T118_k l0 a m b i1 i2 n md s l y1 y2) =
  Tree.br (decide (IntKind.wrap IntKind.i64 ((↑m : Int) - (↑a : Int)) = (1 : Int)))
  (Tree.loop 3
  (LState.mk
  [(11, AVal.imm (i64 (↑b : Int))), (10, AVal.imm (i64 (↑m : Int))), (4, AVal.imm (fnV κ.n48)), (1, AVal.imm (i64 (↑a : Int))), (0, AVal.own 0 (List.length (List.map κ.e l)))]
  [(0, Entry.brow l0 κ.n68 κ.n6 (List.map κ.e l))] 220 9 [])
  (Tree.done (Exit.exit 0) (EA118_k l0 a i1 l))
  (Tree.loop 9
  (LState.mk [(13, AVal.imm (i64 (↑a : Int))), (10, AVal.imm (i64 (↑i1 : Int))), (0, AVal.own 0 (List.length l))] [(0, Entry.brow l0 κ.n68 κ.n6 (List.map κ.e l))] 220 3
  [])
  (Tree.done (Exit.exit 2) (ER118_k l0 y1)) (Tree.need (eqs []) (Tree.done Exit.ret (lretW l0 κ.n68 κ.n6 (IVal.tup []) (List.map κ.e y1))))))
  (Tree.br (decide (IntKind.wrap IntKind.i64 ((↑b : Int) - (↑m : Int)) = (1 : Int)))
  (Tree.loop 15
  (LState.mk
  [(15, AVal.imm (i64 (↑m : Int))), (14, AVal.imm (i64 (↑a : Int))), (4, AVal.imm (fnV κ.n48)), (2, AVal.imm (i64 (↑m : Int))), (0, AVal.own 0 (List.length (List.map κ.e l)))]
  [(0, Entry.brow l0 κ.n68 κ.n6 (List.map κ.e l))] 220 13 [])
  (Tree.done (Exit.exit 4) (EC118_k l0 m i2 l))
  (Tree.loop 21
  (LState.mk [(17, AVal.imm (i64 (↑m : Int))), (14, AVal.imm (i64 (↑i2 : Int))), (0, AVal.own 0 (List.length l))] [(0, Entry.brow l0 κ.n68 κ.n6 (List.map κ.e l))] 220
  3 [])
  (Tree.done (Exit.exit 6) (ER118_k l0 y2)) (Tree.need (eqs []) (Tree.done Exit.ret (lretW l0 κ.n68 κ.n6 (IVal.tup []) (List.map κ.e y2))))))
  (Tree.need ((0 : Int) ≤ (1 : Int))
  (Tree.br (decide (IntKind.wrap IntKind.i64 (Int.fdiv (IntKind.wrap IntKind.u64 (IntKind.wrap IntKind.i64 ((↑a : Int) + (↑b : Int)))) (2 : Int)) < (↑m : Int)))
  (Tree.loop 33
  (LState.mk
  [(22,
  AVal.imm
  (IVal.v
  (Value.int IntKind.i64
  (IntKind.wrap IntKind.i64 (IntKind.wrap IntKind.i64 (IntKind.wrap IntKind.i64 (Int.fdiv (IntKind.wrap IntKind.u64 (IntKind.wrap IntKind.i64 ((↑a : Int) + (↑b : Int)))) (2 : Int)) + (↑m : Int)) - (1 : Int)))))),
  (21, AVal.imm (IVal.v (Value.int IntKind.i64 (IntKind.wrap IntKind.i64 (Int.fdiv (IntKind.wrap IntKind.u64 (IntKind.wrap IntKind.i64 ((↑a : Int) + (↑b : Int)))) (2 : Int)))))),
  (20,
  AVal.imm
  (IVal.v
  (Value.int IntKind.i64
  (IntKind.wrap IntKind.i64 (IntKind.wrap IntKind.i64 (IntKind.wrap IntKind.i64 (Int.fdiv (IntKind.wrap IntKind.u64 (IntKind.wrap IntKind.i64 ((↑a : Int) + (↑b : Int)))) (2 : Int)) + (↑m : Int)) - (↑b : Int)))))),
  (19, AVal.imm (IVal.v (Value.int IntKind.i64 (IntKind.wrap IntKind.i64 (IntKind.wrap IntKind.i64 (Int.fdiv (IntKind.wrap IntKind.u64 (IntKind.wrap IntKind.i64 ((↑a : Int) + (↑b : Int)))) (2 : Int)) + (↑m : Int)))))),
  (18, AVal.imm (IVal.v (Value.int IntKind.i64 (IntKind.wrap IntKind.i64 (Int.fdiv (IntKind.wrap IntKind.u64 (IntKind.wrap IntKind.i64 ((↑a : Int) + (↑b : Int)))) (2 : Int)))))), (4, AVal.imm (fnV κ.n48)),
  (3, AVal.imm (i64 (↑b : Int))), (2, AVal.imm (i64 (↑m : Int))), (1, AVal.imm (i64 (↑a : Int))), (0, AVal.own 0 (List.length (List.map κ.e l)))]
  [(0, Entry.brow l0 κ.n68 κ.n6 (List.map κ.e l))] 220 34 [])
  (Tree.done (Exit.exit 8) (EE118_k l0 a m b n md s l))
  (Tree.br (decide ((↑s : Int) < (↑m : Int)))
  (Tree.br (decide ((↑m : Int) < IntKind.wrap IntKind.i64 ((↑n : Int) - (↑s : Int))))
  (Tree.need
  (List.length (List.map κ.e l) = List.length l ∧
  ILeL [i64 (↑s : Int), i64 (↑m : Int), IVal.v (Value.int IntKind.i64 (IntKind.wrap IntKind.i64 ((↑n : Int) - (↑s : Int)))), fnV κ.n48]
  [i64 (↑s : Int), i64 (↑m : Int), i64 (IntKind.wrap IntKind.i64 ((↑n : Int) - (↑s : Int))), fnV κ.n48] ∧
  WSpec prog κ.n123 κ.n68 κ.n6 (List.map κ.e l) [i64 (↑s : Int), i64 (↑m : Int), i64 (IntKind.wrap IntKind.i64 ((↑n : Int) - (↑s : Int))), fnV κ.n48] (IVal.tup [])
  (List.map κ.e (rot m (Int.toNat (IntKind.wrap IntKind.i64 ((↑n : Int) - (↑s : Int))) - s) (m - s) (Int.toNat (IntKind.wrap IntKind.i64 ((↑n : Int) - (↑s : Int))) - m) l)))
  (Tree.br (decide ((↑a : Int) < (↑s : Int)))
  (Tree.br (decide ((↑s : Int) < (↑md : Int)))
  (Tree.need
  (List.length (List.map κ.e (rot m (Int.toNat (IntKind.wrap IntKind.i64 ((↑n : Int) - (↑s : Int))) - s) (m - s) (Int.toNat (IntKind.wrap IntKind.i64 ((↑n : Int) - (↑s : Int))) - m) l)) = List.length l ∧
  ILeL [i64 (↑a : Int), i64 (↑s : Int), i64 (↑md : Int), fnV κ.n48] [i64 (↑a : Int), i64 (↑s : Int), i64 (↑md : Int), fnV κ.n48] ∧
  WSpec prog κ.n118 κ.n68 κ.n6
  (List.map κ.e (rot m (Int.toNat (IntKind.wrap IntKind.i64 ((↑n : Int) - (↑s : Int))) - s) (m - s) (Int.toNat (IntKind.wrap IntKind.i64 ((↑n : Int) - (↑s : Int))) - m) l))
  [i64 (↑a : Int), i64 (↑s : Int), i64 (↑md : Int), fnV κ.n48] (IVal.tup [])
  (List.map κ.e (symF (ltO_k (κ := κ)) a s md (rot m (Int.toNat (IntKind.wrap IntKind.i64 ((↑n : Int) - (↑s : Int))) - s) (m - s) (Int.toNat (IntKind.wrap IntKind.i64 ((↑n : Int) - (↑s : Int))) - m) l))))
  (Tree.br (decide ((↑md : Int) < IntKind.wrap IntKind.i64 ((↑n : Int) - (↑s : Int))))
  (Tree.br (decide (IntKind.wrap IntKind.i64 ((↑n : Int) - (↑s : Int)) < (↑b : Int)))
  (Tree.need
  (List.length (List.map κ.e (symF (ltO_k (κ := κ)) a s md (rot m (Int.toNat (IntKind.wrap IntKind.i64 ((↑n : Int) - (↑s : Int))) - s) (m - s) (Int.toNat (IntKind.wrap IntKind.i64 ((↑n : Int) - (↑s : Int))) - m) l))) =
  List.length l ∧
  ILeL [i64 (↑md : Int), IVal.v (Value.int IntKind.i64 (IntKind.wrap IntKind.i64 ((↑n : Int) - (↑s : Int)))), i64 (↑b : Int), fnV κ.n48]
  [i64 (↑md : Int), i64 (↑(n - s) : Int), i64 (↑b : Int), fnV κ.n48] ∧
  WSpec prog κ.n118 κ.n68 κ.n6
  (List.map κ.e (symF (ltO_k (κ := κ)) a s md (rot m (Int.toNat (IntKind.wrap IntKind.i64 ((↑n : Int) - (↑s : Int))) - s) (m - s) (Int.toNat (IntKind.wrap IntKind.i64 ((↑n : Int) - (↑s : Int))) - m) l)))
  [i64 (↑md : Int), i64 (↑(n - s) : Int), i64 (↑b : Int), fnV κ.n48] (IVal.tup []) (List.map κ.e (symF (ltO_k (κ := κ)) md (n - s) b (R118_k a s md b n m l))))
  (Tree.need (eqs []) (Tree.done Exit.ret (lretW l0 κ.n68 κ.n6 (IVal.tup []) (List.map κ.e (symF (ltO_k (κ := κ)) md (n - s) b (R118_k a s md b n m l)))))))
  (Tree.need (eqs [])
  (Tree.done Exit.ret
  (lretW l0 κ.n68 κ.n6 (IVal.tup [])
  (List.map κ.e (symF (ltO_k (κ := κ)) a s md (rot m (Int.toNat (IntKind.wrap IntKind.i64 ((↑n : Int) - (↑s : Int))) - s) (m - s) (Int.toNat (IntKind.wrap IntKind.i64 ((↑n : Int) - (↑s : Int))) - m) l)))))))
  (Tree.need (eqs [])
  (Tree.done Exit.ret
  (lretW l0 κ.n68 κ.n6 (IVal.tup [])
  (List.map κ.e (symF (ltO_k (κ := κ)) a s md (rot m (Int.toNat (IntKind.wrap IntKind.i64 ((↑n : Int) - (↑s : Int))) - s) (m - s) (Int.toNat (IntKind.wrap IntKind.i64 ((↑n : Int) - (↑s : Int))) - m) l))))))))
  (Tree.br (decide ((↑md : Int) < IntKind.wrap IntKind.i64 ((↑n : Int) - (↑s : Int))))
  (Tree.br (decide (IntKind.wrap IntKind.i64 ((↑n : Int) - (↑s : Int)) < (↑b : Int)))
  (Tree.need
  (List.length (List.map κ.e (rot m (Int.toNat (IntKind.wrap IntKind.i64 ((↑n : Int) - (↑s : Int))) - s) (m - s) (Int.toNat (IntKind.wrap IntKind.i64 ((↑n : Int) - (↑s : Int))) - m) l)) = List.length l ∧
  ILeL [i64 (↑md : Int), IVal.v (Value.int IntKind.i64 (IntKind.wrap IntKind.i64 ((↑n : Int) - (↑s : Int)))), i64 (↑b : Int), fnV κ.n48]
  [i64 (↑md : Int), i64 (↑(n - s) : Int), i64 (↑b : Int), fnV κ.n48] ∧
  WSpec prog κ.n118 κ.n68 κ.n6
  (List.map κ.e (rot m (Int.toNat (IntKind.wrap IntKind.i64 ((↑n : Int) - (↑s : Int))) - s) (m - s) (Int.toNat (IntKind.wrap IntKind.i64 ((↑n : Int) - (↑s : Int))) - m) l))
  [i64 (↑md : Int), i64 (↑(n - s) : Int), i64 (↑b : Int), fnV κ.n48] (IVal.tup []) (List.map κ.e (symF (ltO_k (κ := κ)) md (n - s) b (R118_k a s md b n m l))))
  (Tree.need (eqs []) (Tree.done Exit.ret (lretW l0 κ.n68 κ.n6 (IVal.tup []) (List.map κ.e (symF (ltO_k (κ := κ)) md (n - s) b (R118_k a s md b n m l)))))))
  (Tree.need (eqs [])
  (Tree.done Exit.ret
  (lretW l0 κ.n68 κ.n6 (IVal.tup [])
  (List.map κ.e (rot m (Int.toNat (IntKind.wrap IntKind.i64 ((↑n : Int) - (↑s : Int))) - s) (m - s) (Int.toNat (IntKind.wrap IntKind.i64 ((↑n : Int) - (↑s : Int))) - m) l))))))
  (Tree.need (eqs [])
  (Tree.done Exit.ret
  (lretW l0 κ.n68 κ.n6 (IVal.tup [])
  (List.map κ.e (rot m (Int.toNat (IntKind.wrap IntKind.i64 ((↑n : Int) - (↑s : Int))) - s) (m - s) (Int.toNat (IntKind.wrap IntKind.i64 ((↑n : Int) - (↑s : Int))) - m) l)))))))
  (Tree.br (decide ((↑md : Int) < IntKind.wrap IntKind.i64 ((↑n : Int) - (↑s : Int))))
  (Tree.br (decide (IntKind.wrap IntKind.i64 ((↑n : Int) - (↑s : Int)) < (↑b : Int)))
  (Tree.need
  (List.length (List.map κ.e (rot m (Int.toNat (IntKind.wrap IntKind.i64 ((↑n : Int) - (↑s : Int))) - s) (m - s) (Int.toNat (IntKind.wrap IntKind.i64 ((↑n : Int) - (↑s : Int))) - m) l)) = List.length l ∧
  ILeL [i64 (↑md : Int), IVal.v (Value.int IntKind.i64 (IntKind.wrap IntKind.i64 ((↑n : Int) - (↑s : Int)))), i64 (↑b : Int), fnV κ.n48] [i64 (↑md : Int), i64 (↑(n - s) : Int), i64 (↑b : Int), fnV κ.n48] ∧
  WSpec prog κ.n118 κ.n68 κ.n6
  (List.map κ.e (rot m (Int.toNat (IntKind.wrap IntKind.i64 ((↑n : Int) - (↑s : Int))) - s) (m - s) (Int.toNat (IntKind.wrap IntKind.i64 ((↑n : Int) - (↑s : Int))) - m) l))
  [i64 (↑md : Int), i64 (↑(n - s) : Int), i64 (↑b : Int), fnV κ.n48] (IVal.tup []) (List.map κ.e (symF (ltO_k (κ := κ)) md (n - s) b (R118_k a s md b n m l))))
  (Tree.need (eqs []) (Tree.done Exit.ret (lretW l0 κ.n68 κ.n6 (IVal.tup []) (List.map κ.e (symF (ltO_k (κ := κ)) md (n - s) b (R118_k a s md b n m l)))))))
  (Tree.need (eqs [])
  (Tree.done Exit.ret
  (lretW l0 κ.n68 κ.n6 (IVal.tup [])
  (List.map κ.e (rot m (Int.toNat (IntKind.wrap IntKind.i64 ((↑n : Int) - (↑s : Int))) - s) (m - s) (Int.toNat (IntKind.wrap IntKind.i64 ((↑n : Int) - (↑s : Int))) - m) l))))))
  (Tree.need (eqs [])
  (Tree.done Exit.ret
  (lretW l0 κ.n68 κ.n6 (IVal.tup [])
  (List.map κ.e (rot m (Int.toNat (IntKind.wrap IntKind.i64 ((↑n : Int) - (↑s : Int))) - s) (m - s) (Int.toNat (IntKind.wrap IntKind.i64 ((↑n : Int) - (↑s : Int))) - m) l))))))))
  (Tree.br (decide ((↑a : Int) < (↑s : Int)))
  (Tree.br (decide ((↑s : Int) < (↑md : Int)))
  (Tree.need
  (List.length (List.map κ.e l) = List.length l ∧
  ILeL [i64 (↑a : Int), i64 (↑s : Int), i64 (↑md : Int), fnV κ.n48] [i64 (↑a : Int), i64 (↑s : Int), i64 (↑md : Int), fnV κ.n48] ∧
  WSpec prog κ.n118 κ.n68 κ.n6 (List.map κ.e l) [i64 (↑a : Int), i64 (↑s : Int), i64 (↑md : Int), fnV κ.n48] (IVal.tup []) (List.map κ.e (symF (ltO_k (κ := κ)) a s md l)))
  (Tree.br (decide ((↑md : Int) < IntKind.wrap IntKind.i64 ((↑n : Int) - (↑s : Int))))
  (Tree.br (decide (IntKind.wrap IntKind.i64 ((↑n : Int) - (↑s : Int)) < (↑b : Int)))
  (Tree.need
  (List.length (List.map κ.e (symF (ltO_k (κ := κ)) a s md l)) = List.length l ∧
  ILeL [i64 (↑md : Int), IVal.v (Value.int IntKind.i64 (IntKind.wrap IntKind.i64 ((↑n : Int) - (↑s : Int)))), i64 (↑b : Int), fnV κ.n48]
  [i64 (↑md : Int), i64 (↑(n - s) : Int), i64 (↑b : Int), fnV κ.n48] ∧
  WSpec prog κ.n118 κ.n68 κ.n6 (List.map κ.e (symF (ltO_k (κ := κ)) a s md l)) [i64 (↑md : Int), i64 (↑(n - s) : Int), i64 (↑b : Int), fnV κ.n48] (IVal.tup [])
  (List.map κ.e (symF (ltO_k (κ := κ)) md (n - s) b (R118_k a s md b n m l))))
  (Tree.need (eqs []) (Tree.done Exit.ret (lretW l0 κ.n68 κ.n6 (IVal.tup []) (List.map κ.e (symF (ltO_k (κ := κ)) md (n - s) b (R118_k a s md b n m l)))))))
  (Tree.need (eqs []) (Tree.done Exit.ret (lretW l0 κ.n68 κ.n6 (IVal.tup []) (List.map κ.e (symF (ltO_k (κ := κ)) a s md l))))))
  (Tree.need (eqs []) (Tree.done Exit.ret (lretW l0 κ.n68 κ.n6 (IVal.tup []) (List.map κ.e (symF (ltO_k (κ := κ)) a s md l)))))))
  (Tree.br (decide ((↑md : Int) < IntKind.wrap IntKind.i64 ((↑n : Int) - (↑s : Int))))
  (Tree.br (decide (IntKind.wrap IntKind.i64 ((↑n : Int) - (↑s : Int)) < (↑b : Int)))
  (Tree.need
  (List.length (List.map κ.e l) = List.length l ∧
  ILeL [i64 (↑md : Int), IVal.v (Value.int IntKind.i64 (IntKind.wrap IntKind.i64 ((↑n : Int) - (↑s : Int)))), i64 (↑b : Int), fnV κ.n48] [i64 (↑md : Int), i64 (↑(n - s) : Int), i64 (↑b : Int), fnV κ.n48] ∧
  WSpec prog κ.n118 κ.n68 κ.n6 (List.map κ.e l) [i64 (↑md : Int), i64 (↑(n - s) : Int), i64 (↑b : Int), fnV κ.n48] (IVal.tup []) (List.map κ.e (symF (ltO_k (κ := κ)) md (n - s) b (R118_k a s md b n m l))))
  (Tree.need (eqs []) (Tree.done Exit.ret (lretW l0 κ.n68 κ.n6 (IVal.tup []) (List.map κ.e (symF (ltO_k (κ := κ)) md (n - s) b (R118_k a s md b n m l)))))))
  (Tree.need (eqs []) (Tree.done Exit.ret (lretW l0 κ.n68 κ.n6 (IVal.tup []) (List.map κ.e l)))))
  (Tree.need (eqs []) (Tree.done Exit.ret (lretW l0 κ.n68 κ.n6 (IVal.tup []) (List.map κ.e l))))))
  (Tree.br (decide ((↑md : Int) < IntKind.wrap IntKind.i64 ((↑n : Int) - (↑s : Int))))
  (Tree.br (decide (IntKind.wrap IntKind.i64 ((↑n : Int) - (↑s : Int)) < (↑b : Int)))
  (Tree.need
  (List.length (List.map κ.e l) = List.length l ∧
  ILeL [i64 (↑md : Int), IVal.v (Value.int IntKind.i64 (IntKind.wrap IntKind.i64 ((↑n : Int) - (↑s : Int)))), i64 (↑b : Int), fnV κ.n48] [i64 (↑md : Int), i64 (↑(n - s) : Int), i64 (↑b : Int), fnV κ.n48] ∧
  WSpec prog κ.n118 κ.n68 κ.n6 (List.map κ.e l) [i64 (↑md : Int), i64 (↑(n - s) : Int), i64 (↑b : Int), fnV κ.n48] (IVal.tup []) (List.map κ.e (symF (ltO_k (κ := κ)) md (n - s) b (R118_k a s md b n m l))))
  (Tree.need (eqs []) (Tree.done Exit.ret (lretW l0 κ.n68 κ.n6 (IVal.tup []) (List.map κ.e (symF (ltO_k (κ := κ)) md (n - s) b (R118_k a s md b n m l)))))))
  (Tree.need (eqs []) (Tree.done Exit.ret (lretW l0 κ.n68 κ.n6 (IVal.tup []) (List.map κ.e l)))))
  (Tree.need (eqs []) (Tree.done Exit.ret (lretW l0 κ.n68 κ.n6 (IVal.tup []) (List.map κ.e l)))))))
  (Tree.br (decide ((↑a : Int) < (↑s : Int)))
  (Tree.br (decide ((↑s : Int) < (↑md : Int)))
  (Tree.need
  (List.length (List.map κ.e l) = List.length l ∧
  ILeL [i64 (↑a : Int), i64 (↑s : Int), i64 (↑md : Int), fnV κ.n48] [i64 (↑a : Int), i64 (↑s : Int), i64 (↑md : Int), fnV κ.n48] ∧
  WSpec prog κ.n118 κ.n68 κ.n6 (List.map κ.e l) [i64 (↑a : Int), i64 (↑s : Int), i64 (↑md : Int), fnV κ.n48] (IVal.tup []) (List.map κ.e (symF (ltO_k (κ := κ)) a s md l)))
  (Tree.br (decide ((↑md : Int) < IntKind.wrap IntKind.i64 ((↑n : Int) - (↑s : Int))))
  (Tree.br (decide (IntKind.wrap IntKind.i64 ((↑n : Int) - (↑s : Int)) < (↑b : Int)))
  (Tree.need
  (List.length (List.map κ.e (symF (ltO_k (κ := κ)) a s md l)) = List.length l ∧
  ILeL [i64 (↑md : Int), IVal.v (Value.int IntKind.i64 (IntKind.wrap IntKind.i64 ((↑n : Int) - (↑s : Int)))), i64 (↑b : Int), fnV κ.n48] [i64 (↑md : Int), i64 (↑(n - s) : Int), i64 (↑b : Int), fnV κ.n48] ∧
  WSpec prog κ.n118 κ.n68 κ.n6 (List.map κ.e (symF (ltO_k (κ := κ)) a s md l)) [i64 (↑md : Int), i64 (↑(n - s) : Int), i64 (↑b : Int), fnV κ.n48] (IVal.tup [])
  (List.map κ.e (symF (ltO_k (κ := κ)) md (n - s) b (R118_k a s md b n m l))))
  (Tree.need (eqs []) (Tree.done Exit.ret (lretW l0 κ.n68 κ.n6 (IVal.tup []) (List.map κ.e (symF (ltO_k (κ := κ)) md (n - s) b (R118_k a s md b n m l)))))))
  (Tree.need (eqs []) (Tree.done Exit.ret (lretW l0 κ.n68 κ.n6 (IVal.tup []) (List.map κ.e (symF (ltO_k (κ := κ)) a s md l))))))
  (Tree.need (eqs []) (Tree.done Exit.ret (lretW l0 κ.n68 κ.n6 (IVal.tup []) (List.map κ.e (symF (ltO_k (κ := κ)) a s md l)))))))
  (Tree.br (decide ((↑md : Int) < IntKind.wrap IntKind.i64 ((↑n : Int) - (↑s : Int))))
  (Tree.br (decide (IntKind.wrap IntKind.i64 ((↑n : Int) - (↑s : Int)) < (↑b : Int)))
  (Tree.need
  (List.length (List.map κ.e l) = List.length l ∧
  ILeL [i64 (↑md : Int), IVal.v (Value.int IntKind.i64 (IntKind.wrap IntKind.i64 ((↑n : Int) - (↑s : Int)))), i64 (↑b : Int), fnV κ.n48] [i64 (↑md : Int), i64 (↑(n - s) : Int), i64 (↑b : Int), fnV κ.n48] ∧
  WSpec prog κ.n118 κ.n68 κ.n6 (List.map κ.e l) [i64 (↑md : Int), i64 (↑(n - s) : Int), i64 (↑b : Int), fnV κ.n48] (IVal.tup []) (List.map κ.e (symF (ltO_k (κ := κ)) md (n - s) b (R118_k a s md b n m l))))
  (Tree.need (eqs []) (Tree.done Exit.ret (lretW l0 κ.n68 κ.n6 (IVal.tup []) (List.map κ.e (symF (ltO_k (κ := κ)) md (n - s) b (R118_k a s md b n m l)))))))
  (Tree.need (eqs []) (Tree.done Exit.ret (lretW l0 κ.n68 κ.n6 (IVal.tup []) (List.map κ.e l)))))
  (Tree.need (eqs []) (Tree.done Exit.ret (lretW l0 κ.n68 κ.n6 (IVal.tup []) (List.map κ.e l))))))
  (Tree.br (decide ((↑md : Int) < IntKind.wrap IntKind.i64 ((↑n : Int) - (↑s : Int))))
  (Tree.br (decide (IntKind.wrap IntKind.i64 ((↑n : Int) - (↑s : Int)) < (↑b : Int)))
  (Tree.need
  (List.length (List.map κ.e l) = List.length l ∧
  ILeL [i64 (↑md : Int), IVal.v (Value.int IntKind.i64 (IntKind.wrap IntKind.i64 ((↑n : Int) - (↑s : Int)))), i64 (↑b : Int), fnV κ.n48] [i64 (↑md : Int), i64 (↑(n - s) : Int), i64 (↑b : Int), fnV κ.n48] ∧
  WSpec prog κ.n118 κ.n68 κ.n6 (List.map κ.e l) [i64 (↑md : Int), i64 (↑(n - s) : Int), i64 (↑b : Int), fnV κ.n48] (IVal.tup []) (List.map κ.e (symF (ltO_k (κ := κ)) md (n - s) b (R118_k a s md b n m l))))
  (Tree.need (eqs []) (Tree.done Exit.ret (lretW l0 κ.n68 κ.n6 (IVal.tup []) (List.map κ.e (symF (ltO_k (κ := κ)) md (n - s) b (R118_k a s md b n m l)))))))
  (Tree.need (eqs []) (Tree.done Exit.ret (lretW l0 κ.n68 κ.n6 (IVal.tup []) (List.map κ.e l)))))
  (Tree.need (eqs []) (Tree.done Exit.ret (lretW l0 κ.n68 κ.n6 (IVal.tup []) (List.map κ.e l))))))))
  (Tree.loop 33
  (LState.mk
  [(22,
  AVal.imm
  (IVal.v
  (Value.int IntKind.i64
  (IntKind.wrap IntKind.i64 (IntKind.wrap IntKind.i64 (IntKind.wrap IntKind.i64 (Int.fdiv (IntKind.wrap IntKind.u64 (IntKind.wrap IntKind.i64 ((↑a : Int) + (↑b : Int)))) (2 : Int)) + (↑m : Int)) - (1 : Int)))))),
  (21, AVal.imm (i64 (↑m : Int))), (20, AVal.imm (i64 (↑a : Int))),
  (19, AVal.imm (IVal.v (Value.int IntKind.i64 (IntKind.wrap IntKind.i64 (IntKind.wrap IntKind.i64 (Int.fdiv (IntKind.wrap IntKind.u64 (IntKind.wrap IntKind.i64 ((↑a : Int) + (↑b : Int)))) (2 : Int)) + (↑m : Int)))))),
  (18, AVal.imm (IVal.v (Value.int IntKind.i64 (IntKind.wrap IntKind.i64 (Int.fdiv (IntKind.wrap IntKind.u64 (IntKind.wrap IntKind.i64 ((↑a : Int) + (↑b : Int)))) (2 : Int)))))), (4, AVal.imm (fnV κ.n48)),
  (3, AVal.imm (i64 (↑b : Int))), (2, AVal.imm (i64 (↑m : Int))), (1, AVal.imm (i64 (↑a : Int))), (0, AVal.own 0 (List.length (List.map κ.e l)))]
  [(0, Entry.brow l0 κ.n68 κ.n6 (List.map κ.e l))] 220 32 [])
  (Tree.done (Exit.exit 8) (EE118_k l0 a m b n md s l))
  (Tree.br (decide ((↑s : Int) < (↑m : Int)))
  (Tree.br (decide ((↑m : Int) < IntKind.wrap IntKind.i64 ((↑n : Int) - (↑s : Int))))
  (Tree.need
  (List.length (List.map κ.e l) = List.length l ∧
  ILeL [i64 (↑s : Int), i64 (↑m : Int), IVal.v (Value.int IntKind.i64 (IntKind.wrap IntKind.i64 ((↑n : Int) - (↑s : Int)))), fnV κ.n48]
  [i64 (↑s : Int), i64 (↑m : Int), i64 (IntKind.wrap IntKind.i64 ((↑n : Int) - (↑s : Int))), fnV κ.n48] ∧
  WSpec prog κ.n123 κ.n68 κ.n6 (List.map κ.e l) [i64 (↑s : Int), i64 (↑m : Int), i64 (IntKind.wrap IntKind.i64 ((↑n : Int) - (↑s : Int))), fnV κ.n48] (IVal.tup [])
  (List.map κ.e (rot m (Int.toNat (IntKind.wrap IntKind.i64 ((↑n : Int) - (↑s : Int))) - s) (m - s) (Int.toNat (IntKind.wrap IntKind.i64 ((↑n : Int) - (↑s : Int))) - m) l)))
  (Tree.br (decide ((↑a : Int) < (↑s : Int)))
  (Tree.br (decide ((↑s : Int) < (↑md : Int)))
  (Tree.need
  (List.length (List.map κ.e (rot m (Int.toNat (IntKind.wrap IntKind.i64 ((↑n : Int) - (↑s : Int))) - s) (m - s) (Int.toNat (IntKind.wrap IntKind.i64 ((↑n : Int) - (↑s : Int))) - m) l)) = List.length l ∧
  ILeL [i64 (↑a : Int), i64 (↑s : Int), i64 (↑md : Int), fnV κ.n48] [i64 (↑a : Int), i64 (↑s : Int), i64 (↑md : Int), fnV κ.n48] ∧
  WSpec prog κ.n118 κ.n68 κ.n6
  (List.map κ.e (rot m (Int.toNat (IntKind.wrap IntKind.i64 ((↑n : Int) - (↑s : Int))) - s) (m - s) (Int.toNat (IntKind.wrap IntKind.i64 ((↑n : Int) - (↑s : Int))) - m) l))
  [i64 (↑a : Int), i64 (↑s : Int), i64 (↑md : Int), fnV κ.n48] (IVal.tup [])
  (List.map κ.e (symF (ltO_k (κ := κ)) a s md (rot m (Int.toNat (IntKind.wrap IntKind.i64 ((↑n : Int) - (↑s : Int))) - s) (m - s) (Int.toNat (IntKind.wrap IntKind.i64 ((↑n : Int) - (↑s : Int))) - m) l))))
  (Tree.br (decide ((↑md : Int) < IntKind.wrap IntKind.i64 ((↑n : Int) - (↑s : Int))))
  (Tree.br (decide (IntKind.wrap IntKind.i64 ((↑n : Int) - (↑s : Int)) < (↑b : Int)))
  (Tree.need
  (List.length (List.map κ.e (symF (ltO_k (κ := κ)) a s md (rot m (Int.toNat (IntKind.wrap IntKind.i64 ((↑n : Int) - (↑s : Int))) - s) (m - s) (Int.toNat (IntKind.wrap IntKind.i64 ((↑n : Int) - (↑s : Int))) - m) l))) =
  List.length l ∧
  ILeL [i64 (↑md : Int), IVal.v (Value.int IntKind.i64 (IntKind.wrap IntKind.i64 ((↑n : Int) - (↑s : Int)))), i64 (↑b : Int), fnV κ.n48]
  [i64 (↑md : Int), i64 (↑(n - s) : Int), i64 (↑b : Int), fnV κ.n48] ∧
  WSpec prog κ.n118 κ.n68 κ.n6
  (List.map κ.e (symF (ltO_k (κ := κ)) a s md (rot m (Int.toNat (IntKind.wrap IntKind.i64 ((↑n : Int) - (↑s : Int))) - s) (m - s) (Int.toNat (IntKind.wrap IntKind.i64 ((↑n : Int) - (↑s : Int))) - m) l)))
  [i64 (↑md : Int), i64 (↑(n - s) : Int), i64 (↑b : Int), fnV κ.n48] (IVal.tup []) (List.map κ.e (symF (ltO_k (κ := κ)) md (n - s) b (R118_k a s md b n m l))))
  (Tree.need (eqs []) (Tree.done Exit.ret (lretW l0 κ.n68 κ.n6 (IVal.tup []) (List.map κ.e (symF (ltO_k (κ := κ)) md (n - s) b (R118_k a s md b n m l)))))))
  (Tree.need (eqs [])
  (Tree.done Exit.ret
  (lretW l0 κ.n68 κ.n6 (IVal.tup [])
  (List.map κ.e (symF (ltO_k (κ := κ)) a s md (rot m (Int.toNat (IntKind.wrap IntKind.i64 ((↑n : Int) - (↑s : Int))) - s) (m - s) (Int.toNat (IntKind.wrap IntKind.i64 ((↑n : Int) - (↑s : Int))) - m) l)))))))
  (Tree.need (eqs [])
  (Tree.done Exit.ret
  (lretW l0 κ.n68 κ.n6 (IVal.tup [])
  (List.map κ.e (symF (ltO_k (κ := κ)) a s md (rot m (Int.toNat (IntKind.wrap IntKind.i64 ((↑n : Int) - (↑s : Int))) - s) (m - s) (Int.toNat (IntKind.wrap IntKind.i64 ((↑n : Int) - (↑s : Int))) - m) l))))))))
  (Tree.br (decide ((↑md : Int) < IntKind.wrap IntKind.i64 ((↑n : Int) - (↑s : Int))))
  (Tree.br (decide (IntKind.wrap IntKind.i64 ((↑n : Int) - (↑s : Int)) < (↑b : Int)))
  (Tree.need
  (List.length (List.map κ.e (rot m (Int.toNat (IntKind.wrap IntKind.i64 ((↑n : Int) - (↑s : Int))) - s) (m - s) (Int.toNat (IntKind.wrap IntKind.i64 ((↑n : Int) - (↑s : Int))) - m) l)) = List.length l ∧
  ILeL [i64 (↑md : Int), IVal.v (Value.int IntKind.i64 (IntKind.wrap IntKind.i64 ((↑n : Int) - (↑s : Int)))), i64 (↑b : Int), fnV κ.n48]
  [i64 (↑md : Int), i64 (↑(n - s) : Int), i64 (↑b : Int), fnV κ.n48] ∧
  WSpec prog κ.n118 κ.n68 κ.n6
  (List.map κ.e (rot m (Int.toNat (IntKind.wrap IntKind.i64 ((↑n : Int) - (↑s : Int))) - s) (m - s) (Int.toNat (IntKind.wrap IntKind.i64 ((↑n : Int) - (↑s : Int))) - m) l))
  [i64 (↑md : Int), i64 (↑(n - s) : Int), i64 (↑b : Int), fnV κ.n48] (IVal.tup []) (List.map κ.e (symF (ltO_k (κ := κ)) md (n - s) b (R118_k a s md b n m l))))
  (Tree.need (eqs []) (Tree.done Exit.ret (lretW l0 κ.n68 κ.n6 (IVal.tup []) (List.map κ.e (symF (ltO_k (κ := κ)) md (n - s) b (R118_k a s md b n m l)))))))
  (Tree.need (eqs [])
  (Tree.done Exit.ret
  (lretW l0 κ.n68 κ.n6 (IVal.tup [])
  (List.map κ.e (rot m (Int.toNat (IntKind.wrap IntKind.i64 ((↑n : Int) - (↑s : Int))) - s) (m - s) (Int.toNat (IntKind.wrap IntKind.i64 ((↑n : Int) - (↑s : Int))) - m) l))))))
  (Tree.need (eqs [])
  (Tree.done Exit.ret
  (lretW l0 κ.n68 κ.n6 (IVal.tup [])
  (List.map κ.e (rot m (Int.toNat (IntKind.wrap IntKind.i64 ((↑n : Int) - (↑s : Int))) - s) (m - s) (Int.toNat (IntKind.wrap IntKind.i64 ((↑n : Int) - (↑s : Int))) - m) l)))))))
  (Tree.br (decide ((↑md : Int) < IntKind.wrap IntKind.i64 ((↑n : Int) - (↑s : Int))))
  (Tree.br (decide (IntKind.wrap IntKind.i64 ((↑n : Int) - (↑s : Int)) < (↑b : Int)))
  (Tree.need
  (List.length (List.map κ.e (rot m (Int.toNat (IntKind.wrap IntKind.i64 ((↑n : Int) - (↑s : Int))) - s) (m - s) (Int.toNat (IntKind.wrap IntKind.i64 ((↑n : Int) - (↑s : Int))) - m) l)) = List.length l ∧
  ILeL [i64 (↑md : Int), IVal.v (Value.int IntKind.i64 (IntKind.wrap IntKind.i64 ((↑n : Int) - (↑s : Int)))), i64 (↑b : Int), fnV κ.n48] [i64 (↑md : Int), i64 (↑(n - s) : Int), i64 (↑b : Int), fnV κ.n48] ∧
  WSpec prog κ.n118 κ.n68 κ.n6
  (List.map κ.e (rot m (Int.toNat (IntKind.wrap IntKind.i64 ((↑n : Int) - (↑s : Int))) - s) (m - s) (Int.toNat (IntKind.wrap IntKind.i64 ((↑n : Int) - (↑s : Int))) - m) l))
  [i64 (↑md : Int), i64 (↑(n - s) : Int), i64 (↑b : Int), fnV κ.n48] (IVal.tup []) (List.map κ.e (symF (ltO_k (κ := κ)) md (n - s) b (R118_k a s md b n m l))))
  (Tree.need (eqs []) (Tree.done Exit.ret (lretW l0 κ.n68 κ.n6 (IVal.tup []) (List.map κ.e (symF (ltO_k (κ := κ)) md (n - s) b (R118_k a s md b n m l)))))))
  (Tree.need (eqs [])
  (Tree.done Exit.ret
  (lretW l0 κ.n68 κ.n6 (IVal.tup [])
  (List.map κ.e (rot m (Int.toNat (IntKind.wrap IntKind.i64 ((↑n : Int) - (↑s : Int))) - s) (m - s) (Int.toNat (IntKind.wrap IntKind.i64 ((↑n : Int) - (↑s : Int))) - m) l))))))
  (Tree.need (eqs [])
  (Tree.done Exit.ret
  (lretW l0 κ.n68 κ.n6 (IVal.tup [])
  (List.map κ.e (rot m (Int.toNat (IntKind.wrap IntKind.i64 ((↑n : Int) - (↑s : Int))) - s) (m - s) (Int.toNat (IntKind.wrap IntKind.i64 ((↑n : Int) - (↑s : Int))) - m) l))))))))
  (Tree.br (decide ((↑a : Int) < (↑s : Int)))
  (Tree.br (decide ((↑s : Int) < (↑md : Int)))
  (Tree.need
  (List.length (List.map κ.e l) = List.length l ∧
  ILeL [i64 (↑a : Int), i64 (↑s : Int), i64 (↑md : Int), fnV κ.n48] [i64 (↑a : Int), i64 (↑s : Int), i64 (↑md : Int), fnV κ.n48] ∧
  WSpec prog κ.n118 κ.n68 κ.n6 (List.map κ.e l) [i64 (↑a : Int), i64 (↑s : Int), i64 (↑md : Int), fnV κ.n48] (IVal.tup []) (List.map κ.e (symF (ltO_k (κ := κ)) a s md l)))
  (Tree.br (decide ((↑md : Int) < IntKind.wrap IntKind.i64 ((↑n : Int) - (↑s : Int))))
  (Tree.br (decide (IntKind.wrap IntKind.i64 ((↑n : Int) - (↑s : Int)) < (↑b : Int)))
  (Tree.need
  (List.length (List.map κ.e (symF (ltO_k (κ := κ)) a s md l)) = List.length l ∧
  ILeL [i64 (↑md : Int), IVal.v (Value.int IntKind.i64 (IntKind.wrap IntKind.i64 ((↑n : Int) - (↑s : Int)))), i64 (↑b : Int), fnV κ.n48]
  [i64 (↑md : Int), i64 (↑(n - s) : Int), i64 (↑b : Int), fnV κ.n48] ∧
  WSpec prog κ.n118 κ.n68 κ.n6 (List.map κ.e (symF (ltO_k (κ := κ)) a s md l)) [i64 (↑md : Int), i64 (↑(n - s) : Int), i64 (↑b : Int), fnV κ.n48] (IVal.tup [])
  (List.map κ.e (symF (ltO_k (κ := κ)) md (n - s) b (R118_k a s md b n m l))))
  (Tree.need (eqs []) (Tree.done Exit.ret (lretW l0 κ.n68 κ.n6 (IVal.tup []) (List.map κ.e (symF (ltO_k (κ := κ)) md (n - s) b (R118_k a s md b n m l)))))))
  (Tree.need (eqs []) (Tree.done Exit.ret (lretW l0 κ.n68 κ.n6 (IVal.tup []) (List.map κ.e (symF (ltO_k (κ := κ)) a s md l))))))
  (Tree.need (eqs []) (Tree.done Exit.ret (lretW l0 κ.n68 κ.n6 (IVal.tup []) (List.map κ.e (symF (ltO_k (κ := κ)) a s md l)))))))
  (Tree.br (decide ((↑md : Int) < IntKind.wrap IntKind.i64 ((↑n : Int) - (↑s : Int))))
  (Tree.br (decide (IntKind.wrap IntKind.i64 ((↑n : Int) - (↑s : Int)) < (↑b : Int)))
  (Tree.need
  (List.length (List.map κ.e l) = List.length l ∧
  ILeL [i64 (↑md : Int), IVal.v (Value.int IntKind.i64 (IntKind.wrap IntKind.i64 ((↑n : Int) - (↑s : Int)))), i64 (↑b : Int), fnV κ.n48] [i64 (↑md : Int), i64 (↑(n - s) : Int), i64 (↑b : Int), fnV κ.n48] ∧
  WSpec prog κ.n118 κ.n68 κ.n6 (List.map κ.e l) [i64 (↑md : Int), i64 (↑(n - s) : Int), i64 (↑b : Int), fnV κ.n48] (IVal.tup []) (List.map κ.e (symF (ltO_k (κ := κ)) md (n - s) b (R118_k a s md b n m l))))
  (Tree.need (eqs []) (Tree.done Exit.ret (lretW l0 κ.n68 κ.n6 (IVal.tup []) (List.map κ.e (symF (ltO_k (κ := κ)) md (n - s) b (R118_k a s md b n m l)))))))
  (Tree.need (eqs []) (Tree.done Exit.ret (lretW l0 κ.n68 κ.n6 (IVal.tup []) (List.map κ.e l)))))
  (Tree.need (eqs []) (Tree.done Exit.ret (lretW l0 κ.n68 κ.n6 (IVal.tup []) (List.map κ.e l))))))
  (Tree.br (decide ((↑md : Int) < IntKind.wrap IntKind.i64 ((↑n : Int) - (↑s : Int))))
  (Tree.br (decide (IntKind.wrap IntKind.i64 ((↑n : Int) - (↑s : Int)) < (↑b : Int)))
  (Tree.need
  (List.length (List.map κ.e l) = List.length l ∧
  ILeL [i64 (↑md : Int), IVal.v (Value.int IntKind.i64 (IntKind.wrap IntKind.i64 ((↑n : Int) - (↑s : Int)))), i64 (↑b : Int), fnV κ.n48] [i64 (↑md : Int), i64 (↑(n - s) : Int), i64 (↑b : Int), fnV κ.n48] ∧
  WSpec prog κ.n118 κ.n68 κ.n6 (List.map κ.e l) [i64 (↑md : Int), i64 (↑(n - s) : Int), i64 (↑b : Int), fnV κ.n48] (IVal.tup []) (List.map κ.e (symF (ltO_k (κ := κ)) md (n - s) b (R118_k a s md b n m l))))
  (Tree.need (eqs []) (Tree.done Exit.ret (lretW l0 κ.n68 κ.n6 (IVal.tup []) (List.map κ.e (symF (ltO_k (κ := κ)) md (n - s) b (R118_k a s md b n m l)))))))
  (Tree.need (eqs []) (Tree.done Exit.ret (lretW l0 κ.n68 κ.n6 (IVal.tup []) (List.map κ.e l)))))
  (Tree.need (eqs []) (Tree.done Exit.ret (lretW l0 κ.n68 κ.n6 (IVal.tup []) (List.map κ.e l)))))))
  (Tree.br (decide ((↑a : Int) < (↑s : Int)))
  (Tree.br (decide ((↑s : Int) < (↑md : Int)))
  (Tree.need
  (List.length (List.map κ.e l) = List.length l ∧
  ILeL [i64 (↑a : Int), i64 (↑s : Int), i64 (↑md : Int), fnV κ.n48] [i64 (↑a : Int), i64 (↑s : Int), i64 (↑md : Int), fnV κ.n48] ∧
  WSpec prog κ.n118 κ.n68 κ.n6 (List.map κ.e l) [i64 (↑a : Int), i64 (↑s : Int), i64 (↑md : Int), fnV κ.n48] (IVal.tup []) (List.map κ.e (symF (ltO_k (κ := κ)) a s md l)))
  (Tree.br (decide ((↑md : Int) < IntKind.wrap IntKind.i64 ((↑n : Int) - (↑s : Int))))
  (Tree.br (decide (IntKind.wrap IntKind.i64 ((↑n : Int) - (↑s : Int)) < (↑b : Int)))
  (Tree.need
  (List.length (List.map κ.e (symF (ltO_k (κ := κ)) a s md l)) = List.length l ∧
  ILeL [i64 (↑md : Int), IVal.v (Value.int IntKind.i64 (IntKind.wrap IntKind.i64 ((↑n : Int) - (↑s : Int)))), i64 (↑b : Int), fnV κ.n48] [i64 (↑md : Int), i64 (↑(n - s) : Int), i64 (↑b : Int), fnV κ.n48] ∧
  WSpec prog κ.n118 κ.n68 κ.n6 (List.map κ.e (symF (ltO_k (κ := κ)) a s md l)) [i64 (↑md : Int), i64 (↑(n - s) : Int), i64 (↑b : Int), fnV κ.n48] (IVal.tup [])
  (List.map κ.e (symF (ltO_k (κ := κ)) md (n - s) b (R118_k a s md b n m l))))
  (Tree.need (eqs []) (Tree.done Exit.ret (lretW l0 κ.n68 κ.n6 (IVal.tup []) (List.map κ.e (symF (ltO_k (κ := κ)) md (n - s) b (R118_k a s md b n m l)))))))
  (Tree.need (eqs []) (Tree.done Exit.ret (lretW l0 κ.n68 κ.n6 (IVal.tup []) (List.map κ.e (symF (ltO_k (κ := κ)) a s md l))))))
  (Tree.need (eqs []) (Tree.done Exit.ret (lretW l0 κ.n68 κ.n6 (IVal.tup []) (List.map κ.e (symF (ltO_k (κ := κ)) a s md l)))))))
  (Tree.br (decide ((↑md : Int) < IntKind.wrap IntKind.i64 ((↑n : Int) - (↑s : Int))))
  (Tree.br (decide (IntKind.wrap IntKind.i64 ((↑n : Int) - (↑s : Int)) < (↑b : Int)))
  (Tree.need
  (List.length (List.map κ.e l) = List.length l ∧
  ILeL [i64 (↑md : Int), IVal.v (Value.int IntKind.i64 (IntKind.wrap IntKind.i64 ((↑n : Int) - (↑s : Int)))), i64 (↑b : Int), fnV κ.n48] [i64 (↑md : Int), i64 (↑(n - s) : Int), i64 (↑b : Int), fnV κ.n48] ∧
  WSpec prog κ.n118 κ.n68 κ.n6 (List.map κ.e l) [i64 (↑md : Int), i64 (↑(n - s) : Int), i64 (↑b : Int), fnV κ.n48] (IVal.tup []) (List.map κ.e (symF (ltO_k (κ := κ)) md (n - s) b (R118_k a s md b n m l))))
  (Tree.need (eqs []) (Tree.done Exit.ret (lretW l0 κ.n68 κ.n6 (IVal.tup []) (List.map κ.e (symF (ltO_k (κ := κ)) md (n - s) b (R118_k a s md b n m l)))))))
  (Tree.need (eqs []) (Tree.done Exit.ret (lretW l0 κ.n68 κ.n6 (IVal.tup []) (List.map κ.e l)))))
  (Tree.need (eqs []) (Tree.done Exit.ret (lretW l0 κ.n68 κ.n6 (IVal.tup []) (List.map κ.e l))))))
  (Tree.br (decide ((↑md : Int) < IntKind.wrap IntKind.i64 ((↑n : Int) - (↑s : Int))))
  (Tree.br (decide (IntKind.wrap IntKind.i64 ((↑n : Int) - (↑s : Int)) < (↑b : Int)))
  (Tree.need
  (List.length (List.map κ.e l) = List.length l ∧
  ILeL [i64 (↑md : Int), IVal.v (Value.int IntKind.i64 (IntKind.wrap IntKind.i64 ((↑n : Int) - (↑s : Int)))), i64 (↑b : Int), fnV κ.n48] [i64 (↑md : Int), i64 (↑(n - s) : Int), i64 (↑b : Int), fnV κ.n48] ∧
  WSpec prog κ.n118 κ.n68 κ.n6 (List.map κ.e l) [i64 (↑md : Int), i64 (↑(n - s) : Int), i64 (↑b : Int), fnV κ.n48] (IVal.tup []) (List.map κ.e (symF (ltO_k (κ := κ)) md (n - s) b (R118_k a s md b n m l))))
  (Tree.need (eqs []) (Tree.done Exit.ret (lretW l0 κ.n68 κ.n6 (IVal.tup []) (List.map κ.e (symF (ltO_k (κ := κ)) md (n - s) b (R118_k a s md b n m l)))))))
  (Tree.need (eqs []) (Tree.done Exit.ret (lretW l0 κ.n68 κ.n6 (IVal.tup []) (List.map κ.e l)))))
  (Tree.need (eqs []) (Tree.done Exit.ret (lretW l0 κ.n68 κ.n6 (IVal.tup []) (List.map κ.e l))))))))))) := by cases κ <;> kernel_rfl
end Gp
