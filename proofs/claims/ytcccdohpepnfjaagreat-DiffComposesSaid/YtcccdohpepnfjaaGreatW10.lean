/- PROVED HERE: the statement DiffComposesSaid: whatever comes in, the law returns true and each argument reads as before. No condition. -/
import Derived.Test.YtcccdohpepnfjaaGreatW9
set_option maxRecDepth 100000
set_option maxHeartbeats 0
set_option linter.unusedVariables false
set_option linter.unusedSimpArgs false
open Go Go.Abs
namespace Gp
theorem i64_pre {i : Nat} (h : i < 2 ^ 62) : IntKind.i64.wrap (((i + 1 : Nat) : Int) - 1) = (i : Int) := by rw [IntWalk.i64_in _ (by omega)]; omega
def P32a (p : Payload) (i : Nat) : Bool := decide (p.origins.getD (i + 1) default = p.origins.getD i default)
def I32a (p : Payload) (i : Nat) : LState := { t := [(3, .imm (i64 ((i + 1 : Nat) : Int))), (1, .ptr 0 0)], s := [(0, .box 26 (.imm (encL p)))], m := 65, n := 1 }
def R32a (p : Payload) (i : Nat) : LState := { t := [(2, .imm (bo true))], s := [], m := 65, n := 1 }
def E32a (p : Payload) : LState := { t := [(1, .ptr 0 0)], s := [(0, .box 26 (.imm (encL p)))], m := 65, n := 1 }
def fin32a : Exit → Fin
  | .normal => ⟨[], [3, 1], [0]⟩
  | .ret => ⟨[], [2], []⟩
  | _ => ⟨[], [1], [0]⟩
def L32a (p : Payload) : Tree := Lfirst (P32a p) (p.origins.length - 1) 0 (R32a p) (E32a p)
def T32ar (p : Payload) (i : Nat) : Tell :=
  Tell.mk (fun x x_1 => false) (fun x x_1 => Orc.no) (fun x => Tree.fail 1000003 0) (fun x => 0) (fun x => ([], []))
  (oget
  [(6, 4, 3, Orc.elem (encO (List.getD p.origins (i + 1) default))),
  (6, 4, 9, Orc.elem (encO (List.getD p.origins (Int.toNat (IntKind.wrap IntKind.i64 ((↑(i + 1) : Int) - (1 : Int)))) default)))])
  fun x x_1 => Tree.fail 1000003 0
theorem t32ar (p : Payload) (i : Nat) : levL prog Proofs.Tryz.f32 2 (I32a p i) (T32ar p i) fin32a =
  Tree.br (decide ((↑(i + 1) : Int) < (↑(List.length (List.map encO p.origins)) : Int)))
  (Tree.need ((0 : Int) ≤ (↑(i + 1) : Int) ∧ (List.map encO p.origins)[i + 1]? = some (encO (List.getD p.origins (i + 1) default)))
  (Tree.need
  ((0 : Int) ≤ IntKind.wrap IntKind.i64 ((↑(i + 1) : Int) - (1 : Int)) ∧
  (List.map encO p.origins)[Int.toNat (IntKind.wrap IntKind.i64 ((↑(i + 1) : Int) - (1 : Int)))]? = some (encO (List.getD p.origins (Int.toNat (IntKind.wrap IntKind.i64 ((↑(i + 1) : Int) - (1 : Int)))) default)))
  (Tree.br
  (if BinOp.eql = BinOp.neq then
  !(decide ((List.getD p.origins (i + 1) default).asn = (List.getD p.origins (Int.toNat (IntKind.wrap IntKind.i64 ((↑(i + 1) : Int) - (1 : Int)))) default).asn) &&
  (decide ((List.getD p.origins (i + 1) default).pfx.fam = (List.getD p.origins (Int.toNat (IntKind.wrap IntKind.i64 ((↑(i + 1) : Int) - (1 : Int)))) default).pfx.fam) &&
  (decide ((List.getD p.origins (i + 1) default).pfx.addr.hi = (List.getD p.origins (Int.toNat (IntKind.wrap IntKind.i64 ((↑(i + 1) : Int) - (1 : Int)))) default).pfx.addr.hi) &&
  (decide ((List.getD p.origins (i + 1) default).pfx.addr.lo = (List.getD p.origins (Int.toNat (IntKind.wrap IntKind.i64 ((↑(i + 1) : Int) - (1 : Int)))) default).pfx.addr.lo) &&
  (decide ((List.getD p.origins (i + 1) default).pfx.len = (List.getD p.origins (Int.toNat (IntKind.wrap IntKind.i64 ((↑(i + 1) : Int) - (1 : Int)))) default).pfx.len) &&
  (decide ((List.getD p.origins (i + 1) default).max = (List.getD p.origins (Int.toNat (IntKind.wrap IntKind.i64 ((↑(i + 1) : Int) - (1 : Int)))) default).max) && true))))))
  else
  decide ((List.getD p.origins (i + 1) default).asn = (List.getD p.origins (Int.toNat (IntKind.wrap IntKind.i64 ((↑(i + 1) : Int) - (1 : Int)))) default).asn) &&
  (decide ((List.getD p.origins (i + 1) default).pfx.fam = (List.getD p.origins (Int.toNat (IntKind.wrap IntKind.i64 ((↑(i + 1) : Int) - (1 : Int)))) default).pfx.fam) &&
  (decide ((List.getD p.origins (i + 1) default).pfx.addr.hi = (List.getD p.origins (Int.toNat (IntKind.wrap IntKind.i64 ((↑(i + 1) : Int) - (1 : Int)))) default).pfx.addr.hi) &&
  (decide ((List.getD p.origins (i + 1) default).pfx.addr.lo = (List.getD p.origins (Int.toNat (IntKind.wrap IntKind.i64 ((↑(i + 1) : Int) - (1 : Int)))) default).pfx.addr.lo) &&
  (decide ((List.getD p.origins (i + 1) default).pfx.len = (List.getD p.origins (Int.toNat (IntKind.wrap IntKind.i64 ((↑(i + 1) : Int) - (1 : Int)))) default).pfx.len) &&
  (decide ((List.getD p.origins (i + 1) default).max = (List.getD p.origins (Int.toNat (IntKind.wrap IntKind.i64 ((↑(i + 1) : Int) - (1 : Int)))) default).max) && true))))))
  (Tree.done Exit.ret (LState.mk [(2, AVal.imm (IVal.v (Value.bool true)))] [] 65 19 []))
  (Tree.done Exit.normal
  (LState.mk [(3, AVal.imm (IVal.v (Value.int IntKind.i64 (IntKind.wrap IntKind.i64 ((↑(i + 1) : Int) + (1 : Int)))))), (1, AVal.ptr 0 0)]
  [(0, Entry.box 26 (AVal.imm (encL p)))] 65 21 [])))))
  (Tree.done (Exit.exit 0) (LState.mk [(1, AVal.ptr 0 0)] [(0, Entry.box 26 (AVal.imm (encL p)))] 65 6 [])) := by kernel_rfl
theorem l32a (p : Payload) (hl : p.origins.length ≤ 2 ^ 62) (σ : LState) (h : LSub σ (I32a p 0)) : LoopOk prog [] (bodyOf Proofs.Tryz.f32) 2 σ (L32a p) := by
  refine LoopOk.first (P32a p) (p.origins.length - 1) 0 (I32a p) (R32a p) (E32a p) (T32ar p) fin32a (by kernel_rfl) h fun i hi hz => ?_
  rw [t32ar]
  refine ⟨fun h1 => need_sat (elem_need ?_) (need_sat (elem_need ?_) ⟨fun h2 => ?_, fun h2 => ?_⟩), fun h1 => ?_⟩
  · exact ⟨by (simp only [List.length_map, decide_eq_true_eq, decide_eq_false_iff_not, Int.toNat_natCast] at * <;> omega), by (simp only [List.length_map, decide_eq_true_eq, decide_eq_false_iff_not, Int.toNat_natCast] at * <;> omega), by omega⟩
  · rw [i64_pre (by (simp only [List.length_map, decide_eq_true_eq, decide_eq_false_iff_not, Int.toNat_natCast] at * <;> omega))]; exact ⟨by (simp only [List.length_map, decide_eq_true_eq, decide_eq_false_iff_not, Int.toNat_natCast] at * <;> omega), by (simp only [List.length_map, decide_eq_true_eq, decide_eq_false_iff_not, Int.toNat_natCast] at * <;> omega), rfl⟩
  · rw [if_neg (by decide), i64_pre (by (simp only [List.length_map, decide_eq_true_eq, decide_eq_false_iff_not, Int.toNat_natCast] at * <;> omega)), Int.toNat_natCast] at h2
    exact ⟨by (simp only [List.length_map, decide_eq_true_eq, decide_eq_false_iff_not, Int.toNat_natCast] at * <;> omega), by rw [P32a, eqO, neO, Bool.not_not]; exact h2, by simp [R32a, bo, LSub, tsub, ssub, tl, sl, linT, linS, ainB, ainBL]⟩
  · rw [if_neg (by decide), i64_pre (by (simp only [List.length_map, decide_eq_true_eq, decide_eq_false_iff_not, Int.toNat_natCast] at * <;> omega)), Int.toNat_natCast] at h2
    have e2 : IntKind.i64.wrap ((i : Int) + 1 + 1) = (i : Int) + 1 + 1 := by rw [IntWalk.i64_in _ (by (simp only [List.length_map, decide_eq_true_eq, decide_eq_false_iff_not, Int.toNat_natCast] at * <;> omega))]
    exact ⟨by (simp only [List.length_map, decide_eq_true_eq, decide_eq_false_iff_not, Int.toNat_natCast] at * <;> omega), by rw [P32a, eqO, neO, Bool.not_not]; exact h2, by simp [I32a, i64, e2, LSub, tsub, ssub, tl, sl, linT, linS, ainB, ainBL]⟩
  · exact ⟨rfl, by (simp only [List.length_map, decide_eq_true_eq, decide_eq_false_iff_not, Int.toNat_natCast] at * <;> omega), by simp [E32a, LSub, tsub, ssub, tl, sl, linT, linS, ainB, ainBL]⟩
def P32b (p : Payload) (i : Nat) : Bool := decide ((p.paths.getD (i + 1) default).cust = (p.paths.getD i default).cust)
def I32b (p : Payload) (i : Nat) : LState := { t := [(4, .imm (i64 ((i + 1 : Nat) : Int))), (1, .ptr 0 0)], s := [(0, .box 26 (.imm (encL p)))], m := 65, n := 1 }
def R32b (p : Payload) (i : Nat) : LState := { t := [(2, .imm (bo true))], s := [], m := 65, n := 1 }
def E32b (p : Payload) : LState := { t := [(1, .ptr 0 0)], s := [(0, .box 26 (.imm (encL p)))], m := 65, n := 1 }
def fin32b : Exit → Fin
  | .normal => ⟨[], [4, 1], [0]⟩
  | .ret => ⟨[], [2], []⟩
  | _ => ⟨[], [1], [0]⟩
def L32b (p : Payload) : Tree := Lfirst (P32b p) (p.paths.length - 1) 2 (R32b p) (E32b p)
def T32br (p : Payload) (i : Nat) : Tell :=
  Tell.mk (fun x x_1 => false) (fun x x_1 => Orc.no) (fun x => Tree.fail 1000003 0) (fun x => 0) (fun x => ([], []))
  (oget
  [(6, 9, 3, Orc.elem (encT (List.getD p.paths (i + 1) default))),
  (6, 9, 10, Orc.elem (encT (List.getD p.paths (Int.toNat (IntKind.wrap IntKind.i64 ((↑(i + 1) : Int) - (1 : Int)))) default)))])
  fun x x_1 => Tree.fail 1000003 0
theorem t32br (p : Payload) (i : Nat) : levL prog Proofs.Tryz.f32 7 (I32b p i) (T32br p i) fin32b =
  Tree.br (decide ((↑(i + 1) : Int) < (↑(List.length (List.map encT p.paths)) : Int)))
  (Tree.need ((0 : Int) ≤ (↑(i + 1) : Int) ∧ (List.map encT p.paths)[i + 1]? = some (encT (List.getD p.paths (i + 1) default)))
  (Tree.need
  ((0 : Int) ≤ IntKind.wrap IntKind.i64 ((↑(i + 1) : Int) - (1 : Int)) ∧
  (List.map encT p.paths)[Int.toNat (IntKind.wrap IntKind.i64 ((↑(i + 1) : Int) - (1 : Int)))]? = some (encT (List.getD p.paths (Int.toNat (IntKind.wrap IntKind.i64 ((↑(i + 1) : Int) - (1 : Int)))) default)))
  (Tree.br (decide ((List.getD p.paths (i + 1) default).cust = (List.getD p.paths (Int.toNat (IntKind.wrap IntKind.i64 ((↑(i + 1) : Int) - (1 : Int)))) default).cust))
  (Tree.done Exit.ret (LState.mk [(2, AVal.imm (IVal.v (Value.bool true)))] [] 65 21 []))
  (Tree.done Exit.normal
  (LState.mk [(4, AVal.imm (IVal.v (Value.int IntKind.i64 (IntKind.wrap IntKind.i64 ((↑(i + 1) : Int) + (1 : Int)))))), (1, AVal.ptr 0 0)]
  [(0, Entry.box 26 (AVal.imm (encL p)))] 65 23 [])))))
  (Tree.done (Exit.exit 2) (LState.mk [(1, AVal.ptr 0 0)] [(0, Entry.box 26 (AVal.imm (encL p)))] 65 6 [])) := by kernel_rfl
theorem l32b (p : Payload) (hl : p.paths.length ≤ 2 ^ 62) (σ : LState) (h : LSub σ (I32b p 0)) : LoopOk prog [] (bodyOf Proofs.Tryz.f32) 7 σ (L32b p) := by
  refine LoopOk.first (P32b p) (p.paths.length - 1) 2 (I32b p) (R32b p) (E32b p) (T32br p) fin32b (by kernel_rfl) h fun i hi hz => ?_
  rw [t32br]
  refine ⟨fun h1 => need_sat (elem_need ?_) (need_sat (elem_need ?_) ⟨fun h2 => ?_, fun h2 => ?_⟩), fun h1 => ?_⟩
  · exact ⟨by (simp only [List.length_map, decide_eq_true_eq, decide_eq_false_iff_not, Int.toNat_natCast] at * <;> omega), by (simp only [List.length_map, decide_eq_true_eq, decide_eq_false_iff_not, Int.toNat_natCast] at * <;> omega), by omega⟩
  · rw [i64_pre (by (simp only [List.length_map, decide_eq_true_eq, decide_eq_false_iff_not, Int.toNat_natCast] at * <;> omega))]; exact ⟨by (simp only [List.length_map, decide_eq_true_eq, decide_eq_false_iff_not, Int.toNat_natCast] at * <;> omega), by (simp only [List.length_map, decide_eq_true_eq, decide_eq_false_iff_not, Int.toNat_natCast] at * <;> omega), rfl⟩
  · rw [i64_pre (by (simp only [List.length_map, decide_eq_true_eq, decide_eq_false_iff_not, Int.toNat_natCast] at * <;> omega)), Int.toNat_natCast] at h2
    exact ⟨by (simp only [List.length_map, decide_eq_true_eq, decide_eq_false_iff_not, Int.toNat_natCast] at * <;> omega), h2, by simp [R32b, bo, LSub, tsub, ssub, tl, sl, linT, linS, ainB, ainBL]⟩
  · rw [i64_pre (by (simp only [List.length_map, decide_eq_true_eq, decide_eq_false_iff_not, Int.toNat_natCast] at * <;> omega)), Int.toNat_natCast] at h2
    have e2 : IntKind.i64.wrap ((i : Int) + 1 + 1) = (i : Int) + 1 + 1 := by rw [IntWalk.i64_in _ (by (simp only [List.length_map, decide_eq_true_eq, decide_eq_false_iff_not, Int.toNat_natCast] at * <;> omega))]
    exact ⟨by (simp only [List.length_map, decide_eq_true_eq, decide_eq_false_iff_not, Int.toNat_natCast] at * <;> omega), h2, by simp [I32b, i64, e2, LSub, tsub, ssub, tl, sl, linT, linS, ainB, ainBL]⟩
  · exact ⟨rfl, by (simp only [List.length_map, decide_eq_true_eq, decide_eq_false_iff_not, Int.toNat_natCast] at * <;> omega), by simp [E32b, LSub, tsub, ssub, tl, sl, linT, linS, ainB, ainBL]⟩
def P32c (p : Payload) (i : Nat) : Bool := decide (p.keys.getD (i + 1) default = p.keys.getD i default)
def I32c (p : Payload) (i : Nat) : LState := { t := [(5, .imm (i64 ((i + 1 : Nat) : Int))), (1, .ptr 0 0)], s := [(0, .box 26 (.imm (encL p)))], m := 65, n := 1 }
def R32c (p : Payload) (i : Nat) : LState := { t := [(2, .imm (bo true))], s := [], m := 65, n := 1 }
def E32c (p : Payload) : LState := { t := [(1, .ptr 0 0)], s := [(0, .box 26 (.imm (encL p)))], m := 65, n := 1 }
def fin32c : Exit → Fin
  | .normal => ⟨[], [5, 1], [0]⟩
  | .ret => ⟨[], [2], []⟩
  | _ => ⟨[], [1], [0]⟩
def L32c (p : Payload) : Tree := Lfirst (P32c p) (p.keys.length - 1) 4 (R32c p) (E32c p)
def T32cr (p : Payload) (i : Nat) : Tell :=
  Tell.mk (fun x x_1 => false) (fun x x_1 => Orc.no) (fun x => Tree.fail 1000003 0) (fun x => 0) (fun x => ([], []))
  (oget
  [(6, 14, 3, Orc.elem (encK (List.getD p.keys (i + 1) default))),
  (6, 14, 9, Orc.elem (encK (List.getD p.keys (Int.toNat (IntKind.wrap IntKind.i64 ((↑(i + 1) : Int) - (1 : Int)))) default)))])
  fun x x_1 => Tree.fail 1000003 0
theorem t32cr (p : Payload) (i : Nat) : levL prog Proofs.Tryz.f32 12 (I32c p i) (T32cr p i) fin32c =
  Tree.br (decide ((↑(i + 1) : Int) < (↑(List.length (List.map encK p.keys)) : Int)))
  (Tree.need ((0 : Int) ≤ (↑(i + 1) : Int) ∧ (List.map encK p.keys)[i + 1]? = some (encK (List.getD p.keys (i + 1) default)))
  (Tree.need
  ((0 : Int) ≤ IntKind.wrap IntKind.i64 ((↑(i + 1) : Int) - (1 : Int)) ∧
  (List.map encK p.keys)[Int.toNat (IntKind.wrap IntKind.i64 ((↑(i + 1) : Int) - (1 : Int)))]? = some (encK (List.getD p.keys (Int.toNat (IntKind.wrap IntKind.i64 ((↑(i + 1) : Int) - (1 : Int)))) default)))
  (Tree.br
  (if BinOp.eql = BinOp.neq then
  !(decide ((List.getD p.keys (i + 1) default).asn = (List.getD p.keys (Int.toNat (IntKind.wrap IntKind.i64 ((↑(i + 1) : Int) - (1 : Int)))) default).asn) &&
  (decide ((List.getD p.keys (i + 1) default).root[0] = (List.getD p.keys (Int.toNat (IntKind.wrap IntKind.i64 ((↑(i + 1) : Int) - (1 : Int)))) default).root[0]) &&
  (decide ((List.getD p.keys (i + 1) default).root[1] = (List.getD p.keys (Int.toNat (IntKind.wrap IntKind.i64 ((↑(i + 1) : Int) - (1 : Int)))) default).root[1]) &&
  (decide ((List.getD p.keys (i + 1) default).root[2] = (List.getD p.keys (Int.toNat (IntKind.wrap IntKind.i64 ((↑(i + 1) : Int) - (1 : Int)))) default).root[2]) &&
  (decide ((List.getD p.keys (i + 1) default).root[3] = (List.getD p.keys (Int.toNat (IntKind.wrap IntKind.i64 ((↑(i + 1) : Int) - (1 : Int)))) default).root[3]) &&
  (decide ((List.getD p.keys (i + 1) default).root[4] = (List.getD p.keys (Int.toNat (IntKind.wrap IntKind.i64 ((↑(i + 1) : Int) - (1 : Int)))) default).root[4]) &&
  (decide ((List.getD p.keys (i + 1) default).root[5] = (List.getD p.keys (Int.toNat (IntKind.wrap IntKind.i64 ((↑(i + 1) : Int) - (1 : Int)))) default).root[5]) &&
  (decide ((List.getD p.keys (i + 1) default).root[6] = (List.getD p.keys (Int.toNat (IntKind.wrap IntKind.i64 ((↑(i + 1) : Int) - (1 : Int)))) default).root[6]) &&
  (decide ((List.getD p.keys (i + 1) default).root[7] = (List.getD p.keys (Int.toNat (IntKind.wrap IntKind.i64 ((↑(i + 1) : Int) - (1 : Int)))) default).root[7]) &&
  (decide ((List.getD p.keys (i + 1) default).root[8] = (List.getD p.keys (Int.toNat (IntKind.wrap IntKind.i64 ((↑(i + 1) : Int) - (1 : Int)))) default).root[8]) &&
  (decide ((List.getD p.keys (i + 1) default).root[9] = (List.getD p.keys (Int.toNat (IntKind.wrap IntKind.i64 ((↑(i + 1) : Int) - (1 : Int)))) default).root[9]) &&
  (decide ((List.getD p.keys (i + 1) default).root[10] = (List.getD p.keys (Int.toNat (IntKind.wrap IntKind.i64 ((↑(i + 1) : Int) - (1 : Int)))) default).root[10]) &&
  (decide ((List.getD p.keys (i + 1) default).root[11] = (List.getD p.keys (Int.toNat (IntKind.wrap IntKind.i64 ((↑(i + 1) : Int) - (1 : Int)))) default).root[11]) &&
  (decide ((List.getD p.keys (i + 1) default).root[12] = (List.getD p.keys (Int.toNat (IntKind.wrap IntKind.i64 ((↑(i + 1) : Int) - (1 : Int)))) default).root[12]) &&
  (decide ((List.getD p.keys (i + 1) default).root[13] = (List.getD p.keys (Int.toNat (IntKind.wrap IntKind.i64 ((↑(i + 1) : Int) - (1 : Int)))) default).root[13]) &&
  (decide ((List.getD p.keys (i + 1) default).root[14] = (List.getD p.keys (Int.toNat (IntKind.wrap IntKind.i64 ((↑(i + 1) : Int) - (1 : Int)))) default).root[14]) &&
  (decide ((List.getD p.keys (i + 1) default).root[15] = (List.getD p.keys (Int.toNat (IntKind.wrap IntKind.i64 ((↑(i + 1) : Int) - (1 : Int)))) default).root[15]) &&
  (decide ((List.getD p.keys (i + 1) default).height = (List.getD p.keys (Int.toNat (IntKind.wrap IntKind.i64 ((↑(i + 1) : Int) - (1 : Int)))) default).height) &&
  true))))))))))))))))))
  else
  decide ((List.getD p.keys (i + 1) default).asn = (List.getD p.keys (Int.toNat (IntKind.wrap IntKind.i64 ((↑(i + 1) : Int) - (1 : Int)))) default).asn) &&
  (decide ((List.getD p.keys (i + 1) default).root[0] = (List.getD p.keys (Int.toNat (IntKind.wrap IntKind.i64 ((↑(i + 1) : Int) - (1 : Int)))) default).root[0]) &&
  (decide ((List.getD p.keys (i + 1) default).root[1] = (List.getD p.keys (Int.toNat (IntKind.wrap IntKind.i64 ((↑(i + 1) : Int) - (1 : Int)))) default).root[1]) &&
  (decide ((List.getD p.keys (i + 1) default).root[2] = (List.getD p.keys (Int.toNat (IntKind.wrap IntKind.i64 ((↑(i + 1) : Int) - (1 : Int)))) default).root[2]) &&
  (decide ((List.getD p.keys (i + 1) default).root[3] = (List.getD p.keys (Int.toNat (IntKind.wrap IntKind.i64 ((↑(i + 1) : Int) - (1 : Int)))) default).root[3]) &&
  (decide ((List.getD p.keys (i + 1) default).root[4] = (List.getD p.keys (Int.toNat (IntKind.wrap IntKind.i64 ((↑(i + 1) : Int) - (1 : Int)))) default).root[4]) &&
  (decide ((List.getD p.keys (i + 1) default).root[5] = (List.getD p.keys (Int.toNat (IntKind.wrap IntKind.i64 ((↑(i + 1) : Int) - (1 : Int)))) default).root[5]) &&
  (decide ((List.getD p.keys (i + 1) default).root[6] = (List.getD p.keys (Int.toNat (IntKind.wrap IntKind.i64 ((↑(i + 1) : Int) - (1 : Int)))) default).root[6]) &&
  (decide ((List.getD p.keys (i + 1) default).root[7] = (List.getD p.keys (Int.toNat (IntKind.wrap IntKind.i64 ((↑(i + 1) : Int) - (1 : Int)))) default).root[7]) &&
  (decide ((List.getD p.keys (i + 1) default).root[8] = (List.getD p.keys (Int.toNat (IntKind.wrap IntKind.i64 ((↑(i + 1) : Int) - (1 : Int)))) default).root[8]) &&
  (decide ((List.getD p.keys (i + 1) default).root[9] = (List.getD p.keys (Int.toNat (IntKind.wrap IntKind.i64 ((↑(i + 1) : Int) - (1 : Int)))) default).root[9]) &&
  (decide ((List.getD p.keys (i + 1) default).root[10] = (List.getD p.keys (Int.toNat (IntKind.wrap IntKind.i64 ((↑(i + 1) : Int) - (1 : Int)))) default).root[10]) &&
  (decide ((List.getD p.keys (i + 1) default).root[11] = (List.getD p.keys (Int.toNat (IntKind.wrap IntKind.i64 ((↑(i + 1) : Int) - (1 : Int)))) default).root[11]) &&
  (decide ((List.getD p.keys (i + 1) default).root[12] = (List.getD p.keys (Int.toNat (IntKind.wrap IntKind.i64 ((↑(i + 1) : Int) - (1 : Int)))) default).root[12]) &&
  (decide ((List.getD p.keys (i + 1) default).root[13] = (List.getD p.keys (Int.toNat (IntKind.wrap IntKind.i64 ((↑(i + 1) : Int) - (1 : Int)))) default).root[13]) &&
  (decide ((List.getD p.keys (i + 1) default).root[14] = (List.getD p.keys (Int.toNat (IntKind.wrap IntKind.i64 ((↑(i + 1) : Int) - (1 : Int)))) default).root[14]) &&
  (decide ((List.getD p.keys (i + 1) default).root[15] = (List.getD p.keys (Int.toNat (IntKind.wrap IntKind.i64 ((↑(i + 1) : Int) - (1 : Int)))) default).root[15]) &&
  (decide ((List.getD p.keys (i + 1) default).height = (List.getD p.keys (Int.toNat (IntKind.wrap IntKind.i64 ((↑(i + 1) : Int) - (1 : Int)))) default).height) &&
  true))))))))))))))))))
  (Tree.done Exit.ret (LState.mk [(2, AVal.imm (IVal.v (Value.bool true)))] [] 65 19 []))
  (Tree.done Exit.normal
  (LState.mk [(5, AVal.imm (IVal.v (Value.int IntKind.i64 (IntKind.wrap IntKind.i64 ((↑(i + 1) : Int) + (1 : Int)))))), (1, AVal.ptr 0 0)]
  [(0, Entry.box 26 (AVal.imm (encL p)))] 65 21 [])))))
  (Tree.done (Exit.exit 4) (LState.mk [(1, AVal.ptr 0 0)] [(0, Entry.box 26 (AVal.imm (encL p)))] 65 6 [])) := by kernel_rfl
theorem l32c (p : Payload) (hl : p.keys.length ≤ 2 ^ 62) (σ : LState) (h : LSub σ (I32c p 0)) : LoopOk prog [] (bodyOf Proofs.Tryz.f32) 12 σ (L32c p) := by
  refine LoopOk.first (P32c p) (p.keys.length - 1) 4 (I32c p) (R32c p) (E32c p) (T32cr p) fin32c (by kernel_rfl) h fun i hi hz => ?_
  rw [t32cr]
  refine ⟨fun h1 => need_sat (elem_need ?_) (need_sat (elem_need ?_) ⟨fun h2 => ?_, fun h2 => ?_⟩), fun h1 => ?_⟩
  · exact ⟨by (simp only [List.length_map, decide_eq_true_eq, decide_eq_false_iff_not, Int.toNat_natCast] at * <;> omega), by (simp only [List.length_map, decide_eq_true_eq, decide_eq_false_iff_not, Int.toNat_natCast] at * <;> omega), by omega⟩
  · rw [i64_pre (by (simp only [List.length_map, decide_eq_true_eq, decide_eq_false_iff_not, Int.toNat_natCast] at * <;> omega))]; exact ⟨by (simp only [List.length_map, decide_eq_true_eq, decide_eq_false_iff_not, Int.toNat_natCast] at * <;> omega), by (simp only [List.length_map, decide_eq_true_eq, decide_eq_false_iff_not, Int.toNat_natCast] at * <;> omega), rfl⟩
  · rw [if_neg (by decide), i64_pre (by (simp only [List.length_map, decide_eq_true_eq, decide_eq_false_iff_not, Int.toNat_natCast] at * <;> omega)), Int.toNat_natCast] at h2
    exact ⟨by (simp only [List.length_map, decide_eq_true_eq, decide_eq_false_iff_not, Int.toNat_natCast] at * <;> omega), by rw [P32c, eqK, neK, Bool.not_not]; exact h2, by simp [R32c, bo, LSub, tsub, ssub, tl, sl, linT, linS, ainB, ainBL]⟩
  · rw [if_neg (by decide), i64_pre (by (simp only [List.length_map, decide_eq_true_eq, decide_eq_false_iff_not, Int.toNat_natCast] at * <;> omega)), Int.toNat_natCast] at h2
    have e2 : IntKind.i64.wrap ((i : Int) + 1 + 1) = (i : Int) + 1 + 1 := by rw [IntWalk.i64_in _ (by (simp only [List.length_map, decide_eq_true_eq, decide_eq_false_iff_not, Int.toNat_natCast] at * <;> omega))]
    exact ⟨by (simp only [List.length_map, decide_eq_true_eq, decide_eq_false_iff_not, Int.toNat_natCast] at * <;> omega), by rw [P32c, eqK, neK, Bool.not_not]; exact h2, by simp [I32c, i64, e2, LSub, tsub, ssub, tl, sl, linT, linS, ainB, ainBL]⟩
  · exact ⟨rfl, by (simp only [List.length_map, decide_eq_true_eq, decide_eq_false_iff_not, Int.toNat_natCast] at * <;> omega), by simp [E32c, LSub, tsub, ssub, tl, sl, linT, linS, ainB, ainBL]⟩
def T32 (p : Payload) : Tell :=
  Tell.mk (fun x x_1 => false) (fun x x_1 => Orc.no)
  (fun k =>
  match k with
  | 2 => L32a p
  | 7 => L32b p
  | x => L32c p)
  (fun x => 0)
  (fun k =>
  match k with
  | 2 => ([3, 1], [0])
  | 7 => ([4, 1], [0])
  | x => ([5, 1], [0]))
  (fun x x_1 x_2 => Orc.no) fun x k =>
  match k with
  | 2 => L32a p
  | 7 => L32b p
  | x => L32c p
theorem t32 (p : Payload) : levF prog Proofs.Tryz.f32 [encL p] (T32 p) =
  Tree.loop 2 (LState.mk [(3, AVal.imm (IVal.v (Value.int IntKind.i64 (1 : Int)))), (1, AVal.ptr 0 0)] [(0, Entry.box 26 (AVal.imm (encL p)))] 65 3 [])
  (Tree.br (anyI (P32a p) 0 (List.length p.origins - 1)) (Tree.done Exit.ret (R32a p (firstI (P32a p) 0 (List.length p.origins - 1)))) (Tree.done (Exit.exit 0) (E32a p)))
  (Tree.br (anyI (P32a p) 0 (List.length p.origins - 1)) (Tree.done Exit.ret (lret (IVal.v (Value.bool true))))
  (Tree.loop 7 (LState.mk [(4, AVal.imm (IVal.v (Value.int IntKind.i64 (1 : Int)))), (1, AVal.ptr 0 0)] [(0, Entry.box 26 (AVal.imm (encL p)))] 65 2 [])
  (Tree.br (anyI (P32b p) 0 (List.length p.paths - 1)) (Tree.done Exit.ret (R32b p (firstI (P32b p) 0 (List.length p.paths - 1)))) (Tree.done (Exit.exit 2) (E32b p)))
  (Tree.br (anyI (P32b p) 0 (List.length p.paths - 1)) (Tree.done Exit.ret (lret (IVal.v (Value.bool true))))
  (Tree.loop 12 (LState.mk [(5, AVal.imm (IVal.v (Value.int IntKind.i64 (1 : Int)))), (1, AVal.ptr 0 0)] [(0, Entry.box 26 (AVal.imm (encL p)))] 65 2 [])
  (Tree.br (anyI (P32c p) 0 (List.length p.keys - 1)) (Tree.done Exit.ret (R32c p (firstI (P32c p) 0 (List.length p.keys - 1)))) (Tree.done (Exit.exit 4) (E32c p)))
  (Tree.br (anyI (P32c p) 0 (List.length p.keys - 1)) (Tree.done Exit.ret (lret (IVal.v (Value.bool true)))) (Tree.done Exit.ret (lret (IVal.v (Value.bool false))))))))) := by kernel_rfl
def twiceR (p : Payload) : Bool := anyI (P32a p) 0 (p.origins.length - 1) || (anyI (P32b p) 0 (p.paths.length - 1) || anyI (P32c p) 0 (p.keys.length - 1))
theorem c32 (p : Payload) (hp : p.sm) : ASpec prog 32 [encL p] (bo (twiceR p)) := by
  have q1 := hp.o; have q2 := hp.t; have q3 := hp.k
  refine ASpec.treeW Proofs.Tryz.f32 (T32 p) (by kernel_rfl) (by kernel_rfl) (t32 p) ?_
  refine ⟨?_, ⟨fun h1 => ⟨_, rfl, ?_⟩, fun h1 => ⟨?_, ⟨fun h2 => ⟨_, rfl, ?_⟩, fun h2 => ⟨?_, ⟨fun h3 => ⟨_, rfl, ?_⟩, fun h3 => ⟨_, rfl, ?_⟩⟩⟩⟩⟩⟩⟩
  · exact l32a p (by omega) _ (by simp [I32a, i64, LSub, tsub, ssub, tl, sl, linT, linS, ainB, ainBL])
  · exact ile_bo (by simp [twiceR, P32a, P32b, P32c, *])
  · exact l32b p (by omega) _ (by simp [I32b, E32a, i64, LSub, tsub, ssub, tl, sl, linT, linS, ainB, ainBL])
  · exact ile_bo (by simp [twiceR, P32a, P32b, P32c, *])
  · exact l32c p (by omega) _ (by simp [I32c, E32b, i64, LSub, tsub, ssub, tl, sl, linT, linS, ainB, ainBL])
  · exact ile_bo (by simp [twiceR, P32a, P32b, P32c, *])
  · exact ile_bo (by simp [twiceR, P32a, P32b, P32c, *])
end Gp
namespace Gp
section
variable {α : Type} [Inhabited α]
theorem insJ_congr {od ro : α → α → Bool} (a : Nat) : ∀ j (l : List α), j < l.length → (∀ x ∈ l, ∀ y ∈ l, od x y = ro x y) → insJ od a j l = insJ ro a j l
  | 0, l, _, _ => rfl
  | j + 1, l, hj, h => by
    have e1 : od (l.getD (j + 1) default) (l.getD j default) = ro (l.getD (j + 1) default) (l.getD j default) := h _ (memD.2 ⟨_, hj, rfl⟩) _ (memD.2 ⟨_, by omega, rfl⟩)
    have hp := swp_perm (l := l) (i := j + 1) (j := j) hj (by omega)
    have ih := insJ_congr a j (swp l (j + 1) j) (by rw [swp_length]; omega) (fun x hx y hy => h x (hp.mem_iff.1 hx) y (hp.mem_iff.1 hy))
    rw [insJ, insJ, e1, ih]
theorem insR_congr {od ro : α → α → Bool} (ht : Tot od) (a : Nat) (l : List α) (h : ∀ x ∈ l, ∀ y ∈ l, od x y = ro x y) : ∀ n, a + 1 + n ≤ l.length → insR od a l n = insR ro a l n
  | 0, _ => rfl
  | n + 1, hn => by
    have ih := insR_congr ht a l h n (by omega)
    obtain ⟨s1, _⟩ := insR_spec ht a l n (by omega)
    rw [insR, insR, ← ih]
    exact insJ_congr a _ _ (by rw [s1.len]; omega) fun x hx y hy => h x (s1.perm.mem_iff.1 hx) y (s1.perm.mem_iff.1 hy)
theorem ins_congr {od ro : α → α → Bool} (ht : Tot od) {l : List α} (h : ∀ x ∈ l, ∀ y ∈ l, od x y = ro x y) : ins od 0 l.length l = ins ro 0 l.length l := by
  by_cases hl : 1 ≤ l.length
  · exact insR_congr ht 0 l h _ (by omega)
  · have : l = [] := List.length_eq_zero_iff.1 (by omega)
    subst this; rfl
theorem ss_one [DecidableEq α] {c : α → α → Int} (tw : TW c) {A B : List α} (hA : SS c A) (hp : B.Perm A) (hB : Srt (fun a b => decide (c a b < 0)) B 0 B.length) : B = A := by
  have ndA : A.Nodup := hA.imp fun {a b} h e => by subst e; have := tw.self a; omega
  have ndB : B.Nodup := hp.nodup_iff.2 ndA
  refine SS.ext tw (SS.of fun i j hij hj => ?_) hA fun x => hp.mem_iff
  have h1 := hB i j (Nat.zero_le _) hij hj
  simp only [decide_eq_false_iff_not] at h1
  have h2 : c (B.getD i default) (B.getD j default) ≤ 0 := by
    have := tw.asy (B.getD j default) (B.getD i default); omega
  rcases Int.lt_or_eq_of_le h2 with h | h
  · exact h
  · have he := hA.inj tw (hp.mem_iff.1 (memD.2 ⟨i, by omega, rfl⟩)) (hp.mem_iff.1 (memD.2 ⟨j, hj, rfl⟩)) h
    have := List.pairwise_iff_getElem.1 ndB i j (by omega) hj hij
    simp only [List.getD_eq_getElem?_getD, List.getElem?_eq_getElem hj, List.getElem?_eq_getElem (show i < B.length by omega), Option.getD_some] at he
    exact absurd he this
theorem srt_dup {c : α → α → Int} (tw : TW c) {S : List α} (hs : Srt (fun a b => decide (c a b < 0)) S 0 S.length) : dupG c S = false ↔ SS c S := by
  constructor
  · intro h
    rw [dupG, anyI_none] at h
    have adj : ∀ i, i + 1 < S.length → c (S.getD i default) (S.getD (i + 1) default) < 0 := by
      intro i hi
      have h1 := h i (by omega)
      have h2 := hs i (i + 1) (by omega) (by omega) (by omega)
      simp only [decide_eq_false_iff_not] at h1 h2
      have := tw.asy (S.getD (i + 1) default) (S.getD i default); omega
    refine SS.of fun i j hij hj => ?_
    obtain ⟨d, rfl⟩ : ∃ d, j = i + 1 + d := ⟨j - (i + 1), by omega⟩
    induction d with
    | zero => exact adj i hj
    | succ d ih =>
      have := ih (by omega) (by omega)
      exact tw.lt_le this (by have := adj (i + 1 + d) hj; exact Int.le_of_lt this)
  · intro h
    rw [dupG, anyI_none]
    intro i hi
    have := h.at (show i < i + 1 by omega) (by omega)
    simp only [decide_eq_false_iff_not]; omega
theorem ins_sorted [DecidableEq α] {c : α → α → Int} (tw : TW c) (l : List α) : dupG c (ins (fun a b => decide (c a b < 0)) 0 l.length l) = dupG c (sorted (fun a b => decide (c a b < 0)) l) ∧
    (dupG c (sorted (fun a b => decide (c a b < 0)) l) = false → ins (fun a b => decide (c a b < 0)) 0 l.length l = sorted (fun a b => decide (c a b < 0)) l) := by
  obtain ⟨p1, s1⟩ := sorted_spec tw.tot l
  obtain ⟨g2, s2⟩ := ins_spec tw.tot (a := 0) (b := l.length) (l := l) (Nat.le_refl _)
  have p2 := g2.perm
  have l1 := p1.length_eq
  have l2 := p2.length_eq
  generalize sorted (fun a b => decide (c a b < 0)) l = A at *
  generalize ins (fun a b => decide (c a b < 0)) 0 l.length l = B at *
  rw [← l1] at s1
  rw [← l2] at s2
  have dA := srt_dup tw s1
  have dB := srt_dup tw s2
  have hp : B.Perm A := p2.trans p1.symm
  have h1 : dupG c A = false → B = A := fun h => ss_one tw (dA.1 h) hp s2
  have h2 : dupG c B = false → A = B := fun h => ss_one tw (dB.1 h) hp.symm s1
  refine ⟨?_, h1⟩
  by_cases hA : dupG c A = false
  · rw [h1 hA]
  · by_cases hB : dupG c B = false
    · rw [h2 hB]
    · rw [Bool.not_eq_false] at hA hB; rw [hA, hB]
end
theorem lexB_two : ∀ (x y : List Int) (e e' : Bool), x.length = y.length → lexB (x.zip y) e = false → lexB (y.zip x) e' = false → x = y ∧ e = false ∧ e' = false
  | [], [], e, e', _, h1, h2 => ⟨rfl, h1, h2⟩
  | [], _ :: _, _, _, h, _, _ => by simp at h
  | _ :: _, [], _, _, h, _, _ => by simp at h
  | a :: x, b :: y, e, e', hl, h1, h2 => by
    rw [List.zip_cons_cons, lexB] at h1 h2
    by_cases hab : a = b
    · subst hab
      rw [if_neg (by simp)] at h1 h2
      obtain ⟨g1, g2⟩ := lexB_two x y e e' (by simpa using hl) h1 h2
      exact ⟨by rw [g1], g2⟩
    · rw [if_pos (by simpa using hab)] at h1
      rw [if_pos (by simpa using Ne.symm hab)] at h2
      simp only [decide_eq_false_iff_not] at h1 h2
      omega
theorem rootL_inj {a b : RKey} (h : rootL a = rootL b) : a.root = b.root := by
  simp only [rootL, List.cons.injEq, and_true] at h
  obtain ⟨h0, h1, h2, h3, h4, h5, h6, h7, h8, h9, h10, h11, h12, h13, h14, h15⟩ := h
  refine Vector.ext fun i hi => ?_
  match i, hi with
  | 0, _ => exact h0
  | 1, _ => exact h1
  | 2, _ => exact h2
  | 3, _ => exact h3
  | 4, _ => exact h4
  | 5, _ => exact h5
  | 6, _ => exact h6
  | 7, _ => exact h7
  | 8, _ => exact h8
  | 9, _ => exact h9
  | 10, _ => exact h10
  | 11, _ => exact h11
  | 12, _ => exact h12
  | 13, _ => exact h13
  | 14, _ => exact h14
  | 15, _ => exact h15
  | n + 16, h => omega
theorem cmpK_zero {a b : RKey} (ha : a.rng) (hb : b.rng) : cmpK a b = 0 ↔ a = b := by
  constructor
  · intro h
    have k1 := befK_eq a b ha hb
    have k2 := befK_eq b a hb ha
    rw [h] at k1
    rw [tw_cmpK.zero h] at k2
    simp only [Int.le_refl, decide_true, Bool.true_eq, Bool.not_eq_true'] at k1 k2
    have z1 : befK a b = lexB ((a.asn :: rootL a).zip (b.asn :: rootL b)) (decide (a.height < b.height)) := rfl
    have z2 : befK b a = lexB ((b.asn :: rootL b).zip (a.asn :: rootL a)) (decide (b.height < a.height)) := rfl
    rw [z1] at k1
    rw [z2] at k2
    obtain ⟨g1, g2, g3⟩ := lexB_two (a.asn :: rootL a) (b.asn :: rootL b) _ _ rfl k1 k2
    simp only [List.cons.injEq] at g1
    have g4 := rootL_inj g1.2
    simp only [decide_eq_false_iff_not] at g2 g3
    cases a; cases b
    simp only [RKey.mk.injEq] at *
    exact ⟨g1.1, g4, by omega⟩
  · rintro rfl; exact tw_cmpK.self _
theorem befO_lt : befO = ltO := by
  funext a b
  show befO a b = decide (cmpO a b < 0)
  have := befO_eq a b
  rw [Bool.eq_iff_iff] at this ⊢
  simp only [decide_eq_true_eq, Bool.not_eq_true'] at *
  rw [← Bool.not_eq_false, ← this]; omega
theorem befT_lt : befT = ltT := by
  funext a b
  show befT a b = decide (cmpT a b < 0)
  have := befT_eq a b
  rw [Bool.eq_iff_iff] at this ⊢
  simp only [decide_eq_true_eq, Bool.not_eq_true'] at *
  rw [← Bool.not_eq_false, ← this]; omega
theorem befK_lt {a b : RKey} (ha : a.rng) (hb : b.rng) : ltK a b = befK a b := by
  show decide (cmpK a b < 0) = befK a b
  have := befK_eq a b ha hb
  rw [Bool.eq_iff_iff] at this ⊢
  simp only [decide_eq_true_eq, Bool.not_eq_true'] at *
  rw [← Bool.not_eq_false (b := befK a b), ← this]; omega
theorem anyI_eq {p q : Nat → Bool} {n : Nat} (h : ∀ i, i < n → p i = q i) : anyI p 0 n = anyI q 0 n := by
  rw [Bool.eq_iff_iff, anyI_iff, anyI_iff]
  exact ⟨fun ⟨i, a, b⟩ => ⟨i, a, by rw [← h i a]; exact b⟩, fun ⟨i, a, b⟩ => ⟨i, a, by rw [h i a]; exact b⟩⟩
theorem twiceR_eq {p : Payload} (hp : p.rng) : twiceR p = dupP p := by
  have h1 : anyI (P32a p) 0 (p.origins.length - 1) = dupG cmpO p.origins := anyI_eq fun i hi => by
    rw [P32a, Bool.eq_iff_iff, decide_eq_true_eq, decide_eq_true_eq, cmpO_zero]; exact eq_comm
  have h2 : anyI (P32b p) 0 (p.paths.length - 1) = dupG cmpT p.paths := anyI_eq fun i hi => by
    rw [P32b, Bool.eq_iff_iff, decide_eq_true_eq, decide_eq_true_eq]
    exact ⟨fun h => cmpI_zero.2 h.symm, fun h => (cmpI_zero.1 h).symm⟩
  have h3 : anyI (P32c p) 0 (p.keys.length - 1) = dupG cmpK p.keys := anyI_eq fun i hi => by
    rw [P32c, Bool.eq_iff_iff, decide_eq_true_eq, decide_eq_true_eq, cmpK_zero (hp.k _ (memD.2 ⟨i, by omega, rfl⟩)) (hp.k _ (memD.2 ⟨i + 1, by omega, rfl⟩))]; exact eq_comm
  rw [twiceR, h1, h2, h3]; rfl
theorem plusR_eq {a b : Payload} (ra : a.rng) (rb : b.rng) : dupP (plusR a b) = dupP (plusP a b) ∧ (dupP (plusP a b) = false → plusR a b = plusP a b) ∧ (plusR a b).rng := by
  have hO : (plusR a b).origins = ins ltO 0 (a.origins ++ b.origins).length (a.origins ++ b.origins) := by
    rw [List.length_append, ← befO_lt]; rfl
  have hT : (plusR a b).paths = ins ltT 0 (a.paths ++ b.paths).length (a.paths ++ b.paths) := by
    rw [List.length_append, ← befT_lt]; rfl
  have rK : ∀ x ∈ a.keys ++ b.keys, x.rng := fun x hx => (List.mem_append.1 hx).elim (ra.k x) (rb.k x)
  have hK : (plusR a b).keys = ins ltK 0 (a.keys ++ b.keys).length (a.keys ++ b.keys) := by
    rw [ins_congr totK fun x hx y hy => befK_lt (rK x hx) (rK y hy), List.length_append]; rfl
  obtain ⟨o1, o2⟩ := ins_sorted tw_cmpO (a.origins ++ b.origins)
  obtain ⟨t1, t2⟩ := ins_sorted tw_cmpT (a.paths ++ b.paths)
  obtain ⟨k1, k2⟩ := ins_sorted tw_cmpK (a.keys ++ b.keys)
  refine ⟨?_, fun h => ?_, fun x hx => ?_, fun x hx => ?_, fun x hx => ?_⟩
  · rw [dupP, dupP, hO, hT, hK]
    exact congr (congrArg _ o1) (congr (congrArg _ t1) k1)
  · rw [dupP, Bool.or_eq_false_iff, Bool.or_eq_false_iff] at h
    have e1 := o2 h.1
    have e2 := t2 h.2.1
    have e3 := k2 h.2.2
    have : plusR a b = ⟨(plusR a b).origins, (plusR a b).paths, (plusR a b).keys⟩ := rfl
    rw [this, hO, hT, hK]
    exact congr (congr (congrArg Payload.mk e1) e2) e3
  · rw [hO] at hx
    exact (List.mem_append.1 ((ins_spec totO (Nat.le_refl _)).1.perm.mem_iff.1 hx)).elim (ra.o x) (rb.o x)
  · rw [hT] at hx
    exact (List.mem_append.1 ((ins_spec totT (Nat.le_refl _)).1.perm.mem_iff.1 hx)).elim (ra.t x) (rb.t x)
  · rw [hK] at hx
    exact (List.mem_append.1 ((ins_spec totK (Nat.le_refl _)).1.perm.mem_iff.1 hx)).elim (ra.k x) (rb.k x)
theorem minusP_rng {p : Payload} (h : p.rng) (q : Payload) : (minusP p q).rng := ⟨fun x hx => h.o x (List.mem_filter.1 hx).1, fun x hx => h.t x (List.mem_filter.1 hx).1, fun x hx => h.k x (List.mem_filter.1 hx).1⟩
def betweenR (a b : Payload) : Diff × Int := if ckL' a ≠ 0 then (noD, ckL' a) else if ckL' b ≠ 0 then (noD, ckL' b) else (⟨minusR a b, minusR b a⟩, 0)
def applyR (p : Payload) (d : Diff) : Payload × Int :=
  if ckL' p ≠ 0 then (noP, ckL' p) else if validR d ≠ 0 then (noP, validR d) else if 0 < sizeP (minusR d.gone p) then (noP, 6)
  else if twiceR (plusR (minusR p d.gone) d.come) = true then (noP, 14) else if ckL' (plusR (minusR p d.gone) d.come) ≠ 0 then (noP, 4) else (plusR (minusR p d.gone) d.come, 0)
def inverseR (d : Diff) : Diff × Int := if validR d ≠ 0 then (noD, validR d) else (⟨d.come, d.gone⟩, 0)
def joinR (a b la lb : Payload) : Payload := plusR (minusR a la) (minusR b lb)
def composeR (d f : Diff) : Diff × Int :=
  if validR d ≠ 0 then (noD, validR d) else if validR f ≠ 0 then (noD, validR f)
  else if (!apartR d.gone f.gone || twiceR (joinR d.gone f.gone f.come d.come)) = true then (noD, 6) else if (!apartR d.come f.come || twiceR (joinR d.come f.come f.gone d.gone)) = true then (noD, 14)
  else if ckL' (joinR d.gone f.gone f.come d.come) ≠ 0 ∨ ckL' (joinR d.come f.come f.gone d.gone) ≠ 0 then (noD, 4)
  else (⟨joinR d.gone f.gone f.come d.come, joinR d.come f.come f.gone d.gone⟩, 0)
theorem betweenR_eq {a b : Payload} (ra : a.rng) (rb : b.rng) : betweenR a b = betweenS a b := by
  rw [betweenR, betweenS, ← ckL_eq _ ra, ← ckL_eq _ rb]
  by_cases h1 : ckL a = 0
  · by_cases h2 : ckL b = 0
    · rw [minusR_eq ((ck_iff _).1 h2).s, minusR_eq ((ck_iff _).1 h1).s]
    · rw [if_neg (Decidable.not_not.2 h1), if_pos h2, if_neg (Decidable.not_not.2 h1), if_pos h2]
  · rw [if_pos h1, if_pos h1]
theorem inverseR_eq {d : Diff} (h : d.rng) : inverseR d = inverseS d := by rw [inverseR, inverseS, validR_eq h]
theorem ck_long {p : Payload} (hs : PSS p) (hg : ∀ e, inP e p → goodE e) : ckL p = 0 ∨ ckL p = 4 := by
  rw [ckL]
  split
  · exact .inr rfl
  · have r1 := (rising_iff tw_cmpO (good := goodO) (l := p.origins)).2 ⟨fun x hx => hg (.o x) hx, hs.o⟩
    have r2 := (rising_iff tw_cmpT (good := goodT) (l := p.paths)).2 ⟨fun x hx => (hg (.t x) hx).2, hs.t⟩
    have r3 := (rising_iff tw_cmpK (good := goodK) (l := p.keys)).2 ⟨fun x hx => hg (.k x) hx, hs.k⟩
    rw [r1, r2, r3]; exact .inl rfl
theorem applyR_eq {p : Payload} {d : Diff} (rp : p.rng) (rd : d.rng) : applyR p d = applyS p d := by
  rw [applyR, applyS, ← ckL_eq _ rp, validR_eq rd]
  by_cases h1 : ckL p = 0
  · rw [if_neg (Decidable.not_not.2 h1), if_neg (Decidable.not_not.2 h1)]
    by_cases h2 : validD d = 0
    · rw [if_neg (Decidable.not_not.2 h2), if_neg (Decidable.not_not.2 h2)]
      have gp := (ck_iff _).1 h1
      have gd := (valid_iff _).1 h2
      rw [minusR_eq gp.s, minusR_eq gd.g.s]
      by_cases h3 : 0 < sizeP (minusP d.gone p)
      · rw [if_pos h3, if_pos h3]
      · rw [if_neg h3, if_neg h3]
        obtain ⟨e1, e2, e3⟩ := plusR_eq (minusP_rng rp d.gone) rd.c
        rw [twiceR_eq e3, e1]
        by_cases h4 : dupP (plusP (minusP p d.gone) d.come) = true
        · rw [if_pos h4, if_pos h4]
        · rw [if_neg h4, if_neg h4]
          have h4' : dupP (plusP (minusP p d.gone) d.come) = false := by simpa using h4
          rw [← ckL_eq _ e3, e2 h4']
          have hl := ck_long (PSS.plus h4') fun e he => (in_plus _ _ e |>.1 he).elim (fun h => gp.g e ((in_minus gd.g.s _ e).1 h).1) (gd.c.g e)
          by_cases h5 : ckL (plusP (minusP p d.gone) d.come) = 0
          · rw [if_neg (Decidable.not_not.2 h5), if_neg (Decidable.not_not.2 h5)]
          · rw [if_pos h5, if_pos h5, hl.resolve_left h5]
    · rw [if_pos h2, if_pos h2]
  · rw [if_pos h1, if_pos h1]
theorem composeR_eq {d f : Diff} (rd : d.rng) (rf : f.rng) : composeR d f = composeS d f := by
  rw [composeR, composeS, validR_eq rd, validR_eq rf]
  by_cases h1 : validD d = 0
  · rw [if_neg (Decidable.not_not.2 h1), if_neg (Decidable.not_not.2 h1)]
    by_cases h2 : validD f = 0
    · rw [if_neg (Decidable.not_not.2 h2), if_neg (Decidable.not_not.2 h2)]
      have gd := (valid_iff _).1 h1
      have gf := (valid_iff _).1 h2
      have ap : ∀ (p q : Payload), PSS q → apartR p q = apartP p q := fun p q h => by rw [apartR, apartP, minusR_eq h]
      have e1 : joinR d.gone f.gone f.come d.come = plusR (minusP d.gone f.come) (minusP f.gone d.come) := by rw [joinR, minusR_eq gf.c.s, minusR_eq gd.c.s]
      have e2 : joinR d.come f.come f.gone d.gone = plusR (minusP d.come f.gone) (minusP f.come d.gone) := by rw [joinR, minusR_eq gf.g.s, minusR_eq gd.g.s]
      obtain ⟨x1, x2, x3⟩ := plusR_eq (minusP_rng rd.g f.come) (minusP_rng rf.g d.come)
      obtain ⟨y1, y2, y3⟩ := plusR_eq (minusP_rng rd.c f.gone) (minusP_rng rf.c d.gone)
      have j1 : (!apartR d.gone f.gone || twiceR (joinR d.gone f.gone f.come d.come)) = joinB d.gone f.gone f.come d.come := by
        rw [e1, twiceR_eq x3, x1, ap _ _ gf.g.s, joinB, Bool.or_comm]
      have j2 : (!apartR d.come f.come || twiceR (joinR d.come f.come f.gone d.gone)) = joinB d.come f.come f.gone d.gone := by
        rw [e2, twiceR_eq y3, y1, ap _ _ gf.c.s, joinB, Bool.or_comm]
      rw [j1, j2]
      by_cases h3 : joinB d.gone f.gone f.come d.come = true
      · rw [if_pos h3, if_pos h3]
      · rw [if_neg h3, if_neg h3]
        by_cases h4 : joinB d.come f.come f.gone d.gone = true
        · rw [if_pos h4, if_pos h4]
        · rw [if_neg h4, if_neg h4]
          rw [joinB, Bool.or_eq_true, not_or, Bool.not_eq_true] at h3 h4
          rw [e1, e2, ← ckL_eq _ x3, ← ckL_eq _ y3, x2 h3.1, y2 h4.1]; rfl
    · rw [if_pos h2, if_pos h2]
  · rw [if_pos h1, if_pos h1]
theorem plusR_sm {p q : Payload} (hp : p.sm) (hq : q.sm) : (plusR p q).ok := by
  have h1 := hp.o; have h2 := hp.t; have h3 := hp.k; have g1 := hq.o; have g2 := hq.t; have g3 := hq.k
  refine ⟨?_, ?_, ?_, fun a ha => ?_⟩
  · simp only [plusR, ins_len2]; omega
  · simp only [plusR, ins_len2]; omega
  · simp only [plusR, ins_len2]; omega
  · have hT : (plusR p q).paths = ins befT 0 (p.paths ++ q.paths).length (p.paths ++ q.paths) := by rw [List.length_append]; rfl
    rw [hT, befT_lt] at ha
    exact (List.mem_append.1 ((ins_spec totT (Nat.le_refl _)).1.perm.mem_iff.1 ha)).elim (hp.p a) (hq.p a)
end Gp
namespace Gp
def T11 (p q : Payload) : Tell :=
  Tell.mk (fun x x_1 => false) (fun x x_1 => Orc.no) (fun x => Tree.fail 1000003 0) (fun x => 0) (fun x => ([], []))
  (oget
  [(4, 1, 1, Orc.call [encL p] (i64 (ckL' p))), (9, 3, 1, Orc.call [encL q] (i64 (ckL' q))), (11, 6, 2, Orc.call [encL p, encL q] (encL (minusR p q))),
  (14, 6, 2, Orc.call [encL p, encL q] (encL (minusR p q))), (11, 6, 5, Orc.call [encL q, encL p] (encL (minusR q p))),
  (14, 6, 5, Orc.call [encL q, encL p] (encL (minusR q p)))])
  fun x x_1 => Tree.fail 1000003 0
theorem t11 (p q : Payload) : levF prog Proofs.Tryz.f11 [encL p, encL q] (T11 p q) =
  Tree.need (ILeL [encL p] [encL p] ∧ ASpec prog 23 [encL p] (i64 (ckL' p)))
  (Tree.br (decide (ckL' p = (0 : Int)))
  (Tree.need (ILeL [encL q] [encL q] ∧ ASpec prog 23 [encL q] (i64 (ckL' q)))
  (Tree.br (!decide (ckL' q = (0 : Int)))
  (Tree.done Exit.ret
  (lret
  (IVal.tup
  [IVal.agg
  [IVal.v (Value.slice none 0 0), IVal.v (Value.slice none 0 0), IVal.v (Value.slice none 0 0), IVal.v (Value.slice none 0 0),
  IVal.v (Value.slice none 0 0), IVal.v (Value.slice none 0 0)],
  i64 (ckL' q)])))
  (Tree.need (ILeL [encL p, encL q] [encL p, encL q] ∧ ASpec prog 28 [encL p, encL q] (encL (minusR p q)))
  (Tree.need (ILeL [encL q, encL p] [encL q, encL p] ∧ ASpec prog 28 [encL q, encL p] (encL (minusR q p)))
  (Tree.done Exit.ret
  (lret
  (IVal.tup
  [IVal.agg
  [slE 6 encO (minusR p q).origins, slE 2 encT (minusR p q).paths, slE 18 encK (minusR p q).keys, slE 6 encO (minusR q p).origins, slE 2 encT (minusR q p).paths,
  slE 18 encK (minusR q p).keys],
  IVal.v (Value.int IntKind.i64 (0 : Int))])))))))
  (Tree.br (!decide (ckL' p = (0 : Int)))
  (Tree.done Exit.ret
  (lret
  (IVal.tup
  [IVal.agg
  [IVal.v (Value.slice none 0 0), IVal.v (Value.slice none 0 0), IVal.v (Value.slice none 0 0), IVal.v (Value.slice none 0 0),
  IVal.v (Value.slice none 0 0), IVal.v (Value.slice none 0 0)],
  i64 (ckL' p)])))
  (Tree.need (ILeL [encL p, encL q] [encL p, encL q] ∧ ASpec prog 28 [encL p, encL q] (encL (minusR p q)))
  (Tree.need (ILeL [encL q, encL p] [encL q, encL p] ∧ ASpec prog 28 [encL q, encL p] (encL (minusR q p)))
  (Tree.done Exit.ret
  (lret
  (IVal.tup
  [IVal.agg
  [slE 6 encO (minusR p q).origins, slE 2 encT (minusR p q).paths, slE 18 encK (minusR p q).keys, slE 6 encO (minusR q p).origins, slE 2 encT (minusR q p).paths,
  slE 18 encK (minusR q p).keys],
  IVal.v (Value.int IntKind.i64 (0 : Int))]))))))) := by kernel_rfl
theorem c11 (p q : Payload) (hp : p.sm) (hq : q.sm) : ASpec prog 11 [encL p, encL q] (.tup [encD (betweenR p q).1, i64 (betweenR p q).2]) := by
  refine ASpec.treeW Proofs.Tryz.f11 (T11 p q) (by kernel_rfl) (by kernel_rfl) (t11 p q) ?_
  refine need_sat ⟨ILeL.refl _, c23 _⟩ ⟨fun h1 => need_sat ⟨ILeL.refl _, c23 _⟩ ⟨fun h2 => ⟨_, rfl, ?_⟩, fun h2 => need_sat ⟨ILeL.refl _, c28 _ _ ?_ ?_⟩ (need_sat ⟨ILeL.refl _, c28 _ _ ?_ ?_⟩ ⟨_, rfl, ?_⟩)⟩, fun h1 => ⟨fun h2 => ⟨_, rfl, ?_⟩, fun h2 => need_sat ⟨ILeL.refl _, c28 _ _ ?_ ?_⟩ (need_sat ⟨ILeL.refl _, c28 _ _ ?_ ?_⟩ ⟨_, rfl, ?_⟩)⟩⟩
  all_goals try exact absurd (nbit_f h2) (bit_f h1)
  · rw [betweenR, if_neg (Decidable.not_not.2 (bit_t h1)), if_pos (nbit_t h2)]; exact noD_leaf rfl
  · exact hp
  · exact hq
  · exact hq
  · exact hp
  · rw [betweenR, if_neg (Decidable.not_not.2 (bit_t h1)), if_neg (Decidable.not_not.2 (nbit_f h2))]; exact pair_leaf rfl rfl
  · rw [betweenR, if_pos (bit_f h1)]; exact noD_leaf rfl
def T17 (d : Diff) : Tell :=
  Tell.mk (fun x x_1 => false) (fun x x_1 => Orc.no) (fun x => Tree.fail 1000003 0) (fun x => 0) (fun x => ([], []))
  (oget [(3, 1, 1, Orc.call [encD d] (i64 (validR d))), (8, 4, 2, Orc.call [encL d.come] (encL d.come)), (8, 4, 5, Orc.call [encL d.gone] (encL d.gone))]) fun x x_1 =>
  Tree.fail 1000003 0
theorem t17 (d : Diff) : levF prog Proofs.Tryz.f17 [encD d] (T17 d) =
  Tree.need (ILeL [encD d] [encD d] ∧ ASpec prog 21 [encD d] (i64 (validR d)))
  (Tree.br (!decide (validR d = (0 : Int)))
  (Tree.done Exit.ret
  (lret
  (IVal.tup
  [IVal.agg
  [IVal.v (Value.slice none 0 0), IVal.v (Value.slice none 0 0), IVal.v (Value.slice none 0 0), IVal.v (Value.slice none 0 0),
  IVal.v (Value.slice none 0 0), IVal.v (Value.slice none 0 0)],
  i64 (validR d)])))
  (Tree.need (ILeL [IVal.agg [slE 6 encO d.come.origins, slE 2 encT d.come.paths, slE 18 encK d.come.keys]] [encL d.come] ∧ ASpec prog 8 [encL d.come] (encL d.come))
  (Tree.need (ILeL [IVal.agg [slE 6 encO d.gone.origins, slE 2 encT d.gone.paths, slE 18 encK d.gone.keys]] [encL d.gone] ∧ ASpec prog 8 [encL d.gone] (encL d.gone))
  (Tree.done Exit.ret
  (lret
  (IVal.tup
  [IVal.agg [slE 6 encO d.come.origins, slE 2 encT d.come.paths, slE 18 encK d.come.keys, slE 6 encO d.gone.origins, slE 2 encT d.gone.paths, slE 18 encK d.gone.keys],
  IVal.v (Value.int IntKind.i64 (0 : Int))])))))) := by kernel_rfl
theorem c17 (d : Diff) (hd : d.sm) : ASpec prog 17 [encD d] (.tup [encD (inverseR d).1, i64 (inverseR d).2]) := by
  refine ASpec.treeW Proofs.Tryz.f17 (T17 d) (by kernel_rfl) (by kernel_rfl) (t17 d) ?_
  refine need_sat ⟨ILeL.refl _, c21 _ ?_⟩ ⟨fun h1 => ⟨_, rfl, ?_⟩, fun h1 => need_sat ⟨ILeL.refl _, c8 _ ?_⟩ (need_sat ⟨ILeL.refl _, c8 _ ?_⟩ ⟨_, rfl, ?_⟩)⟩
  · exact hd
  · rw [inverseR, if_pos (nbit_t h1)]; exact noD_leaf rfl
  · exact hd.c.ok
  · exact hd.g.ok
  · rw [inverseR, if_neg (Decidable.not_not.2 (nbit_f h1))]; exact pair_leaf rfl rfl
def T9 (d : Diff) : Tell :=
  Tell.mk (fun x x_1 => false) (fun x x_1 => Orc.no) (fun x => Tree.fail 1000003 0) (fun x => 0) (fun x => ([], []))
  (oget [(2, 1, 2, Orc.call [encL d.gone] (encL d.gone)), (2, 1, 5, Orc.call [encL d.come] (encL d.come))]) fun x x_1 => Tree.fail 1000003 0
theorem t9 (d : Diff) : levF prog Proofs.Tryz.f9 [encD d] (T9 d) =
  Tree.need (ILeL [IVal.agg [slE 6 encO d.gone.origins, slE 2 encT d.gone.paths, slE 18 encK d.gone.keys]] [encL d.gone] ∧ ASpec prog 8 [encL d.gone] (encL d.gone))
  (Tree.need (ILeL [IVal.agg [slE 6 encO d.come.origins, slE 2 encT d.come.paths, slE 18 encK d.come.keys]] [encL d.come] ∧ ASpec prog 8 [encL d.come] (encL d.come))
  (Tree.done Exit.ret
  (lret (IVal.agg [slE 6 encO d.gone.origins, slE 2 encT d.gone.paths, slE 18 encK d.gone.keys, slE 6 encO d.come.origins, slE 2 encT d.come.paths, slE 18 encK d.come.keys])))) := by kernel_rfl
theorem c9 (d : Diff) (hd : d.sm) : ASpec prog 9 [encD d] (encD d) := by
  refine ASpec.treeW Proofs.Tryz.f9 (T9 d) (by kernel_rfl) (by kernel_rfl) (t9 d) ?_
  refine need_sat ⟨ILeL.refl _, c8 _ ?_⟩ (need_sat ⟨ILeL.refl _, c8 _ ?_⟩ ⟨_, rfl, ?_⟩)
  · exact hd.g.ok
  · exact hd.c.ok
  · exact .refl _
def T13 (p : Payload) (d : Diff) : Tell :=
  Tell.mk (fun x x_1 => false) (fun x x_1 => Orc.no) (fun x => Tree.fail 1000003 0) (fun x => 0) (fun x => ([], []))
  (oget
  [(4, 1, 1, Orc.call [encL p] (i64 (ckL' p))), (9, 3, 1, Orc.call [encD d] (i64 (validR d))), (11, 6, 3, Orc.call [encL d.gone, encL p] (encL (minusR d.gone p))),
  (14, 6, 3, Orc.call [encL d.gone, encL p] (encL (minusR d.gone p))), (11, 6, 4, Orc.call [encL (minusR d.gone p)] (i64 (sizeP (minusR d.gone p)))),
  (14, 6, 4, Orc.call [encL (minusR d.gone p)] (i64 (sizeP (minusR d.gone p)))), (17, 8, 3, Orc.call [encL p, encL d.gone] (encL (minusR p d.gone))),
  (20, 8, 3, Orc.call [encL p, encL d.gone] (encL (minusR p d.gone))), (17, 8, 6, Orc.call [encL (minusR p d.gone), encL d.come] (encL (plusR (minusR p d.gone) d.come))),
  (20, 8, 6, Orc.call [encL (minusR p d.gone), encL d.come] (encL (plusR (minusR p d.gone) d.come))),
  (26, 9, 1, Orc.call [encL (plusR (minusR p d.gone) d.come)] (bo (twiceR (plusR (minusR p d.gone) d.come)))),
  (29, 9, 1, Orc.call [encL (plusR (minusR p d.gone) d.come)] (bo (twiceR (plusR (minusR p d.gone) d.come)))),
  (28, 11, 1, Orc.call [encL (plusR (minusR p d.gone) d.come)] (i64 (ckL' (plusR (minusR p d.gone) d.come)))),
  (31, 11, 1, Orc.call [encL (plusR (minusR p d.gone) d.come)] (i64 (ckL' (plusR (minusR p d.gone) d.come))))])
  fun x x_1 => Tree.fail 1000003 0
theorem t13 (p : Payload) (d : Diff) : levF prog Proofs.Tryz.f13 [encL p, encD d] (T13 p d) =
  Tree.need (ILeL [encL p] [encL p] ∧ ASpec prog 23 [encL p] (i64 (ckL' p)))
  (Tree.br (decide (ckL' p = (0 : Int)))
  (Tree.need (ILeL [encD d] [encD d] ∧ ASpec prog 21 [encD d] (i64 (validR d)))
  (Tree.br (!decide (validR d = (0 : Int)))
  (Tree.done Exit.ret (lret (IVal.tup [IVal.agg [IVal.v (Value.slice none 0 0), IVal.v (Value.slice none 0 0), IVal.v (Value.slice none 0 0)], i64 (validR d)])))
  (Tree.need (ILeL [IVal.agg [slE 6 encO d.gone.origins, slE 2 encT d.gone.paths, slE 18 encK d.gone.keys], encL p] [encL d.gone, encL p] ∧ ASpec prog 28 [encL d.gone, encL p] (encL (minusR d.gone p)))
  (Tree.need (ILeL [encL (minusR d.gone p)] [encL (minusR d.gone p)] ∧ ASpec prog 24 [encL (minusR d.gone p)] (i64 (sizeP (minusR d.gone p))))
  (Tree.br (decide ((0 : Int) < sizeP (minusR d.gone p)))
  (Tree.done Exit.ret
  (lret (IVal.tup [IVal.agg [IVal.v (Value.slice none 0 0), IVal.v (Value.slice none 0 0), IVal.v (Value.slice none 0 0)], IVal.v (Value.int IntKind.i64 (6 : Int))])))
  (Tree.need
  (ILeL [encL p, IVal.agg [slE 6 encO d.gone.origins, slE 2 encT d.gone.paths, slE 18 encK d.gone.keys]] [encL p, encL d.gone] ∧ ASpec prog 28 [encL p, encL d.gone] (encL (minusR p d.gone)))
  (Tree.need
  (ILeL [encL (minusR p d.gone), IVal.agg [slE 6 encO d.come.origins, slE 2 encT d.come.paths, slE 18 encK d.come.keys]] [encL (minusR p d.gone), encL d.come] ∧
  ASpec prog 31 [encL (minusR p d.gone), encL d.come] (encL (plusR (minusR p d.gone) d.come)))
  (Tree.need (ILeL [encL (plusR (minusR p d.gone) d.come)] [encL (plusR (minusR p d.gone) d.come)] ∧ ASpec prog 32 [encL (plusR (minusR p d.gone) d.come)] (bo (twiceR (plusR (minusR p d.gone) d.come))))
  (Tree.br (twiceR (plusR (minusR p d.gone) d.come))
  (Tree.done Exit.ret
  (lret (IVal.tup [IVal.agg [IVal.v (Value.slice none 0 0), IVal.v (Value.slice none 0 0), IVal.v (Value.slice none 0 0)], IVal.v (Value.int IntKind.i64 (14 : Int))])))
  (Tree.need (ILeL [encL (plusR (minusR p d.gone) d.come)] [encL (plusR (minusR p d.gone) d.come)] ∧ ASpec prog 23 [encL (plusR (minusR p d.gone) d.come)] (i64 (ckL' (plusR (minusR p d.gone) d.come))))
  (Tree.br (!decide (ckL' (plusR (minusR p d.gone) d.come) = (0 : Int)))
  (Tree.done Exit.ret
  (lret
  (IVal.tup [IVal.agg [IVal.v (Value.slice none 0 0), IVal.v (Value.slice none 0 0), IVal.v (Value.slice none 0 0)], IVal.v (Value.int IntKind.i64 (4 : Int))])))
  (Tree.done Exit.ret (lret (IVal.tup [encL (plusR (minusR p d.gone) d.come), IVal.v (Value.int IntKind.i64 (0 : Int))]))))))))))))))
  (Tree.br (!decide (ckL' p = (0 : Int)))
  (Tree.done Exit.ret (lret (IVal.tup [IVal.agg [IVal.v (Value.slice none 0 0), IVal.v (Value.slice none 0 0), IVal.v (Value.slice none 0 0)], i64 (ckL' p)])))
  (Tree.need (ILeL [IVal.agg [slE 6 encO d.gone.origins, slE 2 encT d.gone.paths, slE 18 encK d.gone.keys], encL p] [encL d.gone, encL p] ∧ ASpec prog 28 [encL d.gone, encL p] (encL (minusR d.gone p)))
  (Tree.need (ILeL [encL (minusR d.gone p)] [encL (minusR d.gone p)] ∧ ASpec prog 24 [encL (minusR d.gone p)] (i64 (sizeP (minusR d.gone p))))
  (Tree.br (decide ((0 : Int) < sizeP (minusR d.gone p)))
  (Tree.done Exit.ret
  (lret (IVal.tup [IVal.agg [IVal.v (Value.slice none 0 0), IVal.v (Value.slice none 0 0), IVal.v (Value.slice none 0 0)], IVal.v (Value.int IntKind.i64 (6 : Int))])))
  (Tree.need
  (ILeL [encL p, IVal.agg [slE 6 encO d.gone.origins, slE 2 encT d.gone.paths, slE 18 encK d.gone.keys]] [encL p, encL d.gone] ∧ ASpec prog 28 [encL p, encL d.gone] (encL (minusR p d.gone)))
  (Tree.need
  (ILeL [encL (minusR p d.gone), IVal.agg [slE 6 encO d.come.origins, slE 2 encT d.come.paths, slE 18 encK d.come.keys]] [encL (minusR p d.gone), encL d.come] ∧
  ASpec prog 31 [encL (minusR p d.gone), encL d.come] (encL (plusR (minusR p d.gone) d.come)))
  (Tree.need (ILeL [encL (plusR (minusR p d.gone) d.come)] [encL (plusR (minusR p d.gone) d.come)] ∧ ASpec prog 32 [encL (plusR (minusR p d.gone) d.come)] (bo (twiceR (plusR (minusR p d.gone) d.come))))
  (Tree.br (twiceR (plusR (minusR p d.gone) d.come))
  (Tree.done Exit.ret
  (lret (IVal.tup [IVal.agg [IVal.v (Value.slice none 0 0), IVal.v (Value.slice none 0 0), IVal.v (Value.slice none 0 0)], IVal.v (Value.int IntKind.i64 (14 : Int))])))
  (Tree.need (ILeL [encL (plusR (minusR p d.gone) d.come)] [encL (plusR (minusR p d.gone) d.come)] ∧ ASpec prog 23 [encL (plusR (minusR p d.gone) d.come)] (i64 (ckL' (plusR (minusR p d.gone) d.come))))
  (Tree.br (!decide (ckL' (plusR (minusR p d.gone) d.come) = (0 : Int)))
  (Tree.done Exit.ret
  (lret (IVal.tup [IVal.agg [IVal.v (Value.slice none 0 0), IVal.v (Value.slice none 0 0), IVal.v (Value.slice none 0 0)], IVal.v (Value.int IntKind.i64 (4 : Int))])))
  (Tree.done Exit.ret (lret (IVal.tup [encL (plusR (minusR p d.gone) d.come), IVal.v (Value.int IntKind.i64 (0 : Int))])))))))))))))) := by kernel_rfl
def T19 (d f : Diff) : Tell :=
  Tell.mk (fun x x_1 => false) (fun x x_1 => Orc.no) (fun x => Tree.fail 1000003 0) (fun x => 0) (fun x => ([], []))
  (oget
  [(4, 1, 1, Orc.call [encD d] (i64 (validR d))), (9, 3, 1, Orc.call [encD f] (i64 (validR f))),
  (11, 6, 4, Orc.call [encL d.gone, encL f.come] (encL (minusR d.gone f.come))), (14, 6, 4, Orc.call [encL d.gone, encL f.come] (encL (minusR d.gone f.come))),
  (11, 6, 9, Orc.call [encL f.gone, encL d.come] (encL (minusR f.gone d.come))), (14, 6, 9, Orc.call [encL f.gone, encL d.come] (encL (minusR f.gone d.come))),
  (11, 6, 10, Orc.call [encL (minusR d.gone f.come), encL (minusR f.gone d.come)] (encL (plusR (minusR d.gone f.come) (minusR f.gone d.come)))),
  (14, 6, 10, Orc.call [encL (minusR d.gone f.come), encL (minusR f.gone d.come)] (encL (plusR (minusR d.gone f.come) (minusR f.gone d.come)))),
  (11, 6, 15, Orc.call [encL d.come, encL f.gone] (encL (minusR d.come f.gone))), (14, 6, 15, Orc.call [encL d.come, encL f.gone] (encL (minusR d.come f.gone))),
  (11, 6, 20, Orc.call [encL f.come, encL d.gone] (encL (minusR f.come d.gone))), (14, 6, 20, Orc.call [encL f.come, encL d.gone] (encL (minusR f.come d.gone))),
  (11, 6, 21, Orc.call [encL (minusR d.come f.gone), encL (minusR f.come d.gone)] (encL (plusR (minusR d.come f.gone) (minusR f.come d.gone)))),
  (14, 6, 21, Orc.call [encL (minusR d.come f.gone), encL (minusR f.come d.gone)] (encL (plusR (minusR d.come f.gone) (minusR f.come d.gone)))),
  (36, 7, 4, Orc.call [encL d.gone, encL f.gone] (bo (apartR d.gone f.gone))), (39, 7, 4, Orc.call [encL d.gone, encL f.gone] (bo (apartR d.gone f.gone))),
  (36, 7, 9, Orc.call [encL (plusR (minusR d.gone f.come) (minusR f.gone d.come))] (bo (twiceR (plusR (minusR d.gone f.come) (minusR f.gone d.come))))),
  (39, 7, 9, Orc.call [encL (plusR (minusR d.gone f.come) (minusR f.gone d.come))] (bo (twiceR (plusR (minusR d.gone f.come) (minusR f.gone d.come))))),
  (48, 9, 4, Orc.call [encL d.come, encL f.come] (bo (apartR d.come f.come))), (51, 9, 4, Orc.call [encL d.come, encL f.come] (bo (apartR d.come f.come))),
  (48, 9, 9, Orc.call [encL (plusR (minusR d.come f.gone) (minusR f.come d.gone))] (bo (twiceR (plusR (minusR d.come f.gone) (minusR f.come d.gone))))),
  (51, 9, 9, Orc.call [encL (plusR (minusR d.come f.gone) (minusR f.come d.gone))] (bo (twiceR (plusR (minusR d.come f.gone) (minusR f.come d.gone))))),
  (60, 11, 2, Orc.call [encL (plusR (minusR d.gone f.come) (minusR f.gone d.come))] (i64 (ckL' (plusR (minusR d.gone f.come) (minusR f.gone d.come))))),
  (63, 11, 2, Orc.call [encL (plusR (minusR d.gone f.come) (minusR f.gone d.come))] (i64 (ckL' (plusR (minusR d.gone f.come) (minusR f.gone d.come))))),
  (60, 11, 7, Orc.call [encL (plusR (minusR d.come f.gone) (minusR f.come d.gone))] (i64 (ckL' (plusR (minusR d.come f.gone) (minusR f.come d.gone))))),
  (63, 11, 7, Orc.call [encL (plusR (minusR d.come f.gone) (minusR f.come d.gone))] (i64 (ckL' (plusR (minusR d.come f.gone) (minusR f.come d.gone)))))])
  fun x x_1 => Tree.fail 1000003 0
theorem t19 (d f : Diff) : levF prog Proofs.Tryz.f19 [encD d, encD f] (T19 d f) =
  Tree.need (ILeL [encD d] [encD d] ∧ ASpec prog 21 [encD d] (i64 (validR d)))
  (Tree.br (decide (validR d = (0 : Int)))
  (Tree.need (ILeL [encD f] [encD f] ∧ ASpec prog 21 [encD f] (i64 (validR f)))
  (Tree.br (!decide (validR f = (0 : Int)))
  (Tree.done Exit.ret
  (lret
  (IVal.tup
  [IVal.agg
  [IVal.v (Value.slice none 0 0), IVal.v (Value.slice none 0 0), IVal.v (Value.slice none 0 0), IVal.v (Value.slice none 0 0),
  IVal.v (Value.slice none 0 0), IVal.v (Value.slice none 0 0)],
  i64 (validR f)])))
  (Tree.need
  (ILeL [IVal.agg [slE 6 encO d.gone.origins, slE 2 encT d.gone.paths, slE 18 encK d.gone.keys], IVal.agg [slE 6 encO f.come.origins, slE 2 encT f.come.paths, slE 18 encK f.come.keys]]
  [encL d.gone, encL f.come] ∧
  ASpec prog 28 [encL d.gone, encL f.come] (encL (minusR d.gone f.come)))
  (Tree.need
  (ILeL
  [IVal.agg [slE 6 encO f.gone.origins, slE 2 encT f.gone.paths, slE 18 encK f.gone.keys], IVal.agg [slE 6 encO d.come.origins, slE 2 encT d.come.paths, slE 18 encK d.come.keys]]
  [encL f.gone, encL d.come] ∧
  ASpec prog 28 [encL f.gone, encL d.come] (encL (minusR f.gone d.come)))
  (Tree.need
  (ILeL [encL (minusR d.gone f.come), encL (minusR f.gone d.come)] [encL (minusR d.gone f.come), encL (minusR f.gone d.come)] ∧
  ASpec prog 31 [encL (minusR d.gone f.come), encL (minusR f.gone d.come)] (encL (plusR (minusR d.gone f.come) (minusR f.gone d.come))))
  (Tree.need
  (ILeL
  [IVal.agg [slE 6 encO d.come.origins, slE 2 encT d.come.paths, slE 18 encK d.come.keys],
  IVal.agg [slE 6 encO f.gone.origins, slE 2 encT f.gone.paths, slE 18 encK f.gone.keys]]
  [encL d.come, encL f.gone] ∧
  ASpec prog 28 [encL d.come, encL f.gone] (encL (minusR d.come f.gone)))
  (Tree.need
  (ILeL
  [IVal.agg [slE 6 encO f.come.origins, slE 2 encT f.come.paths, slE 18 encK f.come.keys],
  IVal.agg [slE 6 encO d.gone.origins, slE 2 encT d.gone.paths, slE 18 encK d.gone.keys]]
  [encL f.come, encL d.gone] ∧
  ASpec prog 28 [encL f.come, encL d.gone] (encL (minusR f.come d.gone)))
  (Tree.need
  (ILeL [encL (minusR d.come f.gone), encL (minusR f.come d.gone)] [encL (minusR d.come f.gone), encL (minusR f.come d.gone)] ∧
  ASpec prog 31 [encL (minusR d.come f.gone), encL (minusR f.come d.gone)] (encL (plusR (minusR d.come f.gone) (minusR f.come d.gone))))
  (Tree.need
  (ILeL
  [IVal.agg [slE 6 encO d.gone.origins, slE 2 encT d.gone.paths, slE 18 encK d.gone.keys],
  IVal.agg [slE 6 encO f.gone.origins, slE 2 encT f.gone.paths, slE 18 encK f.gone.keys]]
  [encL d.gone, encL f.gone] ∧
  ASpec prog 37 [encL d.gone, encL f.gone] (bo (apartR d.gone f.gone)))
  (Tree.br (!apartR d.gone f.gone)
  (Tree.done Exit.ret
  (lret
  (IVal.tup
  [IVal.agg
  [IVal.v (Value.slice none 0 0), IVal.v (Value.slice none 0 0), IVal.v (Value.slice none 0 0), IVal.v (Value.slice none 0 0),
  IVal.v (Value.slice none 0 0), IVal.v (Value.slice none 0 0)],
  IVal.v (Value.int IntKind.i64 (6 : Int))])))
  (Tree.need
  (ILeL
  [IVal.agg
  [slE 6 encO (plusR (minusR d.gone f.come) (minusR f.gone d.come)).origins, slE 2 encT (plusR (minusR d.gone f.come) (minusR f.gone d.come)).paths,
  slE 18 encK (plusR (minusR d.gone f.come) (minusR f.gone d.come)).keys]]
  [encL (plusR (minusR d.gone f.come) (minusR f.gone d.come))] ∧
  ASpec prog 32 [encL (plusR (minusR d.gone f.come) (minusR f.gone d.come))] (bo (twiceR (plusR (minusR d.gone f.come) (minusR f.gone d.come)))))
  (Tree.br (twiceR (plusR (minusR d.gone f.come) (minusR f.gone d.come)))
  (Tree.done Exit.ret
  (lret
  (IVal.tup
  [IVal.agg
  [IVal.v (Value.slice none 0 0), IVal.v (Value.slice none 0 0), IVal.v (Value.slice none 0 0), IVal.v (Value.slice none 0 0),
  IVal.v (Value.slice none 0 0), IVal.v (Value.slice none 0 0)],
  IVal.v (Value.int IntKind.i64 (6 : Int))])))
  (Tree.need
  (ILeL
  [IVal.agg [slE 6 encO d.come.origins, slE 2 encT d.come.paths, slE 18 encK d.come.keys],
  IVal.agg [slE 6 encO f.come.origins, slE 2 encT f.come.paths, slE 18 encK f.come.keys]]
  [encL d.come, encL f.come] ∧
  ASpec prog 37 [encL d.come, encL f.come] (bo (apartR d.come f.come)))
  (Tree.br (!apartR d.come f.come)
  (Tree.done Exit.ret
  (lret
  (IVal.tup
  [IVal.agg
  [IVal.v (Value.slice none 0 0), IVal.v (Value.slice none 0 0), IVal.v (Value.slice none 0 0), IVal.v (Value.slice none 0 0),
  IVal.v (Value.slice none 0 0), IVal.v (Value.slice none 0 0)],
  IVal.v (Value.int IntKind.i64 (14 : Int))])))
  (Tree.need
  (ILeL
  [IVal.agg
  [slE 6 encO (plusR (minusR d.come f.gone) (minusR f.come d.gone)).origins, slE 2 encT (plusR (minusR d.come f.gone) (minusR f.come d.gone)).paths,
  slE 18 encK (plusR (minusR d.come f.gone) (minusR f.come d.gone)).keys]]
  [encL (plusR (minusR d.come f.gone) (minusR f.come d.gone))] ∧
  ASpec prog 32 [encL (plusR (minusR d.come f.gone) (minusR f.come d.gone))] (bo (twiceR (plusR (minusR d.come f.gone) (minusR f.come d.gone)))))
  (Tree.br (twiceR (plusR (minusR d.come f.gone) (minusR f.come d.gone)))
  (Tree.done Exit.ret
  (lret
  (IVal.tup
  [IVal.agg
  [IVal.v (Value.slice none 0 0), IVal.v (Value.slice none 0 0), IVal.v (Value.slice none 0 0), IVal.v (Value.slice none 0 0),
  IVal.v (Value.slice none 0 0), IVal.v (Value.slice none 0 0)],
  IVal.v (Value.int IntKind.i64 (14 : Int))])))
  (Tree.need
  (ILeL
  [IVal.agg
  [slE 6 encO (plusR (minusR d.gone f.come) (minusR f.gone d.come)).origins, slE 2 encT (plusR (minusR d.gone f.come) (minusR f.gone d.come)).paths,
  slE 18 encK (plusR (minusR d.gone f.come) (minusR f.gone d.come)).keys]]
  [encL (plusR (minusR d.gone f.come) (minusR f.gone d.come))] ∧
  ASpec prog 23 [encL (plusR (minusR d.gone f.come) (minusR f.gone d.come))] (i64 (ckL' (plusR (minusR d.gone f.come) (minusR f.gone d.come)))))
  (Tree.br (!decide (ckL' (plusR (minusR d.gone f.come) (minusR f.gone d.come)) = (0 : Int)))
  (Tree.done Exit.ret
  (lret
  (IVal.tup
  [IVal.agg
  [IVal.v (Value.slice none 0 0), IVal.v (Value.slice none 0 0), IVal.v (Value.slice none 0 0), IVal.v (Value.slice none 0 0),
  IVal.v (Value.slice none 0 0), IVal.v (Value.slice none 0 0)],
  IVal.v (Value.int IntKind.i64 (4 : Int))])))
  (Tree.need
  (ILeL
  [IVal.agg
  [slE 6 encO (plusR (minusR d.come f.gone) (minusR f.come d.gone)).origins, slE 2 encT (plusR (minusR d.come f.gone) (minusR f.come d.gone)).paths,
  slE 18 encK (plusR (minusR d.come f.gone) (minusR f.come d.gone)).keys]]
  [encL (plusR (minusR d.come f.gone) (minusR f.come d.gone))] ∧
  ASpec prog 23 [encL (plusR (minusR d.come f.gone) (minusR f.come d.gone))] (i64 (ckL' (plusR (minusR d.come f.gone) (minusR f.come d.gone)))))
  (Tree.br (!decide (ckL' (plusR (minusR d.come f.gone) (minusR f.come d.gone)) = (0 : Int)))
  (Tree.done Exit.ret
  (lret
  (IVal.tup
  [IVal.agg
  [IVal.v (Value.slice none 0 0), IVal.v (Value.slice none 0 0), IVal.v (Value.slice none 0 0),
  IVal.v (Value.slice none 0 0), IVal.v (Value.slice none 0 0), IVal.v (Value.slice none 0 0)],
  IVal.v (Value.int IntKind.i64 (4 : Int))])))
  (Tree.done Exit.ret
  (lret
  (IVal.tup
  [IVal.agg
  [slE 6 encO (plusR (minusR d.gone f.come) (minusR f.gone d.come)).origins, slE 2 encT (plusR (minusR d.gone f.come) (minusR f.gone d.come)).paths,
  slE 18 encK (plusR (minusR d.gone f.come) (minusR f.gone d.come)).keys, slE 6 encO (plusR (minusR d.come f.gone) (minusR f.come d.gone)).origins,
  slE 2 encT (plusR (minusR d.come f.gone) (minusR f.come d.gone)).paths, slE 18 encK (plusR (minusR d.come f.gone) (minusR f.come d.gone)).keys],
  IVal.v (Value.int IntKind.i64 (0 : Int))])))))))))))))))))))))))
  (Tree.br (!decide (validR d = (0 : Int)))
  (Tree.done Exit.ret
  (lret
  (IVal.tup
  [IVal.agg
  [IVal.v (Value.slice none 0 0), IVal.v (Value.slice none 0 0), IVal.v (Value.slice none 0 0), IVal.v (Value.slice none 0 0),
  IVal.v (Value.slice none 0 0), IVal.v (Value.slice none 0 0)],
  i64 (validR d)])))
  (Tree.need
  (ILeL [IVal.agg [slE 6 encO d.gone.origins, slE 2 encT d.gone.paths, slE 18 encK d.gone.keys], IVal.agg [slE 6 encO f.come.origins, slE 2 encT f.come.paths, slE 18 encK f.come.keys]]
  [encL d.gone, encL f.come] ∧
  ASpec prog 28 [encL d.gone, encL f.come] (encL (minusR d.gone f.come)))
  (Tree.need
  (ILeL [IVal.agg [slE 6 encO f.gone.origins, slE 2 encT f.gone.paths, slE 18 encK f.gone.keys], IVal.agg [slE 6 encO d.come.origins, slE 2 encT d.come.paths, slE 18 encK d.come.keys]]
  [encL f.gone, encL d.come] ∧
  ASpec prog 28 [encL f.gone, encL d.come] (encL (minusR f.gone d.come)))
  (Tree.need
  (ILeL [encL (minusR d.gone f.come), encL (minusR f.gone d.come)] [encL (minusR d.gone f.come), encL (minusR f.gone d.come)] ∧
  ASpec prog 31 [encL (minusR d.gone f.come), encL (minusR f.gone d.come)] (encL (plusR (minusR d.gone f.come) (minusR f.gone d.come))))
  (Tree.need
  (ILeL
  [IVal.agg [slE 6 encO d.come.origins, slE 2 encT d.come.paths, slE 18 encK d.come.keys],
  IVal.agg [slE 6 encO f.gone.origins, slE 2 encT f.gone.paths, slE 18 encK f.gone.keys]]
  [encL d.come, encL f.gone] ∧
  ASpec prog 28 [encL d.come, encL f.gone] (encL (minusR d.come f.gone)))
  (Tree.need
  (ILeL
  [IVal.agg [slE 6 encO f.come.origins, slE 2 encT f.come.paths, slE 18 encK f.come.keys],
  IVal.agg [slE 6 encO d.gone.origins, slE 2 encT d.gone.paths, slE 18 encK d.gone.keys]]
  [encL f.come, encL d.gone] ∧
  ASpec prog 28 [encL f.come, encL d.gone] (encL (minusR f.come d.gone)))
  (Tree.need
  (ILeL [encL (minusR d.come f.gone), encL (minusR f.come d.gone)] [encL (minusR d.come f.gone), encL (minusR f.come d.gone)] ∧
  ASpec prog 31 [encL (minusR d.come f.gone), encL (minusR f.come d.gone)] (encL (plusR (minusR d.come f.gone) (minusR f.come d.gone))))
  (Tree.need
  (ILeL
  [IVal.agg [slE 6 encO d.gone.origins, slE 2 encT d.gone.paths, slE 18 encK d.gone.keys],
  IVal.agg [slE 6 encO f.gone.origins, slE 2 encT f.gone.paths, slE 18 encK f.gone.keys]]
  [encL d.gone, encL f.gone] ∧
  ASpec prog 37 [encL d.gone, encL f.gone] (bo (apartR d.gone f.gone)))
  (Tree.br (!apartR d.gone f.gone)
  (Tree.done Exit.ret
  (lret
  (IVal.tup
  [IVal.agg
  [IVal.v (Value.slice none 0 0), IVal.v (Value.slice none 0 0), IVal.v (Value.slice none 0 0), IVal.v (Value.slice none 0 0),
  IVal.v (Value.slice none 0 0), IVal.v (Value.slice none 0 0)],
  IVal.v (Value.int IntKind.i64 (6 : Int))])))
  (Tree.need
  (ILeL
  [IVal.agg
  [slE 6 encO (plusR (minusR d.gone f.come) (minusR f.gone d.come)).origins, slE 2 encT (plusR (minusR d.gone f.come) (minusR f.gone d.come)).paths,
  slE 18 encK (plusR (minusR d.gone f.come) (minusR f.gone d.come)).keys]]
  [encL (plusR (minusR d.gone f.come) (minusR f.gone d.come))] ∧
  ASpec prog 32 [encL (plusR (minusR d.gone f.come) (minusR f.gone d.come))] (bo (twiceR (plusR (minusR d.gone f.come) (minusR f.gone d.come)))))
  (Tree.br (twiceR (plusR (minusR d.gone f.come) (minusR f.gone d.come)))
  (Tree.done Exit.ret
  (lret
  (IVal.tup
  [IVal.agg
  [IVal.v (Value.slice none 0 0), IVal.v (Value.slice none 0 0), IVal.v (Value.slice none 0 0), IVal.v (Value.slice none 0 0),
  IVal.v (Value.slice none 0 0), IVal.v (Value.slice none 0 0)],
  IVal.v (Value.int IntKind.i64 (6 : Int))])))
  (Tree.need
  (ILeL
  [IVal.agg [slE 6 encO d.come.origins, slE 2 encT d.come.paths, slE 18 encK d.come.keys],
  IVal.agg [slE 6 encO f.come.origins, slE 2 encT f.come.paths, slE 18 encK f.come.keys]]
  [encL d.come, encL f.come] ∧
  ASpec prog 37 [encL d.come, encL f.come] (bo (apartR d.come f.come)))
  (Tree.br (!apartR d.come f.come)
  (Tree.done Exit.ret
  (lret
  (IVal.tup
  [IVal.agg
  [IVal.v (Value.slice none 0 0), IVal.v (Value.slice none 0 0), IVal.v (Value.slice none 0 0), IVal.v (Value.slice none 0 0),
  IVal.v (Value.slice none 0 0), IVal.v (Value.slice none 0 0)],
  IVal.v (Value.int IntKind.i64 (14 : Int))])))
  (Tree.need
  (ILeL
  [IVal.agg
  [slE 6 encO (plusR (minusR d.come f.gone) (minusR f.come d.gone)).origins, slE 2 encT (plusR (minusR d.come f.gone) (minusR f.come d.gone)).paths,
  slE 18 encK (plusR (minusR d.come f.gone) (minusR f.come d.gone)).keys]]
  [encL (plusR (minusR d.come f.gone) (minusR f.come d.gone))] ∧
  ASpec prog 32 [encL (plusR (minusR d.come f.gone) (minusR f.come d.gone))] (bo (twiceR (plusR (minusR d.come f.gone) (minusR f.come d.gone)))))
  (Tree.br (twiceR (plusR (minusR d.come f.gone) (minusR f.come d.gone)))
  (Tree.done Exit.ret
  (lret
  (IVal.tup
  [IVal.agg
  [IVal.v (Value.slice none 0 0), IVal.v (Value.slice none 0 0), IVal.v (Value.slice none 0 0), IVal.v (Value.slice none 0 0),
  IVal.v (Value.slice none 0 0), IVal.v (Value.slice none 0 0)],
  IVal.v (Value.int IntKind.i64 (14 : Int))])))
  (Tree.need
  (ILeL
  [IVal.agg
  [slE 6 encO (plusR (minusR d.gone f.come) (minusR f.gone d.come)).origins, slE 2 encT (plusR (minusR d.gone f.come) (minusR f.gone d.come)).paths,
  slE 18 encK (plusR (minusR d.gone f.come) (minusR f.gone d.come)).keys]]
  [encL (plusR (minusR d.gone f.come) (minusR f.gone d.come))] ∧
  ASpec prog 23 [encL (plusR (minusR d.gone f.come) (minusR f.gone d.come))] (i64 (ckL' (plusR (minusR d.gone f.come) (minusR f.gone d.come)))))
  (Tree.br (!decide (ckL' (plusR (minusR d.gone f.come) (minusR f.gone d.come)) = (0 : Int)))
  (Tree.done Exit.ret
  (lret
  (IVal.tup
  [IVal.agg
  [IVal.v (Value.slice none 0 0), IVal.v (Value.slice none 0 0), IVal.v (Value.slice none 0 0), IVal.v (Value.slice none 0 0),
  IVal.v (Value.slice none 0 0), IVal.v (Value.slice none 0 0)],
  IVal.v (Value.int IntKind.i64 (4 : Int))])))
  (Tree.need
  (ILeL
  [IVal.agg
  [slE 6 encO (plusR (minusR d.come f.gone) (minusR f.come d.gone)).origins, slE 2 encT (plusR (minusR d.come f.gone) (minusR f.come d.gone)).paths,
  slE 18 encK (plusR (minusR d.come f.gone) (minusR f.come d.gone)).keys]]
  [encL (plusR (minusR d.come f.gone) (minusR f.come d.gone))] ∧
  ASpec prog 23 [encL (plusR (minusR d.come f.gone) (minusR f.come d.gone))] (i64 (ckL' (plusR (minusR d.come f.gone) (minusR f.come d.gone)))))
  (Tree.br (!decide (ckL' (plusR (minusR d.come f.gone) (minusR f.come d.gone)) = (0 : Int)))
  (Tree.done Exit.ret
  (lret
  (IVal.tup
  [IVal.agg
  [IVal.v (Value.slice none 0 0), IVal.v (Value.slice none 0 0), IVal.v (Value.slice none 0 0), IVal.v (Value.slice none 0 0),
  IVal.v (Value.slice none 0 0), IVal.v (Value.slice none 0 0)],
  IVal.v (Value.int IntKind.i64 (4 : Int))])))
  (Tree.done Exit.ret
  (lret
  (IVal.tup
  [IVal.agg
  [slE 6 encO (plusR (minusR d.gone f.come) (minusR f.gone d.come)).origins, slE 2 encT (plusR (minusR d.gone f.come) (minusR f.gone d.come)).paths,
  slE 18 encK (plusR (minusR d.gone f.come) (minusR f.gone d.come)).keys, slE 6 encO (plusR (minusR d.come f.gone) (minusR f.come d.gone)).origins,
  slE 2 encT (plusR (minusR d.come f.gone) (minusR f.come d.gone)).paths, slE 18 encK (plusR (minusR d.come f.gone) (minusR f.come d.gone)).keys],
  IVal.v (Value.int IntKind.i64 (0 : Int))]))))))))))))))))))))))) := by kernel_rfl
end Gp
namespace Gp
theorem ckL'_len {p : Payload} (h : ckL' p = 0) : p.origins.length ≤ 1000 ∧ p.paths.length ≤ 300 ∧ p.keys.length ≤ 100 := by
  rw [ckL'] at h
  by_cases h1 : 1000 < p.origins.length ∨ 300 < p.paths.length ∨ 100 < p.keys.length ∨ anyI (P23a p) 0 p.paths.length = true
  · rw [if_pos h1] at h; cases h
  · simp only [not_or] at h1; omega
theorem validR_len {d : Diff} (h : validR d = 0) : ckL' d.gone = 0 ∧ ckL' d.come = 0 := by
  rw [validR] at h
  by_cases h1 : ckL' d.gone = 0
  · rw [if_neg (Decidable.not_not.2 h1)] at h
    by_cases h2 : ckL' d.come = 0
    · exact ⟨h1, h2⟩
    · rw [if_pos h2] at h; exact absurd h h2
  · rw [if_pos h1] at h; exact absurd h h1
theorem plusR_small {a b c e : Payload} (ha : ckL' a = 0) (hb : ckL' b = 0) (sa : a.sm) (sb : b.sm) : (plusR (minusR a c) (minusR b e)).sm := by
  obtain ⟨a1, a2, a3⟩ := ckL'_len ha
  obtain ⟨b1, b2, b3⟩ := ckL'_len hb
  have k1 := List.length_filter_le (noO c) a.origins
  have k2 := List.length_filter_le (noT c) a.paths
  have k3 := List.length_filter_le (noK c) a.keys
  have l1 := List.length_filter_le (noO e) b.origins
  have l2 := List.length_filter_le (noT e) b.paths
  have l3 := List.length_filter_le (noK e) b.keys
  refine ⟨?_, ?_, ?_, (plusR_sm (minusR_sm sa c) (minusR_sm sb e)).p⟩
  · simp only [plusR, ins_len2, minusR]; omega
  · simp only [plusR, ins_len2, minusR]; omega
  · simp only [plusR, ins_len2, minusR]; omega
theorem plusR_small1 {a b c : Payload} (ha : ckL' a = 0) (hb : ckL' b = 0) (sa : a.sm) (sb : b.sm) : (plusR (minusR a c) b).sm := by
  obtain ⟨a1, a2, a3⟩ := ckL'_len ha
  obtain ⟨b1, b2, b3⟩ := ckL'_len hb
  have k1 := List.length_filter_le (noO c) a.origins
  have k2 := List.length_filter_le (noT c) a.paths
  have k3 := List.length_filter_le (noK c) a.keys
  refine ⟨?_, ?_, ?_, (plusR_sm (minusR_sm sa c) sb).p⟩
  · simp only [plusR, ins_len2, minusR]; omega
  · simp only [plusR, ins_len2, minusR]; omega
  · simp only [plusR, ins_len2, minusR]; omega
theorem c13 (p : Payload) (d : Diff) (hp : p.sm) (hd : d.sm) : ASpec prog 13 [encL p, encD d] (.tup [encL (applyR p d).1, i64 (applyR p d).2]) := by
  refine ASpec.treeW Proofs.Tryz.f13 (T13 p d) (by kernel_rfl) (by kernel_rfl) (t13 p d) ?_
  refine need_sat ⟨ILeL.refl _, c23 _⟩ ⟨fun h1 => need_sat ⟨ILeL.refl _, c21 _ ?_⟩ ⟨fun h2 => ⟨_, rfl, ?_⟩, fun h2 => need_sat ⟨ILeL.refl _, c28 _ _ ?_ ?_⟩ (need_sat ⟨ILeL.refl _, c24 _ ?_⟩ ⟨fun h3 => ⟨_, rfl, ?_⟩, fun h3 => need_sat ⟨ILeL.refl _, c28 _ _ ?_ ?_⟩ (need_sat ⟨ILeL.refl _, c31 _ _ ?_ ?_⟩ (need_sat ⟨ILeL.refl _, c32 _ ?_⟩ ⟨fun h4 => ⟨_, rfl, ?_⟩, fun h4 => need_sat ⟨ILeL.refl _, c23 _⟩ ⟨fun h5 => ⟨_, rfl, ?_⟩, fun h5 => ⟨_, rfl, ?_⟩⟩⟩))⟩)⟩, fun h1 => ⟨fun h2 => ⟨_, rfl, ?_⟩, fun h2 => need_sat ⟨ILeL.refl _, c28 _ _ ?_ ?_⟩ (need_sat ⟨ILeL.refl _, c24 _ ?_⟩ ⟨fun h3 => ⟨_, rfl, ?_⟩, fun h3 => need_sat ⟨ILeL.refl _, c28 _ _ ?_ ?_⟩ (need_sat ⟨ILeL.refl _, c31 _ _ ?_ ?_⟩ (need_sat ⟨ILeL.refl _, c32 _ ?_⟩ ⟨fun h4 => ⟨_, rfl, ?_⟩, fun h4 => need_sat ⟨ILeL.refl _, c23 _⟩ ⟨fun h5 => ⟨_, rfl, ?_⟩, fun h5 => ⟨_, rfl, ?_⟩⟩⟩))⟩)⟩⟩
  all_goals try exact absurd (nbit_f h2) (bit_f h1)
  all_goals try first
    | exact hd
    | exact hp
    | exact hd.g
    | exact hd.c
    | exact minusR_sm hp _
    | exact minusR_sm hd.g _
    | exact (minusR_sm hd.g _).ok
    | exact plusR_small1 (bit_t h1) (validR_len (nbit_f h2)).2 hp hd.c
  · rw [applyR, if_neg (Decidable.not_not.2 (bit_t h1)), if_pos (nbit_t h2)]; exact no_leaf rfl
  · rw [applyR, if_neg (Decidable.not_not.2 (bit_t h1)), if_neg (Decidable.not_not.2 (nbit_f h2)), if_pos (bit_t h3)]; exact no_leaf rfl
  · rw [applyR, if_neg (Decidable.not_not.2 (bit_t h1)), if_neg (Decidable.not_not.2 (nbit_f h2)), if_neg (bit_f h3), if_pos h4]; exact no_leaf rfl
  · rw [applyR, if_neg (Decidable.not_not.2 (bit_t h1)), if_neg (Decidable.not_not.2 (nbit_f h2)), if_neg (bit_f h3), if_neg (by rw [h4]; decide), if_pos (nbit_t h5)]; exact no_leaf rfl
  · rw [applyR, if_neg (Decidable.not_not.2 (bit_t h1)), if_neg (Decidable.not_not.2 (nbit_f h2)), if_neg (bit_f h3), if_neg (by rw [h4]; decide), if_neg (Decidable.not_not.2 (nbit_f h5))]; exact pair_leaf rfl rfl
  · rw [applyR, if_pos (bit_f h1)]; exact no_leaf rfl
theorem c19 (d f : Diff) (hd : d.sm) (hf : f.sm) : ASpec prog 19 [encD d, encD f] (.tup [encD (composeR d f).1, i64 (composeR d f).2]) := by
  refine ASpec.treeW Proofs.Tryz.f19 (T19 d f) (by kernel_rfl) (by kernel_rfl) (t19 d f) ?_
  have vd := @validR_len d
  have vf := @validR_len f
  refine need_sat ⟨ILeL.refl _, c21 _ ?_⟩ ⟨fun h1 => need_sat ⟨ILeL.refl _, c21 _ ?_⟩ ⟨fun h2 => ⟨_, rfl, ?_⟩, fun h2 => need_sat ⟨ILeL.refl _, c28 _ _ ?_ ?_⟩ (need_sat ⟨ILeL.refl _, c28 _ _ ?_ ?_⟩ (need_sat ⟨ILeL.refl _, c31 _ _ ?_ ?_⟩ (need_sat ⟨ILeL.refl _, c28 _ _ ?_ ?_⟩ (need_sat ⟨ILeL.refl _, c28 _ _ ?_ ?_⟩ (need_sat ⟨ILeL.refl _, c31 _ _ ?_ ?_⟩ (need_sat ⟨ILeL.refl _, c37 _ _ ?_ ?_⟩ ⟨fun h3 => ⟨_, rfl, ?_⟩, fun h3 => need_sat ⟨ILeL.refl _, c32 _ ?_⟩ ⟨fun h4 => ⟨_, rfl, ?_⟩, fun h4 => need_sat ⟨ILeL.refl _, c37 _ _ ?_ ?_⟩ ⟨fun h5 => ⟨_, rfl, ?_⟩, fun h5 => need_sat ⟨ILeL.refl _, c32 _ ?_⟩ ⟨fun h6 => ⟨_, rfl, ?_⟩, fun h6 => need_sat ⟨ILeL.refl _, c23 _⟩ ⟨fun h7 => ⟨_, rfl, ?_⟩, fun h7 => need_sat ⟨ILeL.refl _, c23 _⟩ ⟨fun h8 => ⟨_, rfl, ?_⟩, fun h8 => ⟨_, rfl, ?_⟩⟩⟩⟩⟩⟩⟩))))))⟩, fun h1 => ⟨fun h2 => ⟨_, rfl, ?_⟩, fun h2 => need_sat ⟨ILeL.refl _, c28 _ _ ?_ ?_⟩ (need_sat ⟨ILeL.refl _, c28 _ _ ?_ ?_⟩ (need_sat ⟨ILeL.refl _, c31 _ _ ?_ ?_⟩ (need_sat ⟨ILeL.refl _, c28 _ _ ?_ ?_⟩ (need_sat ⟨ILeL.refl _, c28 _ _ ?_ ?_⟩ (need_sat ⟨ILeL.refl _, c31 _ _ ?_ ?_⟩ (need_sat ⟨ILeL.refl _, c37 _ _ ?_ ?_⟩ ⟨fun h3 => ⟨_, rfl, ?_⟩, fun h3 => need_sat ⟨ILeL.refl _, c32 _ ?_⟩ ⟨fun h4 => ⟨_, rfl, ?_⟩, fun h4 => need_sat ⟨ILeL.refl _, c37 _ _ ?_ ?_⟩ ⟨fun h5 => ⟨_, rfl, ?_⟩, fun h5 => need_sat ⟨ILeL.refl _, c32 _ ?_⟩ ⟨fun h6 => ⟨_, rfl, ?_⟩, fun h6 => need_sat ⟨ILeL.refl _, c23 _⟩ ⟨fun h7 => ⟨_, rfl, ?_⟩, fun h7 => need_sat ⟨ILeL.refl _, c23 _⟩ ⟨fun h8 => ⟨_, rfl, ?_⟩, fun h8 => ⟨_, rfl, ?_⟩⟩⟩⟩⟩⟩⟩))))))⟩⟩
  all_goals try exact absurd (nbit_f h2) (bit_f h1)
  all_goals try first
    | exact hd
    | exact hf
    | exact hd.g
    | exact hd.c
    | exact hf.g
    | exact hf.c
    | exact minusR_sm hd.g _
    | exact minusR_sm hd.c _
    | exact minusR_sm hf.g _
    | exact minusR_sm hf.c _
    | exact plusR_small (vd (bit_t h1)).1 (vf (nbit_f h2)).1 hd.g hf.g
    | exact plusR_small (vd (bit_t h1)).2 (vf (nbit_f h2)).2 hd.c hf.c
  all_goals
    simp only [decide_eq_true_eq, decide_eq_false_iff_not, Bool.not_eq_true', Bool.not_eq_false', Bool.not_eq_true, Bool.not_eq_false] at *
    first
      | (rw [composeR, if_pos (by assumption)]; exact noD_leaf rfl)
      | (rw [composeR]; simp only [joinR, *, ne_eq, not_true_eq_false, not_false_eq_true, if_true, if_false, Bool.not_true, Bool.not_false, Bool.false_or, Bool.true_or, Bool.or_self, Bool.false_eq_true, or_self, or_true, true_or, or_false, false_or]; first | exact noD_leaf rfl | exact pair_leaf rfl rfl | exact .refl _)
end Gp
namespace Gp
theorem between_sm {p : Payload} (rp : p.rng) (q : Payload) : (betweenS p q).1.sm := by
  unfold betweenS; split
  · exact noD_sm
  · rename_i h1
    split
    · exact noD_sm
    · rename_i h2
      have gp := (ck_iff _).1 (Decidable.not_not.1 h1)
      have gq := (ck_iff _).1 (Decidable.not_not.1 h2)
      have i1 := in_minus gq.s p
      have i2 := in_minus gp.s q
      exact ⟨(gp.sub (gp.s.minus q) fun e he => ((i1 e).1 he).1).sm, (gq.sub (gq.s.minus p) fun e he => ((i2 e).1 he).1).sm⟩
theorem c5 (p q : Payload) (d : Diff) (rp : p.rng) (rq : q.rng) (rd : d.rng) (hp : p.paths.length ≤ 2 ^ 63 - 1) (hq : q.paths.length ≤ 2 ^ 63 - 1) (hd : d.gone.paths.length ≤ 2 ^ 63 - 1 ∧ d.come.paths.length ≤ 2 ^ 63 - 1) : ASpec prog 5 [encL p, encL q, encD d] (bo true) := by
  have hlaw := fun a b => applies_law rp rq rd a b
  refine ASpec.treeW Proofs.Tryz.f5 (T5 p q d) (by kernel_rfl) (by kernel_rfl) (t5 p q d) ?_
  refine need_sat ⟨ILeL.refl _, c22⟩ (need_sat ⟨ILeL.refl _, c6 _ ?_⟩ ⟨fun h1 => ⟨_, rfl, ?_⟩, fun h1 => need_sat ⟨ILeL.refl _, c6 _ ?_⟩ ⟨fun h2 => ⟨_, rfl, ?_⟩, fun h2 => need_sat ⟨ILeL.refl _, c7 _ ?_ ?_⟩ ⟨fun h3 => ⟨_, rfl, ?_⟩, fun h3 => need_sat ⟨ILeL.refl _, c23 _⟩ ⟨fun h4 => ⟨_, rfl, ?_⟩, fun h4 => need_sat ⟨ILeL.refl _, c23 _⟩ ⟨fun h5 => ⟨_, rfl, ?_⟩, fun h5 => ⟨fun h => (by cases h), fun _ => need_sat ⟨ILeL.refl _, c10 _ _ ?_ ?_⟩ (need_sat ⟨ILeL.refl _, c12 _ _ ?_ ?_⟩ ⟨fun h6 => ⟨_, rfl, ?_⟩, fun h6 => ⟨fun h7 => ⟨_, rfl, ?_⟩, fun h7 => need_sat ⟨ILeL.refl _, c15 _ _ ?_⟩ ⟨fun h8 => ⟨_, rfl, ?_⟩, fun h8 => need_sat ⟨ILeL.refl _, c21 _ ?_⟩ ⟨fun h9 => ⟨_, rfl, ?_⟩, fun h9 => need_sat ⟨ILeL.refl _, c12 _ _ ?_ ?_⟩ ⟨fun h10 => ⟨fun _ => need_sat ⟨ILeL.refl _, c24 _ ?_⟩ ⟨_, rfl, ?_⟩, fun h => (by cases h)⟩, fun h10 => need_sat ⟨ILeL.refl _, c10 _ _ ?_ ?_⟩ ⟨fun _ => ⟨fun h11 => need_sat ⟨ILeL.refl _, c14 _ _ ?_⟩ ⟨fun h12 => need_sat ⟨ILeL.refl _, c23 _⟩ ⟨_, rfl, ?_⟩, fun h12 => ⟨_, rfl, ?_⟩⟩, fun h11 => ⟨_, rfl, ?_⟩⟩, fun h => (by cases h)⟩⟩⟩⟩⟩⟩)⟩⟩⟩⟩⟩⟩)
  all_goals first
    | exact hp
    | exact hq
    | exact hd.1
    | exact hd.2
    | exact apply_sm _ _
    | exact (apply_sm _ _).ok
    | exact .refl _
    | exact great_sm h1
    | exact great_sm h2
    | exact ⟨great_sm (Bool.or_eq_false_iff.1 h3).1, great_sm (Bool.or_eq_false_iff.1 h3).2⟩
    | skip
  all_goals try (first | exact (hlaw (by simpa using h4) (by simpa using h5)).2.2.2.1 | exact between_sm rp _)
  all_goals refine ile_bo ?_
  all_goals clear hp hq hd rp rq rd
  all_goals have hf := @apply_fail p d
  all_goals simp_all [noP, sizeP]
end Gp
namespace Gp
def T3 (p q : Payload) (d : Diff) : Tell :=
  Tell.mk (fun x x_1 => false) (fun x x_1 => Orc.no) (fun x => Tree.fail 1000003 0) (fun x => 0) (fun x => ([], []))
  (oget
  [(4, 1, 1, Orc.call [encL p] (bo (greatP p))), (4, 1, 4, Orc.call [encL q] (bo (greatP q))), (4, 1, 8, Orc.call [encD d] (bo (greatP d.gone || greatP d.come))),
  (14, 3, 1, Orc.call [encL p] (encL p)), (14, 3, 3, Orc.call [encD d] (encD d)),
  (22, 4, 2, Orc.call [encL p, encL q] (IVal.tup [encD (betweenS p q).fst, i64 (betweenS p q).snd])),
  (31, 5, 2, Orc.call [encL p, encL q] (IVal.tup [encD (betweenR p q).fst, i64 (betweenR p q).snd])),
  (40, 6, 2, Orc.call [encL p, encD d] (IVal.tup [encL (applyS p d).fst, i64 (applyS p d).snd])),
  (49, 7, 2, Orc.call [encL p, encD d] (IVal.tup [encL (applyR p d).fst, i64 (applyR p d).snd])),
  (58, 8, 2, Orc.call [encD (betweenS p q).fst, encD (betweenR p q).fst] (bo (decide ((betweenS p q).fst = (betweenR p q).fst)))),
  (58, 8, 11, Orc.call [encL (applyS p d).fst, encL (applyR p d).fst] (bo (decide ((applyS p d).fst = (applyR p d).fst)))), (58, 8, 21, Orc.call [encL p, encL p] (bo (decide (p = p)))),
  (58, 8, 26, Orc.call [encD d, encD d] (bo (decide (d = d))))])
  fun x x_1 => Tree.fail 1000003 0
theorem t3 (p q : Payload) (d : Diff) : levF prog Proofs.Tryz.f3 [encL p, encL q, encD d] (T3 p q d) =
  Tree.need (ILeL [encL p] [encL p] ∧ ASpec prog 6 [encL p] (bo (greatP p)))
  (Tree.br (greatP p) (Tree.done Exit.ret (lret (IVal.v (Value.bool true))))
  (Tree.need (ILeL [encL q] [encL q] ∧ ASpec prog 6 [encL q] (bo (greatP q)))
  (Tree.br (greatP q) (Tree.done Exit.ret (lret (IVal.v (Value.bool true))))
  (Tree.need (ILeL [encD d] [encD d] ∧ ASpec prog 7 [encD d] (bo (greatP d.gone || greatP d.come)))
  (Tree.br (greatP d.gone || greatP d.come) (Tree.done Exit.ret (lret (IVal.v (Value.bool true))))
  (Tree.need (ILeL [encL p] [encL p] ∧ ASpec prog 8 [encL p] (encL p))
  (Tree.need (ILeL [encD d] [encD d] ∧ ASpec prog 9 [encD d] (encD d))
  (Tree.need (ILeL [encL p, encL q] [encL p, encL q] ∧ ASpec prog 10 [encL p, encL q] (IVal.tup [encD (betweenS p q).fst, i64 (betweenS p q).snd]))
  (Tree.need (ILeL [encL p, encL q] [encL p, encL q] ∧ ASpec prog 11 [encL p, encL q] (IVal.tup [encD (betweenR p q).fst, i64 (betweenR p q).snd]))
  (Tree.need (ILeL [encL p, encD d] [encL p, encD d] ∧ ASpec prog 12 [encL p, encD d] (IVal.tup [encL (applyS p d).fst, i64 (applyS p d).snd]))
  (Tree.need (ILeL [encL p, encD d] [encL p, encD d] ∧ ASpec prog 13 [encL p, encD d] (IVal.tup [encL (applyR p d).fst, i64 (applyR p d).snd]))
  (Tree.need
  (ILeL [encD (betweenS p q).fst, encD (betweenR p q).fst] [encD (betweenS p q).fst, encD (betweenR p q).fst] ∧
  ASpec prog 14 [encD (betweenS p q).fst, encD (betweenR p q).fst] (bo (decide ((betweenS p q).fst = (betweenR p q).fst))))
  (Tree.br (decide ((betweenS p q).fst = (betweenR p q).fst))
  (Tree.br (decide ((betweenS p q).snd = (betweenR p q).snd))
  (Tree.need
  (ILeL [encL (applyS p d).fst, encL (applyR p d).fst] [encL (applyS p d).fst, encL (applyR p d).fst] ∧
  ASpec prog 15 [encL (applyS p d).fst, encL (applyR p d).fst] (bo (decide ((applyS p d).fst = (applyR p d).fst))))
  (Tree.br (decide ((applyS p d).fst = (applyR p d).fst))
  (Tree.br (decide ((applyS p d).snd = (applyR p d).snd))
  (Tree.need (ILeL [encL p, encL p] [encL p, encL p] ∧ ASpec prog 15 [encL p, encL p] (bo (decide (p = p))))
  (Tree.br (decide (p = p))
  (Tree.need (ILeL [encD d, encD d] [encD d, encD d] ∧ ASpec prog 14 [encD d, encD d] (bo (decide (d = d)))) (Tree.done Exit.ret (lret (IVal.v (Value.bool (decide (d = d)))))))
  (Tree.done Exit.ret (lret (IVal.v (Value.bool false))))))
  (Tree.done Exit.ret (lret (IVal.v (Value.bool false)))))
  (Tree.done Exit.ret (lret (IVal.v (Value.bool false))))))
  (Tree.done Exit.ret (lret (IVal.v (Value.bool false)))))
  (Tree.done Exit.ret (lret (IVal.v (Value.bool false))))))))))))))))) := by kernel_rfl
def T4 (d f : Diff) : Tell :=
  Tell.mk (fun x x_1 => false) (fun x x_1 => Orc.no) (fun x => Tree.fail 1000003 0) (fun x => 0) (fun x => ([], []))
  (oget
  [(3, 1, 1, Orc.call [encD d] (bo (greatP d.gone || greatP d.come))), (3, 1, 4, Orc.call [encD f] (bo (greatP f.gone || greatP f.come))),
  (9, 3, 1, Orc.call [encD d] (IVal.tup [encD (inverseS d).fst, i64 (inverseS d).snd])), (17, 4, 1, Orc.call [encD d] (IVal.tup [encD (inverseR d).fst, i64 (inverseR d).snd])),
  (25, 5, 2, Orc.call [encD d, encD f] (IVal.tup [encD (composeS d f).fst, i64 (composeS d f).snd])),
  (34, 6, 2, Orc.call [encD d, encD f] (IVal.tup [encD (composeR d f).fst, i64 (composeR d f).snd])), (43, 7, 1, Orc.call [encD d] (i64 (validD d))),
  (43, 7, 3, Orc.call [encD d] (i64 (validR d))), (43, 7, 8, Orc.call [encD (inverseS d).fst, encD (inverseR d).fst] (bo (decide ((inverseS d).fst = (inverseR d).fst)))),
  (43, 7, 18, Orc.call [encD (composeS d f).fst, encD (composeR d f).fst] (bo (decide ((composeS d f).fst = (composeR d f).fst))))])
  fun x x_1 => Tree.fail 1000003 0
theorem t4 (d f : Diff) : levF prog Proofs.Tryz.f4 [encD d, encD f] (T4 d f) =
  Tree.need (ILeL [encD d] [encD d] ∧ ASpec prog 7 [encD d] (bo (greatP d.gone || greatP d.come)))
  (Tree.br (greatP d.gone || greatP d.come) (Tree.done Exit.ret (lret (IVal.v (Value.bool true))))
  (Tree.need (ILeL [encD f] [encD f] ∧ ASpec prog 7 [encD f] (bo (greatP f.gone || greatP f.come)))
  (Tree.br (greatP f.gone || greatP f.come) (Tree.done Exit.ret (lret (IVal.v (Value.bool true))))
  (Tree.need (ILeL [encD d] [encD d] ∧ ASpec prog 16 [encD d] (IVal.tup [encD (inverseS d).fst, i64 (inverseS d).snd]))
  (Tree.need (ILeL [encD d] [encD d] ∧ ASpec prog 17 [encD d] (IVal.tup [encD (inverseR d).fst, i64 (inverseR d).snd]))
  (Tree.need (ILeL [encD d, encD f] [encD d, encD f] ∧ ASpec prog 18 [encD d, encD f] (IVal.tup [encD (composeS d f).fst, i64 (composeS d f).snd]))
  (Tree.need (ILeL [encD d, encD f] [encD d, encD f] ∧ ASpec prog 19 [encD d, encD f] (IVal.tup [encD (composeR d f).fst, i64 (composeR d f).snd]))
  (Tree.need (ILeL [encD d] [encD d] ∧ ASpec prog 20 [encD d] (i64 (validD d)))
  (Tree.need (ILeL [encD d] [encD d] ∧ ASpec prog 21 [encD d] (i64 (validR d)))
  (Tree.br (decide (validD d = validR d))
  (Tree.need
  (ILeL [encD (inverseS d).fst, encD (inverseR d).fst] [encD (inverseS d).fst, encD (inverseR d).fst] ∧
  ASpec prog 14 [encD (inverseS d).fst, encD (inverseR d).fst] (bo (decide ((inverseS d).fst = (inverseR d).fst))))
  (Tree.br (decide ((inverseS d).fst = (inverseR d).fst))
  (Tree.br (decide ((inverseS d).snd = (inverseR d).snd))
  (Tree.need
  (ILeL [encD (composeS d f).fst, encD (composeR d f).fst] [encD (composeS d f).fst, encD (composeR d f).fst] ∧
  ASpec prog 14 [encD (composeS d f).fst, encD (composeR d f).fst] (bo (decide ((composeS d f).fst = (composeR d f).fst))))
  (Tree.br (decide ((composeS d f).fst = (composeR d f).fst)) (Tree.done Exit.ret (lret (IVal.v (Value.bool (decide ((composeS d f).snd = (composeR d f).snd))))))
  (Tree.done Exit.ret (lret (IVal.v (Value.bool false))))))
  (Tree.done Exit.ret (lret (IVal.v (Value.bool false)))))
  (Tree.done Exit.ret (lret (IVal.v (Value.bool false))))))
  (Tree.done Exit.ret (lret (IVal.v (Value.bool false)))))))))))))) := by kernel_rfl
theorem c3 (p q : Payload) (d : Diff) (rp : p.rng) (rq : q.rng) (rd : d.rng) (hp : p.paths.length ≤ 2 ^ 63 - 1) (hq : q.paths.length ≤ 2 ^ 63 - 1) (hd : d.gone.paths.length ≤ 2 ^ 63 - 1 ∧ d.come.paths.length ≤ 2 ^ 63 - 1) : ASpec prog 3 [encL p, encL q, encD d] (bo true) := by
  have e1 := betweenR_eq rp rq
  have e2 := applyR_eq rp rd
  have s1 := between_sm rp q
  have s2 := apply_sm p d
  refine ASpec.treeW Proofs.Tryz.f3 (T3 p q d) (by kernel_rfl) (by kernel_rfl) (t3 p q d) ?_
  refine need_sat ⟨ILeL.refl _, c6 _ ?_⟩ ⟨fun h1 => ⟨_, rfl, ?_⟩, fun h1 => need_sat ⟨ILeL.refl _, c6 _ ?_⟩ ⟨fun h2 => ⟨_, rfl, ?_⟩, fun h2 => need_sat ⟨ILeL.refl _, c7 _ ?_ ?_⟩ ⟨fun h3 => ⟨_, rfl, ?_⟩, fun h3 => need_sat ⟨ILeL.refl _, c8 _ ?_⟩ (need_sat ⟨ILeL.refl _, c9 _ ?_⟩ (need_sat ⟨ILeL.refl _, c10 _ _ ?_ ?_⟩ (need_sat ⟨ILeL.refl _, c11 _ _ ?_ ?_⟩ (need_sat ⟨ILeL.refl _, c12 _ _ ?_ ?_⟩ (need_sat ⟨ILeL.refl _, c13 _ _ ?_ ?_⟩ (need_sat ⟨ILeL.refl _, c14 _ _ ?_⟩ ⟨fun h4 => ⟨fun h5 => need_sat ⟨ILeL.refl _, c15 _ _ ?_⟩ ⟨fun h6 => ⟨fun h7 => need_sat ⟨ILeL.refl _, c15 _ _ ?_⟩ ⟨fun h8 => need_sat ⟨ILeL.refl _, c14 _ _ ?_⟩ ⟨_, rfl, ?_⟩, fun h8 => ⟨_, rfl, ?_⟩⟩, fun h7 => ⟨_, rfl, ?_⟩⟩, fun h6 => ⟨_, rfl, ?_⟩⟩, fun h5 => ⟨_, rfl, ?_⟩⟩, fun h4 => ⟨_, rfl, ?_⟩⟩))))))⟩⟩⟩
  all_goals try first
    | exact hp
    | exact hq
    | exact hd.1
    | exact hd.2
    | exact .refl _
    | exact great_sm h1
    | exact great_sm h2
    | exact (great_sm h1).ok
    | exact (great_sm h2).ok
    | exact ⟨great_sm (Bool.or_eq_false_iff.1 h3).1, great_sm (Bool.or_eq_false_iff.1 h3).2⟩
    | exact s1
    | exact s2
    | exact s2.ok
  all_goals refine ile_bo ?_
  all_goals clear hp hq hd rp rq rd
  all_goals simp_all
theorem c4 (d f : Diff) (rd : d.rng) (rf : f.rng) (hd : d.gone.paths.length ≤ 2 ^ 63 - 1 ∧ d.come.paths.length ≤ 2 ^ 63 - 1) (hf : f.gone.paths.length ≤ 2 ^ 63 - 1 ∧ f.come.paths.length ≤ 2 ^ 63 - 1) : ASpec prog 4 [encD d, encD f] (bo true) := by
  have e1 := inverseR_eq rd
  have e2 := composeR_eq rd rf
  have e3 := validR_eq rd
  have s2 := compose_sm d f
  refine ASpec.treeW Proofs.Tryz.f4 (T4 d f) (by kernel_rfl) (by kernel_rfl) (t4 d f) ?_
  have gd : (greatP d.gone || greatP d.come) = false → d.sm := fun h => ⟨great_sm (Bool.or_eq_false_iff.1 h).1, great_sm (Bool.or_eq_false_iff.1 h).2⟩
  have gf : (greatP f.gone || greatP f.come) = false → f.sm := fun h => ⟨great_sm (Bool.or_eq_false_iff.1 h).1, great_sm (Bool.or_eq_false_iff.1 h).2⟩
  refine need_sat ⟨ILeL.refl _, c7 _ ?_ ?_⟩ ⟨fun h1 => ⟨_, rfl, ?_⟩, fun h1 => need_sat ⟨ILeL.refl _, c7 _ ?_ ?_⟩ ⟨fun h2 => ⟨_, rfl, ?_⟩, fun h2 => need_sat ⟨ILeL.refl _, c16 _ ?_⟩ (need_sat ⟨ILeL.refl _, c17 _ ?_⟩ (need_sat ⟨ILeL.refl _, c18 _ _ ?_ ?_⟩ (need_sat ⟨ILeL.refl _, c19 _ _ ?_ ?_⟩ (need_sat ⟨ILeL.refl _, c20 _ ?_⟩ (need_sat ⟨ILeL.refl _, c21 _ ?_⟩ ⟨fun h3 => need_sat ⟨ILeL.refl _, c14 _ _ ?_⟩ ⟨fun h4 => ⟨fun h5 => need_sat ⟨ILeL.refl _, c14 _ _ ?_⟩ ⟨fun h6 => ⟨_, rfl, ?_⟩, fun h6 => ⟨_, rfl, ?_⟩⟩, fun h5 => ⟨_, rfl, ?_⟩⟩, fun h4 => ⟨_, rfl, ?_⟩⟩, fun h3 => ⟨_, rfl, ?_⟩⟩)))))⟩⟩
  all_goals try first
    | exact hd.1
    | exact hd.2
    | exact hd
    | exact hf.1
    | exact hf.2
    | exact .refl _
    | exact gd h1
    | exact gf h2
    | exact s2
    | exact inverse_sm (gd h1)
  all_goals refine ile_bo ?_
  all_goals clear hd hf rd rf gd gf
  all_goals simp_all
end Gp
namespace Gp
open Go.ChangeShapes Go.WideShapes Go.ChangeAt Go.RowKit
open Go.Proofs Go.Proofs.YtcccdohpepnfjaaGreat
theorem own : ownKnob prog.godebug = none := by kernel_rfl
theorem laidOut : laidOutB prog = true := by kernel_rfl
def isStruct : Option TypeDesc → Bool
  | some (.struct _) => true
  | _ => false
theorem isStruct_spec {x : Option TypeDesc} (h : isStruct x = true) : ∃ fs, x = some (.struct fs) := by
  unfold isStruct at h; split at h
  · exact ⟨_, rfl⟩
  · cases h
theorem us28 : ∃ fs, prog.underlying 28 = some (.struct fs) := isStruct_spec (by kernel_rfl)
theorem ubool : prog.underlying 4 = some .bool := by kernel_rfl
theorem paramsL : Proofs.Tryz.f4.params.toList = [28, 28] := by kernel_rfl
set_option maxRecDepth 100000 in
theorem walk (W : World) {H : Type} {enc : TypeId × Value → H} {f0 f1 : Nat} {v0 v1 : Array Value} {x0 x1 : DataW H × List MemPlace} {held : Bool} {sp : Nat → Bool} (h0 : DataW.trod enc prog W 0 sp held f0 28 (Value.agg v0).cells.toList = some x0) (h1 : DataW.trod enc prog W 0 sp held f1 28 (Value.agg v1).cells.toList = some x1) :
    Calls prog 4 #[.agg v0, .agg v1] W fun e W' => e = .returned (.bool true) ∧ Below W.heap.size W W' := by
  obtain ⟨y0, r0, g0⟩ := rd28 h0
  obtain ⟨y1, r1, g1⟩ := rd28 h1
  have hm : maxLen = 2 ^ 63 - 1 := rfl
  refine (((c4 y0 y1 g0.1 g1.1 (hm ▸ g0.2) (hm ▸ g1.2))).2 W (allF W) #[.agg v0, .agg v1] (fun c b h => h.2) (fun b h => by cases h.1) (ic r0 (ic r1 in0))).mono ?_
  rintro e W' ⟨v, F', rfl, hb, _, _, _, _, hv⟩
  rw [bo, IRep] at hv
  rw [hv.1]
  exact ⟨rfl, hb⟩
set_option maxRecDepth 100000 in
theorem lifted (os : Os) (started : os.Started) (H : Type) (enc : TypeId × Value → H) :
    ReturnsInHanded {} Proofs.Tryz.checked os 4 .any (Rows.diffComposesSpec.pre6 enc prog Proofs.Tryz.f4 Rows.diffComposesRow.domain false) (Rows.diffComposesSpec.post enc prog Proofs.Tryz.f4 false true false false) := by
  refine returnsInHanded_of_change (C := Proofs.Tryz.checked) own started (by kernel_rfl) (show prog.funcs[4]? = some Proofs.Tryz.f4 by kernel_rfl)
    (ChangeSpec.witness6 (enc := enc) (C := Proofs.Tryz.checked) false ⟨#[], #[.agg #[.slice none 0 0, .slice none 0 0, .slice none 0 0, .slice none 0 0, .slice none 0 0, .slice none 0 0], .agg #[.slice none 0 0, .slice none 0 0, .slice none 0 0, .slice none 0 0, .slice none 0 0, .slice none 0 0]], []⟩ 8 (by kernel_rfl) (by kernel_rfl) (by kernel_rfl) (by kernel_rfl)) ?_
  intro W base args ds gs before hval0 hW hcnd _
  have hval : ∀ (j : Nat) t v, Proofs.Tryz.f4.params[j]? = some t → args[j]? = some v → Value.okWide prog W .any base t v := hval0
  have hW' := hW
  obtain ⟨p, q, hA0, hV, rfl, hfz, hnd⟩ := hW
  have hA : DataW.TrodAll enc prog W 0 (fun _ => true) true Proofs.Tryz.f4.params.toList args.toList ds p := hA0
  rw [paramsL] at hA
  have hp0 : Proofs.Tryz.f4.params[0]? = some 28 := by kernel_rfl
  have hp1 : Proofs.Tryz.f4.params[1]? = some 28 := by kernel_rfl
  obtain ⟨u0, us0, d0, ds0, p0, q0, hargs, rfl, rfl, h0, r0⟩ := trodAll_cons hA
  obtain ⟨u1, us1, d1, ds1, p1, q1, rfl, rfl, rfl, h1, r1⟩ := trodAll_cons r0
  obtain ⟨rfl, rfl, rfl⟩ := trodAll_nil r1
  obtain rfl : args = #[u0, u1] := by cases args; simp_all
  obtain ⟨rfl, rfl⟩ := trodVars_none hV
  obtain ⟨fs0, uu0⟩ := us28
  obtain ⟨a0, rfl, _⟩ := okWide_struct uu0 (hval 0 28 u0 hp0 rfl)
  have k0 := h0
  have lt0 : ∀ x ∈ p0, x.block < W.heap.size := by obtain ⟨m, hm⟩ := k0; exact DataW.trod_lt m _ _ _ hm
  obtain ⟨fs1, uu1⟩ := us28
  obtain ⟨a1, rfl, _⟩ := okWide_struct uu1 (hval 1 28 u1 hp1 rfl)
  have k1 := h1
  have lt1 : ∀ x ∈ p1, x.block < W.heap.size := by obtain ⟨m, hm⟩ := k1; exact DataW.trod_lt m _ _ _ hm
  obtain ⟨ff0, e0⟩ := h0
  obtain ⟨ff1, e1⟩ := h1
  clear hA0 hval0
  refine (walk W e0 e1).mono fun e W' ⟨he, bel⟩ => ?_
  subst he
  exact ⟨_, rfl, _, _, _, [], _, [], hW', trodAll_mk1 (shut_bool ubool _),
    (trodAll_cons_mk (Below.trod laidOut (by kernel_rfl) (of_decide_eq_true (by kernel_rfl)) k0 bel lt0) (trodAll_cons_mk (Below.trod laidOut (by kernel_rfl) (of_decide_eq_true (by kernel_rfl)) k1 bel lt1) trodAll_mk0)), rfl, bel.frame _, fun h => by cases h⟩
theorem over : Rows.diffComposesRow.holds YtcccdohpepnfjaaGreat.Tryz.pinned (OpenSpec.ofChange Rows.diffComposesSpec) :=
  OpenClaim.holds_of_wide 4 Proofs.Tryz.f4 rfl rfl rfl rfl rfl rfl rfl ⟨rfl, rfl, rfl, rfl, rfl⟩ rfl rfl rfl rfl rfl (by kernel_rfl) (show prog.funcs[4]? = some Proofs.Tryz.f4 by kernel_rfl) (by kernel_rfl)
    (of_decide_eq_true (by kernel_rfl)) (by unfold Func.isWrapper; first | (rw [if_pos (by decide +kernel)]; kernel_rfl) | (rw [if_neg (by decide +kernel)]; exact ⟨rfl, rfl⟩))
    (fun os started H enc _ => lifted os started H enc)
theorem proved : Rows.DiffComposesSaid := over
end Gp
namespace Go.Proofs.YtcccdohpepnfjaaGreat
theorem diffComposes_holds : Rows.DiffComposesSaid := Gp.proved
#print axioms diffComposes_holds
end Go.Proofs.YtcccdohpepnfjaaGreat
