/- Part 4 of the walk and of the plain law of DiffApplies. -/
import Derived.Test.YtcccdohpepnfjaaGreatW3
set_option maxRecDepth 100000
set_option maxHeartbeats 0
set_option linter.unusedVariables false
set_option linter.unusedSimpArgs false
open Go Go.Abs
namespace Gp
theorem i64_add {a b : Nat} (h : a + b ≤ 2 ^ 62) : IntKind.i64.wrap ((a : Int) + (b : Int)) = ((a + b : Nat) : Int) := by
  rw [IntWalk.i64_in _ (by omega)]; omega
theorem i64_sub {a b : Nat} (h : b ≤ a) (h' : a ≤ 2 ^ 62) : IntKind.i64.wrap ((a : Int) - (b : Int)) = ((a - b : Nat) : Int) := by
  rw [IntWalk.i64_in _ (by omega)]; omega
def I126 (l0 : Abs.Loc) (l : List Origin) (a b n : Nat) (i : Nat) : LState := { t := [(10, .imm (i64 i)), (3, .imm (i64 n)), (2, .imm (i64 b)), (1, .imm (i64 a)), (0, .own 0 l.length)], s := [(0, .brow l0 68 6 ((swR l a b i).map encO))], m := 38, n := 1 }
def fin126 : Exit → Fin
  | .normal => ⟨[], [10, 3, 2, 1, 0], [0]⟩
  | _ => ⟨[], [], [0]⟩
def T126r (l0 : Abs.Loc) (l : List Origin) (a b n i : Nat) : Tell :=
  Tell.mk (fun x x_1 => false) (fun x x_1 => Orc.no) (fun x => Tree.fail 1000003 0) (fun x => 0) (fun x => ([], []))
  (oget
  [(4, 3, 13, Orc.elem (encO (List.getD (swR l a b i) (Int.toNat (IntKind.wrap IntKind.i64 ((↑b : Int) + (↑i : Int)))) default))),
  (4, 3, 19, Orc.elem (encO (List.getD (swR l a b i) (Int.toNat (IntKind.wrap IntKind.i64 ((↑a : Int) + (↑i : Int)))) default))), (4, 3, 21, Orc.elem (IVal.tup [])),
  (4, 3, 23, Orc.elem (IVal.tup []))])
  fun x x_1 => Tree.fail 1000003 0
theorem t126r (l0 : Abs.Loc) (l : List Origin) (a b n i : Nat) : levL prog Proofs.Tryz.f126 1 (I126 l0 l a b n i) (T126r l0 l a b n i) fin126 =
  Tree.br (decide ((↑i : Int) < (↑n : Int)))
  (Tree.need ((0 : Int) ≤ IntKind.wrap IntKind.i64 ((↑b : Int) + (↑i : Int)) ∧ Int.toNat (IntKind.wrap IntKind.i64 ((↑b : Int) + (↑i : Int))) < List.length l)
  (Tree.need ((List.map encO (swR l a b i))[Int.toNat (IntKind.wrap IntKind.i64 ((↑b : Int) + (↑i : Int)))]? = some (encO (List.getD (swR l a b i) (Int.toNat (IntKind.wrap IntKind.i64 ((↑b : Int) + (↑i : Int)))) default)))
  (Tree.need ((0 : Int) ≤ IntKind.wrap IntKind.i64 ((↑a : Int) + (↑i : Int)) ∧ Int.toNat (IntKind.wrap IntKind.i64 ((↑a : Int) + (↑i : Int))) < List.length l)
  (Tree.need ((List.map encO (swR l a b i))[Int.toNat (IntKind.wrap IntKind.i64 ((↑a : Int) + (↑i : Int)))]? = some (encO (List.getD (swR l a b i) (Int.toNat (IntKind.wrap IntKind.i64 ((↑a : Int) + (↑i : Int)))) default)))
  (Tree.need ((0 : Int) ≤ IntKind.wrap IntKind.i64 ((↑a : Int) + (↑i : Int)) ∧ Int.toNat (IntKind.wrap IntKind.i64 ((↑a : Int) + (↑i : Int))) < List.length l)
  (Tree.need (Int.toNat (IntKind.wrap IntKind.i64 ((↑a : Int) + (↑i : Int))) < List.length (List.map encO (swR l a b i)))
  (Tree.need ((0 : Int) ≤ IntKind.wrap IntKind.i64 ((↑b : Int) + (↑i : Int)) ∧ Int.toNat (IntKind.wrap IntKind.i64 ((↑b : Int) + (↑i : Int))) < List.length l)
  (Tree.need
  (Int.toNat (IntKind.wrap IntKind.i64 ((↑b : Int) + (↑i : Int))) <
  List.length
  (List.set (List.map encO (swR l a b i)) (Int.toNat (IntKind.wrap IntKind.i64 ((↑a : Int) + (↑i : Int)))) (encO (List.getD (swR l a b i) (Int.toNat (IntKind.wrap IntKind.i64 ((↑b : Int) + (↑i : Int)))) default))))
  (Tree.done Exit.normal
  (LState.mk
  [(10, AVal.imm (IVal.v (Value.int IntKind.i64 (IntKind.wrap IntKind.i64 ((↑i : Int) + (1 : Int)))))), (3, AVal.imm (i64 (↑n : Int))), (2, AVal.imm (i64 (↑b : Int))),
  (1, AVal.imm (i64 (↑a : Int))), (0, AVal.own 0 (List.length l))]
  [(0,
  Entry.brow l0 68 6
  (List.set
  (List.set (List.map encO (swR l a b i)) (Int.toNat (IntKind.wrap IntKind.i64 ((↑a : Int) + (↑i : Int))))
  (encO (List.getD (swR l a b i) (Int.toNat (IntKind.wrap IntKind.i64 ((↑b : Int) + (↑i : Int)))) default)))
  (Int.toNat (IntKind.wrap IntKind.i64 ((↑b : Int) + (↑i : Int)))) (encO (List.getD (swR l a b i) (Int.toNat (IntKind.wrap IntKind.i64 ((↑a : Int) + (↑i : Int)))) default))))]
  38 31 []))))))))))
  (Tree.done (Exit.exit 0) (LState.mk [] [(0, Entry.brow l0 68 6 (List.map encO (swR l a b i)))] 38 4 [])) := by kernel_rfl
def E126 (l0 : Abs.Loc) (l : List Origin) (a b n : Nat) : LState := { t := [], s := [(0, .brow l0 68 6 ((swR l a b n).map encO))], m := 38, n := 1 }
theorem l126 (l0 : Abs.Loc) (l : List Origin) (a b n : Nat) (ha : a + n ≤ l.length) (hb : b + n ≤ l.length) (hl : l.length ≤ 2 ^ 62) (σ : LState) (h : LSub σ (I126 l0 l a b n 0)) : LoopOk prog [] (bodyOf Proofs.Tryz.f126) 1 σ (.done (.exit 0) (E126 l0 l a b n)) := by
  refine LoopOk.count n 0 (I126 l0 l a b n) (E126 l0 l a b n) (T126r l0 l a b n) fin126 (by kernel_rfl) h fun i hi => ?_
  have e1 : IntKind.i64.wrap ((a : Int) + (i : Int)) = ((a + i : Nat) : Int) := i64_add (by omega)
  have e2 : IntKind.i64.wrap ((b : Int) + (i : Int)) = ((b + i : Nat) : Int) := i64_add (by omega)
  rw [t126r]
  simp only [e1, e2, Int.toNat_natCast]
  refine ⟨fun h1 => ?_, fun h1 => ?_⟩
  · have hlt : i < n := by (simp only [List.length_map, decide_eq_true_eq, decide_eq_false_iff_not, Int.toNat_natCast] at * <;> omega)
    have g1 : a + i < (swR l a b i).length := by rw [swR_length]; omega
    have g2 : b + i < (swR l a b i).length := by rw [swR_length]; omega
    refine ⟨⟨by omega, by omega⟩, fun _ => ⟨getD_map _ _ _ _ g2, fun _ => ⟨⟨by omega, by omega⟩, fun _ => ⟨getD_map _ _ _ _ g1, fun _ => ⟨⟨by omega, by omega⟩, fun _ => ⟨by simpa using g1, fun _ => ⟨⟨by omega, by omega⟩, fun _ => ⟨by simpa using g2, fun _ => ?_⟩⟩⟩⟩⟩⟩⟩⟩
    refine ⟨hlt, ⟨?_, rfl, rfl, rfl, rfl, trivial⟩, ⟨?_, trivial⟩, rfl, rfl, rfl⟩
    · exact congrArg (fun n => AVal.imm (i64 n)) (i64_small hlt (by omega))
    · refine congrArg (fun l => some (Entry.brow l0 68 6 l)) ?_
      simp only [swR, swp, List.map_set]
  · have : i = n := by (simp only [List.length_map, decide_eq_true_eq, decide_eq_false_iff_not, Int.toNat_natCast] at * <;> omega)
    subst this
    exact ⟨rfl, by omega, by simp [E126, LSub, tsub, ssub, tl, sl, linT, linS, ainB, ainBL]⟩
def T126 (l0 : Abs.Loc) (l : List Origin) (a b n : Nat) : Tell :=
  Tell.mk (fun x x_1 => false) (fun x x_1 => Orc.no) (fun x => Tree.done (Exit.exit 0) (E126 l0 l a b n)) (fun x => 0) (fun x => ([10, 3, 2, 1, 0], [0]))
  (fun x x_1 x_2 => Orc.no) fun x x_1 => Tree.done (Exit.exit 0) (E126 l0 l a b n)
theorem t126 (l0 : Abs.Loc) (l : List Origin) (a b n : Nat) : levW prog Proofs.Tryz.f126 l0 68 6 (l.map encO) [i64 a, i64 b, i64 n, fnV 48] (T126 l0 l a b n) =
  Tree.loop 1
  (LState.mk
  [(10, AVal.imm (IVal.v (Value.int IntKind.i64 (0 : Int)))), (3, AVal.imm (i64 (↑n : Int))), (2, AVal.imm (i64 (↑b : Int))), (1, AVal.imm (i64 (↑a : Int))),
  (0, AVal.own 0 (List.length (List.map encO l)))]
  [(0, Entry.brow l0 68 6 (List.map encO l))] 38 2 [])
  (Tree.done (Exit.exit 0) (E126 l0 l a b n)) (Tree.need (eqs []) (Tree.done Exit.ret (lretW l0 68 6 (IVal.tup []) (List.map encO (swR l a b n))))) := by kernel_rfl
theorem w126 (l : List Origin) (a b n : Nat) (ha : a + n ≤ l.length) (hb : b + n ≤ l.length) (hl : l.length ≤ 2 ^ 62) : WSpec prog 126 68 6 (l.map encO) [i64 a, i64 b, i64 n, fnV 48] (.tup []) ((swR l a b n).map encO) := by
  refine WSpec.tree Proofs.Tryz.f126 (fun l0 => T126 l0 l a b n) (by kernel_rfl) (by kernel_rfl) (by kernel_rfl) fun l0 => ?_
  rw [t126]
  refine ⟨?_, need_sat ?_ (lretW_ex ?_ ?_)⟩
  · exact l126 l0 l a b n ha hb hl _ (by simp [I126, i64, swR, LSub, tsub, ssub, tl, sl, linT, linS, ainB, ainBL])
  · exact trivial
  · rfl
  · exact .refl _
theorem w126' (l : List Origin) (a b n : Int) (h0 : 0 ≤ a) (h1 : 0 ≤ b) (h2 : 0 ≤ n) (ha : a + n ≤ l.length) (hb : b + n ≤ l.length) (hl : l.length ≤ 2 ^ 62) : WSpec prog 126 68 6 (l.map encO) [i64 a, i64 b, i64 n, fnV 48] (.tup []) ((swR l a.toNat b.toNat n.toNat).map encO) := by
  obtain ⟨a, rfl⟩ := Int.eq_ofNat_of_zero_le h0
  obtain ⟨b, rfl⟩ := Int.eq_ofNat_of_zero_le h1
  obtain ⟨n, rfl⟩ := Int.eq_ofNat_of_zero_le h2
  exact w126 l a b n (by omega) (by omega) hl
def I127 (l0 : Abs.Loc) (l : List Attest) (a b n : Nat) (i : Nat) : LState := { t := [(10, .imm (i64 i)), (3, .imm (i64 n)), (2, .imm (i64 b)), (1, .imm (i64 a)), (0, .own 0 l.length)], s := [(0, .brow l0 57 2 ((swR l a b i).map encT))], m := 38, n := 1 }
def fin127 : Exit → Fin
  | .normal => ⟨[], [10, 3, 2, 1, 0], [0]⟩
  | _ => ⟨[], [], [0]⟩
def T127r (l0 : Abs.Loc) (l : List Attest) (a b n i : Nat) : Tell :=
  Tell.mk (fun x x_1 => false) (fun x x_1 => Orc.no) (fun x => Tree.fail 1000003 0) (fun x => 0) (fun x => ([], []))
  (oget
  [(4, 3, 13, Orc.elem (encT (List.getD (swR l a b i) (Int.toNat (IntKind.wrap IntKind.i64 ((↑b : Int) + (↑i : Int)))) default))),
  (4, 3, 19, Orc.elem (encT (List.getD (swR l a b i) (Int.toNat (IntKind.wrap IntKind.i64 ((↑a : Int) + (↑i : Int)))) default))), (4, 3, 21, Orc.elem (IVal.tup [])),
  (4, 3, 23, Orc.elem (IVal.tup []))])
  fun x x_1 => Tree.fail 1000003 0
theorem t127r (l0 : Abs.Loc) (l : List Attest) (a b n i : Nat) : levL prog Proofs.Tryz.f127 1 (I127 l0 l a b n i) (T127r l0 l a b n i) fin127 =
  Tree.br (decide ((↑i : Int) < (↑n : Int)))
  (Tree.need ((0 : Int) ≤ IntKind.wrap IntKind.i64 ((↑b : Int) + (↑i : Int)) ∧ Int.toNat (IntKind.wrap IntKind.i64 ((↑b : Int) + (↑i : Int))) < List.length l)
  (Tree.need ((List.map encT (swR l a b i))[Int.toNat (IntKind.wrap IntKind.i64 ((↑b : Int) + (↑i : Int)))]? = some (encT (List.getD (swR l a b i) (Int.toNat (IntKind.wrap IntKind.i64 ((↑b : Int) + (↑i : Int)))) default)))
  (Tree.need ((0 : Int) ≤ IntKind.wrap IntKind.i64 ((↑a : Int) + (↑i : Int)) ∧ Int.toNat (IntKind.wrap IntKind.i64 ((↑a : Int) + (↑i : Int))) < List.length l)
  (Tree.need ((List.map encT (swR l a b i))[Int.toNat (IntKind.wrap IntKind.i64 ((↑a : Int) + (↑i : Int)))]? = some (encT (List.getD (swR l a b i) (Int.toNat (IntKind.wrap IntKind.i64 ((↑a : Int) + (↑i : Int)))) default)))
  (Tree.need ((0 : Int) ≤ IntKind.wrap IntKind.i64 ((↑a : Int) + (↑i : Int)) ∧ Int.toNat (IntKind.wrap IntKind.i64 ((↑a : Int) + (↑i : Int))) < List.length l)
  (Tree.need (Int.toNat (IntKind.wrap IntKind.i64 ((↑a : Int) + (↑i : Int))) < List.length (List.map encT (swR l a b i)))
  (Tree.need ((0 : Int) ≤ IntKind.wrap IntKind.i64 ((↑b : Int) + (↑i : Int)) ∧ Int.toNat (IntKind.wrap IntKind.i64 ((↑b : Int) + (↑i : Int))) < List.length l)
  (Tree.need
  (Int.toNat (IntKind.wrap IntKind.i64 ((↑b : Int) + (↑i : Int))) <
  List.length
  (List.set (List.map encT (swR l a b i)) (Int.toNat (IntKind.wrap IntKind.i64 ((↑a : Int) + (↑i : Int)))) (encT (List.getD (swR l a b i) (Int.toNat (IntKind.wrap IntKind.i64 ((↑b : Int) + (↑i : Int)))) default))))
  (Tree.done Exit.normal
  (LState.mk
  [(10, AVal.imm (IVal.v (Value.int IntKind.i64 (IntKind.wrap IntKind.i64 ((↑i : Int) + (1 : Int)))))), (3, AVal.imm (i64 (↑n : Int))), (2, AVal.imm (i64 (↑b : Int))),
  (1, AVal.imm (i64 (↑a : Int))), (0, AVal.own 0 (List.length l))]
  [(0,
  Entry.brow l0 57 2
  (List.set
  (List.set (List.map encT (swR l a b i)) (Int.toNat (IntKind.wrap IntKind.i64 ((↑a : Int) + (↑i : Int))))
  (encT (List.getD (swR l a b i) (Int.toNat (IntKind.wrap IntKind.i64 ((↑b : Int) + (↑i : Int)))) default)))
  (Int.toNat (IntKind.wrap IntKind.i64 ((↑b : Int) + (↑i : Int)))) (encT (List.getD (swR l a b i) (Int.toNat (IntKind.wrap IntKind.i64 ((↑a : Int) + (↑i : Int)))) default))))]
  38 31 []))))))))))
  (Tree.done (Exit.exit 0) (LState.mk [] [(0, Entry.brow l0 57 2 (List.map encT (swR l a b i)))] 38 4 [])) := by kernel_rfl
def E127 (l0 : Abs.Loc) (l : List Attest) (a b n : Nat) : LState := { t := [], s := [(0, .brow l0 57 2 ((swR l a b n).map encT))], m := 38, n := 1 }
theorem l127 (l0 : Abs.Loc) (l : List Attest) (a b n : Nat) (ha : a + n ≤ l.length) (hb : b + n ≤ l.length) (hl : l.length ≤ 2 ^ 62) (σ : LState) (h : LSub σ (I127 l0 l a b n 0)) : LoopOk prog [] (bodyOf Proofs.Tryz.f127) 1 σ (.done (.exit 0) (E127 l0 l a b n)) := by
  refine LoopOk.count n 0 (I127 l0 l a b n) (E127 l0 l a b n) (T127r l0 l a b n) fin127 (by kernel_rfl) h fun i hi => ?_
  have e1 : IntKind.i64.wrap ((a : Int) + (i : Int)) = ((a + i : Nat) : Int) := i64_add (by omega)
  have e2 : IntKind.i64.wrap ((b : Int) + (i : Int)) = ((b + i : Nat) : Int) := i64_add (by omega)
  rw [t127r]
  simp only [e1, e2, Int.toNat_natCast]
  refine ⟨fun h1 => ?_, fun h1 => ?_⟩
  · have hlt : i < n := by (simp only [List.length_map, decide_eq_true_eq, decide_eq_false_iff_not, Int.toNat_natCast] at * <;> omega)
    have g1 : a + i < (swR l a b i).length := by rw [swR_length]; omega
    have g2 : b + i < (swR l a b i).length := by rw [swR_length]; omega
    refine ⟨⟨by omega, by omega⟩, fun _ => ⟨getD_map _ _ _ _ g2, fun _ => ⟨⟨by omega, by omega⟩, fun _ => ⟨getD_map _ _ _ _ g1, fun _ => ⟨⟨by omega, by omega⟩, fun _ => ⟨by simpa using g1, fun _ => ⟨⟨by omega, by omega⟩, fun _ => ⟨by simpa using g2, fun _ => ?_⟩⟩⟩⟩⟩⟩⟩⟩
    refine ⟨hlt, ⟨?_, rfl, rfl, rfl, rfl, trivial⟩, ⟨?_, trivial⟩, rfl, rfl, rfl⟩
    · exact congrArg (fun n => AVal.imm (i64 n)) (i64_small hlt (by omega))
    · refine congrArg (fun l => some (Entry.brow l0 57 2 l)) ?_
      simp only [swR, swp, List.map_set]
  · have : i = n := by (simp only [List.length_map, decide_eq_true_eq, decide_eq_false_iff_not, Int.toNat_natCast] at * <;> omega)
    subst this
    exact ⟨rfl, by omega, by simp [E127, LSub, tsub, ssub, tl, sl, linT, linS, ainB, ainBL]⟩
def T127 (l0 : Abs.Loc) (l : List Attest) (a b n : Nat) : Tell :=
  Tell.mk (fun x x_1 => false) (fun x x_1 => Orc.no) (fun x => Tree.done (Exit.exit 0) (E127 l0 l a b n)) (fun x => 0) (fun x => ([10, 3, 2, 1, 0], [0]))
  (fun x x_1 x_2 => Orc.no) fun x x_1 => Tree.done (Exit.exit 0) (E127 l0 l a b n)
theorem t127 (l0 : Abs.Loc) (l : List Attest) (a b n : Nat) : levW prog Proofs.Tryz.f127 l0 57 2 (l.map encT) [i64 a, i64 b, i64 n, fnV 51] (T127 l0 l a b n) =
  Tree.loop 1
  (LState.mk
  [(10, AVal.imm (IVal.v (Value.int IntKind.i64 (0 : Int)))), (3, AVal.imm (i64 (↑n : Int))), (2, AVal.imm (i64 (↑b : Int))), (1, AVal.imm (i64 (↑a : Int))),
  (0, AVal.own 0 (List.length (List.map encT l)))]
  [(0, Entry.brow l0 57 2 (List.map encT l))] 38 2 [])
  (Tree.done (Exit.exit 0) (E127 l0 l a b n)) (Tree.need (eqs []) (Tree.done Exit.ret (lretW l0 57 2 (IVal.tup []) (List.map encT (swR l a b n))))) := by kernel_rfl
theorem w127 (l : List Attest) (a b n : Nat) (ha : a + n ≤ l.length) (hb : b + n ≤ l.length) (hl : l.length ≤ 2 ^ 62) : WSpec prog 127 57 2 (l.map encT) [i64 a, i64 b, i64 n, fnV 51] (.tup []) ((swR l a b n).map encT) := by
  refine WSpec.tree Proofs.Tryz.f127 (fun l0 => T127 l0 l a b n) (by kernel_rfl) (by kernel_rfl) (by kernel_rfl) fun l0 => ?_
  rw [t127]
  refine ⟨?_, need_sat ?_ (lretW_ex ?_ ?_)⟩
  · exact l127 l0 l a b n ha hb hl _ (by simp [I127, i64, swR, LSub, tsub, ssub, tl, sl, linT, linS, ainB, ainBL])
  · exact trivial
  · rfl
  · exact .refl _
theorem w127' (l : List Attest) (a b n : Int) (h0 : 0 ≤ a) (h1 : 0 ≤ b) (h2 : 0 ≤ n) (ha : a + n ≤ l.length) (hb : b + n ≤ l.length) (hl : l.length ≤ 2 ^ 62) : WSpec prog 127 57 2 (l.map encT) [i64 a, i64 b, i64 n, fnV 51] (.tup []) ((swR l a.toNat b.toNat n.toNat).map encT) := by
  obtain ⟨a, rfl⟩ := Int.eq_ofNat_of_zero_le h0
  obtain ⟨b, rfl⟩ := Int.eq_ofNat_of_zero_le h1
  obtain ⟨n, rfl⟩ := Int.eq_ofNat_of_zero_le h2
  exact w127 l a b n (by omega) (by omega) hl
def I128 (l0 : Abs.Loc) (l : List RKey) (a b n : Nat) (i : Nat) : LState := { t := [(10, .imm (i64 i)), (3, .imm (i64 n)), (2, .imm (i64 b)), (1, .imm (i64 a)), (0, .own 0 l.length)], s := [(0, .brow l0 75 18 ((swR l a b i).map encK))], m := 38, n := 1 }
def fin128 : Exit → Fin
  | .normal => ⟨[], [10, 3, 2, 1, 0], [0]⟩
  | _ => ⟨[], [], [0]⟩
def T128r (l0 : Abs.Loc) (l : List RKey) (a b n i : Nat) : Tell :=
  Tell.mk (fun x x_1 => false) (fun x x_1 => Orc.no) (fun x => Tree.fail 1000003 0) (fun x => 0) (fun x => ([], []))
  (oget
  [(4, 3, 13, Orc.elem (encK (List.getD (swR l a b i) (Int.toNat (IntKind.wrap IntKind.i64 ((↑b : Int) + (↑i : Int)))) default))),
  (4, 3, 19, Orc.elem (encK (List.getD (swR l a b i) (Int.toNat (IntKind.wrap IntKind.i64 ((↑a : Int) + (↑i : Int)))) default))), (4, 3, 21, Orc.elem (IVal.tup [])),
  (4, 3, 23, Orc.elem (IVal.tup []))])
  fun x x_1 => Tree.fail 1000003 0
theorem t128r (l0 : Abs.Loc) (l : List RKey) (a b n i : Nat) : levL prog Proofs.Tryz.f128 1 (I128 l0 l a b n i) (T128r l0 l a b n i) fin128 =
  Tree.br (decide ((↑i : Int) < (↑n : Int)))
  (Tree.need ((0 : Int) ≤ IntKind.wrap IntKind.i64 ((↑b : Int) + (↑i : Int)) ∧ Int.toNat (IntKind.wrap IntKind.i64 ((↑b : Int) + (↑i : Int))) < List.length l)
  (Tree.need ((List.map encK (swR l a b i))[Int.toNat (IntKind.wrap IntKind.i64 ((↑b : Int) + (↑i : Int)))]? = some (encK (List.getD (swR l a b i) (Int.toNat (IntKind.wrap IntKind.i64 ((↑b : Int) + (↑i : Int)))) default)))
  (Tree.need ((0 : Int) ≤ IntKind.wrap IntKind.i64 ((↑a : Int) + (↑i : Int)) ∧ Int.toNat (IntKind.wrap IntKind.i64 ((↑a : Int) + (↑i : Int))) < List.length l)
  (Tree.need ((List.map encK (swR l a b i))[Int.toNat (IntKind.wrap IntKind.i64 ((↑a : Int) + (↑i : Int)))]? = some (encK (List.getD (swR l a b i) (Int.toNat (IntKind.wrap IntKind.i64 ((↑a : Int) + (↑i : Int)))) default)))
  (Tree.need ((0 : Int) ≤ IntKind.wrap IntKind.i64 ((↑a : Int) + (↑i : Int)) ∧ Int.toNat (IntKind.wrap IntKind.i64 ((↑a : Int) + (↑i : Int))) < List.length l)
  (Tree.need (Int.toNat (IntKind.wrap IntKind.i64 ((↑a : Int) + (↑i : Int))) < List.length (List.map encK (swR l a b i)))
  (Tree.need ((0 : Int) ≤ IntKind.wrap IntKind.i64 ((↑b : Int) + (↑i : Int)) ∧ Int.toNat (IntKind.wrap IntKind.i64 ((↑b : Int) + (↑i : Int))) < List.length l)
  (Tree.need
  (Int.toNat (IntKind.wrap IntKind.i64 ((↑b : Int) + (↑i : Int))) <
  List.length
  (List.set (List.map encK (swR l a b i)) (Int.toNat (IntKind.wrap IntKind.i64 ((↑a : Int) + (↑i : Int)))) (encK (List.getD (swR l a b i) (Int.toNat (IntKind.wrap IntKind.i64 ((↑b : Int) + (↑i : Int)))) default))))
  (Tree.done Exit.normal
  (LState.mk
  [(10, AVal.imm (IVal.v (Value.int IntKind.i64 (IntKind.wrap IntKind.i64 ((↑i : Int) + (1 : Int)))))), (3, AVal.imm (i64 (↑n : Int))), (2, AVal.imm (i64 (↑b : Int))),
  (1, AVal.imm (i64 (↑a : Int))), (0, AVal.own 0 (List.length l))]
  [(0,
  Entry.brow l0 75 18
  (List.set
  (List.set (List.map encK (swR l a b i)) (Int.toNat (IntKind.wrap IntKind.i64 ((↑a : Int) + (↑i : Int))))
  (encK (List.getD (swR l a b i) (Int.toNat (IntKind.wrap IntKind.i64 ((↑b : Int) + (↑i : Int)))) default)))
  (Int.toNat (IntKind.wrap IntKind.i64 ((↑b : Int) + (↑i : Int)))) (encK (List.getD (swR l a b i) (Int.toNat (IntKind.wrap IntKind.i64 ((↑a : Int) + (↑i : Int)))) default))))]
  38 31 []))))))))))
  (Tree.done (Exit.exit 0) (LState.mk [] [(0, Entry.brow l0 75 18 (List.map encK (swR l a b i)))] 38 4 [])) := by kernel_rfl
def E128 (l0 : Abs.Loc) (l : List RKey) (a b n : Nat) : LState := { t := [], s := [(0, .brow l0 75 18 ((swR l a b n).map encK))], m := 38, n := 1 }
theorem l128 (l0 : Abs.Loc) (l : List RKey) (a b n : Nat) (ha : a + n ≤ l.length) (hb : b + n ≤ l.length) (hl : l.length ≤ 2 ^ 62) (σ : LState) (h : LSub σ (I128 l0 l a b n 0)) : LoopOk prog [] (bodyOf Proofs.Tryz.f128) 1 σ (.done (.exit 0) (E128 l0 l a b n)) := by
  refine LoopOk.count n 0 (I128 l0 l a b n) (E128 l0 l a b n) (T128r l0 l a b n) fin128 (by kernel_rfl) h fun i hi => ?_
  have e1 : IntKind.i64.wrap ((a : Int) + (i : Int)) = ((a + i : Nat) : Int) := i64_add (by omega)
  have e2 : IntKind.i64.wrap ((b : Int) + (i : Int)) = ((b + i : Nat) : Int) := i64_add (by omega)
  rw [t128r]
  simp only [e1, e2, Int.toNat_natCast]
  refine ⟨fun h1 => ?_, fun h1 => ?_⟩
  · have hlt : i < n := by (simp only [List.length_map, decide_eq_true_eq, decide_eq_false_iff_not, Int.toNat_natCast] at * <;> omega)
    have g1 : a + i < (swR l a b i).length := by rw [swR_length]; omega
    have g2 : b + i < (swR l a b i).length := by rw [swR_length]; omega
    refine ⟨⟨by omega, by omega⟩, fun _ => ⟨getD_map _ _ _ _ g2, fun _ => ⟨⟨by omega, by omega⟩, fun _ => ⟨getD_map _ _ _ _ g1, fun _ => ⟨⟨by omega, by omega⟩, fun _ => ⟨by simpa using g1, fun _ => ⟨⟨by omega, by omega⟩, fun _ => ⟨by simpa using g2, fun _ => ?_⟩⟩⟩⟩⟩⟩⟩⟩
    refine ⟨hlt, ⟨?_, rfl, rfl, rfl, rfl, trivial⟩, ⟨?_, trivial⟩, rfl, rfl, rfl⟩
    · exact congrArg (fun n => AVal.imm (i64 n)) (i64_small hlt (by omega))
    · refine congrArg (fun l => some (Entry.brow l0 75 18 l)) ?_
      simp only [swR, swp, List.map_set]
  · have : i = n := by (simp only [List.length_map, decide_eq_true_eq, decide_eq_false_iff_not, Int.toNat_natCast] at * <;> omega)
    subst this
    exact ⟨rfl, by omega, by simp [E128, LSub, tsub, ssub, tl, sl, linT, linS, ainB, ainBL]⟩
def T128 (l0 : Abs.Loc) (l : List RKey) (a b n : Nat) : Tell :=
  Tell.mk (fun x x_1 => false) (fun x x_1 => Orc.no) (fun x => Tree.done (Exit.exit 0) (E128 l0 l a b n)) (fun x => 0) (fun x => ([10, 3, 2, 1, 0], [0]))
  (fun x x_1 x_2 => Orc.no) fun x x_1 => Tree.done (Exit.exit 0) (E128 l0 l a b n)
theorem t128 (l0 : Abs.Loc) (l : List RKey) (a b n : Nat) : levW prog Proofs.Tryz.f128 l0 75 18 (l.map encK) [i64 a, i64 b, i64 n, fnV 54] (T128 l0 l a b n) =
  Tree.loop 1
  (LState.mk
  [(10, AVal.imm (IVal.v (Value.int IntKind.i64 (0 : Int)))), (3, AVal.imm (i64 (↑n : Int))), (2, AVal.imm (i64 (↑b : Int))), (1, AVal.imm (i64 (↑a : Int))),
  (0, AVal.own 0 (List.length (List.map encK l)))]
  [(0, Entry.brow l0 75 18 (List.map encK l))] 38 2 [])
  (Tree.done (Exit.exit 0) (E128 l0 l a b n)) (Tree.need (eqs []) (Tree.done Exit.ret (lretW l0 75 18 (IVal.tup []) (List.map encK (swR l a b n))))) := by kernel_rfl
theorem w128 (l : List RKey) (a b n : Nat) (ha : a + n ≤ l.length) (hb : b + n ≤ l.length) (hl : l.length ≤ 2 ^ 62) : WSpec prog 128 75 18 (l.map encK) [i64 a, i64 b, i64 n, fnV 54] (.tup []) ((swR l a b n).map encK) := by
  refine WSpec.tree Proofs.Tryz.f128 (fun l0 => T128 l0 l a b n) (by kernel_rfl) (by kernel_rfl) (by kernel_rfl) fun l0 => ?_
  rw [t128]
  refine ⟨?_, need_sat ?_ (lretW_ex ?_ ?_)⟩
  · exact l128 l0 l a b n ha hb hl _ (by simp [I128, i64, swR, LSub, tsub, ssub, tl, sl, linT, linS, ainB, ainBL])
  · exact trivial
  · rfl
  · exact .refl _
theorem w128' (l : List RKey) (a b n : Int) (h0 : 0 ≤ a) (h1 : 0 ≤ b) (h2 : 0 ≤ n) (ha : a + n ≤ l.length) (hb : b + n ≤ l.length) (hl : l.length ≤ 2 ^ 62) : WSpec prog 128 75 18 (l.map encK) [i64 a, i64 b, i64 n, fnV 54] (.tup []) ((swR l a.toNat b.toNat n.toNat).map encK) := by
  obtain ⟨a, rfl⟩ := Int.eq_ofNat_of_zero_le h0
  obtain ⟨b, rfl⟩ := Int.eq_ofNat_of_zero_le h1
  obtain ⟨n, rfl⟩ := Int.eq_ofNat_of_zero_le h2
  exact w128 l a b n (by omega) (by omega) hl
end Gp
namespace Gp
def I123 (l0 : Abs.Loc) (m i j : Nat) (x : List Origin) : LState := { t := [(11, .imm (i64 j)), (10, .imm (i64 i)), (4, .imm (fnV 48)), (2, .imm (i64 m)), (0, .own 0 x.length)], s := [(0, .brow l0 68 6 (x.map encO))], m := 58, n := 1 }
def E123 (l0 : Abs.Loc) (m : Nat) (r : Nat × List Origin) : LState := { t := [(10, .imm (i64 r.1)), (4, .imm (fnV 48)), (2, .imm (i64 m)), (0, .own 0 r.2.length)], s := [(0, .brow l0 68 6 (r.2.map encO))], m := 58, n := 1 }
def fin123 : Exit → Fin
  | .normal => ⟨[], [11, 10, 4, 2, 0], [0]⟩
  | _ => ⟨[], [10, 4, 2, 0], [0]⟩
def T123r (l0 : Abs.Loc) (m i j : Nat) (x : List Origin) : Tell :=
  Tell.mk (fun x x_1 => false) (fun x x_1 => Orc.no) (fun x => Tree.fail 1000003 0) (fun x => 0) (fun x => ([], []))
  (oget
  [(7, 4, 7,
  Orc.callw [i64 (IntKind.wrap IntKind.i64 ((↑m : Int) - (↑i : Int))), i64 (↑m : Int), i64 (↑j : Int), fnV 48] (IVal.tup [])
  (List.map encO (swR x (Int.toNat (IntKind.wrap IntKind.i64 ((↑m : Int) - (↑i : Int)))) (Int.toNat (↑m : Int)) (Int.toNat (↑j : Int))))),
  (7, 6, 11,
  Orc.callw [i64 (IntKind.wrap IntKind.i64 ((↑m : Int) - (↑i : Int))), i64 (IntKind.wrap IntKind.i64 (IntKind.wrap IntKind.i64 ((↑m : Int) + (↑j : Int)) - (↑i : Int))), i64 (↑i : Int), fnV 48] (IVal.tup [])
  (List.map encO (swR x (Int.toNat (IntKind.wrap IntKind.i64 ((↑m : Int) - (↑i : Int)))) (Int.toNat (IntKind.wrap IntKind.i64 (IntKind.wrap IntKind.i64 ((↑m : Int) + (↑j : Int)) - (↑i : Int)))) (Int.toNat (↑i : Int)))))])
  fun x x_1 => Tree.fail 1000003 0
theorem t123r (l0 : Abs.Loc) (m i j : Nat) (x : List Origin) : levL prog Proofs.Tryz.f123 2 (I123 l0 m i j x) (T123r l0 m i j x) fin123 =
  Tree.br (!decide ((↑i : Int) = (↑j : Int)))
  (Tree.br (decide ((↑j : Int) < (↑i : Int)))
  (Tree.need
  (List.length (List.map encO x) = List.length x ∧
  ILeL [IVal.v (Value.int IntKind.i64 (IntKind.wrap IntKind.i64 ((↑m : Int) - (↑i : Int)))), i64 (↑m : Int), i64 (↑j : Int), fnV 48]
  [i64 (IntKind.wrap IntKind.i64 ((↑m : Int) - (↑i : Int))), i64 (↑m : Int), i64 (↑j : Int), fnV 48] ∧
  WSpec prog 126 68 6 (List.map encO x) [i64 (IntKind.wrap IntKind.i64 ((↑m : Int) - (↑i : Int))), i64 (↑m : Int), i64 (↑j : Int), fnV 48] (IVal.tup [])
  (List.map encO (swR x (Int.toNat (IntKind.wrap IntKind.i64 ((↑m : Int) - (↑i : Int)))) m j)))
  (Tree.done Exit.normal
  (LState.mk
  [(11, AVal.imm (i64 (↑j : Int))), (10, AVal.imm (IVal.v (Value.int IntKind.i64 (IntKind.wrap IntKind.i64 ((↑i : Int) - (↑j : Int)))))), (4, AVal.imm (fnV 48)),
  (2, AVal.imm (i64 (↑m : Int))), (0, AVal.own 0 (List.length x))]
  [(0, Entry.brow l0 68 6 (List.map encO (swR x (Int.toNat (IntKind.wrap IntKind.i64 ((↑m : Int) - (↑i : Int)))) m j)))] 58 19 [])))
  (Tree.need
  (List.length (List.map encO x) = List.length x ∧
  ILeL
  [IVal.v (Value.int IntKind.i64 (IntKind.wrap IntKind.i64 ((↑m : Int) - (↑i : Int)))), IVal.v (Value.int IntKind.i64 (IntKind.wrap IntKind.i64 (IntKind.wrap IntKind.i64 ((↑m : Int) + (↑j : Int)) - (↑i : Int)))), i64 (↑i : Int),
  fnV 48]
  [i64 (IntKind.wrap IntKind.i64 ((↑m : Int) - (↑i : Int))), i64 (IntKind.wrap IntKind.i64 (IntKind.wrap IntKind.i64 ((↑m : Int) + (↑j : Int)) - (↑i : Int))), i64 (↑i : Int), fnV 48] ∧
  WSpec prog 126 68 6 (List.map encO x)
  [i64 (IntKind.wrap IntKind.i64 ((↑m : Int) - (↑i : Int))), i64 (IntKind.wrap IntKind.i64 (IntKind.wrap IntKind.i64 ((↑m : Int) + (↑j : Int)) - (↑i : Int))), i64 (↑i : Int), fnV 48] (IVal.tup [])
  (List.map encO (swR x (Int.toNat (IntKind.wrap IntKind.i64 ((↑m : Int) - (↑i : Int)))) (Int.toNat (IntKind.wrap IntKind.i64 (IntKind.wrap IntKind.i64 ((↑m : Int) + (↑j : Int)) - (↑i : Int)))) i)))
  (Tree.done Exit.normal
  (LState.mk
  [(11, AVal.imm (IVal.v (Value.int IntKind.i64 (IntKind.wrap IntKind.i64 ((↑j : Int) - (↑i : Int)))))), (10, AVal.imm (i64 (↑i : Int))), (4, AVal.imm (fnV 48)),
  (2, AVal.imm (i64 (↑m : Int))), (0, AVal.own 0 (List.length x))]
  [(0,
  Entry.brow l0 68 6
  (List.map encO (swR x (Int.toNat (IntKind.wrap IntKind.i64 ((↑m : Int) - (↑i : Int)))) (Int.toNat (IntKind.wrap IntKind.i64 (IntKind.wrap IntKind.i64 ((↑m : Int) + (↑j : Int)) - (↑i : Int)))) i)))]
  58 23 []))))
  (Tree.done (Exit.exit 0)
  (LState.mk [(10, AVal.imm (i64 (↑i : Int))), (4, AVal.imm (fnV 48)), (2, AVal.imm (i64 (↑m : Int))), (0, AVal.own 0 (List.length x))]
  [(0, Entry.brow l0 68 6 (List.map encO x))] 58 4 [])) := by kernel_rfl
def T123 (l0 : Abs.Loc) (l : List Origin) (a m b : Nat) (r : Nat × List Origin) : Tell :=
  Tell.mk (fun x x_1 => false) (fun x x_1 => Orc.no) (fun x => Tree.done (Exit.exit 0) (E123 l0 m r)) (fun x => 0) (fun x => ([11, 10, 4, 2, 0], [0]))
  (oget
  [(1, 8, 7,
  Orc.callw [i64 (IntKind.wrap IntKind.i64 ((↑m : Int) - (↑r.fst : Int))), i64 (↑m : Int), i64 (↑r.fst : Int), fnV 48] (IVal.tup [])
  (List.map encO (swR r.snd (Int.toNat (IntKind.wrap IntKind.i64 ((↑m : Int) - (↑r.fst : Int)))) (Int.toNat (↑m : Int)) (Int.toNat (↑r.fst : Int)))))])
  fun x x_1 => Tree.done (Exit.exit 0) (E123 l0 m r)
theorem t123 (l0 : Abs.Loc) (l : List Origin) (a m b : Nat) (r : Nat × List Origin) : levW prog Proofs.Tryz.f123 l0 68 6 (l.map encO) [i64 a, i64 m, i64 b, fnV 48] (T123 l0 l a m b r) =
  Tree.loop 2
  (LState.mk
  [(11, AVal.imm (IVal.v (Value.int IntKind.i64 (IntKind.wrap IntKind.i64 ((↑b : Int) - (↑m : Int)))))), (10, AVal.imm (IVal.v (Value.int IntKind.i64 (IntKind.wrap IntKind.i64 ((↑m : Int) - (↑a : Int)))))),
  (4, AVal.imm (fnV 48)), (2, AVal.imm (i64 (↑m : Int))), (0, AVal.own 0 (List.length (List.map encO l)))]
  [(0, Entry.brow l0 68 6 (List.map encO l))] 58 9 [])
  (Tree.done (Exit.exit 0) (E123 l0 m r))
  (Tree.need
  (List.length (List.map encO r.snd) = List.length r.snd ∧
  ILeL [IVal.v (Value.int IntKind.i64 (IntKind.wrap IntKind.i64 ((↑m : Int) - (↑r.fst : Int)))), i64 (↑m : Int), i64 (↑r.fst : Int), fnV 48]
  [i64 (IntKind.wrap IntKind.i64 ((↑m : Int) - (↑r.fst : Int))), i64 (↑m : Int), i64 (↑r.fst : Int), fnV 48] ∧
  WSpec prog 126 68 6 (List.map encO r.snd) [i64 (IntKind.wrap IntKind.i64 ((↑m : Int) - (↑r.fst : Int))), i64 (↑m : Int), i64 (↑r.fst : Int), fnV 48] (IVal.tup [])
  (List.map encO (swR r.snd (Int.toNat (IntKind.wrap IntKind.i64 ((↑m : Int) - (↑r.fst : Int)))) m r.fst)))
  (Tree.need (eqs []) (Tree.done Exit.ret (lretW l0 68 6 (IVal.tup []) (List.map encO (swR r.snd (Int.toNat (IntKind.wrap IntKind.i64 ((↑m : Int) - (↑r.fst : Int)))) m r.fst)))))) := by kernel_rfl
theorem l123 (l0 : Abs.Loc) (m i j f : Nat) (l : List Origin) (hi : 0 < i) (hj : 0 < j) (hf : i + j ≤ f) (hm : i ≤ m) (hb : m + j ≤ l.length) (hl : l.length ≤ 2 ^ 61) (σ : LState) (h : LSub σ (I123 l0 m i j l)) : LoopOk prog [] (bodyOf Proofs.Tryz.f123) 2 σ (.done (.exit 0) (E123 l0 m (rotE m f i j l))) := by
  refine LoopOk.of_levL (γ := { g : Nat × Nat × Nat × List Origin // 0 < g.1 ∧ 0 < g.2.1 ∧ g.1 + g.2.1 ≤ g.2.2.1 ∧ g.1 ≤ m ∧ m + g.2.1 ≤ g.2.2.2.length ∧ g.2.2.2.length = l.length ∧ rotE m g.2.2.1 g.1 g.2.1 g.2.2.2 = rotE m f i j l })
    (fun g => T123r l0 m g.1.1 g.1.2.1 g.1.2.2.2) fin123 (fun g => I123 l0 m g.1.1 g.1.2.1 g.1.2.2.2) (fun g => g.1.1 + g.1.2.1) ⟨(i, j, f, l), hi, hj, hf, hm, hb, rfl, rfl⟩ (by kernel_rfl) h ?_
  rintro ⟨⟨i, j, f', x⟩, q1, q2, q3, q4, q5, q6, q7⟩
  simp only at q1 q2 q3 q4 q5 q6 q7
  have e1 : IntKind.i64.wrap ((m : Int) - (i : Int)) = ((m - i : Nat) : Int) := i64_sub (by omega) (by omega)
  have e2 : IntKind.i64.wrap (IntKind.i64.wrap ((m : Int) + (j : Int)) - (i : Int)) = ((m + j - i : Nat) : Int) := by rw [i64_add (by omega), i64_sub (by omega) (by omega)]
  have e3 : j ≤ i → IntKind.i64.wrap ((i : Int) - (j : Int)) = ((i - j : Nat) : Int) := fun h => i64_sub h (by omega)
  have e4 : i ≤ j → IntKind.i64.wrap ((j : Int) - (i : Int)) = ((j - i : Nat) : Int) := fun h => i64_sub h (by omega)
  cases f' with
  | zero => omega
  | succ f' =>
    rw [rotE] at q7
    simp only []
    rw [t123r]
    refine ⟨fun h1 => ⟨fun h2 => need_sat ⟨(by simp), ILeL.refl _, w126' _ _ _ _ ?_ ?_ ?_ ?_ ?_ ?_⟩ ?_, fun h2 => need_sat ⟨(by simp), ILeL.refl _, w126' _ _ _ _ ?_ ?_ ?_ ?_ ?_ ?_⟩ ?_⟩, fun h1 => ?_⟩
    · rw [e1]; omega
    · omega
    · omega
    · rw [e1]; omega
    · omega
    · omega
    · have g1 : ¬ i = j := by simp at h1; omega
      have g2 : j < i := by simp at h2; omega
      rw [if_neg g1, if_pos g2] at q7
      refine ⟨⟨(i - j, j, f', swR x (m - i) m j), by simp only; omega, q2, by simp only; omega, by simp only; omega, by simp only [swR_length]; omega, by simp only [swR_length]; omega, q7⟩, by simp only; omega, ?_⟩
      simp only [e1, e3 (by omega), Int.toNat_natCast]
      exact ⟨⟨rfl, rfl, rfl, rfl, congrArg (AVal.own 0) (swR_length _ _ _ _).symm, trivial⟩, ⟨rfl, trivial⟩, rfl, rfl, rfl⟩
    · rw [e1]; omega
    · rw [e2]; omega
    · omega
    · rw [e1]; omega
    · have g1 : ¬ i = j := by simp at h1; omega
      have g2 : ¬ j < i := by simp at h2; omega
      rw [e2]; omega
    · omega
    · have g1 : ¬ i = j := by simp at h1; omega
      have g2 : ¬ j < i := by simp at h2; omega
      rw [if_neg g1, if_neg g2] at q7
      refine ⟨⟨(i, j - i, f', swR x (m - i) (m + j - i) i), q1, by simp only; omega, by simp only; omega, q4, by simp only [swR_length]; omega, by simp only [swR_length]; omega, q7⟩, by simp only; omega, ?_⟩
      simp only [e1, e2, e4 (by omega), Int.toNat_natCast]
      exact ⟨⟨rfl, rfl, rfl, rfl, congrArg (AVal.own 0) (swR_length _ _ _ _).symm, trivial⟩, ⟨rfl, trivial⟩, rfl, rfl, rfl⟩
    · have g1 : i = j := by simp at h1; omega
      rw [if_pos g1] at q7
      rw [← q7]
      exact ⟨rfl, ⟨rfl, rfl, rfl, rfl, trivial⟩, ⟨rfl, trivial⟩, rfl, rfl, rfl⟩
theorem w123 (l : List Origin) (a m b : Nat) (ha : a < m) (hb : m < b) (hbl : b ≤ l.length) (hl : l.length ≤ 2 ^ 61) : WSpec prog 123 68 6 (l.map encO) [i64 a, i64 m, i64 b, fnV 48] (.tup []) ((rot m (b - a) (m - a) (b - m) l).map encO) := by
  have hr := rotE_spec m (b - a) (m - a) (b - m) l (by omega) (by omega) (by omega) (by omega) (by omega)
  refine WSpec.tree Proofs.Tryz.f123 (fun l0 => T123 l0 l a m b (rotE m (b - a) (m - a) (b - m) l)) (by kernel_rfl) (by kernel_rfl) (by kernel_rfl) fun l0 => ?_
  have hh := l123 l0 m (m - a) (b - m) (b - a) l (by omega) (by omega) (by omega) (by omega) (by omega) hl
  generalize rotE m (b - a) (m - a) (b - m) l = r at *
  obtain ⟨r1, r2, r3, r4, r5⟩ := hr
  have e1 : IntKind.i64.wrap ((m : Int) - (r.1 : Int)) = ((m - r.1 : Nat) : Int) := i64_sub (by omega) (by omega)
  have e2 : IntKind.i64.wrap ((m : Int) - (a : Int)) = ((m - a : Nat) : Int) := i64_sub (by omega) (by omega)
  have e3 : IntKind.i64.wrap ((b : Int) - (m : Int)) = ((b - m : Nat) : Int) := i64_sub (by omega) (by omega)
  rw [t123]
  refine ⟨?_, need_sat ⟨(by simp), ILeL.refl _, w126' _ _ _ _ ?_ ?_ ?_ ?_ ?_ ?_⟩ (need_sat ?_ (lretW_ex ?_ ?_))⟩
  · refine hh _ ?_
    simp only [e2, e3]
    exact ⟨⟨rfl, rfl, rfl, rfl, by simp [tl], trivial⟩, ⟨rfl, trivial⟩, rfl, rfl, rfl⟩
  · rw [e1]; omega
  · omega
  · omega
  · rw [e1]; omega
  · omega
  · omega
  · exact trivial
  · rw [e1, Int.toNat_natCast, r5]
  · exact .refl _
def I124 (l0 : Abs.Loc) (m i j : Nat) (x : List Attest) : LState := { t := [(11, .imm (i64 j)), (10, .imm (i64 i)), (4, .imm (fnV 51)), (2, .imm (i64 m)), (0, .own 0 x.length)], s := [(0, .brow l0 57 2 (x.map encT))], m := 58, n := 1 }
def E124 (l0 : Abs.Loc) (m : Nat) (r : Nat × List Attest) : LState := { t := [(10, .imm (i64 r.1)), (4, .imm (fnV 51)), (2, .imm (i64 m)), (0, .own 0 r.2.length)], s := [(0, .brow l0 57 2 (r.2.map encT))], m := 58, n := 1 }
def fin124 : Exit → Fin
  | .normal => ⟨[], [11, 10, 4, 2, 0], [0]⟩
  | _ => ⟨[], [10, 4, 2, 0], [0]⟩
def T124r (l0 : Abs.Loc) (m i j : Nat) (x : List Attest) : Tell :=
  Tell.mk (fun x x_1 => false) (fun x x_1 => Orc.no) (fun x => Tree.fail 1000003 0) (fun x => 0) (fun x => ([], []))
  (oget
  [(7, 4, 7,
  Orc.callw [i64 (IntKind.wrap IntKind.i64 ((↑m : Int) - (↑i : Int))), i64 (↑m : Int), i64 (↑j : Int), fnV 51] (IVal.tup [])
  (List.map encT (swR x (Int.toNat (IntKind.wrap IntKind.i64 ((↑m : Int) - (↑i : Int)))) (Int.toNat (↑m : Int)) (Int.toNat (↑j : Int))))),
  (7, 6, 11,
  Orc.callw [i64 (IntKind.wrap IntKind.i64 ((↑m : Int) - (↑i : Int))), i64 (IntKind.wrap IntKind.i64 (IntKind.wrap IntKind.i64 ((↑m : Int) + (↑j : Int)) - (↑i : Int))), i64 (↑i : Int), fnV 51] (IVal.tup [])
  (List.map encT (swR x (Int.toNat (IntKind.wrap IntKind.i64 ((↑m : Int) - (↑i : Int)))) (Int.toNat (IntKind.wrap IntKind.i64 (IntKind.wrap IntKind.i64 ((↑m : Int) + (↑j : Int)) - (↑i : Int)))) (Int.toNat (↑i : Int)))))])
  fun x x_1 => Tree.fail 1000003 0
theorem t124r (l0 : Abs.Loc) (m i j : Nat) (x : List Attest) : levL prog Proofs.Tryz.f124 2 (I124 l0 m i j x) (T124r l0 m i j x) fin124 =
  Tree.br (!decide ((↑i : Int) = (↑j : Int)))
  (Tree.br (decide ((↑j : Int) < (↑i : Int)))
  (Tree.need
  (List.length (List.map encT x) = List.length x ∧
  ILeL [IVal.v (Value.int IntKind.i64 (IntKind.wrap IntKind.i64 ((↑m : Int) - (↑i : Int)))), i64 (↑m : Int), i64 (↑j : Int), fnV 51]
  [i64 (IntKind.wrap IntKind.i64 ((↑m : Int) - (↑i : Int))), i64 (↑m : Int), i64 (↑j : Int), fnV 51] ∧
  WSpec prog 127 57 2 (List.map encT x) [i64 (IntKind.wrap IntKind.i64 ((↑m : Int) - (↑i : Int))), i64 (↑m : Int), i64 (↑j : Int), fnV 51] (IVal.tup [])
  (List.map encT (swR x (Int.toNat (IntKind.wrap IntKind.i64 ((↑m : Int) - (↑i : Int)))) m j)))
  (Tree.done Exit.normal
  (LState.mk
  [(11, AVal.imm (i64 (↑j : Int))), (10, AVal.imm (IVal.v (Value.int IntKind.i64 (IntKind.wrap IntKind.i64 ((↑i : Int) - (↑j : Int)))))), (4, AVal.imm (fnV 51)),
  (2, AVal.imm (i64 (↑m : Int))), (0, AVal.own 0 (List.length x))]
  [(0, Entry.brow l0 57 2 (List.map encT (swR x (Int.toNat (IntKind.wrap IntKind.i64 ((↑m : Int) - (↑i : Int)))) m j)))] 58 19 [])))
  (Tree.need
  (List.length (List.map encT x) = List.length x ∧
  ILeL
  [IVal.v (Value.int IntKind.i64 (IntKind.wrap IntKind.i64 ((↑m : Int) - (↑i : Int)))), IVal.v (Value.int IntKind.i64 (IntKind.wrap IntKind.i64 (IntKind.wrap IntKind.i64 ((↑m : Int) + (↑j : Int)) - (↑i : Int)))), i64 (↑i : Int),
  fnV 51]
  [i64 (IntKind.wrap IntKind.i64 ((↑m : Int) - (↑i : Int))), i64 (IntKind.wrap IntKind.i64 (IntKind.wrap IntKind.i64 ((↑m : Int) + (↑j : Int)) - (↑i : Int))), i64 (↑i : Int), fnV 51] ∧
  WSpec prog 127 57 2 (List.map encT x)
  [i64 (IntKind.wrap IntKind.i64 ((↑m : Int) - (↑i : Int))), i64 (IntKind.wrap IntKind.i64 (IntKind.wrap IntKind.i64 ((↑m : Int) + (↑j : Int)) - (↑i : Int))), i64 (↑i : Int), fnV 51] (IVal.tup [])
  (List.map encT (swR x (Int.toNat (IntKind.wrap IntKind.i64 ((↑m : Int) - (↑i : Int)))) (Int.toNat (IntKind.wrap IntKind.i64 (IntKind.wrap IntKind.i64 ((↑m : Int) + (↑j : Int)) - (↑i : Int)))) i)))
  (Tree.done Exit.normal
  (LState.mk
  [(11, AVal.imm (IVal.v (Value.int IntKind.i64 (IntKind.wrap IntKind.i64 ((↑j : Int) - (↑i : Int)))))), (10, AVal.imm (i64 (↑i : Int))), (4, AVal.imm (fnV 51)),
  (2, AVal.imm (i64 (↑m : Int))), (0, AVal.own 0 (List.length x))]
  [(0,
  Entry.brow l0 57 2
  (List.map encT (swR x (Int.toNat (IntKind.wrap IntKind.i64 ((↑m : Int) - (↑i : Int)))) (Int.toNat (IntKind.wrap IntKind.i64 (IntKind.wrap IntKind.i64 ((↑m : Int) + (↑j : Int)) - (↑i : Int)))) i)))]
  58 23 []))))
  (Tree.done (Exit.exit 0)
  (LState.mk [(10, AVal.imm (i64 (↑i : Int))), (4, AVal.imm (fnV 51)), (2, AVal.imm (i64 (↑m : Int))), (0, AVal.own 0 (List.length x))]
  [(0, Entry.brow l0 57 2 (List.map encT x))] 58 4 [])) := by kernel_rfl
def T124 (l0 : Abs.Loc) (l : List Attest) (a m b : Nat) (r : Nat × List Attest) : Tell :=
  Tell.mk (fun x x_1 => false) (fun x x_1 => Orc.no) (fun x => Tree.done (Exit.exit 0) (E124 l0 m r)) (fun x => 0) (fun x => ([11, 10, 4, 2, 0], [0]))
  (oget
  [(1, 8, 7,
  Orc.callw [i64 (IntKind.wrap IntKind.i64 ((↑m : Int) - (↑r.fst : Int))), i64 (↑m : Int), i64 (↑r.fst : Int), fnV 51] (IVal.tup [])
  (List.map encT (swR r.snd (Int.toNat (IntKind.wrap IntKind.i64 ((↑m : Int) - (↑r.fst : Int)))) (Int.toNat (↑m : Int)) (Int.toNat (↑r.fst : Int)))))])
  fun x x_1 => Tree.done (Exit.exit 0) (E124 l0 m r)
theorem t124 (l0 : Abs.Loc) (l : List Attest) (a m b : Nat) (r : Nat × List Attest) : levW prog Proofs.Tryz.f124 l0 57 2 (l.map encT) [i64 a, i64 m, i64 b, fnV 51] (T124 l0 l a m b r) =
  Tree.loop 2
  (LState.mk
  [(11, AVal.imm (IVal.v (Value.int IntKind.i64 (IntKind.wrap IntKind.i64 ((↑b : Int) - (↑m : Int)))))), (10, AVal.imm (IVal.v (Value.int IntKind.i64 (IntKind.wrap IntKind.i64 ((↑m : Int) - (↑a : Int)))))),
  (4, AVal.imm (fnV 51)), (2, AVal.imm (i64 (↑m : Int))), (0, AVal.own 0 (List.length (List.map encT l)))]
  [(0, Entry.brow l0 57 2 (List.map encT l))] 58 9 [])
  (Tree.done (Exit.exit 0) (E124 l0 m r))
  (Tree.need
  (List.length (List.map encT r.snd) = List.length r.snd ∧
  ILeL [IVal.v (Value.int IntKind.i64 (IntKind.wrap IntKind.i64 ((↑m : Int) - (↑r.fst : Int)))), i64 (↑m : Int), i64 (↑r.fst : Int), fnV 51]
  [i64 (IntKind.wrap IntKind.i64 ((↑m : Int) - (↑r.fst : Int))), i64 (↑m : Int), i64 (↑r.fst : Int), fnV 51] ∧
  WSpec prog 127 57 2 (List.map encT r.snd) [i64 (IntKind.wrap IntKind.i64 ((↑m : Int) - (↑r.fst : Int))), i64 (↑m : Int), i64 (↑r.fst : Int), fnV 51] (IVal.tup [])
  (List.map encT (swR r.snd (Int.toNat (IntKind.wrap IntKind.i64 ((↑m : Int) - (↑r.fst : Int)))) m r.fst)))
  (Tree.need (eqs []) (Tree.done Exit.ret (lretW l0 57 2 (IVal.tup []) (List.map encT (swR r.snd (Int.toNat (IntKind.wrap IntKind.i64 ((↑m : Int) - (↑r.fst : Int)))) m r.fst)))))) := by kernel_rfl
theorem l124 (l0 : Abs.Loc) (m i j f : Nat) (l : List Attest) (hi : 0 < i) (hj : 0 < j) (hf : i + j ≤ f) (hm : i ≤ m) (hb : m + j ≤ l.length) (hl : l.length ≤ 2 ^ 61) (σ : LState) (h : LSub σ (I124 l0 m i j l)) : LoopOk prog [] (bodyOf Proofs.Tryz.f124) 2 σ (.done (.exit 0) (E124 l0 m (rotE m f i j l))) := by
  refine LoopOk.of_levL (γ := { g : Nat × Nat × Nat × List Attest // 0 < g.1 ∧ 0 < g.2.1 ∧ g.1 + g.2.1 ≤ g.2.2.1 ∧ g.1 ≤ m ∧ m + g.2.1 ≤ g.2.2.2.length ∧ g.2.2.2.length = l.length ∧ rotE m g.2.2.1 g.1 g.2.1 g.2.2.2 = rotE m f i j l })
    (fun g => T124r l0 m g.1.1 g.1.2.1 g.1.2.2.2) fin124 (fun g => I124 l0 m g.1.1 g.1.2.1 g.1.2.2.2) (fun g => g.1.1 + g.1.2.1) ⟨(i, j, f, l), hi, hj, hf, hm, hb, rfl, rfl⟩ (by kernel_rfl) h ?_
  rintro ⟨⟨i, j, f', x⟩, q1, q2, q3, q4, q5, q6, q7⟩
  simp only at q1 q2 q3 q4 q5 q6 q7
  have e1 : IntKind.i64.wrap ((m : Int) - (i : Int)) = ((m - i : Nat) : Int) := i64_sub (by omega) (by omega)
  have e2 : IntKind.i64.wrap (IntKind.i64.wrap ((m : Int) + (j : Int)) - (i : Int)) = ((m + j - i : Nat) : Int) := by rw [i64_add (by omega), i64_sub (by omega) (by omega)]
  have e3 : j ≤ i → IntKind.i64.wrap ((i : Int) - (j : Int)) = ((i - j : Nat) : Int) := fun h => i64_sub h (by omega)
  have e4 : i ≤ j → IntKind.i64.wrap ((j : Int) - (i : Int)) = ((j - i : Nat) : Int) := fun h => i64_sub h (by omega)
  cases f' with
  | zero => omega
  | succ f' =>
    rw [rotE] at q7
    simp only []
    rw [t124r]
    refine ⟨fun h1 => ⟨fun h2 => need_sat ⟨(by simp), ILeL.refl _, w127' _ _ _ _ ?_ ?_ ?_ ?_ ?_ ?_⟩ ?_, fun h2 => need_sat ⟨(by simp), ILeL.refl _, w127' _ _ _ _ ?_ ?_ ?_ ?_ ?_ ?_⟩ ?_⟩, fun h1 => ?_⟩
    · rw [e1]; omega
    · omega
    · omega
    · rw [e1]; omega
    · omega
    · omega
    · have g1 : ¬ i = j := by simp at h1; omega
      have g2 : j < i := by simp at h2; omega
      rw [if_neg g1, if_pos g2] at q7
      refine ⟨⟨(i - j, j, f', swR x (m - i) m j), by simp only; omega, q2, by simp only; omega, by simp only; omega, by simp only [swR_length]; omega, by simp only [swR_length]; omega, q7⟩, by simp only; omega, ?_⟩
      simp only [e1, e3 (by omega), Int.toNat_natCast]
      exact ⟨⟨rfl, rfl, rfl, rfl, congrArg (AVal.own 0) (swR_length _ _ _ _).symm, trivial⟩, ⟨rfl, trivial⟩, rfl, rfl, rfl⟩
    · rw [e1]; omega
    · rw [e2]; omega
    · omega
    · rw [e1]; omega
    · have g1 : ¬ i = j := by simp at h1; omega
      have g2 : ¬ j < i := by simp at h2; omega
      rw [e2]; omega
    · omega
    · have g1 : ¬ i = j := by simp at h1; omega
      have g2 : ¬ j < i := by simp at h2; omega
      rw [if_neg g1, if_neg g2] at q7
      refine ⟨⟨(i, j - i, f', swR x (m - i) (m + j - i) i), q1, by simp only; omega, by simp only; omega, q4, by simp only [swR_length]; omega, by simp only [swR_length]; omega, q7⟩, by simp only; omega, ?_⟩
      simp only [e1, e2, e4 (by omega), Int.toNat_natCast]
      exact ⟨⟨rfl, rfl, rfl, rfl, congrArg (AVal.own 0) (swR_length _ _ _ _).symm, trivial⟩, ⟨rfl, trivial⟩, rfl, rfl, rfl⟩
    · have g1 : i = j := by simp at h1; omega
      rw [if_pos g1] at q7
      rw [← q7]
      exact ⟨rfl, ⟨rfl, rfl, rfl, rfl, trivial⟩, ⟨rfl, trivial⟩, rfl, rfl, rfl⟩
theorem w124 (l : List Attest) (a m b : Nat) (ha : a < m) (hb : m < b) (hbl : b ≤ l.length) (hl : l.length ≤ 2 ^ 61) : WSpec prog 124 57 2 (l.map encT) [i64 a, i64 m, i64 b, fnV 51] (.tup []) ((rot m (b - a) (m - a) (b - m) l).map encT) := by
  have hr := rotE_spec m (b - a) (m - a) (b - m) l (by omega) (by omega) (by omega) (by omega) (by omega)
  refine WSpec.tree Proofs.Tryz.f124 (fun l0 => T124 l0 l a m b (rotE m (b - a) (m - a) (b - m) l)) (by kernel_rfl) (by kernel_rfl) (by kernel_rfl) fun l0 => ?_
  have hh := l124 l0 m (m - a) (b - m) (b - a) l (by omega) (by omega) (by omega) (by omega) (by omega) hl
  generalize rotE m (b - a) (m - a) (b - m) l = r at *
  obtain ⟨r1, r2, r3, r4, r5⟩ := hr
  have e1 : IntKind.i64.wrap ((m : Int) - (r.1 : Int)) = ((m - r.1 : Nat) : Int) := i64_sub (by omega) (by omega)
  have e2 : IntKind.i64.wrap ((m : Int) - (a : Int)) = ((m - a : Nat) : Int) := i64_sub (by omega) (by omega)
  have e3 : IntKind.i64.wrap ((b : Int) - (m : Int)) = ((b - m : Nat) : Int) := i64_sub (by omega) (by omega)
  rw [t124]
  refine ⟨?_, need_sat ⟨(by simp), ILeL.refl _, w127' _ _ _ _ ?_ ?_ ?_ ?_ ?_ ?_⟩ (need_sat ?_ (lretW_ex ?_ ?_))⟩
  · refine hh _ ?_
    simp only [e2, e3]
    exact ⟨⟨rfl, rfl, rfl, rfl, by simp [tl], trivial⟩, ⟨rfl, trivial⟩, rfl, rfl, rfl⟩
  · rw [e1]; omega
  · omega
  · omega
  · rw [e1]; omega
  · omega
  · omega
  · exact trivial
  · rw [e1, Int.toNat_natCast, r5]
  · exact .refl _
def I125 (l0 : Abs.Loc) (m i j : Nat) (x : List RKey) : LState := { t := [(11, .imm (i64 j)), (10, .imm (i64 i)), (4, .imm (fnV 54)), (2, .imm (i64 m)), (0, .own 0 x.length)], s := [(0, .brow l0 75 18 (x.map encK))], m := 58, n := 1 }
def E125 (l0 : Abs.Loc) (m : Nat) (r : Nat × List RKey) : LState := { t := [(10, .imm (i64 r.1)), (4, .imm (fnV 54)), (2, .imm (i64 m)), (0, .own 0 r.2.length)], s := [(0, .brow l0 75 18 (r.2.map encK))], m := 58, n := 1 }
def fin125 : Exit → Fin
  | .normal => ⟨[], [11, 10, 4, 2, 0], [0]⟩
  | _ => ⟨[], [10, 4, 2, 0], [0]⟩
def T125r (l0 : Abs.Loc) (m i j : Nat) (x : List RKey) : Tell :=
  Tell.mk (fun x x_1 => false) (fun x x_1 => Orc.no) (fun x => Tree.fail 1000003 0) (fun x => 0) (fun x => ([], []))
  (oget
  [(7, 4, 7,
  Orc.callw [i64 (IntKind.wrap IntKind.i64 ((↑m : Int) - (↑i : Int))), i64 (↑m : Int), i64 (↑j : Int), fnV 54] (IVal.tup [])
  (List.map encK (swR x (Int.toNat (IntKind.wrap IntKind.i64 ((↑m : Int) - (↑i : Int)))) (Int.toNat (↑m : Int)) (Int.toNat (↑j : Int))))),
  (7, 6, 11,
  Orc.callw [i64 (IntKind.wrap IntKind.i64 ((↑m : Int) - (↑i : Int))), i64 (IntKind.wrap IntKind.i64 (IntKind.wrap IntKind.i64 ((↑m : Int) + (↑j : Int)) - (↑i : Int))), i64 (↑i : Int), fnV 54] (IVal.tup [])
  (List.map encK (swR x (Int.toNat (IntKind.wrap IntKind.i64 ((↑m : Int) - (↑i : Int)))) (Int.toNat (IntKind.wrap IntKind.i64 (IntKind.wrap IntKind.i64 ((↑m : Int) + (↑j : Int)) - (↑i : Int)))) (Int.toNat (↑i : Int)))))])
  fun x x_1 => Tree.fail 1000003 0
theorem t125r (l0 : Abs.Loc) (m i j : Nat) (x : List RKey) : levL prog Proofs.Tryz.f125 2 (I125 l0 m i j x) (T125r l0 m i j x) fin125 =
  Tree.br (!decide ((↑i : Int) = (↑j : Int)))
  (Tree.br (decide ((↑j : Int) < (↑i : Int)))
  (Tree.need
  (List.length (List.map encK x) = List.length x ∧
  ILeL [IVal.v (Value.int IntKind.i64 (IntKind.wrap IntKind.i64 ((↑m : Int) - (↑i : Int)))), i64 (↑m : Int), i64 (↑j : Int), fnV 54]
  [i64 (IntKind.wrap IntKind.i64 ((↑m : Int) - (↑i : Int))), i64 (↑m : Int), i64 (↑j : Int), fnV 54] ∧
  WSpec prog 128 75 18 (List.map encK x) [i64 (IntKind.wrap IntKind.i64 ((↑m : Int) - (↑i : Int))), i64 (↑m : Int), i64 (↑j : Int), fnV 54] (IVal.tup [])
  (List.map encK (swR x (Int.toNat (IntKind.wrap IntKind.i64 ((↑m : Int) - (↑i : Int)))) m j)))
  (Tree.done Exit.normal
  (LState.mk
  [(11, AVal.imm (i64 (↑j : Int))), (10, AVal.imm (IVal.v (Value.int IntKind.i64 (IntKind.wrap IntKind.i64 ((↑i : Int) - (↑j : Int)))))), (4, AVal.imm (fnV 54)),
  (2, AVal.imm (i64 (↑m : Int))), (0, AVal.own 0 (List.length x))]
  [(0, Entry.brow l0 75 18 (List.map encK (swR x (Int.toNat (IntKind.wrap IntKind.i64 ((↑m : Int) - (↑i : Int)))) m j)))] 58 19 [])))
  (Tree.need
  (List.length (List.map encK x) = List.length x ∧
  ILeL
  [IVal.v (Value.int IntKind.i64 (IntKind.wrap IntKind.i64 ((↑m : Int) - (↑i : Int)))), IVal.v (Value.int IntKind.i64 (IntKind.wrap IntKind.i64 (IntKind.wrap IntKind.i64 ((↑m : Int) + (↑j : Int)) - (↑i : Int)))), i64 (↑i : Int),
  fnV 54]
  [i64 (IntKind.wrap IntKind.i64 ((↑m : Int) - (↑i : Int))), i64 (IntKind.wrap IntKind.i64 (IntKind.wrap IntKind.i64 ((↑m : Int) + (↑j : Int)) - (↑i : Int))), i64 (↑i : Int), fnV 54] ∧
  WSpec prog 128 75 18 (List.map encK x)
  [i64 (IntKind.wrap IntKind.i64 ((↑m : Int) - (↑i : Int))), i64 (IntKind.wrap IntKind.i64 (IntKind.wrap IntKind.i64 ((↑m : Int) + (↑j : Int)) - (↑i : Int))), i64 (↑i : Int), fnV 54] (IVal.tup [])
  (List.map encK (swR x (Int.toNat (IntKind.wrap IntKind.i64 ((↑m : Int) - (↑i : Int)))) (Int.toNat (IntKind.wrap IntKind.i64 (IntKind.wrap IntKind.i64 ((↑m : Int) + (↑j : Int)) - (↑i : Int)))) i)))
  (Tree.done Exit.normal
  (LState.mk
  [(11, AVal.imm (IVal.v (Value.int IntKind.i64 (IntKind.wrap IntKind.i64 ((↑j : Int) - (↑i : Int)))))), (10, AVal.imm (i64 (↑i : Int))), (4, AVal.imm (fnV 54)),
  (2, AVal.imm (i64 (↑m : Int))), (0, AVal.own 0 (List.length x))]
  [(0,
  Entry.brow l0 75 18
  (List.map encK (swR x (Int.toNat (IntKind.wrap IntKind.i64 ((↑m : Int) - (↑i : Int)))) (Int.toNat (IntKind.wrap IntKind.i64 (IntKind.wrap IntKind.i64 ((↑m : Int) + (↑j : Int)) - (↑i : Int)))) i)))]
  58 23 []))))
  (Tree.done (Exit.exit 0)
  (LState.mk [(10, AVal.imm (i64 (↑i : Int))), (4, AVal.imm (fnV 54)), (2, AVal.imm (i64 (↑m : Int))), (0, AVal.own 0 (List.length x))]
  [(0, Entry.brow l0 75 18 (List.map encK x))] 58 4 [])) := by kernel_rfl
def T125 (l0 : Abs.Loc) (l : List RKey) (a m b : Nat) (r : Nat × List RKey) : Tell :=
  Tell.mk (fun x x_1 => false) (fun x x_1 => Orc.no) (fun x => Tree.done (Exit.exit 0) (E125 l0 m r)) (fun x => 0) (fun x => ([11, 10, 4, 2, 0], [0]))
  (oget
  [(1, 8, 7,
  Orc.callw [i64 (IntKind.wrap IntKind.i64 ((↑m : Int) - (↑r.fst : Int))), i64 (↑m : Int), i64 (↑r.fst : Int), fnV 54] (IVal.tup [])
  (List.map encK (swR r.snd (Int.toNat (IntKind.wrap IntKind.i64 ((↑m : Int) - (↑r.fst : Int)))) (Int.toNat (↑m : Int)) (Int.toNat (↑r.fst : Int)))))])
  fun x x_1 => Tree.done (Exit.exit 0) (E125 l0 m r)
theorem t125 (l0 : Abs.Loc) (l : List RKey) (a m b : Nat) (r : Nat × List RKey) : levW prog Proofs.Tryz.f125 l0 75 18 (l.map encK) [i64 a, i64 m, i64 b, fnV 54] (T125 l0 l a m b r) =
  Tree.loop 2
  (LState.mk
  [(11, AVal.imm (IVal.v (Value.int IntKind.i64 (IntKind.wrap IntKind.i64 ((↑b : Int) - (↑m : Int)))))), (10, AVal.imm (IVal.v (Value.int IntKind.i64 (IntKind.wrap IntKind.i64 ((↑m : Int) - (↑a : Int)))))),
  (4, AVal.imm (fnV 54)), (2, AVal.imm (i64 (↑m : Int))), (0, AVal.own 0 (List.length (List.map encK l)))]
  [(0, Entry.brow l0 75 18 (List.map encK l))] 58 9 [])
  (Tree.done (Exit.exit 0) (E125 l0 m r))
  (Tree.need
  (List.length (List.map encK r.snd) = List.length r.snd ∧
  ILeL [IVal.v (Value.int IntKind.i64 (IntKind.wrap IntKind.i64 ((↑m : Int) - (↑r.fst : Int)))), i64 (↑m : Int), i64 (↑r.fst : Int), fnV 54]
  [i64 (IntKind.wrap IntKind.i64 ((↑m : Int) - (↑r.fst : Int))), i64 (↑m : Int), i64 (↑r.fst : Int), fnV 54] ∧
  WSpec prog 128 75 18 (List.map encK r.snd) [i64 (IntKind.wrap IntKind.i64 ((↑m : Int) - (↑r.fst : Int))), i64 (↑m : Int), i64 (↑r.fst : Int), fnV 54] (IVal.tup [])
  (List.map encK (swR r.snd (Int.toNat (IntKind.wrap IntKind.i64 ((↑m : Int) - (↑r.fst : Int)))) m r.fst)))
  (Tree.need (eqs []) (Tree.done Exit.ret (lretW l0 75 18 (IVal.tup []) (List.map encK (swR r.snd (Int.toNat (IntKind.wrap IntKind.i64 ((↑m : Int) - (↑r.fst : Int)))) m r.fst)))))) := by kernel_rfl
theorem l125 (l0 : Abs.Loc) (m i j f : Nat) (l : List RKey) (hi : 0 < i) (hj : 0 < j) (hf : i + j ≤ f) (hm : i ≤ m) (hb : m + j ≤ l.length) (hl : l.length ≤ 2 ^ 61) (σ : LState) (h : LSub σ (I125 l0 m i j l)) : LoopOk prog [] (bodyOf Proofs.Tryz.f125) 2 σ (.done (.exit 0) (E125 l0 m (rotE m f i j l))) := by
  refine LoopOk.of_levL (γ := { g : Nat × Nat × Nat × List RKey // 0 < g.1 ∧ 0 < g.2.1 ∧ g.1 + g.2.1 ≤ g.2.2.1 ∧ g.1 ≤ m ∧ m + g.2.1 ≤ g.2.2.2.length ∧ g.2.2.2.length = l.length ∧ rotE m g.2.2.1 g.1 g.2.1 g.2.2.2 = rotE m f i j l })
    (fun g => T125r l0 m g.1.1 g.1.2.1 g.1.2.2.2) fin125 (fun g => I125 l0 m g.1.1 g.1.2.1 g.1.2.2.2) (fun g => g.1.1 + g.1.2.1) ⟨(i, j, f, l), hi, hj, hf, hm, hb, rfl, rfl⟩ (by kernel_rfl) h ?_
  rintro ⟨⟨i, j, f', x⟩, q1, q2, q3, q4, q5, q6, q7⟩
  simp only at q1 q2 q3 q4 q5 q6 q7
  have e1 : IntKind.i64.wrap ((m : Int) - (i : Int)) = ((m - i : Nat) : Int) := i64_sub (by omega) (by omega)
  have e2 : IntKind.i64.wrap (IntKind.i64.wrap ((m : Int) + (j : Int)) - (i : Int)) = ((m + j - i : Nat) : Int) := by rw [i64_add (by omega), i64_sub (by omega) (by omega)]
  have e3 : j ≤ i → IntKind.i64.wrap ((i : Int) - (j : Int)) = ((i - j : Nat) : Int) := fun h => i64_sub h (by omega)
  have e4 : i ≤ j → IntKind.i64.wrap ((j : Int) - (i : Int)) = ((j - i : Nat) : Int) := fun h => i64_sub h (by omega)
  cases f' with
  | zero => omega
  | succ f' =>
    rw [rotE] at q7
    simp only []
    rw [t125r]
    refine ⟨fun h1 => ⟨fun h2 => need_sat ⟨(by simp), ILeL.refl _, w128' _ _ _ _ ?_ ?_ ?_ ?_ ?_ ?_⟩ ?_, fun h2 => need_sat ⟨(by simp), ILeL.refl _, w128' _ _ _ _ ?_ ?_ ?_ ?_ ?_ ?_⟩ ?_⟩, fun h1 => ?_⟩
    · rw [e1]; omega
    · omega
    · omega
    · rw [e1]; omega
    · omega
    · omega
    · have g1 : ¬ i = j := by simp at h1; omega
      have g2 : j < i := by simp at h2; omega
      rw [if_neg g1, if_pos g2] at q7
      refine ⟨⟨(i - j, j, f', swR x (m - i) m j), by simp only; omega, q2, by simp only; omega, by simp only; omega, by simp only [swR_length]; omega, by simp only [swR_length]; omega, q7⟩, by simp only; omega, ?_⟩
      simp only [e1, e3 (by omega), Int.toNat_natCast]
      exact ⟨⟨rfl, rfl, rfl, rfl, congrArg (AVal.own 0) (swR_length _ _ _ _).symm, trivial⟩, ⟨rfl, trivial⟩, rfl, rfl, rfl⟩
    · rw [e1]; omega
    · rw [e2]; omega
    · omega
    · rw [e1]; omega
    · have g1 : ¬ i = j := by simp at h1; omega
      have g2 : ¬ j < i := by simp at h2; omega
      rw [e2]; omega
    · omega
    · have g1 : ¬ i = j := by simp at h1; omega
      have g2 : ¬ j < i := by simp at h2; omega
      rw [if_neg g1, if_neg g2] at q7
      refine ⟨⟨(i, j - i, f', swR x (m - i) (m + j - i) i), q1, by simp only; omega, by simp only; omega, q4, by simp only [swR_length]; omega, by simp only [swR_length]; omega, q7⟩, by simp only; omega, ?_⟩
      simp only [e1, e2, e4 (by omega), Int.toNat_natCast]
      exact ⟨⟨rfl, rfl, rfl, rfl, congrArg (AVal.own 0) (swR_length _ _ _ _).symm, trivial⟩, ⟨rfl, trivial⟩, rfl, rfl, rfl⟩
    · have g1 : i = j := by simp at h1; omega
      rw [if_pos g1] at q7
      rw [← q7]
      exact ⟨rfl, ⟨rfl, rfl, rfl, rfl, trivial⟩, ⟨rfl, trivial⟩, rfl, rfl, rfl⟩
theorem w125 (l : List RKey) (a m b : Nat) (ha : a < m) (hb : m < b) (hbl : b ≤ l.length) (hl : l.length ≤ 2 ^ 61) : WSpec prog 125 75 18 (l.map encK) [i64 a, i64 m, i64 b, fnV 54] (.tup []) ((rot m (b - a) (m - a) (b - m) l).map encK) := by
  have hr := rotE_spec m (b - a) (m - a) (b - m) l (by omega) (by omega) (by omega) (by omega) (by omega)
  refine WSpec.tree Proofs.Tryz.f125 (fun l0 => T125 l0 l a m b (rotE m (b - a) (m - a) (b - m) l)) (by kernel_rfl) (by kernel_rfl) (by kernel_rfl) fun l0 => ?_
  have hh := l125 l0 m (m - a) (b - m) (b - a) l (by omega) (by omega) (by omega) (by omega) (by omega) hl
  generalize rotE m (b - a) (m - a) (b - m) l = r at *
  obtain ⟨r1, r2, r3, r4, r5⟩ := hr
  have e1 : IntKind.i64.wrap ((m : Int) - (r.1 : Int)) = ((m - r.1 : Nat) : Int) := i64_sub (by omega) (by omega)
  have e2 : IntKind.i64.wrap ((m : Int) - (a : Int)) = ((m - a : Nat) : Int) := i64_sub (by omega) (by omega)
  have e3 : IntKind.i64.wrap ((b : Int) - (m : Int)) = ((b - m : Nat) : Int) := i64_sub (by omega) (by omega)
  rw [t125]
  refine ⟨?_, need_sat ⟨(by simp), ILeL.refl _, w128' _ _ _ _ ?_ ?_ ?_ ?_ ?_ ?_⟩ (need_sat ?_ (lretW_ex ?_ ?_))⟩
  · refine hh _ ?_
    simp only [e2, e3]
    exact ⟨⟨rfl, rfl, rfl, rfl, by simp [tl], trivial⟩, ⟨rfl, trivial⟩, rfl, rfl, rfl⟩
  · rw [e1]; omega
  · omega
  · omega
  · rw [e1]; omega
  · omega
  · omega
  · exact trivial
  · rw [e1, Int.toNat_natCast, r5]
  · exact .refl _
end Gp
namespace Gp
def ltO (a b : Origin) : Bool := decide (cmpO a b < 0)
def J117 (l0 : Abs.Loc) (a b i j : Nat) (x : List Origin) : LState := { t := [(9, .imm (i64 j)), (8, .imm (i64 i)), (3, .imm (fnV 48)), (2, .imm (i64 b)), (1, .imm (i64 a)), (0, .own 0 x.length)], s := [(0, .brow l0 68 6 (x.map encO))], m := 53, n := 1 }
def I117 (l0 : Abs.Loc) (a b i : Nat) (x : List Origin) : LState := { t := [(8, .imm (i64 i)), (3, .imm (fnV 48)), (2, .imm (i64 b)), (1, .imm (i64 a)), (0, .own 0 x.length)], s := [(0, .brow l0 68 6 (x.map encO))], m := 53, n := 1 }
def finJ117 : Exit → Fin
  | .normal => ⟨[], [9, 8, 3, 2, 1, 0], [0]⟩
  | _ => ⟨[], [8, 3, 2, 1, 0], [0]⟩
def TJ117r (l0 : Abs.Loc) (a b i j : Nat) (x : List Origin) : Tell :=
  Tell.mk (fun x x_1 => false) (fun x x_1 => Orc.no) (fun x => Tree.fail 1000003 0) (fun x => 0) (fun x => ([], []))
  (oget
  [(1, 4, 8, Orc.elem (encO (List.getD x j default))), (1, 4, 13, Orc.elem (encO (List.getD x (Int.toNat (IntKind.wrap IntKind.i64 ((↑j : Int) - (1 : Int)))) default))),
  (1, 4, 14,
  Orc.call [encO (List.getD x j default), encO (List.getD x (Int.toNat (IntKind.wrap IntKind.i64 ((↑j : Int) - (1 : Int)))) default)]
  (i64 (cmpO (List.getD x j default) (List.getD x (Int.toNat (IntKind.wrap IntKind.i64 ((↑j : Int) - (1 : Int)))) default)))),
  (18, 6, 9, Orc.elem (encO (List.getD x (Int.toNat (IntKind.wrap IntKind.i64 ((↑j : Int) - (1 : Int)))) default))), (18, 6, 13, Orc.elem (encO (List.getD x j default))),
  (18, 6, 15, Orc.elem (IVal.tup [])), (18, 6, 17, Orc.elem (IVal.tup []))])
  fun x x_1 => Tree.fail 1000003 0
theorem tJ117r (l0 : Abs.Loc) (a b i j : Nat) (x : List Origin) : levL prog Proofs.Tryz.f117 4 (J117 l0 a b i j x) (TJ117r l0 a b i j x) finJ117 =
  Tree.br (decide ((↑a : Int) < (↑j : Int)))
  (Tree.need ((0 : Int) ≤ (↑j : Int) ∧ j < List.length x)
  (Tree.need ((List.map encO x)[j]? = some (encO (List.getD x j default)))
  (Tree.need ((0 : Int) ≤ IntKind.wrap IntKind.i64 ((↑j : Int) - (1 : Int)) ∧ Int.toNat (IntKind.wrap IntKind.i64 ((↑j : Int) - (1 : Int))) < List.length x)
  (Tree.need ((List.map encO x)[Int.toNat (IntKind.wrap IntKind.i64 ((↑j : Int) - (1 : Int)))]? = some (encO (List.getD x (Int.toNat (IntKind.wrap IntKind.i64 ((↑j : Int) - (1 : Int)))) default)))
  (Tree.need
  (ILeL [encO (List.getD x j default), encO (List.getD x (Int.toNat (IntKind.wrap IntKind.i64 ((↑j : Int) - (1 : Int)))) default)]
  [encO (List.getD x j default), encO (List.getD x (Int.toNat (IntKind.wrap IntKind.i64 ((↑j : Int) - (1 : Int)))) default)] ∧
  ASpec prog 48 [encO (List.getD x j default), encO (List.getD x (Int.toNat (IntKind.wrap IntKind.i64 ((↑j : Int) - (1 : Int)))) default)]
  (i64 (cmpO (List.getD x j default) (List.getD x (Int.toNat (IntKind.wrap IntKind.i64 ((↑j : Int) - (1 : Int)))) default))))
  (Tree.br (decide (cmpO (List.getD x j default) (List.getD x (Int.toNat (IntKind.wrap IntKind.i64 ((↑j : Int) - (1 : Int)))) default) < (0 : Int)))
  (Tree.need ((0 : Int) ≤ IntKind.wrap IntKind.i64 ((↑j : Int) - (1 : Int)) ∧ Int.toNat (IntKind.wrap IntKind.i64 ((↑j : Int) - (1 : Int))) < List.length x)
  (Tree.need ((List.map encO x)[Int.toNat (IntKind.wrap IntKind.i64 ((↑j : Int) - (1 : Int)))]? = some (encO (List.getD x (Int.toNat (IntKind.wrap IntKind.i64 ((↑j : Int) - (1 : Int)))) default)))
  (Tree.need ((0 : Int) ≤ (↑j : Int) ∧ j < List.length x)
  (Tree.need ((List.map encO x)[j]? = some (encO (List.getD x j default)))
  (Tree.need ((0 : Int) ≤ (↑j : Int) ∧ j < List.length x)
  (Tree.need (j < List.length (List.map encO x))
  (Tree.need ((0 : Int) ≤ IntKind.wrap IntKind.i64 ((↑j : Int) - (1 : Int)) ∧ Int.toNat (IntKind.wrap IntKind.i64 ((↑j : Int) - (1 : Int))) < List.length x)
  (Tree.need (Int.toNat (IntKind.wrap IntKind.i64 ((↑j : Int) - (1 : Int))) < List.length (List.set (List.map encO x) j (encO (List.getD x (Int.toNat (IntKind.wrap IntKind.i64 ((↑j : Int) - (1 : Int)))) default))))
  (Tree.done Exit.normal
  (LState.mk
  [(9, AVal.imm (IVal.v (Value.int IntKind.i64 (IntKind.wrap IntKind.i64 ((↑j : Int) - (1 : Int)))))), (8, AVal.imm (i64 (↑i : Int))), (3, AVal.imm (fnV 48)),
  (2, AVal.imm (i64 (↑b : Int))), (1, AVal.imm (i64 (↑a : Int))), (0, AVal.own 0 (List.length x))]
  [(0,
  Entry.brow l0 68 6
  (List.set (List.set (List.map encO x) j (encO (List.getD x (Int.toNat (IntKind.wrap IntKind.i64 ((↑j : Int) - (1 : Int)))) default))) (Int.toNat (IntKind.wrap IntKind.i64 ((↑j : Int) - (1 : Int))))
  (encO (List.getD x j default))))]
  53 39 []))))))))))
  (Tree.done (Exit.exit 2)
  (LState.mk [(8, AVal.imm (i64 (↑i : Int))), (3, AVal.imm (fnV 48)), (2, AVal.imm (i64 (↑b : Int))), (1, AVal.imm (i64 (↑a : Int))), (0, AVal.own 0 (List.length x))]
  [(0, Entry.brow l0 68 6 (List.map encO x))] 53 18 []))))))))
  (Tree.done (Exit.exit 2)
  (LState.mk [(8, AVal.imm (i64 (↑i : Int))), (3, AVal.imm (fnV 48)), (2, AVal.imm (i64 (↑b : Int))), (1, AVal.imm (i64 (↑a : Int))), (0, AVal.own 0 (List.length x))]
  [(0, Entry.brow l0 68 6 (List.map encO x))] 53 18 [])) := by kernel_rfl
theorem lJ117 (l0 : Abs.Loc) (a b i j : Nat) (x : List Origin) (hj : j < x.length) (hl : x.length ≤ 2 ^ 61) (σ : LState) (h : LSub σ (J117 l0 a b i j x)) : LoopOk prog [] (bodyOf Proofs.Tryz.f117) 4 σ (.done (.exit 2) (I117 l0 a b i (insJ ltO a j x))) := by
  refine LoopOk.of_levL (γ := { g : Nat × List Origin // g.1 < g.2.length ∧ g.2.length = x.length ∧ insJ ltO a g.1 g.2 = insJ ltO a j x }) (fun g => TJ117r l0 a b i g.1.1 g.1.2) finJ117 (fun g => J117 l0 a b i g.1.1 g.1.2) (fun g => g.1.1) ⟨(j, x), hj, rfl, rfl⟩ (by kernel_rfl) h ?_
  rintro ⟨⟨j, y⟩, q1, q2, q3⟩
  simp only at q1 q2 q3
  simp only []
  have e1 : 0 < j → IntKind.i64.wrap ((j : Int) - 1) = ((j - 1 : Nat) : Int) := fun h => by rw [IntWalk.i64_in _ (by omega)]; omega
  rw [tJ117r]
  refine ⟨fun h1 => need_sat ?_ (need_sat (elem_need' ?_) (need_sat ?_ (need_sat (elem_need' ?_) (need_sat ⟨ILeL.refl _, c48 _ _⟩ ⟨fun h2 => need_sat ?_ (need_sat (elem_need' ?_) (need_sat ?_ (need_sat (elem_need' ?_) (need_sat ?_ (need_sat ?_ (need_sat ?_ (need_sat ?_ ?_))))))), fun h2 => ?_⟩)))), fun h1 => ?_⟩
  · omega
  · omega
  · rw [e1 (by simp at h1; omega)]; omega
  · rw [e1 (by simp at h1; omega)]; omega
  · rw [e1 (by simp at h1; omega)]; omega
  · rw [e1 (by simp at h1; omega)]; omega
  · omega
  · omega
  · omega
  · simpa using q1
  · rw [e1 (by simp at h1; omega)]; omega
  · rw [e1 (by simp at h1; omega)]; simp; omega
  · have hj : 0 < j := by simp at h1; omega
    have haj : a < j := by simp at h1; omega
    rw [e1 hj, Int.toNat_natCast] at h2 ⊢
    obtain ⟨k, rfl⟩ : ∃ k, j = k + 1 := ⟨j - 1, by omega⟩
    rw [insJ, if_pos ⟨haj, h2⟩] at q3
    refine ⟨⟨(k, swp y (k + 1) k), by simp only [swp_length]; omega, by simp only [swp_length]; omega, q3⟩, by simp only; omega, ?_⟩
    refine ⟨⟨rfl, rfl, rfl, rfl, rfl, congrArg (AVal.own 0) (swp_length _ _ _).symm, trivial⟩, ⟨?_, trivial⟩, rfl, rfl, rfl⟩
    refine congrArg (fun l => some (Entry.brow l0 68 6 l)) ?_
    simp only [swp, List.map_set, Nat.add_sub_cancel]
  · have hj : 0 < j := by simp at h1; omega
    rw [e1 hj, Int.toNat_natCast] at h2
    obtain ⟨k, rfl⟩ : ∃ k, j = k + 1 := ⟨j - 1, by omega⟩
    rw [insJ, if_neg (fun hc => by have hc2 := hc.2; rw [show ltO (y.getD (k + 1) default) (y.getD k default) = false from h2] at hc2; cases hc2)] at q3
    rw [← q3]
    exact ⟨rfl, ⟨rfl, rfl, rfl, rfl, rfl, trivial⟩, ⟨rfl, trivial⟩, rfl, rfl, rfl⟩
  · have q4 : insJ ltO a j y = y := by
      cases j with
      | zero => rfl
      | succ k => rw [insJ, if_neg (fun hc => by have := hc.1; simp at h1; omega)]
    rw [q4] at q3
    rw [← q3]
    exact ⟨rfl, ⟨rfl, rfl, rfl, rfl, rfl, trivial⟩, ⟨rfl, trivial⟩, rfl, rfl, rfl⟩
def E117 (l0 : Abs.Loc) (x : List Origin) : LState := { t := [], s := [(0, .brow l0 68 6 (x.map encO))], m := 53, n := 1 }
def fin117 : Exit → Fin
  | .normal => ⟨[], [8, 3, 2, 1, 0], [0]⟩
  | _ => ⟨[], [], [0]⟩
def T117r (l0 : Abs.Loc) (a b i : Nat) (x y : List Origin) : Tell :=
  Tell.mk (fun x x_1 => false) (fun x x_1 => Orc.no) (fun x => Tree.done (Exit.exit 2) (I117 l0 a b i y)) (fun x => 0) (fun x => ([9, 8, 3, 2, 1, 0], [0]))
  (fun x x_1 x_2 => Orc.no) fun x x_1 => Tree.done (Exit.exit 2) (I117 l0 a b i y)
theorem t117r (l0 : Abs.Loc) (a b i : Nat) (x y : List Origin) : levL prog Proofs.Tryz.f117 1 (I117 l0 a b i x) (T117r l0 a b i x y) fin117 =
  Tree.br (decide ((↑i : Int) < (↑b : Int)))
  (Tree.loop 4
  (LState.mk
  [(9, AVal.imm (i64 (↑i : Int))), (8, AVal.imm (i64 (↑i : Int))), (3, AVal.imm (fnV 48)), (2, AVal.imm (i64 (↑b : Int))), (1, AVal.imm (i64 (↑a : Int))),
  (0, AVal.own 0 (List.length x))]
  [(0, Entry.brow l0 68 6 (List.map encO x))] 53 6 [])
  (Tree.done (Exit.exit 2) (I117 l0 a b i y))
  (Tree.done Exit.normal
  (LState.mk
  [(8, AVal.imm (IVal.v (Value.int IntKind.i64 (IntKind.wrap IntKind.i64 ((↑i : Int) + (1 : Int)))))), (3, AVal.imm (fnV 48)), (2, AVal.imm (i64 (↑b : Int))), (1, AVal.imm (i64 (↑a : Int))),
  (0, AVal.own 0 (List.length y))]
  [(0, Entry.brow l0 68 6 (List.map encO y))] 53 4 [])))
  (Tree.done (Exit.exit 0) (LState.mk [] [(0, Entry.brow l0 68 6 (List.map encO x))] 53 4 [])) := by kernel_rfl
def T117 (l0 : Abs.Loc) (l y : List Origin) (a b : Nat) : Tell :=
  Tell.mk (fun x x_1 => false) (fun x x_1 => Orc.no) (fun x => Tree.done (Exit.exit 0) (E117 l0 y)) (fun x => 0) (fun x => ([8, 3, 2, 1, 0], [0])) (fun x x_1 x_2 => Orc.no)
  fun x x_1 => Tree.done (Exit.exit 0) (E117 l0 y)
theorem t117 (l0 : Abs.Loc) (l y : List Origin) (a b : Nat) : levW prog Proofs.Tryz.f117 l0 68 6 (l.map encO) [i64 a, i64 b, fnV 48] (T117 l0 l y a b) =
  Tree.loop 1
  (LState.mk
  [(8, AVal.imm (IVal.v (Value.int IntKind.i64 (IntKind.wrap IntKind.i64 ((↑a : Int) + (1 : Int)))))), (3, AVal.imm (fnV 48)), (2, AVal.imm (i64 (↑b : Int))), (1, AVal.imm (i64 (↑a : Int))),
  (0, AVal.own 0 (List.length (List.map encO l)))]
  [(0, Entry.brow l0 68 6 (List.map encO l))] 53 4 [])
  (Tree.done (Exit.exit 0) (E117 l0 y)) (Tree.need (eqs []) (Tree.done Exit.ret (lretW l0 68 6 (IVal.tup []) (List.map encO y)))) := by kernel_rfl
theorem l117 (l0 : Abs.Loc) (a b : Nat) (l : List Origin) (hb : b ≤ l.length) (hl : l.length ≤ 2 ^ 61) (ha : a ≤ 2 ^ 61) (σ : LState) (h : LSub σ (I117 l0 a b (a + 1) l)) : LoopOk prog [] (bodyOf Proofs.Tryz.f117) 1 σ (.done (.exit 0) (E117 l0 (ins ltO a b l))) := by
  refine LoopOk.count (b - (a + 1)) 0 (fun n => I117 l0 a b (a + 1 + n) (insR ltO a l n)) (E117 l0 (ins ltO a b l)) (fun n => T117r l0 a b (a + 1 + n) (insR ltO a l n) (insR ltO a l (n + 1))) fin117 (by kernel_rfl) h fun n hn => ?_
  rw [t117r]
  refine ⟨fun h1 => ⟨?_, ?_⟩, fun h1 => ?_⟩
  · have hlt : a + 1 + n < b := by simp at h1; omega
    have hlen := insR_length ltO a l n (by omega)
    exact lJ117 l0 a b (a + 1 + n) (a + 1 + n) _ (by omega) (by omega) _ ⟨⟨rfl, rfl, rfl, rfl, rfl, rfl, trivial⟩, ⟨rfl, trivial⟩, rfl, rfl, rfl⟩
  · have hlt : a + 1 + n < b := by simp at h1; omega
    refine ⟨by omega, ⟨?_, rfl, rfl, rfl, rfl, trivial⟩, ⟨rfl, trivial⟩, rfl, rfl, rfl⟩
    exact congrArg (fun n => AVal.imm (i64 n)) (by rw [IntWalk.i64_in _ (by omega)]; omega)
  · have hge : b ≤ a + 1 + n := by simp at h1; omega
    have : n = b - (a + 1) := by omega
    subst this
    exact ⟨rfl, by omega, ⟨trivial, ⟨rfl, trivial⟩, rfl, rfl, rfl⟩⟩
theorem w117 (l : List Origin) (a b : Nat) (hb : b ≤ l.length) (hl : l.length ≤ 2 ^ 61) (ha : a ≤ 2 ^ 61) : WSpec prog 117 68 6 (l.map encO) [i64 a, i64 b, fnV 48] (.tup []) ((ins ltO a b l).map encO) := by
  refine WSpec.tree Proofs.Tryz.f117 (fun l0 => T117 l0 l (ins ltO a b l) a b) (by kernel_rfl) (by kernel_rfl) (by kernel_rfl) fun l0 => ?_
  rw [t117]
  refine ⟨?_, need_sat ?_ (lretW_ex ?_ ?_)⟩
  · refine l117 l0 a b l hb hl ha _ ⟨⟨congrArg (fun n => AVal.imm (i64 n)) (by rw [IntWalk.i64_in _ (by omega)]; omega), rfl, rfl, rfl, by simp [tl], trivial⟩, ⟨rfl, trivial⟩, rfl, rfl, rfl⟩
  · exact trivial
  · rfl
  · exact .refl _
def ltT (a b : Attest) : Bool := decide (cmpT a b < 0)
def J119 (l0 : Abs.Loc) (a b i j : Nat) (x : List Attest) : LState := { t := [(9, .imm (i64 j)), (8, .imm (i64 i)), (3, .imm (fnV 51)), (2, .imm (i64 b)), (1, .imm (i64 a)), (0, .own 0 x.length)], s := [(0, .brow l0 57 2 (x.map encT))], m := 53, n := 1 }
def I119 (l0 : Abs.Loc) (a b i : Nat) (x : List Attest) : LState := { t := [(8, .imm (i64 i)), (3, .imm (fnV 51)), (2, .imm (i64 b)), (1, .imm (i64 a)), (0, .own 0 x.length)], s := [(0, .brow l0 57 2 (x.map encT))], m := 53, n := 1 }
def finJ119 : Exit → Fin
  | .normal => ⟨[], [9, 8, 3, 2, 1, 0], [0]⟩
  | _ => ⟨[], [8, 3, 2, 1, 0], [0]⟩
def TJ119r (l0 : Abs.Loc) (a b i j : Nat) (x : List Attest) : Tell :=
  Tell.mk (fun x x_1 => false) (fun x x_1 => Orc.no) (fun x => Tree.fail 1000003 0) (fun x => 0) (fun x => ([], []))
  (oget
  [(1, 4, 8, Orc.elem (encT (List.getD x j default))), (1, 4, 13, Orc.elem (encT (List.getD x (Int.toNat (IntKind.wrap IntKind.i64 ((↑j : Int) - (1 : Int)))) default))),
  (1, 4, 14,
  Orc.call [encT (List.getD x j default), encT (List.getD x (Int.toNat (IntKind.wrap IntKind.i64 ((↑j : Int) - (1 : Int)))) default)]
  (i64 (cmpI (List.getD x j default).cust (List.getD x (Int.toNat (IntKind.wrap IntKind.i64 ((↑j : Int) - (1 : Int)))) default).cust))),
  (18, 6, 9, Orc.elem (encT (List.getD x (Int.toNat (IntKind.wrap IntKind.i64 ((↑j : Int) - (1 : Int)))) default))), (18, 6, 13, Orc.elem (encT (List.getD x j default))),
  (18, 6, 15, Orc.elem (IVal.tup [])), (18, 6, 17, Orc.elem (IVal.tup []))])
  fun x x_1 => Tree.fail 1000003 0
theorem tJ119r (l0 : Abs.Loc) (a b i j : Nat) (x : List Attest) : levL prog Proofs.Tryz.f119 4 (J119 l0 a b i j x) (TJ119r l0 a b i j x) finJ119 =
  Tree.br (decide ((↑a : Int) < (↑j : Int)))
  (Tree.need ((0 : Int) ≤ (↑j : Int) ∧ j < List.length x)
  (Tree.need ((List.map encT x)[j]? = some (encT (List.getD x j default)))
  (Tree.need ((0 : Int) ≤ IntKind.wrap IntKind.i64 ((↑j : Int) - (1 : Int)) ∧ Int.toNat (IntKind.wrap IntKind.i64 ((↑j : Int) - (1 : Int))) < List.length x)
  (Tree.need ((List.map encT x)[Int.toNat (IntKind.wrap IntKind.i64 ((↑j : Int) - (1 : Int)))]? = some (encT (List.getD x (Int.toNat (IntKind.wrap IntKind.i64 ((↑j : Int) - (1 : Int)))) default)))
  (Tree.need
  (ILeL [encT (List.getD x j default), encT (List.getD x (Int.toNat (IntKind.wrap IntKind.i64 ((↑j : Int) - (1 : Int)))) default)]
  [encT (List.getD x j default), encT (List.getD x (Int.toNat (IntKind.wrap IntKind.i64 ((↑j : Int) - (1 : Int)))) default)] ∧
  ASpec prog 51 [encT (List.getD x j default), encT (List.getD x (Int.toNat (IntKind.wrap IntKind.i64 ((↑j : Int) - (1 : Int)))) default)]
  (i64 (cmpI (List.getD x j default).cust (List.getD x (Int.toNat (IntKind.wrap IntKind.i64 ((↑j : Int) - (1 : Int)))) default).cust)))
  (Tree.br (decide (cmpI (List.getD x j default).cust (List.getD x (Int.toNat (IntKind.wrap IntKind.i64 ((↑j : Int) - (1 : Int)))) default).cust < (0 : Int)))
  (Tree.need ((0 : Int) ≤ IntKind.wrap IntKind.i64 ((↑j : Int) - (1 : Int)) ∧ Int.toNat (IntKind.wrap IntKind.i64 ((↑j : Int) - (1 : Int))) < List.length x)
  (Tree.need ((List.map encT x)[Int.toNat (IntKind.wrap IntKind.i64 ((↑j : Int) - (1 : Int)))]? = some (encT (List.getD x (Int.toNat (IntKind.wrap IntKind.i64 ((↑j : Int) - (1 : Int)))) default)))
  (Tree.need ((0 : Int) ≤ (↑j : Int) ∧ j < List.length x)
  (Tree.need ((List.map encT x)[j]? = some (encT (List.getD x j default)))
  (Tree.need ((0 : Int) ≤ (↑j : Int) ∧ j < List.length x)
  (Tree.need (j < List.length (List.map encT x))
  (Tree.need ((0 : Int) ≤ IntKind.wrap IntKind.i64 ((↑j : Int) - (1 : Int)) ∧ Int.toNat (IntKind.wrap IntKind.i64 ((↑j : Int) - (1 : Int))) < List.length x)
  (Tree.need (Int.toNat (IntKind.wrap IntKind.i64 ((↑j : Int) - (1 : Int))) < List.length (List.set (List.map encT x) j (encT (List.getD x (Int.toNat (IntKind.wrap IntKind.i64 ((↑j : Int) - (1 : Int)))) default))))
  (Tree.done Exit.normal
  (LState.mk
  [(9, AVal.imm (IVal.v (Value.int IntKind.i64 (IntKind.wrap IntKind.i64 ((↑j : Int) - (1 : Int)))))), (8, AVal.imm (i64 (↑i : Int))), (3, AVal.imm (fnV 51)),
  (2, AVal.imm (i64 (↑b : Int))), (1, AVal.imm (i64 (↑a : Int))), (0, AVal.own 0 (List.length x))]
  [(0,
  Entry.brow l0 57 2
  (List.set (List.set (List.map encT x) j (encT (List.getD x (Int.toNat (IntKind.wrap IntKind.i64 ((↑j : Int) - (1 : Int)))) default))) (Int.toNat (IntKind.wrap IntKind.i64 ((↑j : Int) - (1 : Int))))
  (encT (List.getD x j default))))]
  53 39 []))))))))))
  (Tree.done (Exit.exit 2)
  (LState.mk [(8, AVal.imm (i64 (↑i : Int))), (3, AVal.imm (fnV 51)), (2, AVal.imm (i64 (↑b : Int))), (1, AVal.imm (i64 (↑a : Int))), (0, AVal.own 0 (List.length x))]
  [(0, Entry.brow l0 57 2 (List.map encT x))] 53 18 []))))))))
  (Tree.done (Exit.exit 2)
  (LState.mk [(8, AVal.imm (i64 (↑i : Int))), (3, AVal.imm (fnV 51)), (2, AVal.imm (i64 (↑b : Int))), (1, AVal.imm (i64 (↑a : Int))), (0, AVal.own 0 (List.length x))]
  [(0, Entry.brow l0 57 2 (List.map encT x))] 53 18 [])) := by kernel_rfl
theorem lJ119 (l0 : Abs.Loc) (a b i j : Nat) (x : List Attest) (hj : j < x.length) (hl : x.length ≤ 2 ^ 61) (σ : LState) (h : LSub σ (J119 l0 a b i j x)) : LoopOk prog [] (bodyOf Proofs.Tryz.f119) 4 σ (.done (.exit 2) (I119 l0 a b i (insJ ltT a j x))) := by
  refine LoopOk.of_levL (γ := { g : Nat × List Attest // g.1 < g.2.length ∧ g.2.length = x.length ∧ insJ ltT a g.1 g.2 = insJ ltT a j x }) (fun g => TJ119r l0 a b i g.1.1 g.1.2) finJ119 (fun g => J119 l0 a b i g.1.1 g.1.2) (fun g => g.1.1) ⟨(j, x), hj, rfl, rfl⟩ (by kernel_rfl) h ?_
  rintro ⟨⟨j, y⟩, q1, q2, q3⟩
  simp only at q1 q2 q3
  simp only []
  have e1 : 0 < j → IntKind.i64.wrap ((j : Int) - 1) = ((j - 1 : Nat) : Int) := fun h => by rw [IntWalk.i64_in _ (by omega)]; omega
  rw [tJ119r]
  refine ⟨fun h1 => need_sat ?_ (need_sat (elem_need' ?_) (need_sat ?_ (need_sat (elem_need' ?_) (need_sat ⟨ILeL.refl _, c51 _ _⟩ ⟨fun h2 => need_sat ?_ (need_sat (elem_need' ?_) (need_sat ?_ (need_sat (elem_need' ?_) (need_sat ?_ (need_sat ?_ (need_sat ?_ (need_sat ?_ ?_))))))), fun h2 => ?_⟩)))), fun h1 => ?_⟩
  · omega
  · omega
  · rw [e1 (by simp at h1; omega)]; omega
  · rw [e1 (by simp at h1; omega)]; omega
  · rw [e1 (by simp at h1; omega)]; omega
  · rw [e1 (by simp at h1; omega)]; omega
  · omega
  · omega
  · omega
  · simpa using q1
  · rw [e1 (by simp at h1; omega)]; omega
  · rw [e1 (by simp at h1; omega)]; simp; omega
  · have hj : 0 < j := by simp at h1; omega
    have haj : a < j := by simp at h1; omega
    rw [e1 hj, Int.toNat_natCast] at h2 ⊢
    obtain ⟨k, rfl⟩ : ∃ k, j = k + 1 := ⟨j - 1, by omega⟩
    rw [insJ, if_pos ⟨haj, h2⟩] at q3
    refine ⟨⟨(k, swp y (k + 1) k), by simp only [swp_length]; omega, by simp only [swp_length]; omega, q3⟩, by simp only; omega, ?_⟩
    refine ⟨⟨rfl, rfl, rfl, rfl, rfl, congrArg (AVal.own 0) (swp_length _ _ _).symm, trivial⟩, ⟨?_, trivial⟩, rfl, rfl, rfl⟩
    refine congrArg (fun l => some (Entry.brow l0 57 2 l)) ?_
    simp only [swp, List.map_set, Nat.add_sub_cancel]
  · have hj : 0 < j := by simp at h1; omega
    rw [e1 hj, Int.toNat_natCast] at h2
    obtain ⟨k, rfl⟩ : ∃ k, j = k + 1 := ⟨j - 1, by omega⟩
    rw [insJ, if_neg (fun hc => by have hc2 := hc.2; rw [show ltT (y.getD (k + 1) default) (y.getD k default) = false from h2] at hc2; cases hc2)] at q3
    rw [← q3]
    exact ⟨rfl, ⟨rfl, rfl, rfl, rfl, rfl, trivial⟩, ⟨rfl, trivial⟩, rfl, rfl, rfl⟩
  · have q4 : insJ ltT a j y = y := by
      cases j with
      | zero => rfl
      | succ k => rw [insJ, if_neg (fun hc => by have := hc.1; simp at h1; omega)]
    rw [q4] at q3
    rw [← q3]
    exact ⟨rfl, ⟨rfl, rfl, rfl, rfl, rfl, trivial⟩, ⟨rfl, trivial⟩, rfl, rfl, rfl⟩
def E119 (l0 : Abs.Loc) (x : List Attest) : LState := { t := [], s := [(0, .brow l0 57 2 (x.map encT))], m := 53, n := 1 }
def fin119 : Exit → Fin
  | .normal => ⟨[], [8, 3, 2, 1, 0], [0]⟩
  | _ => ⟨[], [], [0]⟩
def T119r (l0 : Abs.Loc) (a b i : Nat) (x y : List Attest) : Tell :=
  Tell.mk (fun x x_1 => false) (fun x x_1 => Orc.no) (fun x => Tree.done (Exit.exit 2) (I119 l0 a b i y)) (fun x => 0) (fun x => ([9, 8, 3, 2, 1, 0], [0]))
  (fun x x_1 x_2 => Orc.no) fun x x_1 => Tree.done (Exit.exit 2) (I119 l0 a b i y)
theorem t119r (l0 : Abs.Loc) (a b i : Nat) (x y : List Attest) : levL prog Proofs.Tryz.f119 1 (I119 l0 a b i x) (T119r l0 a b i x y) fin119 =
  Tree.br (decide ((↑i : Int) < (↑b : Int)))
  (Tree.loop 4
  (LState.mk
  [(9, AVal.imm (i64 (↑i : Int))), (8, AVal.imm (i64 (↑i : Int))), (3, AVal.imm (fnV 51)), (2, AVal.imm (i64 (↑b : Int))), (1, AVal.imm (i64 (↑a : Int))),
  (0, AVal.own 0 (List.length x))]
  [(0, Entry.brow l0 57 2 (List.map encT x))] 53 6 [])
  (Tree.done (Exit.exit 2) (I119 l0 a b i y))
  (Tree.done Exit.normal
  (LState.mk
  [(8, AVal.imm (IVal.v (Value.int IntKind.i64 (IntKind.wrap IntKind.i64 ((↑i : Int) + (1 : Int)))))), (3, AVal.imm (fnV 51)), (2, AVal.imm (i64 (↑b : Int))), (1, AVal.imm (i64 (↑a : Int))),
  (0, AVal.own 0 (List.length y))]
  [(0, Entry.brow l0 57 2 (List.map encT y))] 53 4 [])))
  (Tree.done (Exit.exit 0) (LState.mk [] [(0, Entry.brow l0 57 2 (List.map encT x))] 53 4 [])) := by kernel_rfl
def T119 (l0 : Abs.Loc) (l y : List Attest) (a b : Nat) : Tell :=
  Tell.mk (fun x x_1 => false) (fun x x_1 => Orc.no) (fun x => Tree.done (Exit.exit 0) (E119 l0 y)) (fun x => 0) (fun x => ([8, 3, 2, 1, 0], [0])) (fun x x_1 x_2 => Orc.no)
  fun x x_1 => Tree.done (Exit.exit 0) (E119 l0 y)
theorem t119 (l0 : Abs.Loc) (l y : List Attest) (a b : Nat) : levW prog Proofs.Tryz.f119 l0 57 2 (l.map encT) [i64 a, i64 b, fnV 51] (T119 l0 l y a b) =
  Tree.loop 1
  (LState.mk
  [(8, AVal.imm (IVal.v (Value.int IntKind.i64 (IntKind.wrap IntKind.i64 ((↑a : Int) + (1 : Int)))))), (3, AVal.imm (fnV 51)), (2, AVal.imm (i64 (↑b : Int))), (1, AVal.imm (i64 (↑a : Int))),
  (0, AVal.own 0 (List.length (List.map encT l)))]
  [(0, Entry.brow l0 57 2 (List.map encT l))] 53 4 [])
  (Tree.done (Exit.exit 0) (E119 l0 y)) (Tree.need (eqs []) (Tree.done Exit.ret (lretW l0 57 2 (IVal.tup []) (List.map encT y)))) := by kernel_rfl
theorem l119 (l0 : Abs.Loc) (a b : Nat) (l : List Attest) (hb : b ≤ l.length) (hl : l.length ≤ 2 ^ 61) (ha : a ≤ 2 ^ 61) (σ : LState) (h : LSub σ (I119 l0 a b (a + 1) l)) : LoopOk prog [] (bodyOf Proofs.Tryz.f119) 1 σ (.done (.exit 0) (E119 l0 (ins ltT a b l))) := by
  refine LoopOk.count (b - (a + 1)) 0 (fun n => I119 l0 a b (a + 1 + n) (insR ltT a l n)) (E119 l0 (ins ltT a b l)) (fun n => T119r l0 a b (a + 1 + n) (insR ltT a l n) (insR ltT a l (n + 1))) fin119 (by kernel_rfl) h fun n hn => ?_
  rw [t119r]
  refine ⟨fun h1 => ⟨?_, ?_⟩, fun h1 => ?_⟩
  · have hlt : a + 1 + n < b := by simp at h1; omega
    have hlen := insR_length ltT a l n (by omega)
    exact lJ119 l0 a b (a + 1 + n) (a + 1 + n) _ (by omega) (by omega) _ ⟨⟨rfl, rfl, rfl, rfl, rfl, rfl, trivial⟩, ⟨rfl, trivial⟩, rfl, rfl, rfl⟩
  · have hlt : a + 1 + n < b := by simp at h1; omega
    refine ⟨by omega, ⟨?_, rfl, rfl, rfl, rfl, trivial⟩, ⟨rfl, trivial⟩, rfl, rfl, rfl⟩
    exact congrArg (fun n => AVal.imm (i64 n)) (by rw [IntWalk.i64_in _ (by omega)]; omega)
  · have hge : b ≤ a + 1 + n := by simp at h1; omega
    have : n = b - (a + 1) := by omega
    subst this
    exact ⟨rfl, by omega, ⟨trivial, ⟨rfl, trivial⟩, rfl, rfl, rfl⟩⟩
theorem w119 (l : List Attest) (a b : Nat) (hb : b ≤ l.length) (hl : l.length ≤ 2 ^ 61) (ha : a ≤ 2 ^ 61) : WSpec prog 119 57 2 (l.map encT) [i64 a, i64 b, fnV 51] (.tup []) ((ins ltT a b l).map encT) := by
  refine WSpec.tree Proofs.Tryz.f119 (fun l0 => T119 l0 l (ins ltT a b l) a b) (by kernel_rfl) (by kernel_rfl) (by kernel_rfl) fun l0 => ?_
  rw [t119]
  refine ⟨?_, need_sat ?_ (lretW_ex ?_ ?_)⟩
  · refine l119 l0 a b l hb hl ha _ ⟨⟨congrArg (fun n => AVal.imm (i64 n)) (by rw [IntWalk.i64_in _ (by omega)]; omega), rfl, rfl, rfl, by simp [tl], trivial⟩, ⟨rfl, trivial⟩, rfl, rfl, rfl⟩
  · exact trivial
  · rfl
  · exact .refl _
def ltK (a b : RKey) : Bool := decide (cmpK a b < 0)
def J121 (l0 : Abs.Loc) (a b i j : Nat) (x : List RKey) : LState := { t := [(9, .imm (i64 j)), (8, .imm (i64 i)), (3, .imm (fnV 54)), (2, .imm (i64 b)), (1, .imm (i64 a)), (0, .own 0 x.length)], s := [(0, .brow l0 75 18 (x.map encK))], m := 53, n := 1 }
def I121 (l0 : Abs.Loc) (a b i : Nat) (x : List RKey) : LState := { t := [(8, .imm (i64 i)), (3, .imm (fnV 54)), (2, .imm (i64 b)), (1, .imm (i64 a)), (0, .own 0 x.length)], s := [(0, .brow l0 75 18 (x.map encK))], m := 53, n := 1 }
def finJ121 : Exit → Fin
  | .normal => ⟨[], [9, 8, 3, 2, 1, 0], [0]⟩
  | _ => ⟨[], [8, 3, 2, 1, 0], [0]⟩
def TJ121r (l0 : Abs.Loc) (a b i j : Nat) (x : List RKey) : Tell :=
  Tell.mk (fun x x_1 => false) (fun x x_1 => Orc.no) (fun x => Tree.fail 1000003 0) (fun x => 0) (fun x => ([], []))
  (oget
  [(1, 4, 8, Orc.elem (encK (List.getD x j default))), (1, 4, 13, Orc.elem (encK (List.getD x (Int.toNat (IntKind.wrap IntKind.i64 ((↑j : Int) - (1 : Int)))) default))),
  (1, 4, 14,
  Orc.call [encK (List.getD x j default), encK (List.getD x (Int.toNat (IntKind.wrap IntKind.i64 ((↑j : Int) - (1 : Int)))) default)]
  (i64 (cmpK (List.getD x j default) (List.getD x (Int.toNat (IntKind.wrap IntKind.i64 ((↑j : Int) - (1 : Int)))) default)))),
  (18, 6, 9, Orc.elem (encK (List.getD x (Int.toNat (IntKind.wrap IntKind.i64 ((↑j : Int) - (1 : Int)))) default))), (18, 6, 13, Orc.elem (encK (List.getD x j default))),
  (18, 6, 15, Orc.elem (IVal.tup [])), (18, 6, 17, Orc.elem (IVal.tup []))])
  fun x x_1 => Tree.fail 1000003 0
theorem tJ121r (l0 : Abs.Loc) (a b i j : Nat) (x : List RKey) : levL prog Proofs.Tryz.f121 4 (J121 l0 a b i j x) (TJ121r l0 a b i j x) finJ121 =
  Tree.br (decide ((↑a : Int) < (↑j : Int)))
  (Tree.need ((0 : Int) ≤ (↑j : Int) ∧ j < List.length x)
  (Tree.need ((List.map encK x)[j]? = some (encK (List.getD x j default)))
  (Tree.need ((0 : Int) ≤ IntKind.wrap IntKind.i64 ((↑j : Int) - (1 : Int)) ∧ Int.toNat (IntKind.wrap IntKind.i64 ((↑j : Int) - (1 : Int))) < List.length x)
  (Tree.need ((List.map encK x)[Int.toNat (IntKind.wrap IntKind.i64 ((↑j : Int) - (1 : Int)))]? = some (encK (List.getD x (Int.toNat (IntKind.wrap IntKind.i64 ((↑j : Int) - (1 : Int)))) default)))
  (Tree.need
  (ILeL [encK (List.getD x j default), encK (List.getD x (Int.toNat (IntKind.wrap IntKind.i64 ((↑j : Int) - (1 : Int)))) default)]
  [encK (List.getD x j default), encK (List.getD x (Int.toNat (IntKind.wrap IntKind.i64 ((↑j : Int) - (1 : Int)))) default)] ∧
  ASpec prog 54 [encK (List.getD x j default), encK (List.getD x (Int.toNat (IntKind.wrap IntKind.i64 ((↑j : Int) - (1 : Int)))) default)]
  (i64 (cmpK (List.getD x j default) (List.getD x (Int.toNat (IntKind.wrap IntKind.i64 ((↑j : Int) - (1 : Int)))) default))))
  (Tree.br (decide (cmpK (List.getD x j default) (List.getD x (Int.toNat (IntKind.wrap IntKind.i64 ((↑j : Int) - (1 : Int)))) default) < (0 : Int)))
  (Tree.need ((0 : Int) ≤ IntKind.wrap IntKind.i64 ((↑j : Int) - (1 : Int)) ∧ Int.toNat (IntKind.wrap IntKind.i64 ((↑j : Int) - (1 : Int))) < List.length x)
  (Tree.need ((List.map encK x)[Int.toNat (IntKind.wrap IntKind.i64 ((↑j : Int) - (1 : Int)))]? = some (encK (List.getD x (Int.toNat (IntKind.wrap IntKind.i64 ((↑j : Int) - (1 : Int)))) default)))
  (Tree.need ((0 : Int) ≤ (↑j : Int) ∧ j < List.length x)
  (Tree.need ((List.map encK x)[j]? = some (encK (List.getD x j default)))
  (Tree.need ((0 : Int) ≤ (↑j : Int) ∧ j < List.length x)
  (Tree.need (j < List.length (List.map encK x))
  (Tree.need ((0 : Int) ≤ IntKind.wrap IntKind.i64 ((↑j : Int) - (1 : Int)) ∧ Int.toNat (IntKind.wrap IntKind.i64 ((↑j : Int) - (1 : Int))) < List.length x)
  (Tree.need (Int.toNat (IntKind.wrap IntKind.i64 ((↑j : Int) - (1 : Int))) < List.length (List.set (List.map encK x) j (encK (List.getD x (Int.toNat (IntKind.wrap IntKind.i64 ((↑j : Int) - (1 : Int)))) default))))
  (Tree.done Exit.normal
  (LState.mk
  [(9, AVal.imm (IVal.v (Value.int IntKind.i64 (IntKind.wrap IntKind.i64 ((↑j : Int) - (1 : Int)))))), (8, AVal.imm (i64 (↑i : Int))), (3, AVal.imm (fnV 54)),
  (2, AVal.imm (i64 (↑b : Int))), (1, AVal.imm (i64 (↑a : Int))), (0, AVal.own 0 (List.length x))]
  [(0,
  Entry.brow l0 75 18
  (List.set (List.set (List.map encK x) j (encK (List.getD x (Int.toNat (IntKind.wrap IntKind.i64 ((↑j : Int) - (1 : Int)))) default))) (Int.toNat (IntKind.wrap IntKind.i64 ((↑j : Int) - (1 : Int))))
  (encK (List.getD x j default))))]
  53 39 []))))))))))
  (Tree.done (Exit.exit 2)
  (LState.mk [(8, AVal.imm (i64 (↑i : Int))), (3, AVal.imm (fnV 54)), (2, AVal.imm (i64 (↑b : Int))), (1, AVal.imm (i64 (↑a : Int))), (0, AVal.own 0 (List.length x))]
  [(0, Entry.brow l0 75 18 (List.map encK x))] 53 18 []))))))))
  (Tree.done (Exit.exit 2)
  (LState.mk [(8, AVal.imm (i64 (↑i : Int))), (3, AVal.imm (fnV 54)), (2, AVal.imm (i64 (↑b : Int))), (1, AVal.imm (i64 (↑a : Int))), (0, AVal.own 0 (List.length x))]
  [(0, Entry.brow l0 75 18 (List.map encK x))] 53 18 [])) := by kernel_rfl
theorem lJ121 (l0 : Abs.Loc) (a b i j : Nat) (x : List RKey) (hj : j < x.length) (hl : x.length ≤ 2 ^ 61) (σ : LState) (h : LSub σ (J121 l0 a b i j x)) : LoopOk prog [] (bodyOf Proofs.Tryz.f121) 4 σ (.done (.exit 2) (I121 l0 a b i (insJ ltK a j x))) := by
  refine LoopOk.of_levL (γ := { g : Nat × List RKey // g.1 < g.2.length ∧ g.2.length = x.length ∧ insJ ltK a g.1 g.2 = insJ ltK a j x }) (fun g => TJ121r l0 a b i g.1.1 g.1.2) finJ121 (fun g => J121 l0 a b i g.1.1 g.1.2) (fun g => g.1.1) ⟨(j, x), hj, rfl, rfl⟩ (by kernel_rfl) h ?_
  rintro ⟨⟨j, y⟩, q1, q2, q3⟩
  simp only at q1 q2 q3
  simp only []
  have e1 : 0 < j → IntKind.i64.wrap ((j : Int) - 1) = ((j - 1 : Nat) : Int) := fun h => by rw [IntWalk.i64_in _ (by omega)]; omega
  rw [tJ121r]
  refine ⟨fun h1 => need_sat ?_ (need_sat (elem_need' ?_) (need_sat ?_ (need_sat (elem_need' ?_) (need_sat ⟨ILeL.refl _, c54 _ _⟩ ⟨fun h2 => need_sat ?_ (need_sat (elem_need' ?_) (need_sat ?_ (need_sat (elem_need' ?_) (need_sat ?_ (need_sat ?_ (need_sat ?_ (need_sat ?_ ?_))))))), fun h2 => ?_⟩)))), fun h1 => ?_⟩
  · omega
  · omega
  · rw [e1 (by simp at h1; omega)]; omega
  · rw [e1 (by simp at h1; omega)]; omega
  · rw [e1 (by simp at h1; omega)]; omega
  · rw [e1 (by simp at h1; omega)]; omega
  · omega
  · omega
  · omega
  · simpa using q1
  · rw [e1 (by simp at h1; omega)]; omega
  · rw [e1 (by simp at h1; omega)]; simp; omega
  · have hj : 0 < j := by simp at h1; omega
    have haj : a < j := by simp at h1; omega
    rw [e1 hj, Int.toNat_natCast] at h2 ⊢
    obtain ⟨k, rfl⟩ : ∃ k, j = k + 1 := ⟨j - 1, by omega⟩
    rw [insJ, if_pos ⟨haj, h2⟩] at q3
    refine ⟨⟨(k, swp y (k + 1) k), by simp only [swp_length]; omega, by simp only [swp_length]; omega, q3⟩, by simp only; omega, ?_⟩
    refine ⟨⟨rfl, rfl, rfl, rfl, rfl, congrArg (AVal.own 0) (swp_length _ _ _).symm, trivial⟩, ⟨?_, trivial⟩, rfl, rfl, rfl⟩
    refine congrArg (fun l => some (Entry.brow l0 75 18 l)) ?_
    simp only [swp, List.map_set, Nat.add_sub_cancel]
  · have hj : 0 < j := by simp at h1; omega
    rw [e1 hj, Int.toNat_natCast] at h2
    obtain ⟨k, rfl⟩ : ∃ k, j = k + 1 := ⟨j - 1, by omega⟩
    rw [insJ, if_neg (fun hc => by have hc2 := hc.2; rw [show ltK (y.getD (k + 1) default) (y.getD k default) = false from h2] at hc2; cases hc2)] at q3
    rw [← q3]
    exact ⟨rfl, ⟨rfl, rfl, rfl, rfl, rfl, trivial⟩, ⟨rfl, trivial⟩, rfl, rfl, rfl⟩
  · have q4 : insJ ltK a j y = y := by
      cases j with
      | zero => rfl
      | succ k => rw [insJ, if_neg (fun hc => by have := hc.1; simp at h1; omega)]
    rw [q4] at q3
    rw [← q3]
    exact ⟨rfl, ⟨rfl, rfl, rfl, rfl, rfl, trivial⟩, ⟨rfl, trivial⟩, rfl, rfl, rfl⟩
def E121 (l0 : Abs.Loc) (x : List RKey) : LState := { t := [], s := [(0, .brow l0 75 18 (x.map encK))], m := 53, n := 1 }
def fin121 : Exit → Fin
  | .normal => ⟨[], [8, 3, 2, 1, 0], [0]⟩
  | _ => ⟨[], [], [0]⟩
def T121r (l0 : Abs.Loc) (a b i : Nat) (x y : List RKey) : Tell :=
  Tell.mk (fun x x_1 => false) (fun x x_1 => Orc.no) (fun x => Tree.done (Exit.exit 2) (I121 l0 a b i y)) (fun x => 0) (fun x => ([9, 8, 3, 2, 1, 0], [0]))
  (fun x x_1 x_2 => Orc.no) fun x x_1 => Tree.done (Exit.exit 2) (I121 l0 a b i y)
theorem t121r (l0 : Abs.Loc) (a b i : Nat) (x y : List RKey) : levL prog Proofs.Tryz.f121 1 (I121 l0 a b i x) (T121r l0 a b i x y) fin121 =
  Tree.br (decide ((↑i : Int) < (↑b : Int)))
  (Tree.loop 4
  (LState.mk
  [(9, AVal.imm (i64 (↑i : Int))), (8, AVal.imm (i64 (↑i : Int))), (3, AVal.imm (fnV 54)), (2, AVal.imm (i64 (↑b : Int))), (1, AVal.imm (i64 (↑a : Int))),
  (0, AVal.own 0 (List.length x))]
  [(0, Entry.brow l0 75 18 (List.map encK x))] 53 6 [])
  (Tree.done (Exit.exit 2) (I121 l0 a b i y))
  (Tree.done Exit.normal
  (LState.mk
  [(8, AVal.imm (IVal.v (Value.int IntKind.i64 (IntKind.wrap IntKind.i64 ((↑i : Int) + (1 : Int)))))), (3, AVal.imm (fnV 54)), (2, AVal.imm (i64 (↑b : Int))), (1, AVal.imm (i64 (↑a : Int))),
  (0, AVal.own 0 (List.length y))]
  [(0, Entry.brow l0 75 18 (List.map encK y))] 53 4 [])))
  (Tree.done (Exit.exit 0) (LState.mk [] [(0, Entry.brow l0 75 18 (List.map encK x))] 53 4 [])) := by kernel_rfl
def T121 (l0 : Abs.Loc) (l y : List RKey) (a b : Nat) : Tell :=
  Tell.mk (fun x x_1 => false) (fun x x_1 => Orc.no) (fun x => Tree.done (Exit.exit 0) (E121 l0 y)) (fun x => 0) (fun x => ([8, 3, 2, 1, 0], [0])) (fun x x_1 x_2 => Orc.no)
  fun x x_1 => Tree.done (Exit.exit 0) (E121 l0 y)
theorem t121 (l0 : Abs.Loc) (l y : List RKey) (a b : Nat) : levW prog Proofs.Tryz.f121 l0 75 18 (l.map encK) [i64 a, i64 b, fnV 54] (T121 l0 l y a b) =
  Tree.loop 1
  (LState.mk
  [(8, AVal.imm (IVal.v (Value.int IntKind.i64 (IntKind.wrap IntKind.i64 ((↑a : Int) + (1 : Int)))))), (3, AVal.imm (fnV 54)), (2, AVal.imm (i64 (↑b : Int))), (1, AVal.imm (i64 (↑a : Int))),
  (0, AVal.own 0 (List.length (List.map encK l)))]
  [(0, Entry.brow l0 75 18 (List.map encK l))] 53 4 [])
  (Tree.done (Exit.exit 0) (E121 l0 y)) (Tree.need (eqs []) (Tree.done Exit.ret (lretW l0 75 18 (IVal.tup []) (List.map encK y)))) := by kernel_rfl
theorem l121 (l0 : Abs.Loc) (a b : Nat) (l : List RKey) (hb : b ≤ l.length) (hl : l.length ≤ 2 ^ 61) (ha : a ≤ 2 ^ 61) (σ : LState) (h : LSub σ (I121 l0 a b (a + 1) l)) : LoopOk prog [] (bodyOf Proofs.Tryz.f121) 1 σ (.done (.exit 0) (E121 l0 (ins ltK a b l))) := by
  refine LoopOk.count (b - (a + 1)) 0 (fun n => I121 l0 a b (a + 1 + n) (insR ltK a l n)) (E121 l0 (ins ltK a b l)) (fun n => T121r l0 a b (a + 1 + n) (insR ltK a l n) (insR ltK a l (n + 1))) fin121 (by kernel_rfl) h fun n hn => ?_
  rw [t121r]
  refine ⟨fun h1 => ⟨?_, ?_⟩, fun h1 => ?_⟩
  · have hlt : a + 1 + n < b := by simp at h1; omega
    have hlen := insR_length ltK a l n (by omega)
    exact lJ121 l0 a b (a + 1 + n) (a + 1 + n) _ (by omega) (by omega) _ ⟨⟨rfl, rfl, rfl, rfl, rfl, rfl, trivial⟩, ⟨rfl, trivial⟩, rfl, rfl, rfl⟩
  · have hlt : a + 1 + n < b := by simp at h1; omega
    refine ⟨by omega, ⟨?_, rfl, rfl, rfl, rfl, trivial⟩, ⟨rfl, trivial⟩, rfl, rfl, rfl⟩
    exact congrArg (fun n => AVal.imm (i64 n)) (by rw [IntWalk.i64_in _ (by omega)]; omega)
  · have hge : b ≤ a + 1 + n := by simp at h1; omega
    have : n = b - (a + 1) := by omega
    subst this
    exact ⟨rfl, by omega, ⟨trivial, ⟨rfl, trivial⟩, rfl, rfl, rfl⟩⟩
theorem w121 (l : List RKey) (a b : Nat) (hb : b ≤ l.length) (hl : l.length ≤ 2 ^ 61) (ha : a ≤ 2 ^ 61) : WSpec prog 121 75 18 (l.map encK) [i64 a, i64 b, fnV 54] (.tup []) ((ins ltK a b l).map encK) := by
  refine WSpec.tree Proofs.Tryz.f121 (fun l0 => T121 l0 l (ins ltK a b l) a b) (by kernel_rfl) (by kernel_rfl) (by kernel_rfl) fun l0 => ?_
  rw [t121]
  refine ⟨?_, need_sat ?_ (lretW_ex ?_ ?_)⟩
  · refine l121 l0 a b l hb hl ha _ ⟨⟨congrArg (fun n => AVal.imm (i64 n)) (by rw [IntWalk.i64_in _ (by omega)]; omega), rfl, rfl, rfl, by simp [tl], trivial⟩, ⟨rfl, trivial⟩, rfl, rfl, rfl⟩
  · exact trivial
  · rfl
  · exact .refl _
end Gp
