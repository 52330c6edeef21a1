/- Part 7 of the walk and of the plain law of DiffComposes. -/
import Derived.Test.YtcccdohpepnfjaaGreatW6
set_option maxRecDepth 100000
set_option maxHeartbeats 0
set_option linter.unusedVariables false
set_option linter.unusedSimpArgs false
open Go Go.Abs
namespace Gp
def P65 (S : List Origin) (i : Nat) : Bool := decide (cmpO (S.getD i default) (S.getD (i + 1) default) = 0)
def I65 (S : List Origin) (i : Nat) : LState := { t := [(9, .imm (i64 (i + 1 : Nat))), (8, .own 5 S.length), (2, .imm (fnV 48))], s := [(5, .row 68 6 (S.map encO))], m := 37, n := 6 }
def R65 (S : List Origin) (i : Nat) : LState := { t := [(6, .own 5 S.length), (7, .imm (bo true))], s := [(5, .row 68 6 (S.map encO))], m := 37, n := 6 }
def E65 (S : List Origin) : LState := { t := [(8, .own 5 S.length)], s := [(5, .row 68 6 (S.map encO))], m := 37, n := 6 }
def fin65 : Exit → Fin
  | .normal => ⟨[], [9, 8, 2], [5]⟩
  | .ret => ⟨[], [6, 7], [5]⟩
  | _ => ⟨[], [8], [5]⟩
def L65 (S : List Origin) : Tree := Lfirst (P65 S) (S.length - 1) 0 (R65 S) (E65 S)
def T65r (S : List Origin) (i : Nat) : Tell :=
  Tell.mk (fun x x_1 => false) (fun x x_1 => Orc.no) (fun x => Tree.fail 1000003 0) (fun x => 0) (fun x => ([], []))
  (oget
  [(10, 6, 5, Orc.elem (encO (List.getD S (Int.toNat (IntKind.wrap IntKind.i64 ((↑(i + 1) : Int) - (1 : Int)))) default))),
  (10, 6, 9, Orc.elem (encO (List.getD S (i + 1) default))),
  (10, 6, 10,
  Orc.call [encO (List.getD S (Int.toNat (IntKind.wrap IntKind.i64 ((↑(i + 1) : Int) - (1 : Int)))) default), encO (List.getD S (i + 1) default)]
  (i64 (cmpO (List.getD S (Int.toNat (IntKind.wrap IntKind.i64 ((↑(i + 1) : Int) - (1 : Int)))) default) (List.getD S (i + 1) default))))])
  fun x x_1 => Tree.fail 1000003 0
theorem t65r (S : List Origin) (i : Nat) : levL prog Proofs.Tryz.f65 4 (I65 S i) (T65r S i) fin65 =
  Tree.br (decide ((↑(i + 1) : Int) < (↑(List.length S) : Int)))
  (Tree.need ((0 : Int) ≤ IntKind.wrap IntKind.i64 ((↑(i + 1) : Int) - (1 : Int)) ∧ Int.toNat (IntKind.wrap IntKind.i64 ((↑(i + 1) : Int) - (1 : Int))) < List.length S)
  (Tree.need ((List.map encO S)[Int.toNat (IntKind.wrap IntKind.i64 ((↑(i + 1) : Int) - (1 : Int)))]? = some (encO (List.getD S (Int.toNat (IntKind.wrap IntKind.i64 ((↑(i + 1) : Int) - (1 : Int)))) default)))
  (Tree.need ((0 : Int) ≤ (↑(i + 1) : Int) ∧ i + 1 < List.length S)
  (Tree.need ((List.map encO S)[i + 1]? = some (encO (List.getD S (i + 1) default)))
  (Tree.need
  (ILeL [encO (List.getD S (Int.toNat (IntKind.wrap IntKind.i64 ((↑(i + 1) : Int) - (1 : Int)))) default), encO (List.getD S (i + 1) default)]
  [encO (List.getD S (Int.toNat (IntKind.wrap IntKind.i64 ((↑(i + 1) : Int) - (1 : Int)))) default), encO (List.getD S (i + 1) default)] ∧
  ASpec prog 48 [encO (List.getD S (Int.toNat (IntKind.wrap IntKind.i64 ((↑(i + 1) : Int) - (1 : Int)))) default), encO (List.getD S (i + 1) default)]
  (i64 (cmpO (List.getD S (Int.toNat (IntKind.wrap IntKind.i64 ((↑(i + 1) : Int) - (1 : Int)))) default) (List.getD S (i + 1) default))))
  (Tree.br (decide (cmpO (List.getD S (Int.toNat (IntKind.wrap IntKind.i64 ((↑(i + 1) : Int) - (1 : Int)))) default) (List.getD S (i + 1) default) = (0 : Int)))
  (Tree.done Exit.ret (LState.mk [(6, AVal.own 5 (List.length S)), (7, AVal.imm (IVal.v (Value.bool true)))] [(5, Entry.row 68 6 (List.map encO S))] 37 25 []))
  (Tree.done Exit.normal
  (LState.mk [(9, AVal.imm (IVal.v (Value.int IntKind.i64 (IntKind.wrap IntKind.i64 ((↑(i + 1) : Int) + (1 : Int)))))), (8, AVal.own 5 (List.length S)), (2, AVal.imm (fnV 48))]
  [(5, Entry.row 68 6 (List.map encO S))] 37 25 []))))))))
  (Tree.done (Exit.exit 0) (LState.mk [(8, AVal.own 5 (List.length S))] [(5, Entry.row 68 6 (List.map encO S))] 37 10 [])) := by kernel_rfl
theorem l65 (S : List Origin) (hl : S.length ≤ 2 ^ 60) (σ : LState) (h : LSub σ (I65 S 0)) : LoopOk prog [] (bodyOf Proofs.Tryz.f65) 4 σ (L65 S) := by
  refine LoopOk.first (P65 S) (S.length - 1) 0 (I65 S) (R65 S) (E65 S) (T65r S) fin65 (by kernel_rfl) h fun i hi hz => ?_
  rw [t65r]
  refine ⟨fun h1 => need_sat ?_ (need_sat (elem_need' ?_) (need_sat ?_ (need_sat (elem_need' ?_) (need_sat ⟨ILeL.refl _, c48 _ _⟩ ⟨fun h2 => ?_, fun h2 => ?_⟩)))), fun h1 => ?_⟩
  all_goals have e1 : IntKind.i64.wrap (((i + 1 : Nat) : Int) - 1) = (i : Int) := by rw [IntWalk.i64_in _ (by omega)]; omega
  · have hlt : i + 1 < S.length := by simp at h1; omega
    rw [e1]; omega
  · have hlt : i + 1 < S.length := by simp at h1; omega
    exact ⟨by rw [e1]; omega, rfl⟩
  · have hlt : i + 1 < S.length := by simp at h1; omega
    omega
  · have hlt : i + 1 < S.length := by simp at h1; omega
    exact ⟨hlt, rfl⟩
  · have hlt : i + 1 < S.length := by simp at h1; omega
    rw [e1, Int.toNat_natCast] at h2
    exact ⟨by omega, h2, ⟨⟨rfl, rfl, trivial⟩, ⟨rfl, trivial⟩, rfl, rfl, rfl⟩⟩
  · have hlt : i + 1 < S.length := by simp at h1; omega
    rw [e1, Int.toNat_natCast] at h2
    exact ⟨by omega, h2, ⟨⟨congrArg (fun n => AVal.imm (i64 n)) (i64_succ (by omega)), rfl, rfl, trivial⟩, ⟨rfl, trivial⟩, rfl, rfl, rfl⟩⟩
  · have hlt : S.length ≤ i + 1 := by simp at h1; omega
    exact ⟨rfl, by omega, ⟨⟨rfl, trivial⟩, ⟨rfl, trivial⟩, rfl, rfl, rfl⟩⟩
def T65 (A B : List Origin) : Tell :=
  Tell.mk (fun r i => r == 1 && i == 2) (fun x x_1 => Orc.no) (fun x => L65 (sorted ltO (A ++ B))) (fun x => 0) (fun x => ([9, 8, 2], [5]))
  (oget
  [(2, 1, 3, Orc.callo [IVal.sl false false 1 [slE 6 encO A, slE 6 encO B]] 68 6 (List.map encO (A ++ B))),
  (7, 2, 2, Orc.callw [fnV 48] (IVal.tup []) (List.map encO (sorted ltO (A ++ B))))])
  fun x x_1 => L65 (sorted ltO (A ++ B))
theorem t65 (A B : List Origin) : levF prog Proofs.Tryz.f65 [slE 6 encO A, slE 6 encO B, fnV 48] (T65 A B) =
  Tree.need
  (ILeL [IVal.sl true false 1 [slE 6 encO A, slE 6 encO B]] [IVal.sl false false 1 [slE 6 encO A, slE 6 encO B]] ∧
  OSpec prog 89 [IVal.sl false false 1 [slE 6 encO A, slE 6 encO B]] 68 6 (List.map encO (A ++ B)))
  (Tree.need
  (List.length (List.map encO (A ++ B)) = List.length (List.map encO (A ++ B)) ∧
  ILeL [fnV 48] [fnV 48] ∧ WSpec prog 90 68 6 (List.map encO (A ++ B)) [fnV 48] (IVal.tup []) (List.map encO (sorted ltO (A ++ B))))
  (Tree.loop 4
  (LState.mk [(9, AVal.imm (IVal.v (Value.int IntKind.i64 (1 : Int)))), (8, AVal.own 5 (List.length (List.map encO (A ++ B)))), (2, AVal.imm (fnV 48))]
  [(5, Entry.row 68 6 (List.map encO (sorted ltO (A ++ B))))] 37 11 [])
  (Tree.br (anyI (P65 (sorted ltO (A ++ B))) 0 (List.length (sorted ltO (A ++ B)) - 1))
  (Tree.done Exit.ret (R65 (sorted ltO (A ++ B)) (firstI (P65 (sorted ltO (A ++ B))) 0 (List.length (sorted ltO (A ++ B)) - 1)))) (Tree.done (Exit.exit 0) (E65 (sorted ltO (A ++ B)))))
  (Tree.br (anyI (P65 (sorted ltO (A ++ B))) 0 (List.length (sorted ltO (A ++ B)) - 1))
  (Tree.need (eqs [(List.length (sorted ltO (A ++ B)), List.length (List.map encO (sorted ltO (A ++ B))))]) (Tree.done Exit.ret (lret (IVal.tup [IVal.sl true false 6 (List.map encO (sorted ltO (A ++ B))), bo true]))))
  (Tree.need (eqs [(List.length (sorted ltO (A ++ B)), List.length (List.map encO (sorted ltO (A ++ B))))])
  (Tree.done Exit.ret (lret (IVal.tup [IVal.sl true false 6 (List.map encO (sorted ltO (A ++ B))), IVal.v (Value.bool false)]))))))) := by kernel_rfl
def dupO (S : List Origin) : Bool := anyI (P65 S) 0 (S.length - 1)
theorem c65 (A B : List Origin) (hA : A.length ≤ 400000) (hB : B.length ≤ 400000) : ASpec prog 65 [slE 6 encO A, slE 6 encO B, fnV 48] (.tup [slE 6 encO (sorted ltO (A ++ B)), bo (dupO (sorted ltO (A ++ B)))]) := by
  have hlen : (sorted ltO (A ++ B)).length = A.length + B.length := by rw [sorted_length, List.length_append]
  refine ASpec.treeW Proofs.Tryz.f65 (T65 A B) (by kernel_rfl) (by kernel_rfl) (t65 A B) ?_
  refine need_sat ⟨(by repeat' first | exact ILeL.refl _ | exact ILe.refl _ | exact ILe.nil _ _ _ | exact ILe.sl (fun h => by cases h) (fun h => h) (ILeL.refl _) | apply ILeL.cons | apply ILe.agg | apply ILe.tup), o89 _ _ ?_ ?_⟩ (need_sat ⟨(by simp), ILeL.refl _, w90 _ ?_⟩ ⟨?_, ⟨fun h1 => need_sat ?_ ⟨_, rfl, ?_⟩, fun h1 => need_sat ?_ ⟨_, rfl, ?_⟩⟩⟩)
  · exact hA
  · exact hB
  · rw [List.length_append]; omega
  · exact l65 _ (by omega) _ ⟨⟨rfl, congrArg (AVal.own 5) (by rw [List.length_map, sorted_length]), rfl, trivial⟩, ⟨rfl, trivial⟩, rfl, rfl, rfl⟩
  · exact ⟨by simp, trivial⟩
  · refine .tup (.cons (ile_sl (.refl _)) (.cons ?_ (.refl _)))
    rw [show dupO (sorted ltO (A ++ B)) = true from h1]; exact .refl _
  · exact ⟨by simp, trivial⟩
  · refine .tup (.cons (ile_sl (.refl _)) (.cons ?_ (.refl _)))
    rw [show dupO (sorted ltO (A ++ B)) = false from h1]; exact .refl _
def P66 (S : List Attest) (i : Nat) : Bool := decide (cmpT (S.getD i default) (S.getD (i + 1) default) = 0)
def I66 (S : List Attest) (i : Nat) : LState := { t := [(9, .imm (i64 (i + 1 : Nat))), (8, .own 5 S.length), (2, .imm (fnV 51))], s := [(5, .row 57 2 (S.map encT))], m := 37, n := 6 }
def R66 (S : List Attest) (i : Nat) : LState := { t := [(6, .own 5 S.length), (7, .imm (bo true))], s := [(5, .row 57 2 (S.map encT))], m := 37, n := 6 }
def E66 (S : List Attest) : LState := { t := [(8, .own 5 S.length)], s := [(5, .row 57 2 (S.map encT))], m := 37, n := 6 }
def fin66 : Exit → Fin
  | .normal => ⟨[], [9, 8, 2], [5]⟩
  | .ret => ⟨[], [6, 7], [5]⟩
  | _ => ⟨[], [8], [5]⟩
def L66 (S : List Attest) : Tree := Lfirst (P66 S) (S.length - 1) 0 (R66 S) (E66 S)
def T66r (S : List Attest) (i : Nat) : Tell :=
  Tell.mk (fun x x_1 => false) (fun x x_1 => Orc.no) (fun x => Tree.fail 1000003 0) (fun x => 0) (fun x => ([], []))
  (oget
  [(10, 6, 5, Orc.elem (encT (List.getD S (Int.toNat (IntKind.wrap IntKind.i64 ((↑(i + 1) : Int) - (1 : Int)))) default))),
  (10, 6, 9, Orc.elem (encT (List.getD S (i + 1) default))),
  (10, 6, 10,
  Orc.call [encT (List.getD S (Int.toNat (IntKind.wrap IntKind.i64 ((↑(i + 1) : Int) - (1 : Int)))) default), encT (List.getD S (i + 1) default)]
  (i64 (cmpI (List.getD S (Int.toNat (IntKind.wrap IntKind.i64 ((↑(i + 1) : Int) - (1 : Int)))) default).cust (List.getD S (i + 1) default).cust)))])
  fun x x_1 => Tree.fail 1000003 0
theorem t66r (S : List Attest) (i : Nat) : levL prog Proofs.Tryz.f66 4 (I66 S i) (T66r S i) fin66 =
  Tree.br (decide ((↑(i + 1) : Int) < (↑(List.length S) : Int)))
  (Tree.need ((0 : Int) ≤ IntKind.wrap IntKind.i64 ((↑(i + 1) : Int) - (1 : Int)) ∧ Int.toNat (IntKind.wrap IntKind.i64 ((↑(i + 1) : Int) - (1 : Int))) < List.length S)
  (Tree.need ((List.map encT S)[Int.toNat (IntKind.wrap IntKind.i64 ((↑(i + 1) : Int) - (1 : Int)))]? = some (encT (List.getD S (Int.toNat (IntKind.wrap IntKind.i64 ((↑(i + 1) : Int) - (1 : Int)))) default)))
  (Tree.need ((0 : Int) ≤ (↑(i + 1) : Int) ∧ i + 1 < List.length S)
  (Tree.need ((List.map encT S)[i + 1]? = some (encT (List.getD S (i + 1) default)))
  (Tree.need
  (ILeL [encT (List.getD S (Int.toNat (IntKind.wrap IntKind.i64 ((↑(i + 1) : Int) - (1 : Int)))) default), encT (List.getD S (i + 1) default)]
  [encT (List.getD S (Int.toNat (IntKind.wrap IntKind.i64 ((↑(i + 1) : Int) - (1 : Int)))) default), encT (List.getD S (i + 1) default)] ∧
  ASpec prog 51 [encT (List.getD S (Int.toNat (IntKind.wrap IntKind.i64 ((↑(i + 1) : Int) - (1 : Int)))) default), encT (List.getD S (i + 1) default)]
  (i64 (cmpI (List.getD S (Int.toNat (IntKind.wrap IntKind.i64 ((↑(i + 1) : Int) - (1 : Int)))) default).cust (List.getD S (i + 1) default).cust)))
  (Tree.br (decide (cmpI (List.getD S (Int.toNat (IntKind.wrap IntKind.i64 ((↑(i + 1) : Int) - (1 : Int)))) default).cust (List.getD S (i + 1) default).cust = (0 : Int)))
  (Tree.done Exit.ret (LState.mk [(6, AVal.own 5 (List.length S)), (7, AVal.imm (IVal.v (Value.bool true)))] [(5, Entry.row 57 2 (List.map encT S))] 37 25 []))
  (Tree.done Exit.normal
  (LState.mk [(9, AVal.imm (IVal.v (Value.int IntKind.i64 (IntKind.wrap IntKind.i64 ((↑(i + 1) : Int) + (1 : Int)))))), (8, AVal.own 5 (List.length S)), (2, AVal.imm (fnV 51))]
  [(5, Entry.row 57 2 (List.map encT S))] 37 25 []))))))))
  (Tree.done (Exit.exit 0) (LState.mk [(8, AVal.own 5 (List.length S))] [(5, Entry.row 57 2 (List.map encT S))] 37 10 [])) := by kernel_rfl
theorem l66 (S : List Attest) (hl : S.length ≤ 2 ^ 60) (σ : LState) (h : LSub σ (I66 S 0)) : LoopOk prog [] (bodyOf Proofs.Tryz.f66) 4 σ (L66 S) := by
  refine LoopOk.first (P66 S) (S.length - 1) 0 (I66 S) (R66 S) (E66 S) (T66r S) fin66 (by kernel_rfl) h fun i hi hz => ?_
  rw [t66r]
  refine ⟨fun h1 => need_sat ?_ (need_sat (elem_need' ?_) (need_sat ?_ (need_sat (elem_need' ?_) (need_sat ⟨ILeL.refl _, c51 _ _⟩ ⟨fun h2 => ?_, fun h2 => ?_⟩)))), fun h1 => ?_⟩
  all_goals have e1 : IntKind.i64.wrap (((i + 1 : Nat) : Int) - 1) = (i : Int) := by rw [IntWalk.i64_in _ (by omega)]; omega
  · have hlt : i + 1 < S.length := by simp at h1; omega
    rw [e1]; omega
  · have hlt : i + 1 < S.length := by simp at h1; omega
    exact ⟨by rw [e1]; omega, rfl⟩
  · have hlt : i + 1 < S.length := by simp at h1; omega
    omega
  · have hlt : i + 1 < S.length := by simp at h1; omega
    exact ⟨hlt, rfl⟩
  · have hlt : i + 1 < S.length := by simp at h1; omega
    rw [e1, Int.toNat_natCast] at h2
    exact ⟨by omega, h2, ⟨⟨rfl, rfl, trivial⟩, ⟨rfl, trivial⟩, rfl, rfl, rfl⟩⟩
  · have hlt : i + 1 < S.length := by simp at h1; omega
    rw [e1, Int.toNat_natCast] at h2
    exact ⟨by omega, h2, ⟨⟨congrArg (fun n => AVal.imm (i64 n)) (i64_succ (by omega)), rfl, rfl, trivial⟩, ⟨rfl, trivial⟩, rfl, rfl, rfl⟩⟩
  · have hlt : S.length ≤ i + 1 := by simp at h1; omega
    exact ⟨rfl, by omega, ⟨⟨rfl, trivial⟩, ⟨rfl, trivial⟩, rfl, rfl, rfl⟩⟩
def T66 (A B : List Attest) : Tell :=
  Tell.mk (fun r i => r == 1 && i == 2) (fun x x_1 => Orc.no) (fun x => L66 (sorted ltT (A ++ B))) (fun x => 0) (fun x => ([9, 8, 2], [5]))
  (oget
  [(2, 1, 3, Orc.callo [IVal.sl false false 1 [slE 2 encT A, slE 2 encT B]] 57 2 (List.map encT (A ++ B))),
  (7, 2, 2, Orc.callw [fnV 51] (IVal.tup []) (List.map encT (sorted ltT (A ++ B))))])
  fun x x_1 => L66 (sorted ltT (A ++ B))
theorem t66 (A B : List Attest) : levF prog Proofs.Tryz.f66 [slE 2 encT A, slE 2 encT B, fnV 51] (T66 A B) =
  Tree.need
  (ILeL [IVal.sl true false 1 [slE 2 encT A, slE 2 encT B]] [IVal.sl false false 1 [slE 2 encT A, slE 2 encT B]] ∧
  OSpec prog 91 [IVal.sl false false 1 [slE 2 encT A, slE 2 encT B]] 57 2 (List.map encT (A ++ B)))
  (Tree.need
  (List.length (List.map encT (A ++ B)) = List.length (List.map encT (A ++ B)) ∧
  ILeL [fnV 51] [fnV 51] ∧ WSpec prog 92 57 2 (List.map encT (A ++ B)) [fnV 51] (IVal.tup []) (List.map encT (sorted ltT (A ++ B))))
  (Tree.loop 4
  (LState.mk [(9, AVal.imm (IVal.v (Value.int IntKind.i64 (1 : Int)))), (8, AVal.own 5 (List.length (List.map encT (A ++ B)))), (2, AVal.imm (fnV 51))]
  [(5, Entry.row 57 2 (List.map encT (sorted ltT (A ++ B))))] 37 11 [])
  (Tree.br (anyI (P66 (sorted ltT (A ++ B))) 0 (List.length (sorted ltT (A ++ B)) - 1))
  (Tree.done Exit.ret (R66 (sorted ltT (A ++ B)) (firstI (P66 (sorted ltT (A ++ B))) 0 (List.length (sorted ltT (A ++ B)) - 1)))) (Tree.done (Exit.exit 0) (E66 (sorted ltT (A ++ B)))))
  (Tree.br (anyI (P66 (sorted ltT (A ++ B))) 0 (List.length (sorted ltT (A ++ B)) - 1))
  (Tree.need (eqs [(List.length (sorted ltT (A ++ B)), List.length (List.map encT (sorted ltT (A ++ B))))]) (Tree.done Exit.ret (lret (IVal.tup [IVal.sl true false 2 (List.map encT (sorted ltT (A ++ B))), bo true]))))
  (Tree.need (eqs [(List.length (sorted ltT (A ++ B)), List.length (List.map encT (sorted ltT (A ++ B))))])
  (Tree.done Exit.ret (lret (IVal.tup [IVal.sl true false 2 (List.map encT (sorted ltT (A ++ B))), IVal.v (Value.bool false)]))))))) := by kernel_rfl
def dupT (S : List Attest) : Bool := anyI (P66 S) 0 (S.length - 1)
theorem c66 (A B : List Attest) (hA : A.length ≤ 400000) (hB : B.length ≤ 400000) : ASpec prog 66 [slE 2 encT A, slE 2 encT B, fnV 51] (.tup [slE 2 encT (sorted ltT (A ++ B)), bo (dupT (sorted ltT (A ++ B)))]) := by
  have hlen : (sorted ltT (A ++ B)).length = A.length + B.length := by rw [sorted_length, List.length_append]
  refine ASpec.treeW Proofs.Tryz.f66 (T66 A B) (by kernel_rfl) (by kernel_rfl) (t66 A B) ?_
  refine need_sat ⟨(by repeat' first | exact ILeL.refl _ | exact ILe.refl _ | exact ILe.nil _ _ _ | exact ILe.sl (fun h => by cases h) (fun h => h) (ILeL.refl _) | apply ILeL.cons | apply ILe.agg | apply ILe.tup), o91 _ _ ?_ ?_⟩ (need_sat ⟨(by simp), ILeL.refl _, w92 _ ?_⟩ ⟨?_, ⟨fun h1 => need_sat ?_ ⟨_, rfl, ?_⟩, fun h1 => need_sat ?_ ⟨_, rfl, ?_⟩⟩⟩)
  · exact hA
  · exact hB
  · rw [List.length_append]; omega
  · exact l66 _ (by omega) _ ⟨⟨rfl, congrArg (AVal.own 5) (by rw [List.length_map, sorted_length]), rfl, trivial⟩, ⟨rfl, trivial⟩, rfl, rfl, rfl⟩
  · exact ⟨by simp, trivial⟩
  · refine .tup (.cons (ile_sl (.refl _)) (.cons ?_ (.refl _)))
    rw [show dupT (sorted ltT (A ++ B)) = true from h1]; exact .refl _
  · exact ⟨by simp, trivial⟩
  · refine .tup (.cons (ile_sl (.refl _)) (.cons ?_ (.refl _)))
    rw [show dupT (sorted ltT (A ++ B)) = false from h1]; exact .refl _
def P67 (S : List RKey) (i : Nat) : Bool := decide (cmpK (S.getD i default) (S.getD (i + 1) default) = 0)
def I67 (S : List RKey) (i : Nat) : LState := { t := [(9, .imm (i64 (i + 1 : Nat))), (8, .own 5 S.length), (2, .imm (fnV 54))], s := [(5, .row 75 18 (S.map encK))], m := 37, n := 6 }
def R67 (S : List RKey) (i : Nat) : LState := { t := [(6, .own 5 S.length), (7, .imm (bo true))], s := [(5, .row 75 18 (S.map encK))], m := 37, n := 6 }
def E67 (S : List RKey) : LState := { t := [(8, .own 5 S.length)], s := [(5, .row 75 18 (S.map encK))], m := 37, n := 6 }
def fin67 : Exit → Fin
  | .normal => ⟨[], [9, 8, 2], [5]⟩
  | .ret => ⟨[], [6, 7], [5]⟩
  | _ => ⟨[], [8], [5]⟩
def L67 (S : List RKey) : Tree := Lfirst (P67 S) (S.length - 1) 0 (R67 S) (E67 S)
def T67r (S : List RKey) (i : Nat) : Tell :=
  Tell.mk (fun x x_1 => false) (fun x x_1 => Orc.no) (fun x => Tree.fail 1000003 0) (fun x => 0) (fun x => ([], []))
  (oget
  [(10, 6, 5, Orc.elem (encK (List.getD S (Int.toNat (IntKind.wrap IntKind.i64 ((↑(i + 1) : Int) - (1 : Int)))) default))),
  (10, 6, 9, Orc.elem (encK (List.getD S (i + 1) default))),
  (10, 6, 10,
  Orc.call [encK (List.getD S (Int.toNat (IntKind.wrap IntKind.i64 ((↑(i + 1) : Int) - (1 : Int)))) default), encK (List.getD S (i + 1) default)]
  (i64 (cmpK (List.getD S (Int.toNat (IntKind.wrap IntKind.i64 ((↑(i + 1) : Int) - (1 : Int)))) default) (List.getD S (i + 1) default))))])
  fun x x_1 => Tree.fail 1000003 0
theorem t67r (S : List RKey) (i : Nat) : levL prog Proofs.Tryz.f67 4 (I67 S i) (T67r S i) fin67 =
  Tree.br (decide ((↑(i + 1) : Int) < (↑(List.length S) : Int)))
  (Tree.need ((0 : Int) ≤ IntKind.wrap IntKind.i64 ((↑(i + 1) : Int) - (1 : Int)) ∧ Int.toNat (IntKind.wrap IntKind.i64 ((↑(i + 1) : Int) - (1 : Int))) < List.length S)
  (Tree.need ((List.map encK S)[Int.toNat (IntKind.wrap IntKind.i64 ((↑(i + 1) : Int) - (1 : Int)))]? = some (encK (List.getD S (Int.toNat (IntKind.wrap IntKind.i64 ((↑(i + 1) : Int) - (1 : Int)))) default)))
  (Tree.need ((0 : Int) ≤ (↑(i + 1) : Int) ∧ i + 1 < List.length S)
  (Tree.need ((List.map encK S)[i + 1]? = some (encK (List.getD S (i + 1) default)))
  (Tree.need
  (ILeL [encK (List.getD S (Int.toNat (IntKind.wrap IntKind.i64 ((↑(i + 1) : Int) - (1 : Int)))) default), encK (List.getD S (i + 1) default)]
  [encK (List.getD S (Int.toNat (IntKind.wrap IntKind.i64 ((↑(i + 1) : Int) - (1 : Int)))) default), encK (List.getD S (i + 1) default)] ∧
  ASpec prog 54 [encK (List.getD S (Int.toNat (IntKind.wrap IntKind.i64 ((↑(i + 1) : Int) - (1 : Int)))) default), encK (List.getD S (i + 1) default)]
  (i64 (cmpK (List.getD S (Int.toNat (IntKind.wrap IntKind.i64 ((↑(i + 1) : Int) - (1 : Int)))) default) (List.getD S (i + 1) default))))
  (Tree.br (decide (cmpK (List.getD S (Int.toNat (IntKind.wrap IntKind.i64 ((↑(i + 1) : Int) - (1 : Int)))) default) (List.getD S (i + 1) default) = (0 : Int)))
  (Tree.done Exit.ret (LState.mk [(6, AVal.own 5 (List.length S)), (7, AVal.imm (IVal.v (Value.bool true)))] [(5, Entry.row 75 18 (List.map encK S))] 37 25 []))
  (Tree.done Exit.normal
  (LState.mk [(9, AVal.imm (IVal.v (Value.int IntKind.i64 (IntKind.wrap IntKind.i64 ((↑(i + 1) : Int) + (1 : Int)))))), (8, AVal.own 5 (List.length S)), (2, AVal.imm (fnV 54))]
  [(5, Entry.row 75 18 (List.map encK S))] 37 25 []))))))))
  (Tree.done (Exit.exit 0) (LState.mk [(8, AVal.own 5 (List.length S))] [(5, Entry.row 75 18 (List.map encK S))] 37 10 [])) := by kernel_rfl
theorem l67 (S : List RKey) (hl : S.length ≤ 2 ^ 60) (σ : LState) (h : LSub σ (I67 S 0)) : LoopOk prog [] (bodyOf Proofs.Tryz.f67) 4 σ (L67 S) := by
  refine LoopOk.first (P67 S) (S.length - 1) 0 (I67 S) (R67 S) (E67 S) (T67r S) fin67 (by kernel_rfl) h fun i hi hz => ?_
  rw [t67r]
  refine ⟨fun h1 => need_sat ?_ (need_sat (elem_need' ?_) (need_sat ?_ (need_sat (elem_need' ?_) (need_sat ⟨ILeL.refl _, c54 _ _⟩ ⟨fun h2 => ?_, fun h2 => ?_⟩)))), fun h1 => ?_⟩
  all_goals have e1 : IntKind.i64.wrap (((i + 1 : Nat) : Int) - 1) = (i : Int) := by rw [IntWalk.i64_in _ (by omega)]; omega
  · have hlt : i + 1 < S.length := by simp at h1; omega
    rw [e1]; omega
  · have hlt : i + 1 < S.length := by simp at h1; omega
    exact ⟨by rw [e1]; omega, rfl⟩
  · have hlt : i + 1 < S.length := by simp at h1; omega
    omega
  · have hlt : i + 1 < S.length := by simp at h1; omega
    exact ⟨hlt, rfl⟩
  · have hlt : i + 1 < S.length := by simp at h1; omega
    rw [e1, Int.toNat_natCast] at h2
    exact ⟨by omega, h2, ⟨⟨rfl, rfl, trivial⟩, ⟨rfl, trivial⟩, rfl, rfl, rfl⟩⟩
  · have hlt : i + 1 < S.length := by simp at h1; omega
    rw [e1, Int.toNat_natCast] at h2
    exact ⟨by omega, h2, ⟨⟨congrArg (fun n => AVal.imm (i64 n)) (i64_succ (by omega)), rfl, rfl, trivial⟩, ⟨rfl, trivial⟩, rfl, rfl, rfl⟩⟩
  · have hlt : S.length ≤ i + 1 := by simp at h1; omega
    exact ⟨rfl, by omega, ⟨⟨rfl, trivial⟩, ⟨rfl, trivial⟩, rfl, rfl, rfl⟩⟩
def T67 (A B : List RKey) : Tell :=
  Tell.mk (fun r i => r == 1 && i == 2) (fun x x_1 => Orc.no) (fun x => L67 (sorted ltK (A ++ B))) (fun x => 0) (fun x => ([9, 8, 2], [5]))
  (oget
  [(2, 1, 3, Orc.callo [IVal.sl false false 1 [slE 18 encK A, slE 18 encK B]] 75 18 (List.map encK (A ++ B))),
  (7, 2, 2, Orc.callw [fnV 54] (IVal.tup []) (List.map encK (sorted ltK (A ++ B))))])
  fun x x_1 => L67 (sorted ltK (A ++ B))
theorem t67 (A B : List RKey) : levF prog Proofs.Tryz.f67 [slE 18 encK A, slE 18 encK B, fnV 54] (T67 A B) =
  Tree.need
  (ILeL [IVal.sl true false 1 [slE 18 encK A, slE 18 encK B]] [IVal.sl false false 1 [slE 18 encK A, slE 18 encK B]] ∧
  OSpec prog 93 [IVal.sl false false 1 [slE 18 encK A, slE 18 encK B]] 75 18 (List.map encK (A ++ B)))
  (Tree.need
  (List.length (List.map encK (A ++ B)) = List.length (List.map encK (A ++ B)) ∧
  ILeL [fnV 54] [fnV 54] ∧ WSpec prog 94 75 18 (List.map encK (A ++ B)) [fnV 54] (IVal.tup []) (List.map encK (sorted ltK (A ++ B))))
  (Tree.loop 4
  (LState.mk [(9, AVal.imm (IVal.v (Value.int IntKind.i64 (1 : Int)))), (8, AVal.own 5 (List.length (List.map encK (A ++ B)))), (2, AVal.imm (fnV 54))]
  [(5, Entry.row 75 18 (List.map encK (sorted ltK (A ++ B))))] 37 11 [])
  (Tree.br (anyI (P67 (sorted ltK (A ++ B))) 0 (List.length (sorted ltK (A ++ B)) - 1))
  (Tree.done Exit.ret (R67 (sorted ltK (A ++ B)) (firstI (P67 (sorted ltK (A ++ B))) 0 (List.length (sorted ltK (A ++ B)) - 1)))) (Tree.done (Exit.exit 0) (E67 (sorted ltK (A ++ B)))))
  (Tree.br (anyI (P67 (sorted ltK (A ++ B))) 0 (List.length (sorted ltK (A ++ B)) - 1))
  (Tree.need (eqs [(List.length (sorted ltK (A ++ B)), List.length (List.map encK (sorted ltK (A ++ B))))]) (Tree.done Exit.ret (lret (IVal.tup [IVal.sl true false 18 (List.map encK (sorted ltK (A ++ B))), bo true]))))
  (Tree.need (eqs [(List.length (sorted ltK (A ++ B)), List.length (List.map encK (sorted ltK (A ++ B))))])
  (Tree.done Exit.ret (lret (IVal.tup [IVal.sl true false 18 (List.map encK (sorted ltK (A ++ B))), IVal.v (Value.bool false)]))))))) := by kernel_rfl
def dupK (S : List RKey) : Bool := anyI (P67 S) 0 (S.length - 1)
theorem c67 (A B : List RKey) (hA : A.length ≤ 400000) (hB : B.length ≤ 400000) : ASpec prog 67 [slE 18 encK A, slE 18 encK B, fnV 54] (.tup [slE 18 encK (sorted ltK (A ++ B)), bo (dupK (sorted ltK (A ++ B)))]) := by
  have hlen : (sorted ltK (A ++ B)).length = A.length + B.length := by rw [sorted_length, List.length_append]
  refine ASpec.treeW Proofs.Tryz.f67 (T67 A B) (by kernel_rfl) (by kernel_rfl) (t67 A B) ?_
  refine need_sat ⟨(by repeat' first | exact ILeL.refl _ | exact ILe.refl _ | exact ILe.nil _ _ _ | exact ILe.sl (fun h => by cases h) (fun h => h) (ILeL.refl _) | apply ILeL.cons | apply ILe.agg | apply ILe.tup), o93 _ _ ?_ ?_⟩ (need_sat ⟨(by simp), ILeL.refl _, w94 _ ?_⟩ ⟨?_, ⟨fun h1 => need_sat ?_ ⟨_, rfl, ?_⟩, fun h1 => need_sat ?_ ⟨_, rfl, ?_⟩⟩⟩)
  · exact hA
  · exact hB
  · rw [List.length_append]; omega
  · exact l67 _ (by omega) _ ⟨⟨rfl, congrArg (AVal.own 5) (by rw [List.length_map, sorted_length]), rfl, trivial⟩, ⟨rfl, trivial⟩, rfl, rfl, rfl⟩
  · exact ⟨by simp, trivial⟩
  · refine .tup (.cons (ile_sl (.refl _)) (.cons ?_ (.refl _)))
    rw [show dupK (sorted ltK (A ++ B)) = true from h1]; exact .refl _
  · exact ⟨by simp, trivial⟩
  · refine .tup (.cons (ile_sl (.refl _)) (.cons ?_ (.refl _)))
    rw [show dupK (sorted ltK (A ++ B)) = false from h1]; exact .refl _
end Gp
namespace Gp
def posO (l : List Origin) (x : Origin) : Nat := bs (fun h => ltO (l.getD h default) x) l.length 0 l.length
def foundO (l : List Origin) (x : Origin) : Bool := decide (posO l x < l.length) && decide (cmpO (l.getD (posO l x) default) x = 0)
def I85 (l : List Origin) (x : Origin) (i j : Nat) : LState := { t := [(10, .imm (i64 j)), (9, .imm (i64 i)), (8, .imm (i64 l.length)), (4, .ptr 0 0), (2, .imm (fnV 48)), (0, .imm (slE 6 encO l))], s := [(0, .box 68 (.imm (encO x)))], m := 49, n := 1 }
def E85 (l : List Origin) (x : Origin) (i : Nat) : LState := { t := [(9, .imm (i64 i)), (8, .imm (i64 l.length)), (4, .ptr 0 0), (2, .imm (fnV 48)), (0, .imm (slE 6 encO l))], s := [(0, .box 68 (.imm (encO x)))], m := 49, n := 1 }
def fin85 : Exit → Fin
  | .normal => ⟨[], [10, 9, 8, 4, 2, 0], [0]⟩
  | _ => ⟨[], [9, 8, 4, 2, 0], [0]⟩
def T85r (l : List Origin) (x : Origin) (i j : Nat) : Tell :=
  Tell.mk (fun x x_1 => false) (fun x x_1 => Orc.no) (fun x => Tree.fail 1000003 0) (fun x => 0) (fun x => ([], []))
  (oget
  [(11, 5, 3, Orc.elem (encO (List.getD l (Int.toNat (IntKind.wrap IntKind.i64 (Int.fdiv (IntKind.wrap IntKind.u64 (IntKind.wrap IntKind.i64 ((↑i : Int) + (↑j : Int)))) (2 : Int)))) default))),
  (11, 5, 6,
  Orc.call [encO (List.getD l (Int.toNat (IntKind.wrap IntKind.i64 (Int.fdiv (IntKind.wrap IntKind.u64 (IntKind.wrap IntKind.i64 ((↑i : Int) + (↑j : Int)))) (2 : Int)))) default), encO x]
  (i64 (cmpO (List.getD l (Int.toNat (IntKind.wrap IntKind.i64 (Int.fdiv (IntKind.wrap IntKind.u64 (IntKind.wrap IntKind.i64 ((↑i : Int) + (↑j : Int)))) (2 : Int)))) default) x)))])
  fun x x_1 => Tree.fail 1000003 0
theorem t85r (l : List Origin) (x : Origin) (i j : Nat) : levL prog Proofs.Tryz.f85 3 (I85 l x i j) (T85r l x i j) fin85 =
  Tree.br (decide ((↑i : Int) < (↑j : Int)))
  (Tree.need ((0 : Int) ≤ (1 : Int))
  (Tree.need
  ((0 : Int) ≤ IntKind.wrap IntKind.i64 (Int.fdiv (IntKind.wrap IntKind.u64 (IntKind.wrap IntKind.i64 ((↑i : Int) + (↑j : Int)))) (2 : Int)) ∧
  (List.map encO l)[Int.toNat (IntKind.wrap IntKind.i64 (Int.fdiv (IntKind.wrap IntKind.u64 (IntKind.wrap IntKind.i64 ((↑i : Int) + (↑j : Int)))) (2 : Int)))]? =
  some (encO (List.getD l (Int.toNat (IntKind.wrap IntKind.i64 (Int.fdiv (IntKind.wrap IntKind.u64 (IntKind.wrap IntKind.i64 ((↑i : Int) + (↑j : Int)))) (2 : Int)))) default)))
  (Tree.need
  (ILeL [encO (List.getD l (Int.toNat (IntKind.wrap IntKind.i64 (Int.fdiv (IntKind.wrap IntKind.u64 (IntKind.wrap IntKind.i64 ((↑i : Int) + (↑j : Int)))) (2 : Int)))) default), encO x]
  [encO (List.getD l (Int.toNat (IntKind.wrap IntKind.i64 (Int.fdiv (IntKind.wrap IntKind.u64 (IntKind.wrap IntKind.i64 ((↑i : Int) + (↑j : Int)))) (2 : Int)))) default), encO x] ∧
  ASpec prog 48 [encO (List.getD l (Int.toNat (IntKind.wrap IntKind.i64 (Int.fdiv (IntKind.wrap IntKind.u64 (IntKind.wrap IntKind.i64 ((↑i : Int) + (↑j : Int)))) (2 : Int)))) default), encO x]
  (i64 (cmpO (List.getD l (Int.toNat (IntKind.wrap IntKind.i64 (Int.fdiv (IntKind.wrap IntKind.u64 (IntKind.wrap IntKind.i64 ((↑i : Int) + (↑j : Int)))) (2 : Int)))) default) x)))
  (Tree.br (decide (cmpO (List.getD l (Int.toNat (IntKind.wrap IntKind.i64 (Int.fdiv (IntKind.wrap IntKind.u64 (IntKind.wrap IntKind.i64 ((↑i : Int) + (↑j : Int)))) (2 : Int)))) default) x < (0 : Int)))
  (Tree.done Exit.normal
  (LState.mk
  [(10, AVal.imm (i64 (↑j : Int))),
  (9, AVal.imm (IVal.v (Value.int IntKind.i64 (IntKind.wrap IntKind.i64 (IntKind.wrap IntKind.i64 (Int.fdiv (IntKind.wrap IntKind.u64 (IntKind.wrap IntKind.i64 ((↑i : Int) + (↑j : Int)))) (2 : Int)) + (1 : Int)))))),
  (8, AVal.imm (i64 (↑(List.length l) : Int))), (4, AVal.ptr 0 0), (2, AVal.imm (fnV 48)), (0, AVal.imm (slE 6 encO l))]
  [(0, Entry.box 68 (AVal.imm (encO x)))] 49 22 []))
  (Tree.done Exit.normal
  (LState.mk
  [(10, AVal.imm (IVal.v (Value.int IntKind.i64 (IntKind.wrap IntKind.i64 (Int.fdiv (IntKind.wrap IntKind.u64 (IntKind.wrap IntKind.i64 ((↑i : Int) + (↑j : Int)))) (2 : Int)))))), (9, AVal.imm (i64 (↑i : Int))),
  (8, AVal.imm (i64 (↑(List.length l) : Int))), (4, AVal.ptr 0 0), (2, AVal.imm (fnV 48)), (0, AVal.imm (slE 6 encO l))]
  [(0, Entry.box 68 (AVal.imm (encO x)))] 49 21 []))))))
  (Tree.done (Exit.exit 0)
  (LState.mk [(9, AVal.imm (i64 (↑i : Int))), (8, AVal.imm (i64 (↑(List.length l) : Int))), (4, AVal.ptr 0 0), (2, AVal.imm (fnV 48)), (0, AVal.imm (slE 6 encO l))]
  [(0, Entry.box 68 (AVal.imm (encO x)))] 49 4 [])) := by kernel_rfl
theorem l85 (l : List Origin) (x : Origin) (hl : l.length ≤ 2 ^ 61) (σ : LState) (h : LSub σ (I85 l x 0 l.length)) : LoopOk prog [] (bodyOf Proofs.Tryz.f85) 3 σ (.done (.exit 0) (E85 l x (posO l x))) := by
  refine LoopOk.of_levL (γ := { g : Nat × Nat × Nat // g.1 ≤ g.2.1 ∧ g.2.1 ≤ l.length ∧ g.2.1 - g.1 ≤ g.2.2 ∧ bs (fun h => ltO (l.getD h default) x) g.2.2 g.1 g.2.1 = posO l x })
    (fun g => T85r l x g.1.1 g.1.2.1) fin85 (fun g => I85 l x g.1.1 g.1.2.1) (fun g => g.1.2.1 - g.1.1) ⟨(0, l.length, l.length), by simp, by simp, by simp, rfl⟩ (by kernel_rfl) h ?_
  rintro ⟨⟨i, j, f'⟩, q1, q2, q3, q4⟩
  simp only at q1 q2 q3 q4
  simp only []
  have e1 := i64_half (i := i) (j := j) (by omega)
  rw [t85r]
  simp only [e1, Int.toNat_natCast]
  refine ⟨fun h1 => ?_, fun h1 => ?_⟩
  · have hlt : i < j := by simp at h1; omega
    cases f' with
    | zero => omega
    | succ f' =>
      rw [bs, if_pos hlt] at q4
      refine ⟨by omega, fun _ => ⟨⟨by omega, getD_map _ _ _ _ (by omega)⟩, fun _ => ⟨⟨ILeL.refl _, c48 _ _⟩, fun _ => ⟨fun h2 => ?_, fun h2 => ?_⟩⟩⟩⟩
      · rw [if_pos (show ltO _ _ = true from h2)] at q4
        refine ⟨⟨((i + j) / 2 + 1, j, f'), by simp only; omega, q2, by simp only; omega, q4⟩, by simp only; omega, ⟨rfl, ?_, rfl, rfl, rfl, rfl, trivial⟩, ⟨rfl, trivial⟩, rfl, rfl, rfl⟩
        exact congrArg (fun n => AVal.imm (i64 n)) (i64_succ (by omega))
      · rw [if_neg (fun hc => by rw [show ltO _ _ = false from h2] at hc; cases hc)] at q4
        exact ⟨⟨(i, (i + j) / 2, f'), by simp only; omega, by simp only; omega, by simp only; omega, q4⟩, by simp only; omega, ⟨rfl, rfl, rfl, rfl, rfl, rfl, trivial⟩, ⟨rfl, trivial⟩, rfl, rfl, rfl⟩
  · have hge : ¬ i < j := by simp at h1; omega
    have : bs (fun h => ltO (l.getD h default) x) f' i j = i := by
      cases f' with
      | zero => rfl
      | succ f' => rw [bs, if_neg hge]
    rw [this] at q4
    rw [← q4]
    exact ⟨rfl, ⟨rfl, rfl, rfl, rfl, rfl, trivial⟩, ⟨rfl, trivial⟩, rfl, rfl, rfl⟩
def T85 (l : List Origin) (x : Origin) : Tell :=
  Tell.mk (fun x x_1 => false) (fun x x_1 => Orc.no) (fun x_1 => Tree.done (Exit.exit 0) (E85 l x (posO l x))) (fun x => 0) (fun x => ([10, 9, 8, 4, 2, 0], [0]))
  (oget [(1, 8, 8, Orc.elem (encO (List.getD l (posO l x) default))), (1, 8, 11, Orc.call [encO (List.getD l (posO l x) default), encO x] (i64 (cmpO (List.getD l (posO l x) default) x)))])
  fun x_1 x_2 => Tree.done (Exit.exit 0) (E85 l x (posO l x))
theorem t85 (l : List Origin) (x : Origin) : levF prog Proofs.Tryz.f85 [slE 6 encO l, encO x, fnV 48] (T85 l x) =
  Tree.loop 3
  (LState.mk
  [(10, AVal.imm (IVal.v (Value.int IntKind.i64 (↑(List.length (List.map encO l)) : Int)))), (9, AVal.imm (IVal.v (Value.int IntKind.i64 (0 : Int)))),
  (8, AVal.imm (IVal.v (Value.int IntKind.i64 (↑(List.length (List.map encO l)) : Int)))), (4, AVal.ptr 0 0), (2, AVal.imm (fnV 48)), (0, AVal.imm (slE 6 encO l))]
  [(0, Entry.box 68 (AVal.imm (encO x)))] 49 9 [])
  (Tree.done (Exit.exit 0) (E85 l x (posO l x)))
  (Tree.br (decide ((↑(posO l x) : Int) < (↑(List.length l) : Int)))
  (Tree.need ((0 : Int) ≤ (↑(posO l x) : Int) ∧ (List.map encO l)[posO l x]? = some (encO (List.getD l (posO l x) default)))
  (Tree.need (ILeL [encO (List.getD l (posO l x) default), encO x] [encO (List.getD l (posO l x) default), encO x] ∧ ASpec prog 48 [encO (List.getD l (posO l x) default), encO x] (i64 (cmpO (List.getD l (posO l x) default) x)))
  (Tree.done Exit.ret (lret (IVal.tup [i64 (↑(posO l x) : Int), IVal.v (Value.bool (decide (cmpO (List.getD l (posO l x) default) x = (0 : Int))))])))))
  (Tree.done Exit.ret (lret (IVal.tup [i64 (↑(posO l x) : Int), IVal.v (Value.bool false)])))) := by kernel_rfl
theorem posO_le (l : List Origin) (x : Origin) : posO l x ≤ l.length := (bs_bnd _ _ _ _ (Nat.zero_le _)).2
theorem c85 (l : List Origin) (x : Origin) (hl : l.length ≤ 2 ^ 61) : ASpec prog 85 [slE 6 encO l, encO x, fnV 48] (.tup [i64 (posO l x), bo (foundO l x)]) := by
  refine ASpec.treeW Proofs.Tryz.f85 (T85 l x) (by kernel_rfl) (by kernel_rfl) (t85 l x) ?_
  refine ⟨?_, ⟨fun h1 => need_sat (elem_need ?_) (need_sat ⟨ILeL.refl _, c48 _ _⟩ ⟨_, rfl, ?_⟩), fun h1 => ⟨_, rfl, ?_⟩⟩⟩
  · exact l85 l x hl _ ⟨⟨congrArg (fun n => AVal.imm (i64 n)) (by simp), rfl, congrArg (fun n => AVal.imm (i64 n)) (by simp), rfl, rfl, rfl, trivial⟩, ⟨rfl, trivial⟩, rfl, rfl, rfl⟩
  · have : posO l x < l.length := by simp at h1; omega
    exact ⟨by omega, by omega, rfl⟩
  · have : posO l x < l.length := by simp at h1; omega
    refine .tup (.cons (.refl _) (.cons ?_ (.refl _)))
    rw [foundO, decide_eq_true this]; exact .refl _
  · have : ¬ posO l x < l.length := by simp at h1; omega
    refine .tup (.cons (.refl _) (.cons ?_ (.refl _)))
    rw [foundO, decide_eq_false this]; exact .refl _
def posT (l : List Attest) (x : Attest) : Nat := bs (fun h => ltT (l.getD h default) x) l.length 0 l.length
def foundT (l : List Attest) (x : Attest) : Bool := decide (posT l x < l.length) && decide (cmpT (l.getD (posT l x) default) x = 0)
def I86 (l : List Attest) (x : Attest) (i j : Nat) : LState := { t := [(10, .imm (i64 j)), (9, .imm (i64 i)), (8, .imm (i64 l.length)), (4, .ptr 0 0), (2, .imm (fnV 51)), (0, .imm (slE 2 encT l))], s := [(0, .box 57 (.imm (encT x)))], m := 49, n := 1 }
def E86 (l : List Attest) (x : Attest) (i : Nat) : LState := { t := [(9, .imm (i64 i)), (8, .imm (i64 l.length)), (4, .ptr 0 0), (2, .imm (fnV 51)), (0, .imm (slE 2 encT l))], s := [(0, .box 57 (.imm (encT x)))], m := 49, n := 1 }
def fin86 : Exit → Fin
  | .normal => ⟨[], [10, 9, 8, 4, 2, 0], [0]⟩
  | _ => ⟨[], [9, 8, 4, 2, 0], [0]⟩
def T86r (l : List Attest) (x : Attest) (i j : Nat) : Tell :=
  Tell.mk (fun x x_1 => false) (fun x x_1 => Orc.no) (fun x => Tree.fail 1000003 0) (fun x => 0) (fun x => ([], []))
  (oget
  [(11, 5, 3, Orc.elem (encT (List.getD l (Int.toNat (IntKind.wrap IntKind.i64 (Int.fdiv (IntKind.wrap IntKind.u64 (IntKind.wrap IntKind.i64 ((↑i : Int) + (↑j : Int)))) (2 : Int)))) default))),
  (11, 5, 6,
  Orc.call [encT (List.getD l (Int.toNat (IntKind.wrap IntKind.i64 (Int.fdiv (IntKind.wrap IntKind.u64 (IntKind.wrap IntKind.i64 ((↑i : Int) + (↑j : Int)))) (2 : Int)))) default), encT x]
  (i64 (cmpI (List.getD l (Int.toNat (IntKind.wrap IntKind.i64 (Int.fdiv (IntKind.wrap IntKind.u64 (IntKind.wrap IntKind.i64 ((↑i : Int) + (↑j : Int)))) (2 : Int)))) default).cust x.cust)))])
  fun x x_1 => Tree.fail 1000003 0
theorem t86r (l : List Attest) (x : Attest) (i j : Nat) : levL prog Proofs.Tryz.f86 3 (I86 l x i j) (T86r l x i j) fin86 =
  Tree.br (decide ((↑i : Int) < (↑j : Int)))
  (Tree.need ((0 : Int) ≤ (1 : Int))
  (Tree.need
  ((0 : Int) ≤ IntKind.wrap IntKind.i64 (Int.fdiv (IntKind.wrap IntKind.u64 (IntKind.wrap IntKind.i64 ((↑i : Int) + (↑j : Int)))) (2 : Int)) ∧
  (List.map encT l)[Int.toNat (IntKind.wrap IntKind.i64 (Int.fdiv (IntKind.wrap IntKind.u64 (IntKind.wrap IntKind.i64 ((↑i : Int) + (↑j : Int)))) (2 : Int)))]? =
  some (encT (List.getD l (Int.toNat (IntKind.wrap IntKind.i64 (Int.fdiv (IntKind.wrap IntKind.u64 (IntKind.wrap IntKind.i64 ((↑i : Int) + (↑j : Int)))) (2 : Int)))) default)))
  (Tree.need
  (ILeL [encT (List.getD l (Int.toNat (IntKind.wrap IntKind.i64 (Int.fdiv (IntKind.wrap IntKind.u64 (IntKind.wrap IntKind.i64 ((↑i : Int) + (↑j : Int)))) (2 : Int)))) default), encT x]
  [encT (List.getD l (Int.toNat (IntKind.wrap IntKind.i64 (Int.fdiv (IntKind.wrap IntKind.u64 (IntKind.wrap IntKind.i64 ((↑i : Int) + (↑j : Int)))) (2 : Int)))) default), encT x] ∧
  ASpec prog 51 [encT (List.getD l (Int.toNat (IntKind.wrap IntKind.i64 (Int.fdiv (IntKind.wrap IntKind.u64 (IntKind.wrap IntKind.i64 ((↑i : Int) + (↑j : Int)))) (2 : Int)))) default), encT x]
  (i64 (cmpI (List.getD l (Int.toNat (IntKind.wrap IntKind.i64 (Int.fdiv (IntKind.wrap IntKind.u64 (IntKind.wrap IntKind.i64 ((↑i : Int) + (↑j : Int)))) (2 : Int)))) default).cust x.cust)))
  (Tree.br (decide (cmpI (List.getD l (Int.toNat (IntKind.wrap IntKind.i64 (Int.fdiv (IntKind.wrap IntKind.u64 (IntKind.wrap IntKind.i64 ((↑i : Int) + (↑j : Int)))) (2 : Int)))) default).cust x.cust < (0 : Int)))
  (Tree.done Exit.normal
  (LState.mk
  [(10, AVal.imm (i64 (↑j : Int))),
  (9, AVal.imm (IVal.v (Value.int IntKind.i64 (IntKind.wrap IntKind.i64 (IntKind.wrap IntKind.i64 (Int.fdiv (IntKind.wrap IntKind.u64 (IntKind.wrap IntKind.i64 ((↑i : Int) + (↑j : Int)))) (2 : Int)) + (1 : Int)))))),
  (8, AVal.imm (i64 (↑(List.length l) : Int))), (4, AVal.ptr 0 0), (2, AVal.imm (fnV 51)), (0, AVal.imm (slE 2 encT l))]
  [(0, Entry.box 57 (AVal.imm (encT x)))] 49 22 []))
  (Tree.done Exit.normal
  (LState.mk
  [(10, AVal.imm (IVal.v (Value.int IntKind.i64 (IntKind.wrap IntKind.i64 (Int.fdiv (IntKind.wrap IntKind.u64 (IntKind.wrap IntKind.i64 ((↑i : Int) + (↑j : Int)))) (2 : Int)))))), (9, AVal.imm (i64 (↑i : Int))),
  (8, AVal.imm (i64 (↑(List.length l) : Int))), (4, AVal.ptr 0 0), (2, AVal.imm (fnV 51)), (0, AVal.imm (slE 2 encT l))]
  [(0, Entry.box 57 (AVal.imm (encT x)))] 49 21 []))))))
  (Tree.done (Exit.exit 0)
  (LState.mk [(9, AVal.imm (i64 (↑i : Int))), (8, AVal.imm (i64 (↑(List.length l) : Int))), (4, AVal.ptr 0 0), (2, AVal.imm (fnV 51)), (0, AVal.imm (slE 2 encT l))]
  [(0, Entry.box 57 (AVal.imm (encT x)))] 49 4 [])) := by kernel_rfl
theorem l86 (l : List Attest) (x : Attest) (hl : l.length ≤ 2 ^ 61) (σ : LState) (h : LSub σ (I86 l x 0 l.length)) : LoopOk prog [] (bodyOf Proofs.Tryz.f86) 3 σ (.done (.exit 0) (E86 l x (posT l x))) := by
  refine LoopOk.of_levL (γ := { g : Nat × Nat × Nat // g.1 ≤ g.2.1 ∧ g.2.1 ≤ l.length ∧ g.2.1 - g.1 ≤ g.2.2 ∧ bs (fun h => ltT (l.getD h default) x) g.2.2 g.1 g.2.1 = posT l x })
    (fun g => T86r l x g.1.1 g.1.2.1) fin86 (fun g => I86 l x g.1.1 g.1.2.1) (fun g => g.1.2.1 - g.1.1) ⟨(0, l.length, l.length), by simp, by simp, by simp, rfl⟩ (by kernel_rfl) h ?_
  rintro ⟨⟨i, j, f'⟩, q1, q2, q3, q4⟩
  simp only at q1 q2 q3 q4
  simp only []
  have e1 := i64_half (i := i) (j := j) (by omega)
  rw [t86r]
  simp only [e1, Int.toNat_natCast]
  refine ⟨fun h1 => ?_, fun h1 => ?_⟩
  · have hlt : i < j := by simp at h1; omega
    cases f' with
    | zero => omega
    | succ f' =>
      rw [bs, if_pos hlt] at q4
      refine ⟨by omega, fun _ => ⟨⟨by omega, getD_map _ _ _ _ (by omega)⟩, fun _ => ⟨⟨ILeL.refl _, c51 _ _⟩, fun _ => ⟨fun h2 => ?_, fun h2 => ?_⟩⟩⟩⟩
      · rw [if_pos (show ltT _ _ = true from h2)] at q4
        refine ⟨⟨((i + j) / 2 + 1, j, f'), by simp only; omega, q2, by simp only; omega, q4⟩, by simp only; omega, ⟨rfl, ?_, rfl, rfl, rfl, rfl, trivial⟩, ⟨rfl, trivial⟩, rfl, rfl, rfl⟩
        exact congrArg (fun n => AVal.imm (i64 n)) (i64_succ (by omega))
      · rw [if_neg (fun hc => by rw [show ltT _ _ = false from h2] at hc; cases hc)] at q4
        exact ⟨⟨(i, (i + j) / 2, f'), by simp only; omega, by simp only; omega, by simp only; omega, q4⟩, by simp only; omega, ⟨rfl, rfl, rfl, rfl, rfl, rfl, trivial⟩, ⟨rfl, trivial⟩, rfl, rfl, rfl⟩
  · have hge : ¬ i < j := by simp at h1; omega
    have : bs (fun h => ltT (l.getD h default) x) f' i j = i := by
      cases f' with
      | zero => rfl
      | succ f' => rw [bs, if_neg hge]
    rw [this] at q4
    rw [← q4]
    exact ⟨rfl, ⟨rfl, rfl, rfl, rfl, rfl, trivial⟩, ⟨rfl, trivial⟩, rfl, rfl, rfl⟩
def T86 (l : List Attest) (x : Attest) : Tell :=
  Tell.mk (fun x x_1 => false) (fun x x_1 => Orc.no) (fun x_1 => Tree.done (Exit.exit 0) (E86 l x (posT l x))) (fun x => 0) (fun x => ([10, 9, 8, 4, 2, 0], [0]))
  (oget
  [(1, 8, 8, Orc.elem (encT (List.getD l (posT l x) default))),
  (1, 8, 11, Orc.call [encT (List.getD l (posT l x) default), encT x] (i64 (cmpI (List.getD l (posT l x) default).cust x.cust)))])
  fun x_1 x_2 => Tree.done (Exit.exit 0) (E86 l x (posT l x))
theorem t86 (l : List Attest) (x : Attest) : levF prog Proofs.Tryz.f86 [slE 2 encT l, encT x, fnV 51] (T86 l x) =
  Tree.loop 3
  (LState.mk
  [(10, AVal.imm (IVal.v (Value.int IntKind.i64 (↑(List.length (List.map encT l)) : Int)))), (9, AVal.imm (IVal.v (Value.int IntKind.i64 (0 : Int)))),
  (8, AVal.imm (IVal.v (Value.int IntKind.i64 (↑(List.length (List.map encT l)) : Int)))), (4, AVal.ptr 0 0), (2, AVal.imm (fnV 51)), (0, AVal.imm (slE 2 encT l))]
  [(0, Entry.box 57 (AVal.imm (encT x)))] 49 9 [])
  (Tree.done (Exit.exit 0) (E86 l x (posT l x)))
  (Tree.br (decide ((↑(posT l x) : Int) < (↑(List.length l) : Int)))
  (Tree.need ((0 : Int) ≤ (↑(posT l x) : Int) ∧ (List.map encT l)[posT l x]? = some (encT (List.getD l (posT l x) default)))
  (Tree.need
  (ILeL [encT (List.getD l (posT l x) default), encT x] [encT (List.getD l (posT l x) default), encT x] ∧ ASpec prog 51 [encT (List.getD l (posT l x) default), encT x] (i64 (cmpI (List.getD l (posT l x) default).cust x.cust)))
  (Tree.done Exit.ret (lret (IVal.tup [i64 (↑(posT l x) : Int), IVal.v (Value.bool (decide (cmpI (List.getD l (posT l x) default).cust x.cust = (0 : Int))))])))))
  (Tree.done Exit.ret (lret (IVal.tup [i64 (↑(posT l x) : Int), IVal.v (Value.bool false)])))) := by kernel_rfl
theorem posT_le (l : List Attest) (x : Attest) : posT l x ≤ l.length := (bs_bnd _ _ _ _ (Nat.zero_le _)).2
theorem c86 (l : List Attest) (x : Attest) (hl : l.length ≤ 2 ^ 61) : ASpec prog 86 [slE 2 encT l, encT x, fnV 51] (.tup [i64 (posT l x), bo (foundT l x)]) := by
  refine ASpec.treeW Proofs.Tryz.f86 (T86 l x) (by kernel_rfl) (by kernel_rfl) (t86 l x) ?_
  refine ⟨?_, ⟨fun h1 => need_sat (elem_need ?_) (need_sat ⟨ILeL.refl _, c51 _ _⟩ ⟨_, rfl, ?_⟩), fun h1 => ⟨_, rfl, ?_⟩⟩⟩
  · exact l86 l x hl _ ⟨⟨congrArg (fun n => AVal.imm (i64 n)) (by simp), rfl, congrArg (fun n => AVal.imm (i64 n)) (by simp), rfl, rfl, rfl, trivial⟩, ⟨rfl, trivial⟩, rfl, rfl, rfl⟩
  · have : posT l x < l.length := by simp at h1; omega
    exact ⟨by omega, by omega, rfl⟩
  · have : posT l x < l.length := by simp at h1; omega
    refine .tup (.cons (.refl _) (.cons ?_ (.refl _)))
    rw [foundT, decide_eq_true this]; exact .refl _
  · have : ¬ posT l x < l.length := by simp at h1; omega
    refine .tup (.cons (.refl _) (.cons ?_ (.refl _)))
    rw [foundT, decide_eq_false this]; exact .refl _
def posK (l : List RKey) (x : RKey) : Nat := bs (fun h => ltK (l.getD h default) x) l.length 0 l.length
def foundK (l : List RKey) (x : RKey) : Bool := decide (posK l x < l.length) && decide (cmpK (l.getD (posK l x) default) x = 0)
def I88 (l : List RKey) (x : RKey) (i j : Nat) : LState := { t := [(10, .imm (i64 j)), (9, .imm (i64 i)), (8, .imm (i64 l.length)), (4, .ptr 0 0), (2, .imm (fnV 54)), (0, .imm (slE 18 encK l))], s := [(0, .box 75 (.imm (encK x)))], m := 49, n := 1 }
def E88 (l : List RKey) (x : RKey) (i : Nat) : LState := { t := [(9, .imm (i64 i)), (8, .imm (i64 l.length)), (4, .ptr 0 0), (2, .imm (fnV 54)), (0, .imm (slE 18 encK l))], s := [(0, .box 75 (.imm (encK x)))], m := 49, n := 1 }
def fin88 : Exit → Fin
  | .normal => ⟨[], [10, 9, 8, 4, 2, 0], [0]⟩
  | _ => ⟨[], [9, 8, 4, 2, 0], [0]⟩
def T88r (l : List RKey) (x : RKey) (i j : Nat) : Tell :=
  Tell.mk (fun x x_1 => false) (fun x x_1 => Orc.no) (fun x => Tree.fail 1000003 0) (fun x => 0) (fun x => ([], []))
  (oget
  [(11, 5, 3, Orc.elem (encK (List.getD l (Int.toNat (IntKind.wrap IntKind.i64 (Int.fdiv (IntKind.wrap IntKind.u64 (IntKind.wrap IntKind.i64 ((↑i : Int) + (↑j : Int)))) (2 : Int)))) default))),
  (11, 5, 6,
  Orc.call [encK (List.getD l (Int.toNat (IntKind.wrap IntKind.i64 (Int.fdiv (IntKind.wrap IntKind.u64 (IntKind.wrap IntKind.i64 ((↑i : Int) + (↑j : Int)))) (2 : Int)))) default), encK x]
  (i64 (cmpK (List.getD l (Int.toNat (IntKind.wrap IntKind.i64 (Int.fdiv (IntKind.wrap IntKind.u64 (IntKind.wrap IntKind.i64 ((↑i : Int) + (↑j : Int)))) (2 : Int)))) default) x)))])
  fun x x_1 => Tree.fail 1000003 0
theorem t88r (l : List RKey) (x : RKey) (i j : Nat) : levL prog Proofs.Tryz.f88 3 (I88 l x i j) (T88r l x i j) fin88 =
  Tree.br (decide ((↑i : Int) < (↑j : Int)))
  (Tree.need ((0 : Int) ≤ (1 : Int))
  (Tree.need
  ((0 : Int) ≤ IntKind.wrap IntKind.i64 (Int.fdiv (IntKind.wrap IntKind.u64 (IntKind.wrap IntKind.i64 ((↑i : Int) + (↑j : Int)))) (2 : Int)) ∧
  (List.map encK l)[Int.toNat (IntKind.wrap IntKind.i64 (Int.fdiv (IntKind.wrap IntKind.u64 (IntKind.wrap IntKind.i64 ((↑i : Int) + (↑j : Int)))) (2 : Int)))]? =
  some (encK (List.getD l (Int.toNat (IntKind.wrap IntKind.i64 (Int.fdiv (IntKind.wrap IntKind.u64 (IntKind.wrap IntKind.i64 ((↑i : Int) + (↑j : Int)))) (2 : Int)))) default)))
  (Tree.need
  (ILeL [encK (List.getD l (Int.toNat (IntKind.wrap IntKind.i64 (Int.fdiv (IntKind.wrap IntKind.u64 (IntKind.wrap IntKind.i64 ((↑i : Int) + (↑j : Int)))) (2 : Int)))) default), encK x]
  [encK (List.getD l (Int.toNat (IntKind.wrap IntKind.i64 (Int.fdiv (IntKind.wrap IntKind.u64 (IntKind.wrap IntKind.i64 ((↑i : Int) + (↑j : Int)))) (2 : Int)))) default), encK x] ∧
  ASpec prog 54 [encK (List.getD l (Int.toNat (IntKind.wrap IntKind.i64 (Int.fdiv (IntKind.wrap IntKind.u64 (IntKind.wrap IntKind.i64 ((↑i : Int) + (↑j : Int)))) (2 : Int)))) default), encK x]
  (i64 (cmpK (List.getD l (Int.toNat (IntKind.wrap IntKind.i64 (Int.fdiv (IntKind.wrap IntKind.u64 (IntKind.wrap IntKind.i64 ((↑i : Int) + (↑j : Int)))) (2 : Int)))) default) x)))
  (Tree.br (decide (cmpK (List.getD l (Int.toNat (IntKind.wrap IntKind.i64 (Int.fdiv (IntKind.wrap IntKind.u64 (IntKind.wrap IntKind.i64 ((↑i : Int) + (↑j : Int)))) (2 : Int)))) default) x < (0 : Int)))
  (Tree.done Exit.normal
  (LState.mk
  [(10, AVal.imm (i64 (↑j : Int))),
  (9, AVal.imm (IVal.v (Value.int IntKind.i64 (IntKind.wrap IntKind.i64 (IntKind.wrap IntKind.i64 (Int.fdiv (IntKind.wrap IntKind.u64 (IntKind.wrap IntKind.i64 ((↑i : Int) + (↑j : Int)))) (2 : Int)) + (1 : Int)))))),
  (8, AVal.imm (i64 (↑(List.length l) : Int))), (4, AVal.ptr 0 0), (2, AVal.imm (fnV 54)), (0, AVal.imm (slE 18 encK l))]
  [(0, Entry.box 75 (AVal.imm (encK x)))] 49 22 []))
  (Tree.done Exit.normal
  (LState.mk
  [(10, AVal.imm (IVal.v (Value.int IntKind.i64 (IntKind.wrap IntKind.i64 (Int.fdiv (IntKind.wrap IntKind.u64 (IntKind.wrap IntKind.i64 ((↑i : Int) + (↑j : Int)))) (2 : Int)))))), (9, AVal.imm (i64 (↑i : Int))),
  (8, AVal.imm (i64 (↑(List.length l) : Int))), (4, AVal.ptr 0 0), (2, AVal.imm (fnV 54)), (0, AVal.imm (slE 18 encK l))]
  [(0, Entry.box 75 (AVal.imm (encK x)))] 49 21 []))))))
  (Tree.done (Exit.exit 0)
  (LState.mk [(9, AVal.imm (i64 (↑i : Int))), (8, AVal.imm (i64 (↑(List.length l) : Int))), (4, AVal.ptr 0 0), (2, AVal.imm (fnV 54)), (0, AVal.imm (slE 18 encK l))]
  [(0, Entry.box 75 (AVal.imm (encK x)))] 49 4 [])) := by kernel_rfl
theorem l88 (l : List RKey) (x : RKey) (hl : l.length ≤ 2 ^ 61) (σ : LState) (h : LSub σ (I88 l x 0 l.length)) : LoopOk prog [] (bodyOf Proofs.Tryz.f88) 3 σ (.done (.exit 0) (E88 l x (posK l x))) := by
  refine LoopOk.of_levL (γ := { g : Nat × Nat × Nat // g.1 ≤ g.2.1 ∧ g.2.1 ≤ l.length ∧ g.2.1 - g.1 ≤ g.2.2 ∧ bs (fun h => ltK (l.getD h default) x) g.2.2 g.1 g.2.1 = posK l x })
    (fun g => T88r l x g.1.1 g.1.2.1) fin88 (fun g => I88 l x g.1.1 g.1.2.1) (fun g => g.1.2.1 - g.1.1) ⟨(0, l.length, l.length), by simp, by simp, by simp, rfl⟩ (by kernel_rfl) h ?_
  rintro ⟨⟨i, j, f'⟩, q1, q2, q3, q4⟩
  simp only at q1 q2 q3 q4
  simp only []
  have e1 := i64_half (i := i) (j := j) (by omega)
  rw [t88r]
  simp only [e1, Int.toNat_natCast]
  refine ⟨fun h1 => ?_, fun h1 => ?_⟩
  · have hlt : i < j := by simp at h1; omega
    cases f' with
    | zero => omega
    | succ f' =>
      rw [bs, if_pos hlt] at q4
      refine ⟨by omega, fun _ => ⟨⟨by omega, getD_map _ _ _ _ (by omega)⟩, fun _ => ⟨⟨ILeL.refl _, c54 _ _⟩, fun _ => ⟨fun h2 => ?_, fun h2 => ?_⟩⟩⟩⟩
      · rw [if_pos (show ltK _ _ = true from h2)] at q4
        refine ⟨⟨((i + j) / 2 + 1, j, f'), by simp only; omega, q2, by simp only; omega, q4⟩, by simp only; omega, ⟨rfl, ?_, rfl, rfl, rfl, rfl, trivial⟩, ⟨rfl, trivial⟩, rfl, rfl, rfl⟩
        exact congrArg (fun n => AVal.imm (i64 n)) (i64_succ (by omega))
      · rw [if_neg (fun hc => by rw [show ltK _ _ = false from h2] at hc; cases hc)] at q4
        exact ⟨⟨(i, (i + j) / 2, f'), by simp only; omega, by simp only; omega, by simp only; omega, q4⟩, by simp only; omega, ⟨rfl, rfl, rfl, rfl, rfl, rfl, trivial⟩, ⟨rfl, trivial⟩, rfl, rfl, rfl⟩
  · have hge : ¬ i < j := by simp at h1; omega
    have : bs (fun h => ltK (l.getD h default) x) f' i j = i := by
      cases f' with
      | zero => rfl
      | succ f' => rw [bs, if_neg hge]
    rw [this] at q4
    rw [← q4]
    exact ⟨rfl, ⟨rfl, rfl, rfl, rfl, rfl, trivial⟩, ⟨rfl, trivial⟩, rfl, rfl, rfl⟩
def T88 (l : List RKey) (x : RKey) : Tell :=
  Tell.mk (fun x x_1 => false) (fun x x_1 => Orc.no) (fun x_1 => Tree.done (Exit.exit 0) (E88 l x (posK l x))) (fun x => 0) (fun x => ([10, 9, 8, 4, 2, 0], [0]))
  (oget [(1, 8, 8, Orc.elem (encK (List.getD l (posK l x) default))), (1, 8, 11, Orc.call [encK (List.getD l (posK l x) default), encK x] (i64 (cmpK (List.getD l (posK l x) default) x)))])
  fun x_1 x_2 => Tree.done (Exit.exit 0) (E88 l x (posK l x))
theorem t88 (l : List RKey) (x : RKey) : levF prog Proofs.Tryz.f88 [slE 18 encK l, encK x, fnV 54] (T88 l x) =
  Tree.loop 3
  (LState.mk
  [(10, AVal.imm (IVal.v (Value.int IntKind.i64 (↑(List.length (List.map encK l)) : Int)))), (9, AVal.imm (IVal.v (Value.int IntKind.i64 (0 : Int)))),
  (8, AVal.imm (IVal.v (Value.int IntKind.i64 (↑(List.length (List.map encK l)) : Int)))), (4, AVal.ptr 0 0), (2, AVal.imm (fnV 54)), (0, AVal.imm (slE 18 encK l))]
  [(0, Entry.box 75 (AVal.imm (encK x)))] 49 9 [])
  (Tree.done (Exit.exit 0) (E88 l x (posK l x)))
  (Tree.br (decide ((↑(posK l x) : Int) < (↑(List.length l) : Int)))
  (Tree.need ((0 : Int) ≤ (↑(posK l x) : Int) ∧ (List.map encK l)[posK l x]? = some (encK (List.getD l (posK l x) default)))
  (Tree.need (ILeL [encK (List.getD l (posK l x) default), encK x] [encK (List.getD l (posK l x) default), encK x] ∧ ASpec prog 54 [encK (List.getD l (posK l x) default), encK x] (i64 (cmpK (List.getD l (posK l x) default) x)))
  (Tree.done Exit.ret (lret (IVal.tup [i64 (↑(posK l x) : Int), IVal.v (Value.bool (decide (cmpK (List.getD l (posK l x) default) x = (0 : Int))))])))))
  (Tree.done Exit.ret (lret (IVal.tup [i64 (↑(posK l x) : Int), IVal.v (Value.bool false)])))) := by kernel_rfl
theorem posK_le (l : List RKey) (x : RKey) : posK l x ≤ l.length := (bs_bnd _ _ _ _ (Nat.zero_le _)).2
theorem c88 (l : List RKey) (x : RKey) (hl : l.length ≤ 2 ^ 61) : ASpec prog 88 [slE 18 encK l, encK x, fnV 54] (.tup [i64 (posK l x), bo (foundK l x)]) := by
  refine ASpec.treeW Proofs.Tryz.f88 (T88 l x) (by kernel_rfl) (by kernel_rfl) (t88 l x) ?_
  refine ⟨?_, ⟨fun h1 => need_sat (elem_need ?_) (need_sat ⟨ILeL.refl _, c54 _ _⟩ ⟨_, rfl, ?_⟩), fun h1 => ⟨_, rfl, ?_⟩⟩⟩
  · exact l88 l x hl _ ⟨⟨congrArg (fun n => AVal.imm (i64 n)) (by simp), rfl, congrArg (fun n => AVal.imm (i64 n)) (by simp), rfl, rfl, rfl, trivial⟩, ⟨rfl, trivial⟩, rfl, rfl, rfl⟩
  · have : posK l x < l.length := by simp at h1; omega
    exact ⟨by omega, by omega, rfl⟩
  · have : posK l x < l.length := by simp at h1; omega
    refine .tup (.cons (.refl _) (.cons ?_ (.refl _)))
    rw [foundK, decide_eq_true this]; exact .refl _
  · have : ¬ posK l x < l.length := by simp at h1; omega
    refine .tup (.cons (.refl _) (.cons ?_ (.refl _)))
    rw [foundK, decide_eq_false this]; exact .refl _
end Gp
namespace Gp
def T57 (a b : Origin) : Tell :=
  Tell.mk (fun x x_1 => false) (fun x x_1 => Orc.no) (fun x => Tree.fail 1000003 0) (fun x => 0) (fun x => ([], [])) (fun x x_1 x_2 => Orc.no) fun x x_1 => Tree.fail 1000003 0
theorem t57 (a b : Origin) : levF prog Proofs.Tryz.f57 [encO a, encO b] (T57 a b) =
  Tree.done Exit.ret
  (lret
  (IVal.v
  (Value.bool
  (if BinOp.eql = BinOp.neq then
  !(decide (a.asn = b.asn) && (decide (a.pfx.fam = b.pfx.fam) && (decide (a.pfx.addr.hi = b.pfx.addr.hi) && (decide (a.pfx.addr.lo = b.pfx.addr.lo) && (decide (a.pfx.len = b.pfx.len) && (decide (a.max = b.max) && true))))))
  else decide (a.asn = b.asn) && (decide (a.pfx.fam = b.pfx.fam) && (decide (a.pfx.addr.hi = b.pfx.addr.hi) && (decide (a.pfx.addr.lo = b.pfx.addr.lo) && (decide (a.pfx.len = b.pfx.len) && (decide (a.max = b.max) && true))))))))) := by kernel_rfl
def T61 (a b : RKey) : Tell :=
  Tell.mk (fun x x_1 => false) (fun x x_1 => Orc.no) (fun x => Tree.fail 1000003 0) (fun x => 0) (fun x => ([], [])) (fun x x_1 x_2 => Orc.no) fun x x_1 => Tree.fail 1000003 0
theorem t61 (a b : RKey) : levF prog Proofs.Tryz.f61 [encK a, encK b] (T61 a b) =
  Tree.done Exit.ret
  (lret
  (IVal.v
  (Value.bool
  (if BinOp.eql = BinOp.neq then
  !(decide (a.asn = b.asn) &&
  (decide (a.root[0] = b.root[0]) &&
  (decide (a.root[1] = b.root[1]) &&
  (decide (a.root[2] = b.root[2]) &&
  (decide (a.root[3] = b.root[3]) &&
  (decide (a.root[4] = b.root[4]) &&
  (decide (a.root[5] = b.root[5]) &&
  (decide (a.root[6] = b.root[6]) &&
  (decide (a.root[7] = b.root[7]) &&
  (decide (a.root[8] = b.root[8]) &&
  (decide (a.root[9] = b.root[9]) &&
  (decide (a.root[10] = b.root[10]) &&
  (decide (a.root[11] = b.root[11]) &&
  (decide (a.root[12] = b.root[12]) &&
  (decide (a.root[13] = b.root[13]) &&
  (decide (a.root[14] = b.root[14]) && (decide (a.root[15] = b.root[15]) && (decide (a.height = b.height) && true))))))))))))))))))
  else
  decide (a.asn = b.asn) &&
  (decide (a.root[0] = b.root[0]) &&
  (decide (a.root[1] = b.root[1]) &&
  (decide (a.root[2] = b.root[2]) &&
  (decide (a.root[3] = b.root[3]) &&
  (decide (a.root[4] = b.root[4]) &&
  (decide (a.root[5] = b.root[5]) &&
  (decide (a.root[6] = b.root[6]) &&
  (decide (a.root[7] = b.root[7]) &&
  (decide (a.root[8] = b.root[8]) &&
  (decide (a.root[9] = b.root[9]) &&
  (decide (a.root[10] = b.root[10]) &&
  (decide (a.root[11] = b.root[11]) &&
  (decide (a.root[12] = b.root[12]) &&
  (decide (a.root[13] = b.root[13]) &&
  (decide (a.root[14] = b.root[14]) && (decide (a.root[15] = b.root[15]) && (decide (a.height = b.height) && true))))))))))))))))))))) := by kernel_rfl
theorem c57 (a b : Origin) : ASpec prog 57 [encO a, encO b] (bo (decide (a = b))) := by
  have he : decide (a = b) = !neO a b := by
    rw [Bool.eq_iff_iff, Bool.not_eq_true', neO_iff, decide_eq_true_eq]
  rw [he]
  refine ASpec.treeW Proofs.Tryz.f57 (T57 a b) (by kernel_rfl) (by kernel_rfl) (t57 a b) ⟨_, rfl, ile_bo ?_⟩
  rw [if_neg (by decide), neO, Bool.not_not]
theorem c61 (a b : RKey) : ASpec prog 61 [encK a, encK b] (bo (decide (a = b))) := by
  have he : decide (a = b) = !neK a b := by
    rw [Bool.eq_iff_iff, Bool.not_eq_true', neK_iff, decide_eq_true_eq]
  rw [he]
  refine ASpec.treeW Proofs.Tryz.f61 (T61 a b) (by kernel_rfl) (by kernel_rfl) (t61 a b) ⟨_, rfl, ile_bo ?_⟩
  rw [if_neg (by decide), neK, Bool.not_not]
def missO (b : List Origin) (x : Origin) : Bool := decide (posO b x = b.length) || !decide (b.getD (posO b x) default = x)
def I56 (a b : List Origin) (i : Nat) : LState := { t := [(16, .imm (i64 i)), (15, .imm (i64 a.length)), (14, .imm (slE 6 encO a)), (9, .own 50 ((a.take i).filter (missO b)).length), (3, .imm (fnV 57)), (2, .imm (fnV 48)), (1, .imm (slE 6 encO b))], s := [(50, .row 68 6 (((a.take i).filter (missO b)).map encO))], m := 47, n := 60 }
def E56 (a b : List Origin) : LState := { t := [(9, .own 50 (a.filter (missO b)).length)], s := [(50, .row 68 6 ((a.filter (missO b)).map encO))], m := 47, n := 60 }
def fin56 : Exit → Nat → Fin
  | .normal, 95 => ⟨[(50, 59), (91, 50)], [16, 15, 14, 9, 3, 2, 1], [50]⟩
  | .normal, _ => ⟨[], [16, 15, 14, 9, 3, 2, 1], [50]⟩
  | _, _ => ⟨[], [9], [50]⟩
def T56r (a b : List Origin) (i : Nat) : Tell :=
  Tell.mk (fun x x_1 => false) (fun x x_1 => Orc.no) (fun x => Tree.fail 1000003 0) (fun x => 0) (fun x => ([], []))
  (oget
  [(61, 4, 0, Orc.elem (encO (List.getD a i default))),
  (65, 5, 3, Orc.call [slE 6 encO b, encO (List.getD a i default), fnV 48] (IVal.tup [i64 (↑(posO b (List.getD a i default)) : Int), bo (foundO b (List.getD a i default))])),
  (74, 6, 8, Orc.elem (encO (List.getD b (posO b (List.getD a i default)) default))),
  (74, 6, 11, Orc.call [encO (List.getD b (posO b (List.getD a i default)) default), encO (List.getD a i default)] (bo (decide (List.getD b (posO b (List.getD a i default)) default = List.getD a i default))))])
  fun x x_1 => Tree.fail 1000003 0
theorem t56r (a b : List Origin) (i : Nat) : levLN prog Proofs.Tryz.f56 3 (I56 a b i) (T56r a b i) fin56 =
  Tree.br (decide ((↑i : Int) < (↑(List.length a) : Int)))
  (Tree.need ((0 : Int) ≤ (↑i : Int) ∧ (List.map encO a)[i]? = some (encO (List.getD a i default)))
  (Tree.need
  (ILeL [slE 6 encO b, encO (List.getD a i default), fnV 48] [slE 6 encO b, encO (List.getD a i default), fnV 48] ∧
  ASpec prog 85 [slE 6 encO b, encO (List.getD a i default), fnV 48] (IVal.tup [i64 (↑(posO b (List.getD a i default)) : Int), bo (foundO b (List.getD a i default))]))
  (Tree.br (decide ((↑(posO b (List.getD a i default)) : Int) = (↑(List.length (List.map encO b)) : Int)))
  (Tree.need
  (List.length (List.map encO (List.filter (missO b) (List.take i a))) = List.length (List.filter (missO b) (List.take i a)) ∧
  cellsOk (List.map encO (List.filter (missO b) (List.take i a))) = true ∧ true = true ∧ List.length (List.filter (missO b) (List.take i a)) + 1 ≤ 1000000)
  (Tree.done Exit.normal
  (LState.mk
  [(16, AVal.imm (IVal.v (Value.int IntKind.i64 (IntKind.wrap IntKind.i64 ((↑i : Int) + (1 : Int)))))), (15, AVal.imm (i64 (↑(List.length a) : Int))), (14, AVal.imm (slE 6 encO a)),
  (9, AVal.own 50 (List.length (List.filter (missO b) (List.take i a)) + 1)), (3, AVal.imm (fnV 57)), (2, AVal.imm (fnV 48)),
  (1, AVal.imm (slE 6 encO b))]
  [(50, Entry.row 68 6 (List.map encO (List.filter (missO b) (List.take i a)) ++ [encO (List.getD a i default)]))] 47 95 [])))
  (Tree.need ((0 : Int) ≤ (↑(posO b (List.getD a i default)) : Int) ∧ (List.map encO b)[posO b (List.getD a i default)]? = some (encO (List.getD b (posO b (List.getD a i default)) default)))
  (Tree.need
  (ILeL [encO (List.getD b (posO b (List.getD a i default)) default), encO (List.getD a i default)] [encO (List.getD b (posO b (List.getD a i default)) default), encO (List.getD a i default)] ∧
  ASpec prog 57 [encO (List.getD b (posO b (List.getD a i default)) default), encO (List.getD a i default)] (bo (decide (List.getD b (posO b (List.getD a i default)) default = List.getD a i default))))
  (Tree.br (!decide (List.getD b (posO b (List.getD a i default)) default = List.getD a i default))
  (Tree.need
  (List.length (List.map encO (List.filter (missO b) (List.take i a))) = List.length (List.filter (missO b) (List.take i a)) ∧
  cellsOk (List.map encO (List.filter (missO b) (List.take i a))) = true ∧ true = true ∧ List.length (List.filter (missO b) (List.take i a)) + 1 ≤ 1000000)
  (Tree.done Exit.normal
  (LState.mk
  [(16, AVal.imm (IVal.v (Value.int IntKind.i64 (IntKind.wrap IntKind.i64 ((↑i : Int) + (1 : Int)))))), (15, AVal.imm (i64 (↑(List.length a) : Int))), (14, AVal.imm (slE 6 encO a)),
  (9, AVal.own 50 (List.length (List.filter (missO b) (List.take i a)) + 1)), (3, AVal.imm (fnV 57)), (2, AVal.imm (fnV 48)),
  (1, AVal.imm (slE 6 encO b))]
  [(50, Entry.row 68 6 (List.map encO (List.filter (missO b) (List.take i a)) ++ [encO (List.getD a i default)]))] 47 95 [])))
  (Tree.done Exit.normal
  (LState.mk
  [(16, AVal.imm (IVal.v (Value.int IntKind.i64 (IntKind.wrap IntKind.i64 ((↑i : Int) + (1 : Int)))))), (15, AVal.imm (i64 (↑(List.length a) : Int))), (14, AVal.imm (slE 6 encO a)),
  (9, AVal.own 50 (List.length (List.filter (missO b) (List.take i a)))), (3, AVal.imm (fnV 57)), (2, AVal.imm (fnV 48)), (1, AVal.imm (slE 6 encO b))]
  [(50, Entry.row 68 6 (List.map encO (List.filter (missO b) (List.take i a))))] 47 90 []))))))))
  (Tree.done (Exit.exit 0)
  (LState.mk [(9, AVal.own 50 (List.length (List.filter (missO b) (List.take i a))))] [(50, Entry.row 68 6 (List.map encO (List.filter (missO b) (List.take i a))))] 47 61 [])) := by kernel_rfl
theorem fltO_succ (a b : List Origin) (i : Nat) (h : i < a.length) : (a.take (i + 1)).filter (missO b) = (a.take i).filter (missO b) ++ (if missO b (a.getD i default) = true then [a.getD i default] else []) := by
  rw [List.take_add_one, List.filter_append]
  simp only [List.getD_eq_getElem?_getD, List.getElem?_eq_getElem h, Option.toList_some, Option.getD_some, List.filter_cons, List.filter_nil]
theorem l56 (a b : List Origin) (ha : a.length ≤ 400000) (hb : b.length ≤ 400000) (σ : LState) (h : LSub σ (I56 a b 0)) : LoopOk prog [] (bodyOf Proofs.Tryz.f56) 3 σ (.done (.exit 0) (E56 a b)) := by
  refine LoopOk.countN a.length 0 (I56 a b) (E56 a b) (T56r a b) fin56 (by kernel_rfl) h fun i hi => ?_
  have hlen : ((a.take i).filter (missO b)).length ≤ i := Nat.le_trans (List.length_filter_le _ _) (by simp; omega)
  have hpos := posO_le b (a.getD i default)
  have yes : i < a.length → missO b (a.getD i default) = true → LSub ⟨[(16, .imm (.v (.int .i64 (IntKind.i64.wrap ((i : Int) + 1))))), (15, .imm (i64 a.length)), (14, .imm (slE 6 encO a)), (9, .own 50 (((a.take i).filter (missO b)).length + 1)), (3, .imm (fnV 57)), (2, .imm (fnV 48)), (1, .imm (slE 6 encO b))],
      [(50, .row 68 6 (((a.take i).filter (missO b)).map encO ++ [encO (a.getD i default)]))], 47, 95, []⟩ (I56 a b (i + 1)) := by
    intro hlt hm
    have hs := fltO_succ a b i hlt
    rw [if_pos hm] at hs
    exact ⟨⟨congrArg (fun n => AVal.imm (i64 n)) (i64_succ (by omega)), rfl, rfl, congrArg (AVal.own 50) (by rw [hs, List.length_append]; rfl), rfl, rfl, rfl, trivial⟩, ⟨congrArg (fun l => some (Entry.row 68 6 l)) (by rw [hs, List.map_append]; rfl), trivial⟩, rfl, rfl, rfl⟩
  rw [t56r]
  refine ⟨fun h1 => need_sat (elem_need ?_) (need_sat ⟨ILeL.refl _, c85 _ _ ?_⟩ ⟨fun h2 => need_sat ?_ ?_, fun h2 => need_sat (elem_need ?_) (need_sat ⟨ILeL.refl _, c57 _ _⟩ ⟨fun h3 => need_sat ?_ ?_, fun h3 => ?_⟩)⟩), fun h1 => ?_⟩
  · (refine ⟨by omega, ?_, ?_⟩ <;> (simp only [List.length_map, decide_eq_true_eq, decide_eq_false_iff_not, Int.toNat_natCast] at * <;> omega))
  · omega
  · exact ⟨by simp, cellsOk_map encO (fun _ => rfl) _, rfl, by omega⟩
  · have hlt : i < a.length := by (simp only [List.length_map, decide_eq_true_eq, decide_eq_false_iff_not, Int.toNat_natCast] at * <;> omega)
    have hm : missO b (a.getD i default) = true := by simp only [List.length_map, decide_eq_true_eq, decide_eq_false_iff_not] at h2; rw [missO, decide_eq_true (show posO b (a.getD i default) = b.length by omega)]; rfl
    exact ⟨hlt, yes hlt hm⟩
  · have hp : posO b (a.getD i default) < b.length := by simp only [List.length_map, decide_eq_true_eq, decide_eq_false_iff_not] at h2; omega
    exact ⟨by omega, hp, rfl⟩
  · exact ⟨by simp, cellsOk_map encO (fun _ => rfl) _, rfl, by omega⟩
  · have hlt : i < a.length := by (simp only [List.length_map, decide_eq_true_eq, decide_eq_false_iff_not, Int.toNat_natCast] at * <;> omega)
    exact ⟨hlt, yes hlt (by rw [missO, h3, Bool.or_true])⟩
  · have hlt : i < a.length := by (simp only [List.length_map, decide_eq_true_eq, decide_eq_false_iff_not, Int.toNat_natCast] at * <;> omega)
    have hp : ¬ posO b (a.getD i default) = b.length := by simp only [List.length_map, decide_eq_true_eq, decide_eq_false_iff_not] at h2; omega
    have hs := fltO_succ a b i hlt
    rw [if_neg (by rw [missO, h3, decide_eq_false hp]; decide), List.append_nil] at hs
    exact ⟨hlt, ⟨⟨congrArg (fun n => AVal.imm (i64 n)) (i64_succ (by omega)), rfl, rfl, congrArg (AVal.own 50) (by rw [hs]), rfl, rfl, rfl, trivial⟩, ⟨congrArg (fun l => some (Entry.row 68 6 l)) (by rw [hs]), trivial⟩, rfl, rfl, rfl⟩⟩
  · have : i = a.length := by (simp only [List.length_map, decide_eq_true_eq, decide_eq_false_iff_not, Int.toNat_natCast] at * <;> omega)
    subst this
    refine ⟨rfl, by omega, ⟨⟨congrArg (AVal.own 50) (by rw [List.take_length]), trivial⟩, ⟨congrArg (fun l => some (Entry.row 68 6 l)) (by rw [List.take_length]), trivial⟩, rfl, rfl, rfl⟩⟩
def T56 (a b : List Origin) : Tell :=
  Tell.mk (fun x x_1 => false) (fun x x_1 => Orc.no) (fun x => Tree.done (Exit.exit 0) (E56 a b)) (fun x => 0) (fun x => ([16, 15, 14, 9, 3, 2, 1], []))
  (fun x x_1 x_2 => Orc.no) fun x x_1 => Tree.done (Exit.exit 0) (E56 a b)
theorem t56 (a b : List Origin) : levF prog Proofs.Tryz.f56 [slE 6 encO a, slE 6 encO b, fnV 48, fnV 57] (T56 a b) =
  Tree.loop 3
  (LState.mk
  [(16, AVal.imm (IVal.v (Value.int IntKind.i64 (0 : Int)))), (15, AVal.imm (IVal.v (Value.int IntKind.i64 (↑(List.length (List.map encO a)) : Int)))), (14, AVal.imm (slE 6 encO a)),
  (9, AVal.imm (IVal.v (Value.slice none 0 0))), (3, AVal.imm (fnV 57)), (2, AVal.imm (fnV 48)), (1, AVal.imm (slE 6 encO b))]
  [] 47 5 [])
  (Tree.done (Exit.exit 0) (E56 a b))
  (Tree.need (eqs [(List.length (List.filter (missO b) a), List.length (List.map encO (List.filter (missO b) a)))]) (Tree.done Exit.ret (lret (IVal.sl true false 6 (List.map encO (List.filter (missO b) a)))))) := by kernel_rfl
theorem c56 (a b : List Origin) (ha : a.length ≤ 400000) (hb : b.length ≤ 400000) : ASpec prog 56 [slE 6 encO a, slE 6 encO b, fnV 48, fnV 57] (slE 6 encO (a.filter (missO b))) := by
  refine ASpec.treeW Proofs.Tryz.f56 (T56 a b) (by kernel_rfl) (by kernel_rfl) (t56 a b) ?_
  refine ⟨?_, need_sat ?_ ⟨_, rfl, ?_⟩⟩
  · refine .nam (τ := I56 a b 0) (.temp 9 50 68 6 (show 5 ≤ 50 by decide) (.sub ?_)) (l56 a b ha hb _ ?_)
    all_goals exact ⟨⟨rfl, congrArg (fun n => AVal.imm (i64 n)) (by simp), rfl, rfl, rfl, rfl, rfl, trivial⟩, ⟨rfl, trivial⟩, rfl, rfl, rfl⟩
  · exact ⟨by simp, trivial⟩
  · exact ile_sl (.refl _)
def missT (b : List Attest) (x : Attest) : Bool := decide (posT b x = b.length) || !decide (b.getD (posT b x) default = x)
def I58 (a b : List Attest) (i : Nat) : LState := { t := [(16, .imm (i64 i)), (15, .imm (i64 a.length)), (14, .imm (slE 2 encT a)), (9, .own 50 ((a.take i).filter (missT b)).length), (3, .imm (fnV 59)), (2, .imm (fnV 51)), (1, .imm (slE 2 encT b))], s := [(50, .row 57 2 (((a.take i).filter (missT b)).map encT))], m := 47, n := 60 }
def E58 (a b : List Attest) : LState := { t := [(9, .own 50 (a.filter (missT b)).length)], s := [(50, .row 57 2 ((a.filter (missT b)).map encT))], m := 47, n := 60 }
def fin58 : Exit → Nat → Fin
  | .normal, 95 => ⟨[(50, 59), (91, 50)], [16, 15, 14, 9, 3, 2, 1], [50]⟩
  | .normal, _ => ⟨[], [16, 15, 14, 9, 3, 2, 1], [50]⟩
  | _, _ => ⟨[], [9], [50]⟩
def T58r (a b : List Attest) (i : Nat) : Tell :=
  Tell.mk (fun x x_1 => false) (fun x x_1 => Orc.no) (fun x => Tree.fail 1000003 0) (fun x => 0) (fun x => ([], []))
  (oget
  [(61, 4, 0, Orc.elem (encT (List.getD a i default))),
  (65, 5, 3, Orc.call [slE 2 encT b, encT (List.getD a i default), fnV 51] (IVal.tup [i64 (↑(posT b (List.getD a i default)) : Int), bo (foundT b (List.getD a i default))])),
  (74, 6, 8, Orc.elem (encT (List.getD b (posT b (List.getD a i default)) default))),
  (74, 6, 11, Orc.call [encT (List.getD b (posT b (List.getD a i default)) default), encT (List.getD a i default)] (bo (decide (List.getD b (posT b (List.getD a i default)) default = List.getD a i default))))])
  fun x x_1 => Tree.fail 1000003 0
theorem t58r (a b : List Attest) (i : Nat) : levLN prog Proofs.Tryz.f58 3 (I58 a b i) (T58r a b i) fin58 =
  Tree.br (decide ((↑i : Int) < (↑(List.length a) : Int)))
  (Tree.need ((0 : Int) ≤ (↑i : Int) ∧ (List.map encT a)[i]? = some (encT (List.getD a i default)))
  (Tree.need
  (ILeL [slE 2 encT b, encT (List.getD a i default), fnV 51] [slE 2 encT b, encT (List.getD a i default), fnV 51] ∧
  ASpec prog 86 [slE 2 encT b, encT (List.getD a i default), fnV 51] (IVal.tup [i64 (↑(posT b (List.getD a i default)) : Int), bo (foundT b (List.getD a i default))]))
  (Tree.br (decide ((↑(posT b (List.getD a i default)) : Int) = (↑(List.length (List.map encT b)) : Int)))
  (Tree.need
  (List.length (List.map encT (List.filter (missT b) (List.take i a))) = List.length (List.filter (missT b) (List.take i a)) ∧
  cellsOk (List.map encT (List.filter (missT b) (List.take i a))) = true ∧ true = true ∧ List.length (List.filter (missT b) (List.take i a)) + 1 ≤ 1000000)
  (Tree.done Exit.normal
  (LState.mk
  [(16, AVal.imm (IVal.v (Value.int IntKind.i64 (IntKind.wrap IntKind.i64 ((↑i : Int) + (1 : Int)))))), (15, AVal.imm (i64 (↑(List.length a) : Int))), (14, AVal.imm (slE 2 encT a)),
  (9, AVal.own 50 (List.length (List.filter (missT b) (List.take i a)) + 1)), (3, AVal.imm (fnV 59)), (2, AVal.imm (fnV 51)),
  (1, AVal.imm (slE 2 encT b))]
  [(50, Entry.row 57 2 (List.map encT (List.filter (missT b) (List.take i a)) ++ [encT (List.getD a i default)]))] 47 95 [])))
  (Tree.need ((0 : Int) ≤ (↑(posT b (List.getD a i default)) : Int) ∧ (List.map encT b)[posT b (List.getD a i default)]? = some (encT (List.getD b (posT b (List.getD a i default)) default)))
  (Tree.need
  (ILeL [encT (List.getD b (posT b (List.getD a i default)) default), encT (List.getD a i default)] [encT (List.getD b (posT b (List.getD a i default)) default), encT (List.getD a i default)] ∧
  ASpec prog 59 [encT (List.getD b (posT b (List.getD a i default)) default), encT (List.getD a i default)] (bo (decide (List.getD b (posT b (List.getD a i default)) default = List.getD a i default))))
  (Tree.br (!decide (List.getD b (posT b (List.getD a i default)) default = List.getD a i default))
  (Tree.need
  (List.length (List.map encT (List.filter (missT b) (List.take i a))) = List.length (List.filter (missT b) (List.take i a)) ∧
  cellsOk (List.map encT (List.filter (missT b) (List.take i a))) = true ∧ true = true ∧ List.length (List.filter (missT b) (List.take i a)) + 1 ≤ 1000000)
  (Tree.done Exit.normal
  (LState.mk
  [(16, AVal.imm (IVal.v (Value.int IntKind.i64 (IntKind.wrap IntKind.i64 ((↑i : Int) + (1 : Int)))))), (15, AVal.imm (i64 (↑(List.length a) : Int))), (14, AVal.imm (slE 2 encT a)),
  (9, AVal.own 50 (List.length (List.filter (missT b) (List.take i a)) + 1)), (3, AVal.imm (fnV 59)), (2, AVal.imm (fnV 51)),
  (1, AVal.imm (slE 2 encT b))]
  [(50, Entry.row 57 2 (List.map encT (List.filter (missT b) (List.take i a)) ++ [encT (List.getD a i default)]))] 47 95 [])))
  (Tree.done Exit.normal
  (LState.mk
  [(16, AVal.imm (IVal.v (Value.int IntKind.i64 (IntKind.wrap IntKind.i64 ((↑i : Int) + (1 : Int)))))), (15, AVal.imm (i64 (↑(List.length a) : Int))), (14, AVal.imm (slE 2 encT a)),
  (9, AVal.own 50 (List.length (List.filter (missT b) (List.take i a)))), (3, AVal.imm (fnV 59)), (2, AVal.imm (fnV 51)), (1, AVal.imm (slE 2 encT b))]
  [(50, Entry.row 57 2 (List.map encT (List.filter (missT b) (List.take i a))))] 47 90 []))))))))
  (Tree.done (Exit.exit 0)
  (LState.mk [(9, AVal.own 50 (List.length (List.filter (missT b) (List.take i a))))] [(50, Entry.row 57 2 (List.map encT (List.filter (missT b) (List.take i a))))] 47 61 [])) := by kernel_rfl
theorem fltT_succ (a b : List Attest) (i : Nat) (h : i < a.length) : (a.take (i + 1)).filter (missT b) = (a.take i).filter (missT b) ++ (if missT b (a.getD i default) = true then [a.getD i default] else []) := by
  rw [List.take_add_one, List.filter_append]
  simp only [List.getD_eq_getElem?_getD, List.getElem?_eq_getElem h, Option.toList_some, Option.getD_some, List.filter_cons, List.filter_nil]
theorem l58 (a b : List Attest) (ha : a.length ≤ 400000) (hb : b.length ≤ 400000) (hT : ∀ x ∈ b, okT x) (σ : LState) (h : LSub σ (I58 a b 0)) : LoopOk prog [] (bodyOf Proofs.Tryz.f58) 3 σ (.done (.exit 0) (E58 a b)) := by
  refine LoopOk.countN a.length 0 (I58 a b) (E58 a b) (T58r a b) fin58 (by kernel_rfl) h fun i hi => ?_
  have hlen : ((a.take i).filter (missT b)).length ≤ i := Nat.le_trans (List.length_filter_le _ _) (by simp; omega)
  have hpos := posT_le b (a.getD i default)
  have yes : i < a.length → missT b (a.getD i default) = true → LSub ⟨[(16, .imm (.v (.int .i64 (IntKind.i64.wrap ((i : Int) + 1))))), (15, .imm (i64 a.length)), (14, .imm (slE 2 encT a)), (9, .own 50 (((a.take i).filter (missT b)).length + 1)), (3, .imm (fnV 59)), (2, .imm (fnV 51)), (1, .imm (slE 2 encT b))],
      [(50, .row 57 2 (((a.take i).filter (missT b)).map encT ++ [encT (a.getD i default)]))], 47, 95, []⟩ (I58 a b (i + 1)) := by
    intro hlt hm
    have hs := fltT_succ a b i hlt
    rw [if_pos hm] at hs
    exact ⟨⟨congrArg (fun n => AVal.imm (i64 n)) (i64_succ (by omega)), rfl, rfl, congrArg (AVal.own 50) (by rw [hs, List.length_append]; rfl), rfl, rfl, rfl, trivial⟩, ⟨congrArg (fun l => some (Entry.row 57 2 l)) (by rw [hs, List.map_append]; rfl), trivial⟩, rfl, rfl, rfl⟩
  rw [t58r]
  refine ⟨fun h1 => need_sat (elem_need ?_) (need_sat ⟨ILeL.refl _, c86 _ _ ?_⟩ ⟨fun h2 => need_sat ?_ ?_, fun h2 => need_sat (elem_need ?_) (need_sat ⟨ILeL.refl _, c59 _ _ ?_⟩ ⟨fun h3 => need_sat ?_ ?_, fun h3 => ?_⟩)⟩), fun h1 => ?_⟩
  · (refine ⟨by omega, ?_, ?_⟩ <;> (simp only [List.length_map, decide_eq_true_eq, decide_eq_false_iff_not, Int.toNat_natCast] at * <;> omega))
  · omega
  · exact ⟨by simp, cellsOk_map encT (fun _ => rfl) _, rfl, by omega⟩
  · have hlt : i < a.length := by (simp only [List.length_map, decide_eq_true_eq, decide_eq_false_iff_not, Int.toNat_natCast] at * <;> omega)
    have hm : missT b (a.getD i default) = true := by simp only [List.length_map, decide_eq_true_eq, decide_eq_false_iff_not] at h2; rw [missT, decide_eq_true (show posT b (a.getD i default) = b.length by omega)]; rfl
    exact ⟨hlt, yes hlt hm⟩
  · have hp : posT b (a.getD i default) < b.length := by simp only [List.length_map, decide_eq_true_eq, decide_eq_false_iff_not] at h2; omega
    exact ⟨by omega, hp, rfl⟩
  · have hp : posT b (a.getD i default) < b.length := by simp only [List.length_map, decide_eq_true_eq, decide_eq_false_iff_not] at h2; omega
    have := hT _ (getD_mem b _ hp); unfold okT at this; omega
  · exact ⟨by simp, cellsOk_map encT (fun _ => rfl) _, rfl, by omega⟩
  · have hlt : i < a.length := by (simp only [List.length_map, decide_eq_true_eq, decide_eq_false_iff_not, Int.toNat_natCast] at * <;> omega)
    exact ⟨hlt, yes hlt (by rw [missT, h3, Bool.or_true])⟩
  · have hlt : i < a.length := by (simp only [List.length_map, decide_eq_true_eq, decide_eq_false_iff_not, Int.toNat_natCast] at * <;> omega)
    have hp : ¬ posT b (a.getD i default) = b.length := by simp only [List.length_map, decide_eq_true_eq, decide_eq_false_iff_not] at h2; omega
    have hs := fltT_succ a b i hlt
    rw [if_neg (by rw [missT, h3, decide_eq_false hp]; decide), List.append_nil] at hs
    exact ⟨hlt, ⟨⟨congrArg (fun n => AVal.imm (i64 n)) (i64_succ (by omega)), rfl, rfl, congrArg (AVal.own 50) (by rw [hs]), rfl, rfl, rfl, trivial⟩, ⟨congrArg (fun l => some (Entry.row 57 2 l)) (by rw [hs]), trivial⟩, rfl, rfl, rfl⟩⟩
  · have : i = a.length := by (simp only [List.length_map, decide_eq_true_eq, decide_eq_false_iff_not, Int.toNat_natCast] at * <;> omega)
    subst this
    refine ⟨rfl, by omega, ⟨⟨congrArg (AVal.own 50) (by rw [List.take_length]), trivial⟩, ⟨congrArg (fun l => some (Entry.row 57 2 l)) (by rw [List.take_length]), trivial⟩, rfl, rfl, rfl⟩⟩
def T58 (a b : List Attest) : Tell :=
  Tell.mk (fun x x_1 => false) (fun x x_1 => Orc.no) (fun x => Tree.done (Exit.exit 0) (E58 a b)) (fun x => 0) (fun x => ([16, 15, 14, 9, 3, 2, 1], []))
  (fun x x_1 x_2 => Orc.no) fun x x_1 => Tree.done (Exit.exit 0) (E58 a b)
theorem t58 (a b : List Attest) : levF prog Proofs.Tryz.f58 [slE 2 encT a, slE 2 encT b, fnV 51, fnV 59] (T58 a b) =
  Tree.loop 3
  (LState.mk
  [(16, AVal.imm (IVal.v (Value.int IntKind.i64 (0 : Int)))), (15, AVal.imm (IVal.v (Value.int IntKind.i64 (↑(List.length (List.map encT a)) : Int)))), (14, AVal.imm (slE 2 encT a)),
  (9, AVal.imm (IVal.v (Value.slice none 0 0))), (3, AVal.imm (fnV 59)), (2, AVal.imm (fnV 51)), (1, AVal.imm (slE 2 encT b))]
  [] 47 5 [])
  (Tree.done (Exit.exit 0) (E58 a b))
  (Tree.need (eqs [(List.length (List.filter (missT b) a), List.length (List.map encT (List.filter (missT b) a)))]) (Tree.done Exit.ret (lret (IVal.sl true false 2 (List.map encT (List.filter (missT b) a)))))) := by kernel_rfl
theorem c58 (a b : List Attest) (ha : a.length ≤ 400000) (hb : b.length ≤ 400000) (hT : ∀ x ∈ b, okT x) : ASpec prog 58 [slE 2 encT a, slE 2 encT b, fnV 51, fnV 59] (slE 2 encT (a.filter (missT b))) := by
  refine ASpec.treeW Proofs.Tryz.f58 (T58 a b) (by kernel_rfl) (by kernel_rfl) (t58 a b) ?_
  refine ⟨?_, need_sat ?_ ⟨_, rfl, ?_⟩⟩
  · refine .nam (τ := I58 a b 0) (.temp 9 50 57 2 (show 5 ≤ 50 by decide) (.sub ?_)) (l58 a b ha hb hT _ ?_)
    all_goals exact ⟨⟨rfl, congrArg (fun n => AVal.imm (i64 n)) (by simp), rfl, rfl, rfl, rfl, rfl, trivial⟩, ⟨rfl, trivial⟩, rfl, rfl, rfl⟩
  · exact ⟨by simp, trivial⟩
  · exact ile_sl (.refl _)
def missK (b : List RKey) (x : RKey) : Bool := decide (posK b x = b.length) || !decide (b.getD (posK b x) default = x)
def I60 (a b : List RKey) (i : Nat) : LState := { t := [(16, .imm (i64 i)), (15, .imm (i64 a.length)), (14, .imm (slE 18 encK a)), (9, .own 50 ((a.take i).filter (missK b)).length), (3, .imm (fnV 61)), (2, .imm (fnV 54)), (1, .imm (slE 18 encK b))], s := [(50, .row 75 18 (((a.take i).filter (missK b)).map encK))], m := 47, n := 60 }
def E60 (a b : List RKey) : LState := { t := [(9, .own 50 (a.filter (missK b)).length)], s := [(50, .row 75 18 ((a.filter (missK b)).map encK))], m := 47, n := 60 }
def fin60 : Exit → Nat → Fin
  | .normal, 95 => ⟨[(50, 59), (91, 50)], [16, 15, 14, 9, 3, 2, 1], [50]⟩
  | .normal, _ => ⟨[], [16, 15, 14, 9, 3, 2, 1], [50]⟩
  | _, _ => ⟨[], [9], [50]⟩
def T60r (a b : List RKey) (i : Nat) : Tell :=
  Tell.mk (fun x x_1 => false) (fun x x_1 => Orc.no) (fun x => Tree.fail 1000003 0) (fun x => 0) (fun x => ([], []))
  (oget
  [(61, 4, 0, Orc.elem (encK (List.getD a i default))),
  (65, 5, 3, Orc.call [slE 18 encK b, encK (List.getD a i default), fnV 54] (IVal.tup [i64 (↑(posK b (List.getD a i default)) : Int), bo (foundK b (List.getD a i default))])),
  (74, 6, 8, Orc.elem (encK (List.getD b (posK b (List.getD a i default)) default))),
  (74, 6, 11, Orc.call [encK (List.getD b (posK b (List.getD a i default)) default), encK (List.getD a i default)] (bo (decide (List.getD b (posK b (List.getD a i default)) default = List.getD a i default))))])
  fun x x_1 => Tree.fail 1000003 0
theorem t60r (a b : List RKey) (i : Nat) : levLN prog Proofs.Tryz.f60 3 (I60 a b i) (T60r a b i) fin60 =
  Tree.br (decide ((↑i : Int) < (↑(List.length a) : Int)))
  (Tree.need ((0 : Int) ≤ (↑i : Int) ∧ (List.map encK a)[i]? = some (encK (List.getD a i default)))
  (Tree.need
  (ILeL [slE 18 encK b, encK (List.getD a i default), fnV 54] [slE 18 encK b, encK (List.getD a i default), fnV 54] ∧
  ASpec prog 88 [slE 18 encK b, encK (List.getD a i default), fnV 54] (IVal.tup [i64 (↑(posK b (List.getD a i default)) : Int), bo (foundK b (List.getD a i default))]))
  (Tree.br (decide ((↑(posK b (List.getD a i default)) : Int) = (↑(List.length (List.map encK b)) : Int)))
  (Tree.need
  (List.length (List.map encK (List.filter (missK b) (List.take i a))) = List.length (List.filter (missK b) (List.take i a)) ∧
  cellsOk (List.map encK (List.filter (missK b) (List.take i a))) = true ∧ true = true ∧ List.length (List.filter (missK b) (List.take i a)) + 1 ≤ 1000000)
  (Tree.done Exit.normal
  (LState.mk
  [(16, AVal.imm (IVal.v (Value.int IntKind.i64 (IntKind.wrap IntKind.i64 ((↑i : Int) + (1 : Int)))))), (15, AVal.imm (i64 (↑(List.length a) : Int))), (14, AVal.imm (slE 18 encK a)),
  (9, AVal.own 50 (List.length (List.filter (missK b) (List.take i a)) + 1)), (3, AVal.imm (fnV 61)), (2, AVal.imm (fnV 54)),
  (1, AVal.imm (slE 18 encK b))]
  [(50, Entry.row 75 18 (List.map encK (List.filter (missK b) (List.take i a)) ++ [encK (List.getD a i default)]))] 47 95 [])))
  (Tree.need ((0 : Int) ≤ (↑(posK b (List.getD a i default)) : Int) ∧ (List.map encK b)[posK b (List.getD a i default)]? = some (encK (List.getD b (posK b (List.getD a i default)) default)))
  (Tree.need
  (ILeL [encK (List.getD b (posK b (List.getD a i default)) default), encK (List.getD a i default)] [encK (List.getD b (posK b (List.getD a i default)) default), encK (List.getD a i default)] ∧
  ASpec prog 61 [encK (List.getD b (posK b (List.getD a i default)) default), encK (List.getD a i default)] (bo (decide (List.getD b (posK b (List.getD a i default)) default = List.getD a i default))))
  (Tree.br (!decide (List.getD b (posK b (List.getD a i default)) default = List.getD a i default))
  (Tree.need
  (List.length (List.map encK (List.filter (missK b) (List.take i a))) = List.length (List.filter (missK b) (List.take i a)) ∧
  cellsOk (List.map encK (List.filter (missK b) (List.take i a))) = true ∧ true = true ∧ List.length (List.filter (missK b) (List.take i a)) + 1 ≤ 1000000)
  (Tree.done Exit.normal
  (LState.mk
  [(16, AVal.imm (IVal.v (Value.int IntKind.i64 (IntKind.wrap IntKind.i64 ((↑i : Int) + (1 : Int)))))), (15, AVal.imm (i64 (↑(List.length a) : Int))), (14, AVal.imm (slE 18 encK a)),
  (9, AVal.own 50 (List.length (List.filter (missK b) (List.take i a)) + 1)), (3, AVal.imm (fnV 61)), (2, AVal.imm (fnV 54)),
  (1, AVal.imm (slE 18 encK b))]
  [(50, Entry.row 75 18 (List.map encK (List.filter (missK b) (List.take i a)) ++ [encK (List.getD a i default)]))] 47 95 [])))
  (Tree.done Exit.normal
  (LState.mk
  [(16, AVal.imm (IVal.v (Value.int IntKind.i64 (IntKind.wrap IntKind.i64 ((↑i : Int) + (1 : Int)))))), (15, AVal.imm (i64 (↑(List.length a) : Int))), (14, AVal.imm (slE 18 encK a)),
  (9, AVal.own 50 (List.length (List.filter (missK b) (List.take i a)))), (3, AVal.imm (fnV 61)), (2, AVal.imm (fnV 54)), (1, AVal.imm (slE 18 encK b))]
  [(50, Entry.row 75 18 (List.map encK (List.filter (missK b) (List.take i a))))] 47 90 []))))))))
  (Tree.done (Exit.exit 0)
  (LState.mk [(9, AVal.own 50 (List.length (List.filter (missK b) (List.take i a))))] [(50, Entry.row 75 18 (List.map encK (List.filter (missK b) (List.take i a))))] 47 61 [])) := by kernel_rfl
theorem fltK_succ (a b : List RKey) (i : Nat) (h : i < a.length) : (a.take (i + 1)).filter (missK b) = (a.take i).filter (missK b) ++ (if missK b (a.getD i default) = true then [a.getD i default] else []) := by
  rw [List.take_add_one, List.filter_append]
  simp only [List.getD_eq_getElem?_getD, List.getElem?_eq_getElem h, Option.toList_some, Option.getD_some, List.filter_cons, List.filter_nil]
theorem l60 (a b : List RKey) (ha : a.length ≤ 400000) (hb : b.length ≤ 400000) (σ : LState) (h : LSub σ (I60 a b 0)) : LoopOk prog [] (bodyOf Proofs.Tryz.f60) 3 σ (.done (.exit 0) (E60 a b)) := by
  refine LoopOk.countN a.length 0 (I60 a b) (E60 a b) (T60r a b) fin60 (by kernel_rfl) h fun i hi => ?_
  have hlen : ((a.take i).filter (missK b)).length ≤ i := Nat.le_trans (List.length_filter_le _ _) (by simp; omega)
  have hpos := posK_le b (a.getD i default)
  have yes : i < a.length → missK b (a.getD i default) = true → LSub ⟨[(16, .imm (.v (.int .i64 (IntKind.i64.wrap ((i : Int) + 1))))), (15, .imm (i64 a.length)), (14, .imm (slE 18 encK a)), (9, .own 50 (((a.take i).filter (missK b)).length + 1)), (3, .imm (fnV 61)), (2, .imm (fnV 54)), (1, .imm (slE 18 encK b))],
      [(50, .row 75 18 (((a.take i).filter (missK b)).map encK ++ [encK (a.getD i default)]))], 47, 95, []⟩ (I60 a b (i + 1)) := by
    intro hlt hm
    have hs := fltK_succ a b i hlt
    rw [if_pos hm] at hs
    exact ⟨⟨congrArg (fun n => AVal.imm (i64 n)) (i64_succ (by omega)), rfl, rfl, congrArg (AVal.own 50) (by rw [hs, List.length_append]; rfl), rfl, rfl, rfl, trivial⟩, ⟨congrArg (fun l => some (Entry.row 75 18 l)) (by rw [hs, List.map_append]; rfl), trivial⟩, rfl, rfl, rfl⟩
  rw [t60r]
  refine ⟨fun h1 => need_sat (elem_need ?_) (need_sat ⟨ILeL.refl _, c88 _ _ ?_⟩ ⟨fun h2 => need_sat ?_ ?_, fun h2 => need_sat (elem_need ?_) (need_sat ⟨ILeL.refl _, c61 _ _⟩ ⟨fun h3 => need_sat ?_ ?_, fun h3 => ?_⟩)⟩), fun h1 => ?_⟩
  · (refine ⟨by omega, ?_, ?_⟩ <;> (simp only [List.length_map, decide_eq_true_eq, decide_eq_false_iff_not, Int.toNat_natCast] at * <;> omega))
  · omega
  · exact ⟨by simp, cellsOk_map encK (fun _ => rfl) _, rfl, by omega⟩
  · have hlt : i < a.length := by (simp only [List.length_map, decide_eq_true_eq, decide_eq_false_iff_not, Int.toNat_natCast] at * <;> omega)
    have hm : missK b (a.getD i default) = true := by simp only [List.length_map, decide_eq_true_eq, decide_eq_false_iff_not] at h2; rw [missK, decide_eq_true (show posK b (a.getD i default) = b.length by omega)]; rfl
    exact ⟨hlt, yes hlt hm⟩
  · have hp : posK b (a.getD i default) < b.length := by simp only [List.length_map, decide_eq_true_eq, decide_eq_false_iff_not] at h2; omega
    exact ⟨by omega, hp, rfl⟩
  · exact ⟨by simp, cellsOk_map encK (fun _ => rfl) _, rfl, by omega⟩
  · have hlt : i < a.length := by (simp only [List.length_map, decide_eq_true_eq, decide_eq_false_iff_not, Int.toNat_natCast] at * <;> omega)
    exact ⟨hlt, yes hlt (by rw [missK, h3, Bool.or_true])⟩
  · have hlt : i < a.length := by (simp only [List.length_map, decide_eq_true_eq, decide_eq_false_iff_not, Int.toNat_natCast] at * <;> omega)
    have hp : ¬ posK b (a.getD i default) = b.length := by simp only [List.length_map, decide_eq_true_eq, decide_eq_false_iff_not] at h2; omega
    have hs := fltK_succ a b i hlt
    rw [if_neg (by rw [missK, h3, decide_eq_false hp]; decide), List.append_nil] at hs
    exact ⟨hlt, ⟨⟨congrArg (fun n => AVal.imm (i64 n)) (i64_succ (by omega)), rfl, rfl, congrArg (AVal.own 50) (by rw [hs]), rfl, rfl, rfl, trivial⟩, ⟨congrArg (fun l => some (Entry.row 75 18 l)) (by rw [hs]), trivial⟩, rfl, rfl, rfl⟩⟩
  · have : i = a.length := by (simp only [List.length_map, decide_eq_true_eq, decide_eq_false_iff_not, Int.toNat_natCast] at * <;> omega)
    subst this
    refine ⟨rfl, by omega, ⟨⟨congrArg (AVal.own 50) (by rw [List.take_length]), trivial⟩, ⟨congrArg (fun l => some (Entry.row 75 18 l)) (by rw [List.take_length]), trivial⟩, rfl, rfl, rfl⟩⟩
def T60 (a b : List RKey) : Tell :=
  Tell.mk (fun x x_1 => false) (fun x x_1 => Orc.no) (fun x => Tree.done (Exit.exit 0) (E60 a b)) (fun x => 0) (fun x => ([16, 15, 14, 9, 3, 2, 1], []))
  (fun x x_1 x_2 => Orc.no) fun x x_1 => Tree.done (Exit.exit 0) (E60 a b)
theorem t60 (a b : List RKey) : levF prog Proofs.Tryz.f60 [slE 18 encK a, slE 18 encK b, fnV 54, fnV 61] (T60 a b) =
  Tree.loop 3
  (LState.mk
  [(16, AVal.imm (IVal.v (Value.int IntKind.i64 (0 : Int)))), (15, AVal.imm (IVal.v (Value.int IntKind.i64 (↑(List.length (List.map encK a)) : Int)))), (14, AVal.imm (slE 18 encK a)),
  (9, AVal.imm (IVal.v (Value.slice none 0 0))), (3, AVal.imm (fnV 61)), (2, AVal.imm (fnV 54)), (1, AVal.imm (slE 18 encK b))]
  [] 47 5 [])
  (Tree.done (Exit.exit 0) (E60 a b))
  (Tree.need (eqs [(List.length (List.filter (missK b) a), List.length (List.map encK (List.filter (missK b) a)))]) (Tree.done Exit.ret (lret (IVal.sl true false 18 (List.map encK (List.filter (missK b) a)))))) := by kernel_rfl
theorem c60 (a b : List RKey) (ha : a.length ≤ 400000) (hb : b.length ≤ 400000) : ASpec prog 60 [slE 18 encK a, slE 18 encK b, fnV 54, fnV 61] (slE 18 encK (a.filter (missK b))) := by
  refine ASpec.treeW Proofs.Tryz.f60 (T60 a b) (by kernel_rfl) (by kernel_rfl) (t60 a b) ?_
  refine ⟨?_, need_sat ?_ ⟨_, rfl, ?_⟩⟩
  · refine .nam (τ := I60 a b 0) (.temp 9 50 75 18 (show 5 ≤ 50 by decide) (.sub ?_)) (l60 a b ha hb _ ?_)
    all_goals exact ⟨⟨rfl, congrArg (fun n => AVal.imm (i64 n)) (by simp), rfl, rfl, rfl, rfl, rfl, trivial⟩, ⟨rfl, trivial⟩, rfl, rfl, rfl⟩
  · exact ⟨by simp, trivial⟩
  · exact ile_sl (.refl _)
end Gp
namespace Gp
structure TW {α : Type} (c : α → α → Int) : Prop where
  asy : ∀ a b, c a b < 0 ↔ 0 < c b a
  tr : ∀ a b d, c a b ≤ 0 → c b d ≤ 0 → c a d ≤ 0
theorem TW.zero {α : Type} {c : α → α → Int} (h : TW c) {a b : α} (hz : c a b = 0) : c b a = 0 := by
  have := h.asy a b; have := h.asy b a; omega
theorem TW.lt_le {α : Type} {c : α → α → Int} (h : TW c) {a b d : α} (h1 : c a b < 0) (h2 : c b d ≤ 0) : c a d < 0 := by
  have g := h.tr a b d (by omega) h2
  by_cases hz : c a d = 0
  · have := h.tr b d a h2 (by have := h.zero hz; omega)
    have := (h.asy a b).1 h1; omega
  · omega
theorem TW.le_lt {α : Type} {c : α → α → Int} (h : TW c) {a b d : α} (h1 : c a b ≤ 0) (h2 : c b d < 0) : c a d < 0 := by
  have g := h.tr a b d h1 (by omega)
  by_cases hz : c a d = 0
  · have := h.tr d a b (by have := h.zero hz; omega) h1
    have := (h.asy b d).1 h2; omega
  · omega
theorem TW.tot {α : Type} {c : α → α → Int} (h : TW c) : Tot (fun a b => decide (c a b < 0)) :=
  ⟨fun x y h1 => by simp only [decide_eq_true_eq, decide_eq_false_iff_not] at *; have := (h.asy x y).1 h1; omega, fun x y z h1 h2 => by
    simp only [decide_eq_false_iff_not] at *
    have a1 : c x y ≤ 0 := by have := h.asy y x; omega
    have a2 : c y z ≤ 0 := by have := h.asy z y; omega
    have a3 := h.tr x y z a1 a2
    have := (h.asy z x); omega⟩
theorem TW.lex {α : Type} {c d : α → α → Int} (h1 : TW c) (h2 : TW d) : TW (fun a b => if c a b ≠ 0 then c a b else d a b) := by
  refine ⟨fun a b => ?_, fun a b e g1 g2 => ?_⟩
  · have k1 := h1.asy a b; have k2 := h1.asy b a; have k3 := h2.asy a b
    by_cases hz : c a b = 0
    · have := h1.zero hz
      simp only [hz, this, ne_eq, not_true_eq_false, if_false]; exact k3
    · have : c b a ≠ 0 := fun h0 => hz (h1.zero h0)
      simp only [hz, this, ne_eq, not_false_eq_true, if_true]; exact k1
  · by_cases z1 : c a b = 0
    · by_cases z2 : c b e = 0
      · have z3 : c a e = 0 := by
          have := h1.tr a b e (by omega) (by omega)
          have := h1.tr e b a (by have := h1.zero z2; omega) (by have := h1.zero z1; omega)
          have := h1.asy a e; have := h1.asy e a; omega
        simp only [z1, z2, z3, ne_eq, not_true_eq_false, if_false] at *
        exact h2.tr a b e g1 g2
      · simp only [z2, ne_eq, not_false_eq_true, if_true] at g2
        have := h1.le_lt (show c a b ≤ 0 by omega) (show c b e < 0 by omega)
        rw [if_pos (by omega)]; omega
    · simp only [z1, ne_eq, not_false_eq_true, if_true] at g1
      have g2' : c b e ≤ 0 := by
        by_cases z2 : c b e = 0
        · omega
        · simp only [z2, ne_eq, not_false_eq_true, if_true] at g2; exact g2
      have := h1.lt_le (show c a b < 0 by omega) g2'
      rw [if_pos (by omega)]; omega
theorem TW.map {α β : Type} {c : β → β → Int} (h : TW c) (f : α → β) : TW (fun a b => c (f a) (f b)) := ⟨fun a b => h.asy _ _, fun a b d => h.tr _ _ _⟩
theorem TW.const {α : Type} : TW (fun _ _ : α => (0 : Int)) := ⟨fun _ _ => by simp, fun _ _ _ _ h => h⟩
theorem tw_cmpI : TW cmpI := ⟨fun a b => by unfold cmpI; (repeat' split) <;> omega, fun a b d => by unfold cmpI; (repeat' split) <;> omega⟩
theorem cmpI_zero {a b : Int} : cmpI a b = 0 ↔ a = b := by unfold cmpI; (repeat' split) <;> omega
theorem tw_cmpA : TW cmpA := by
  have := (tw_cmpI.map Addr.hi).lex (tw_cmpI.map Addr.lo)
  exact this
theorem cmpA_zero {a b : Addr} : cmpA a b = 0 ↔ a = b := by
  unfold cmpA
  by_cases h : cmpI a.hi b.hi = 0
  · rw [if_neg (by simp [h]), cmpI_zero]
    cases a; cases b; simp only [cmpI_zero] at h; simp [h]
  · rw [if_pos h]
    have : a ≠ b := by rintro rfl; exact h (cmpI_zero.2 rfl)
    simp [h, this]
theorem orI_cons (x : Int) (l : List Int) : orI (x :: l) = if x ≠ 0 then x else orI l := rfl
theorem tw_cmpO : TW cmpO := by
  have h := (tw_cmpI.map Origin.asn).lex ((tw_cmpI.map (fun o : Origin => o.pfx.fam)).lex ((tw_cmpA.map (fun o : Origin => o.pfx.addr)).lex ((tw_cmpI.map (fun o : Origin => o.pfx.len)).lex ((tw_cmpI.map Origin.max).lex TW.const))))
  exact h
theorem orI_zero {l : List Int} : orI l = 0 ↔ ∀ x ∈ l, x = 0 := by
  induction l with
  | nil => simp [orI]
  | cons x l ih =>
    rw [orI_cons]
    by_cases h : x = 0
    · simp [h, ih]
    · simp [h]
theorem cmpO_zero {a b : Origin} : cmpO a b = 0 ↔ a = b := by
  rw [cmpO, orI_zero]
  simp only [List.mem_cons, List.not_mem_nil, or_false, forall_eq_or_imp, forall_eq, cmpI_zero, cmpA_zero]
  obtain ⟨_, ⟨_, _, _⟩, _⟩ := a; obtain ⟨_, ⟨_, _, _⟩, _⟩ := b
  simp [and_assoc]
theorem tw_cmpT : TW cmpT := tw_cmpI.map Attest.cust
theorem tw_bytes : TW Lib.compareBytes := by
  refine ⟨fun a => ?_, fun a => ?_⟩
  · induction a with
    | nil => intro b; cases b <;> simp [Lib.compareBytes]
    | cons x a ih =>
      intro b
      cases b with
      | nil => simp [Lib.compareBytes]
      | cons y b =>
        simp only [Lib.compareBytes]
        by_cases h1 : x < y
        · have : ¬ y < x := fun h => absurd (UInt8.lt_trans h1 h) (UInt8.lt_irrefl _)
          simp [h1, this]
        · by_cases h2 : y < x
          · simp [h1, h2]
          · simp [h1, h2]; exact ih b
  · induction a with
    | nil => intro b d h1 h2; cases d <;> simp [Lib.compareBytes]
    | cons x a ih =>
      intro b d h1 h2
      cases b with
      | nil => simp [Lib.compareBytes] at h1
      | cons y b =>
        cases d with
        | nil => simp [Lib.compareBytes] at h2
        | cons z d =>
          simp only [Lib.compareBytes] at h1 h2 ⊢
          simp only [UInt8.lt_iff_toNat_lt] at h1 h2 ⊢
          by_cases a1 : x.toNat < y.toNat
          · by_cases b1 : y.toNat < z.toNat
            · rw [if_pos (by omega)]; omega
            · by_cases b2 : z.toNat < y.toNat
              · rw [if_neg b1, if_pos b2] at h2; omega
              · rw [if_pos (by omega)]; omega
          · by_cases a2 : y.toNat < x.toNat
            · rw [if_neg a1, if_pos a2] at h1; omega
            · rw [if_neg a1, if_neg a2] at h1
              by_cases b1 : y.toNat < z.toNat
              · rw [if_pos (by omega)]; omega
              · by_cases b2 : z.toNat < y.toNat
                · rw [if_neg b1, if_pos b2] at h2; omega
                · rw [if_neg b1, if_neg b2] at h2
                  rw [if_neg (by omega), if_neg (by omega)]
                  exact ih b d h1 h2
theorem tw_cmpB : TW cmpB := tw_bytes.map Lib.bytesOf
theorem tw_cmpK : TW cmpK := by
  have h := (tw_cmpI.map RKey.asn).lex ((tw_cmpB.map rootL).lex ((tw_cmpI.map RKey.height).lex TW.const))
  exact h
end Gp
namespace Gp
structure Payload.sm (p : Payload) : Prop where
  o : p.origins.length ≤ 3000
  t : p.paths.length ≤ 3000
  k : p.keys.length ≤ 3000
  p : ∀ a ∈ p.paths, okT a
theorem Payload.sm.ok {p : Payload} (h : p.sm) : p.ok := ⟨by have := h.o; omega, by have := h.t; omega, by have := h.k; omega, h.p⟩
def minusP (p q : Payload) : Payload := ⟨p.origins.filter (missO q.origins), p.paths.filter (missT q.paths), p.keys.filter (missK q.keys)⟩
theorem minusP_sm {p : Payload} (h : p.sm) (q : Payload) : (minusP p q).sm :=
  ⟨Nat.le_trans (List.length_filter_le _ _) h.o, Nat.le_trans (List.length_filter_le _ _) h.t, Nat.le_trans (List.length_filter_le _ _) h.k, fun a ha => h.p a (List.mem_filter.1 ha).1⟩
def plusP (p q : Payload) : Payload := ⟨sorted ltO (p.origins ++ q.origins), sorted ltT (p.paths ++ q.paths), sorted ltK (p.keys ++ q.keys)⟩
def dupP (p : Payload) : Bool := dupO p.origins || (dupT p.paths || dupK p.keys)
theorem totO : Tot ltO := tw_cmpO.tot
theorem totT : Tot ltT := tw_cmpT.tot
theorem totK : Tot ltK := tw_cmpK.tot
theorem mem_sorted {α : Type} [Inhabited α] {od : α → α → Bool} (h : Tot od) {l : List α} {x : α} : x ∈ sorted od l ↔ x ∈ l := (sorted_spec h l).1.mem_iff
theorem plusP_ok {p q : Payload} (hp : p.sm) (hq : q.sm) : (plusP p q).ok := by
  have h1 := hp.o; have h2 := hp.t; have h3 := hp.k; have g1 := hq.o; have g2 := hq.t; have g3 := hq.k
  refine ⟨?_, ?_, ?_, fun a ha => ?_⟩
  · simp only [plusP, sorted_length, List.length_append]; omega
  · simp only [plusP, sorted_length, List.length_append]; omega
  · simp only [plusP, sorted_length, List.length_append]; omega
  · rcases List.mem_append.1 ((mem_sorted totT).1 ha) with h | h
    · exact hp.p a h
    · exact hq.p a h
def T27 (p q : Payload) : Tell :=
  Tell.mk (fun x x_1 => false) (fun x x_1 => Orc.no) (fun x => Tree.fail 1000003 0) (fun x => 0) (fun x => ([], []))
  (oget
  [(3, 1, 4, Orc.call [slE 6 encO p.origins, slE 6 encO q.origins, fnV 48, fnV 57] (slE 6 encO (List.filter (missO q.origins) p.origins))),
  (3, 1, 9, Orc.call [slE 2 encT p.paths, slE 2 encT q.paths, fnV 51, fnV 59] (slE 2 encT (List.filter (missT q.paths) p.paths))),
  (3, 1, 14, Orc.call [slE 18 encK p.keys, slE 18 encK q.keys, fnV 54, fnV 61] (slE 18 encK (List.filter (missK q.keys) p.keys))),
  (3, 1, 16,
  Orc.call [encL (Payload.mk (List.filter (missO q.origins) p.origins) (List.filter (missT q.paths) p.paths) (List.filter (missK q.keys) p.keys))]
  (encL (Payload.mk (List.filter (missO q.origins) p.origins) (List.filter (missT q.paths) p.paths) (List.filter (missK q.keys) p.keys))))])
  fun x x_1 => Tree.fail 1000003 0
theorem t27 (p q : Payload) : levF prog Proofs.Tryz.f27 [encL p, encL q] (T27 p q) =
  Tree.need
  (ILeL [slE 6 encO p.origins, slE 6 encO q.origins, IVal.v (Value.func (Fn.func 48) (Array.mk []) (Array.mk [])), IVal.v (Value.func (Fn.func 57) (Array.mk []) (Array.mk []))]
  [slE 6 encO p.origins, slE 6 encO q.origins, fnV 48, fnV 57] ∧
  ASpec prog 56 [slE 6 encO p.origins, slE 6 encO q.origins, fnV 48, fnV 57] (slE 6 encO (List.filter (missO q.origins) p.origins)))
  (Tree.need
  (ILeL [slE 2 encT p.paths, slE 2 encT q.paths, IVal.v (Value.func (Fn.func 51) (Array.mk []) (Array.mk [])), IVal.v (Value.func (Fn.func 59) (Array.mk []) (Array.mk []))]
  [slE 2 encT p.paths, slE 2 encT q.paths, fnV 51, fnV 59] ∧
  ASpec prog 58 [slE 2 encT p.paths, slE 2 encT q.paths, fnV 51, fnV 59] (slE 2 encT (List.filter (missT q.paths) p.paths)))
  (Tree.need
  (ILeL [slE 18 encK p.keys, slE 18 encK q.keys, IVal.v (Value.func (Fn.func 54) (Array.mk []) (Array.mk [])), IVal.v (Value.func (Fn.func 61) (Array.mk []) (Array.mk []))]
  [slE 18 encK p.keys, slE 18 encK q.keys, fnV 54, fnV 61] ∧
  ASpec prog 60 [slE 18 encK p.keys, slE 18 encK q.keys, fnV 54, fnV 61] (slE 18 encK (List.filter (missK q.keys) p.keys)))
  (Tree.need
  (ILeL [IVal.agg [slE 6 encO (List.filter (missO q.origins) p.origins), slE 2 encT (List.filter (missT q.paths) p.paths), slE 18 encK (List.filter (missK q.keys) p.keys)]]
  [encL (Payload.mk (List.filter (missO q.origins) p.origins) (List.filter (missT q.paths) p.paths) (List.filter (missK q.keys) p.keys))] ∧
  ASpec prog 34 [encL (Payload.mk (List.filter (missO q.origins) p.origins) (List.filter (missT q.paths) p.paths) (List.filter (missK q.keys) p.keys))]
  (encL (Payload.mk (List.filter (missO q.origins) p.origins) (List.filter (missT q.paths) p.paths) (List.filter (missK q.keys) p.keys))))
  (Tree.done Exit.ret
  (lret
  (IVal.agg
  [slE 6 encO (Payload.mk (List.filter (missO q.origins) p.origins) (List.filter (missT q.paths) p.paths) (List.filter (missK q.keys) p.keys)).origins,
  slE 2 encT (Payload.mk (List.filter (missO q.origins) p.origins) (List.filter (missT q.paths) p.paths) (List.filter (missK q.keys) p.keys)).paths,
  slE 18 encK (Payload.mk (List.filter (missO q.origins) p.origins) (List.filter (missT q.paths) p.paths) (List.filter (missK q.keys) p.keys)).keys])))))) := by kernel_rfl
theorem c27 (p q : Payload) (hp : p.sm) (hq : q.sm) : ASpec prog 27 [encL p, encL q] (encL (minusP p q)) := by
  have h1 := hp.o; have h2 := hp.t; have h3 := hp.k; have g1 := hq.o; have g2 := hq.t; have g3 := hq.k
  refine ASpec.treeW Proofs.Tryz.f27 (T27 p q) (by kernel_rfl) (by kernel_rfl) (t27 p q) ?_
  refine need_sat ⟨ILeL.refl _, c56 _ _ ?_ ?_⟩ (need_sat ⟨ILeL.refl _, c58 _ _ ?_ ?_ ?_⟩ (need_sat ⟨ILeL.refl _, c60 _ _ ?_ ?_⟩ (need_sat ⟨ILeL.refl _, c34 _ ?_⟩ ⟨_, rfl, ?_⟩)))
  · omega
  · omega
  · omega
  · omega
  · exact hq.p
  · omega
  · omega
  · exact (minusP_sm hp q).ok
  · exact .refl _
def T30 (p q : Payload) : Tell :=
  Tell.mk (fun x x_1 => false) (fun x x_1 => Orc.no) (fun x => Tree.fail 1000003 0) (fun x => 0) (fun x => ([], []))
  (oget
  [(8, 3, 4,
  Orc.call [slE 6 encO p.origins, slE 6 encO q.origins, fnV 48] (IVal.tup [slE 6 encO (sorted ltO (p.origins ++ q.origins)), bo (dupO (sorted ltO (p.origins ++ q.origins)))])),
  (19, 4, 4, Orc.call [slE 2 encT p.paths, slE 2 encT q.paths, fnV 51] (IVal.tup [slE 2 encT (sorted ltT (p.paths ++ q.paths)), bo (dupT (sorted ltT (p.paths ++ q.paths)))])),
  (30, 5, 4, Orc.call [slE 18 encK p.keys, slE 18 encK q.keys, fnV 54] (IVal.tup [slE 18 encK (sorted ltK (p.keys ++ q.keys)), bo (dupK (sorted ltK (p.keys ++ q.keys)))])),
  (41, 6, 1,
  Orc.call [encL (Payload.mk (sorted ltO (p.origins ++ q.origins)) (sorted ltT (p.paths ++ q.paths)) (sorted ltK (p.keys ++ q.keys)))]
  (encL (Payload.mk (sorted ltO (p.origins ++ q.origins)) (sorted ltT (p.paths ++ q.paths)) (sorted ltK (p.keys ++ q.keys)))))])
  fun x x_1 => Tree.fail 1000003 0
theorem t30 (p q : Payload) : levF prog Proofs.Tryz.f30 [encL p, encL q] (T30 p q) =
  Tree.need
  (ILeL [slE 6 encO p.origins, slE 6 encO q.origins, IVal.v (Value.func (Fn.func 48) (Array.mk []) (Array.mk []))] [slE 6 encO p.origins, slE 6 encO q.origins, fnV 48] ∧
  ASpec prog 65 [slE 6 encO p.origins, slE 6 encO q.origins, fnV 48] (IVal.tup [slE 6 encO (sorted ltO (p.origins ++ q.origins)), bo (dupO (sorted ltO (p.origins ++ q.origins)))]))
  (Tree.need
  (ILeL [slE 2 encT p.paths, slE 2 encT q.paths, IVal.v (Value.func (Fn.func 51) (Array.mk []) (Array.mk []))] [slE 2 encT p.paths, slE 2 encT q.paths, fnV 51] ∧
  ASpec prog 66 [slE 2 encT p.paths, slE 2 encT q.paths, fnV 51] (IVal.tup [slE 2 encT (sorted ltT (p.paths ++ q.paths)), bo (dupT (sorted ltT (p.paths ++ q.paths)))]))
  (Tree.need
  (ILeL [slE 18 encK p.keys, slE 18 encK q.keys, IVal.v (Value.func (Fn.func 54) (Array.mk []) (Array.mk []))] [slE 18 encK p.keys, slE 18 encK q.keys, fnV 54] ∧
  ASpec prog 67 [slE 18 encK p.keys, slE 18 encK q.keys, fnV 54] (IVal.tup [slE 18 encK (sorted ltK (p.keys ++ q.keys)), bo (dupK (sorted ltK (p.keys ++ q.keys)))]))
  (Tree.need
  (ILeL [IVal.agg [slE 6 encO (sorted ltO (p.origins ++ q.origins)), slE 2 encT (sorted ltT (p.paths ++ q.paths)), slE 18 encK (sorted ltK (p.keys ++ q.keys))]]
  [encL (Payload.mk (sorted ltO (p.origins ++ q.origins)) (sorted ltT (p.paths ++ q.paths)) (sorted ltK (p.keys ++ q.keys)))] ∧
  ASpec prog 34 [encL (Payload.mk (sorted ltO (p.origins ++ q.origins)) (sorted ltT (p.paths ++ q.paths)) (sorted ltK (p.keys ++ q.keys)))]
  (encL (Payload.mk (sorted ltO (p.origins ++ q.origins)) (sorted ltT (p.paths ++ q.paths)) (sorted ltK (p.keys ++ q.keys)))))
  (Tree.br (dupO (sorted ltO (p.origins ++ q.origins)))
  (Tree.done Exit.ret (lret (IVal.tup [encL (Payload.mk (sorted ltO (p.origins ++ q.origins)) (sorted ltT (p.paths ++ q.paths)) (sorted ltK (p.keys ++ q.keys))), IVal.v (Value.bool true)])))
  (Tree.br (dupT (sorted ltT (p.paths ++ q.paths)))
  (Tree.done Exit.ret (lret (IVal.tup [encL (Payload.mk (sorted ltO (p.origins ++ q.origins)) (sorted ltT (p.paths ++ q.paths)) (sorted ltK (p.keys ++ q.keys))), IVal.v (Value.bool true)])))
  (Tree.done Exit.ret (lret (IVal.tup [encL (Payload.mk (sorted ltO (p.origins ++ q.origins)) (sorted ltT (p.paths ++ q.paths)) (sorted ltK (p.keys ++ q.keys))), bo (dupK (sorted ltK (p.keys ++ q.keys)))])))))))) := by kernel_rfl
theorem c30 (p q : Payload) (hp : p.sm) (hq : q.sm) : ASpec prog 30 [encL p, encL q] (.tup [encL (plusP p q), bo (dupP (plusP p q))]) := by
  have h1 := hp.o; have h2 := hp.t; have h3 := hp.k; have g1 := hq.o; have g2 := hq.t; have g3 := hq.k
  refine ASpec.treeW Proofs.Tryz.f30 (T30 p q) (by kernel_rfl) (by kernel_rfl) (t30 p q) ?_
  refine need_sat ⟨ILeL.refl _, c65 _ _ ?_ ?_⟩ (need_sat ⟨ILeL.refl _, c66 _ _ ?_ ?_⟩ (need_sat ⟨ILeL.refl _, c67 _ _ ?_ ?_⟩ (need_sat ⟨ILeL.refl _, c34 _ ?_⟩ ⟨fun h1 => ⟨_, rfl, ?_⟩, fun h1 => ⟨fun h2 => ⟨_, rfl, ?_⟩, fun h2 => ⟨_, rfl, ?_⟩⟩⟩)))
  · omega
  · omega
  · omega
  · omega
  · omega
  · omega
  · exact plusP_ok hp hq
  · refine .tup (.cons (.refl _) (.cons (ile_bo ?_) (.refl _)))
    simp only [dupP, plusP, h1, Bool.true_or]
  · refine .tup (.cons (.refl _) (.cons (ile_bo ?_) (.refl _)))
    simp only [dupP, plusP, h1, h2, Bool.true_or, Bool.or_true]
  · refine .tup (.cons (.refl _) (.cons (ile_bo ?_) (.refl _)))
    simp only [dupP, plusP, h1, h2, Bool.false_or]
def T29 (p : Payload) : Tell :=
  Tell.mk (fun x x_1 => false) (fun x x_1 => Orc.no) (fun x => Tree.fail 1000003 0) (fun x => 0) (fun x => ([], [])) (fun x x_1 x_2 => Orc.no) fun x x_1 => Tree.fail 1000003 0
theorem t29 (p : Payload) : levF prog Proofs.Tryz.f29 [encL p] (T29 p) =
  Tree.done Exit.ret
  (lret
  (IVal.v (Value.int IntKind.i64 (IntKind.wrap IntKind.i64 (IntKind.wrap IntKind.i64 ((↑(List.length (List.map encO p.origins)) : Int) + (↑(List.length (List.map encT p.paths)) : Int)) + (↑(List.length (List.map encK p.keys)) : Int)))))) := by kernel_rfl
theorem c29 (p : Payload) (hp : p.ok) : ASpec prog 29 [encL p] (i64 (sizeP p)) := by
  have h1 := hp.o; have h2 := hp.t; have h3 := hp.k
  refine ASpec.treeW Proofs.Tryz.f29 (T29 p) (by kernel_rfl) (by kernel_rfl) (t29 p) ?_
  refine ⟨_, rfl, ?_⟩
  refine ile_i64 ?_
  simp only [List.length_map]
  have e1 : IntKind.i64.wrap ((p.origins.length : Int) + (p.paths.length : Int)) = (p.origins.length : Int) + (p.paths.length : Int) := IntWalk.i64_in _ (by omega)
  rw [e1, IntWalk.i64_in _ (by omega)]; rfl
def apartP (p q : Payload) : Bool := decide (sizeP (minusP p q) = sizeP p)
def T36 (p q : Payload) : Tell :=
  Tell.mk (fun x x_1 => false) (fun x x_1 => Orc.no) (fun x => Tree.fail 1000003 0) (fun x => 0) (fun x => ([], []))
  (oget
  [(3, 1, 2, Orc.call [encL p, encL q] (encL (minusP p q))), (3, 1, 3, Orc.call [encL (minusP p q)] (i64 (sizeP (minusP p q)))),
  (3, 1, 5, Orc.call [encL p] (i64 (sizeP p)))])
  fun x x_1 => Tree.fail 1000003 0
theorem t36 (p q : Payload) : levF prog Proofs.Tryz.f36 [encL p, encL q] (T36 p q) =
  Tree.need (ILeL [encL p, encL q] [encL p, encL q] ∧ ASpec prog 27 [encL p, encL q] (encL (minusP p q)))
  (Tree.need (ILeL [encL (minusP p q)] [encL (minusP p q)] ∧ ASpec prog 29 [encL (minusP p q)] (i64 (sizeP (minusP p q))))
  (Tree.need (ILeL [encL p] [encL p] ∧ ASpec prog 29 [encL p] (i64 (sizeP p))) (Tree.done Exit.ret (lret (IVal.v (Value.bool (decide (sizeP (minusP p q) = sizeP p)))))))) := by kernel_rfl
theorem c36 (p q : Payload) (hp : p.sm) (hq : q.sm) : ASpec prog 36 [encL p, encL q] (bo (apartP p q)) := by
  refine ASpec.treeW Proofs.Tryz.f36 (T36 p q) (by kernel_rfl) (by kernel_rfl) (t36 p q) ?_
  refine need_sat ⟨ILeL.refl _, c27 _ _ ?_ ?_⟩ (need_sat ⟨ILeL.refl _, c29 _ ?_⟩ (need_sat ⟨ILeL.refl _, c29 _ ?_⟩ ⟨_, rfl, ?_⟩))
  · exact hp
  · exact hq
  · exact (minusP_sm hp q).ok
  · exact hp.ok
  · exact .refl _
structure Diff where
  gone : Payload
  come : Payload
  deriving DecidableEq, Inhabited
def encD (d : Diff) : IVal := .agg [slE 6 encO d.gone.origins, slE 2 encT d.gone.paths, slE 18 encK d.gone.keys, slE 6 encO d.come.origins, slE 2 encT d.come.paths, slE 18 encK d.come.keys]
structure Diff.sm (d : Diff) : Prop where
  g : d.gone.sm
  c : d.come.sm
def validD (d : Diff) : Int := if ckL d.gone ≠ 0 then ckL d.gone else if ckL d.come ≠ 0 then ckL d.come else if apartP d.gone d.come = true then 0 else 8
def T20 (d : Diff) : Tell :=
  Tell.mk (fun x x_1 => false) (fun x x_1 => Orc.no) (fun x => Tree.fail 1000003 0) (fun x => 0) (fun x => ([], []))
  (oget
  [(2, 1, 2, Orc.call [encL d.gone] (i64 (ckL d.gone))), (8, 3, 2, Orc.call [encL d.come] (i64 (ckL d.come))),
  (8, 4, 7, Orc.call [encL d.gone, encL d.come] (bo (apartP d.gone d.come))), (12, 4, 7, Orc.call [encL d.gone, encL d.come] (bo (apartP d.gone d.come)))])
  fun x x_1 => Tree.fail 1000003 0
theorem t20 (d : Diff) : levF prog Proofs.Tryz.f20 [encD d] (T20 d) =
  Tree.need (ILeL [IVal.agg [slE 6 encO d.gone.origins, slE 2 encT d.gone.paths, slE 18 encK d.gone.keys]] [encL d.gone] ∧ ASpec prog 26 [encL d.gone] (i64 (ckL d.gone)))
  (Tree.br (decide (ckL d.gone = (0 : Int)))
  (Tree.need (ILeL [IVal.agg [slE 6 encO d.come.origins, slE 2 encT d.come.paths, slE 18 encK d.come.keys]] [encL d.come] ∧ ASpec prog 26 [encL d.come] (i64 (ckL d.come)))
  (Tree.br (decide (ckL d.come = (0 : Int)))
  (Tree.need
  (ILeL [IVal.agg [slE 6 encO d.gone.origins, slE 2 encT d.gone.paths, slE 18 encK d.gone.keys], IVal.agg [slE 6 encO d.come.origins, slE 2 encT d.come.paths, slE 18 encK d.come.keys]]
  [encL d.gone, encL d.come] ∧
  ASpec prog 36 [encL d.gone, encL d.come] (bo (apartP d.gone d.come)))
  (Tree.br (!apartP d.gone d.come) (Tree.done Exit.ret (lret (IVal.v (Value.int IntKind.i64 (8 : Int))))) (Tree.done Exit.ret (lret (IVal.v (Value.int IntKind.i64 (ckL d.come)))))))
  (Tree.done Exit.ret (lret (IVal.v (Value.int IntKind.i64 (ckL d.come)))))))
  (Tree.br (decide (ckL d.gone = (0 : Int)))
  (Tree.need
  (ILeL [IVal.agg [slE 6 encO d.gone.origins, slE 2 encT d.gone.paths, slE 18 encK d.gone.keys], IVal.agg [slE 6 encO d.come.origins, slE 2 encT d.come.paths, slE 18 encK d.come.keys]]
  [encL d.gone, encL d.come] ∧
  ASpec prog 36 [encL d.gone, encL d.come] (bo (apartP d.gone d.come)))
  (Tree.br (!apartP d.gone d.come) (Tree.done Exit.ret (lret (IVal.v (Value.int IntKind.i64 (8 : Int))))) (Tree.done Exit.ret (lret (IVal.v (Value.int IntKind.i64 (ckL d.gone)))))))
  (Tree.done Exit.ret (lret (IVal.v (Value.int IntKind.i64 (ckL d.gone))))))) := by kernel_rfl
theorem c20 (d : Diff) (hd : d.sm) : ASpec prog 20 [encD d] (i64 (validD d)) := by
  refine ASpec.treeW Proofs.Tryz.f20 (T20 d) (by kernel_rfl) (by kernel_rfl) (t20 d) ?_
  refine need_sat ⟨ILeL.refl _, c26 _⟩ ⟨fun h1 => need_sat ⟨ILeL.refl _, c26 _⟩ ⟨fun h2 => need_sat ⟨ILeL.refl _, c36 _ _ ?_ ?_⟩ ⟨fun h3 => ⟨_, rfl, ?_⟩, fun h3 => ⟨_, rfl, ?_⟩⟩, fun h2 => ⟨_, rfl, ?_⟩⟩, fun h1 => ⟨fun h2 => need_sat ⟨ILeL.refl _, c36 _ _ ?_ ?_⟩ ⟨fun h3 => ⟨_, rfl, ?_⟩, fun h3 => ⟨_, rfl, ?_⟩⟩, fun h2 => ⟨_, rfl, ?_⟩⟩⟩
  · exact hd.g
  · exact hd.c
  · simp only [decide_eq_true_eq, Bool.not_eq_true'] at h1 h2 h3; exact ile_i64 (by simp [validD, h1, h2, h3])
  · simp only [decide_eq_true_eq, Bool.not_eq_false'] at h1 h2 h3; exact ile_i64 (by simp [validD, h1, h2, h3])
  · simp only [decide_eq_true_eq, decide_eq_false_iff_not] at h1 h2; exact ile_i64 (by simp [validD, h1, h2])
  · exact hd.g
  · exact hd.c
  · simp only [decide_eq_true_eq, decide_eq_false_iff_not] at h1 h2; exact absurd h2 h1
  · simp only [decide_eq_true_eq, decide_eq_false_iff_not] at h1 h2; exact absurd h2 h1
  · simp only [decide_eq_true_eq, decide_eq_false_iff_not] at h1 h2; exact ile_i64 (by simp [validD, h1])
end Gp
